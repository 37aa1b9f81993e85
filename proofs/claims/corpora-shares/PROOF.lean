import PyProof.Rows.All
import Wide.All
import OpenK.AllK
import Wide.FinOn
import KE.KStateDown
import HandS.ForMost
import HandS.Conv
import HandS.Sort
import HandS.StrMore
import HandS.DictComp
import HandS.IsInst
import HandS.Walk
import HandS.SetKeys
import HandS.Small
import HandS.Defaults
import HandS.Exc
import HandS.Head0
import HandS.Head1
import HandS.Head2
import HandS.HeadEnd
import HandS.HeadHook1
import HandS.HeadHook2
import HandS.HeadHook3
import HandS.HeadHook4
import KE.KDictCopyH
import PyProof.DictMoreH
import PySem.Challenge.RW_corpuskeep_k60_corpora_whole_shares_of_p

set_option Elab.async false
set_option linter.all false
set_option maxRecDepth 100000
set_option maxHeartbeats 4000000

namespace CkM
/-! the order of pages, in plain Lean -/
/-- a sum below n -/
def S : Nat → (Nat → Int) → Int
  | 0, _ => 0
  | n + 1, f => S n f + f n
theorem S_mono {f g : Nat → Int} : ∀ {n : Nat}, (∀ k, k < n → f k ≤ g k) → S n f ≤ S n g
  | 0, _ => Int.le_refl 0
  | n + 1, h => Int.add_le_add (S_mono fun k hk => h k (by omega)) (h n (by omega))
theorem S_congr {f g : Nat → Int} : ∀ {n : Nat}, (∀ k, k < n → f k = g k) → S n f = S n g
  | 0, _ => rfl
  | n + 1, h => by
    show S n f + f n = S n g + g n
    rw [S_congr fun k hk => h k (by omega), h n (by omega)]
theorem S_add (f g : Nat → Int) : ∀ n, S n (fun k => f k + g k) = S n f + S n g
  | 0 => rfl
  | n + 1 => by
    show S n (fun k => f k + g k) + (f n + g n) = (S n f + f n) + (S n g + g n)
    rw [S_add f g n]; omega
theorem S_mul (c : Int) (f : Nat → Int) : ∀ n, S n (fun k => f k * c) = S n f * c
  | 0 => (Int.zero_mul c).symm
  | n + 1 => by
    show S n (fun k => f k * c) + f n * c = (S n f + f n) * c
    rw [S_mul c f n, Int.add_mul]
theorem S_nn {f : Nat → Int} : ∀ {n : Nat}, (∀ k, k < n → 0 ≤ f k) → 0 ≤ S n f
  | 0, _ => Int.le_refl 0
  | n + 1, h => Int.add_nonneg (S_nn fun k hk => h k (by omega)) (h n (by omega))
theorem S_le {f : Nat → Int} : ∀ {n : Nat} {j : Nat}, (∀ k, k < n → 0 ≤ f k) → j < n → f j ≤ S n f
  | 0, j, _, hj => absurd hj (Nat.not_lt_zero _)
  | n + 1, j, h, hj => by
    show f j ≤ S n f + f n
    by_cases e : j = n
    · subst e
      have := S_nn (f := f) (n := j) fun k hk => h k (by omega)
      omega
    · have := S_le (f := f) (n := n) (j := j) (fun k hk => h k (by omega)) (by omega)
      have := h n (by omega)
      omega
/-- one term grows by one -/
theorem S_bump {f g : Nat → Int} {j : Nat} {c : Int} : ∀ {n : Nat}, j < n → (∀ k, k < n → k ≠ j → g k = f k) → g j = f j + c → S n g = S n f + c
  | 0, hj, _, _ => absurd hj (Nat.not_lt_zero _)
  | n + 1, hj, h, e => by
    show S n g + g n = S n f + f n + c
    by_cases q : j = n
    · subst q
      rw [S_congr (f := g) (g := f) fun k hk => h k (by omega) (by omega), e]; omega
    · rw [S_bump (n := n) (by omega) (fun k hk hn => h k (by omega) hn) e, h n (by omega) (fun z => q z.symm)]; omega
/-- what is due at D and not placed -/
def need (A : Int) (v x : Nat → Int) (D : Int) (k : Nat) : Int := if v k * D / A - x k > 0 then v k * D / A - x k else 0
theorem need_nn (A : Int) (v x : Nat → Int) (D : Int) (k : Nat) : 0 ≤ need A v x D k := by unfold need; split <;> omega
/-- the page of k is due at T -/
def isDue (A w x T : Int) : Prop := (x + 1) * A ≤ w * T ∧ ∀ D, (x + 1) * A ≤ w * D → T ≤ D
structure Fair (n : Nat) (A : Int) (v : Nat → Int) (t : Int) (x : Nat → Int) : Prop where
  tot : S n x = t
  up : ∀ k, k < n → x k * A < v k * t + A
  nn : ∀ k, k < n → 0 ≤ x k
  hall : ∀ D, t ≤ D → S n (need A v x D) ≤ D - t
theorem Fair.low {n : Nat} {A t : Int} {v x : Nat → Int} (hA : 0 < A) (F : Fair n A v t x) {k : Nat} (hk : k < n) : v k * t < x k * A + A := by
  have h := F.hall t (Int.le_refl t)
  have h2 := S_le (f := need A v x t) (n := n) (j := k) (fun j _ => need_nn A v x t j) hk
  have h3 : need A v x t k ≤ 0 := by omega
  have h4 : v k * t / A - x k ≤ 0 := by
    unfold need at h3
    split at h3 <;> omega
  have h5 : v k * t < (v k * t / A + 1) * A := Int.lt_ediv_add_one_mul_self _ hA
  have h6 : (v k * t / A + 1) * A ≤ (x k + 1) * A := Int.mul_le_mul_of_nonneg_right (by omega) (by omega)
  have h7 : (x k + 1) * A = x k * A + A := by rw [Int.add_mul, Int.one_mul]
  omega
theorem Fair.start {n : Nat} {A : Int} {v : Nat → Int} (hA : 0 < A) (hv : ∀ k, k < n → 0 ≤ v k) (hs : S n v = A) : Fair n A v 0 (fun _ => 0) where
  tot := by
    have : ∀ m, S m (fun _ => 0) = 0 := fun m => by
      induction m with
      | zero => rfl
      | succ m ih => show S m (fun _ => 0) + 0 = 0; rw [ih]; rfl
    exact this n
  up := fun k _ => by rw [Int.zero_mul, Int.mul_zero]; omega
  nn := fun _ _ => Int.le_refl 0
  hall := fun D hD => by
    have h1 : ∀ k, k < n → need A v (fun _ => 0) D k * A ≤ v k * D := fun k hk => by
      have h0 : 0 ≤ v k * D := Int.mul_nonneg (hv k hk) hD
      unfold need
      split
      · rw [Int.sub_zero]
        exact Int.ediv_mul_le _ (by omega)
      · rw [Int.zero_mul]; exact h0
    have h2 := S_mono h1
    rw [S_mul, S_mul, hs] at h2
    rw [Int.mul_comm A D] at h2
    have h3 := Int.le_of_mul_le_mul_right h2 hA
    omega
/-- there is a source that may have the next page -/
theorem Fair.some {n : Nat} {A t : Int} {v x : Nat → Int} (hA : 0 < A) (hs : S n v = A) (F : Fair n A v t x) : ∃ k, k < n ∧ x k * A < v k * (t + 1) := by
  apply Classical.byContradiction
  intro h
  have h1 : ∀ k, k < n → v k * (t + 1) ≤ x k * A := fun k hk => by
    apply Classical.byContradiction
    intro q
    exact h ⟨k, hk, by omega⟩
  have h2 := S_mono h1
  rw [S_mul, S_mul, hs, F.tot, Int.mul_add, Int.mul_one, Int.mul_comm t A] at h2
  omega
/-- the turn -/
theorem Fair.next {n : Nat} {A t : Int} {v x y : Nat → Int} {b : Nat} (hA : 0 < A) (hv : ∀ k, k < n → 0 ≤ v k) (hs : S n v = A) (ht : 0 ≤ t) (F : Fair n A v t x) (hb : b < n) (el : x b * A < v b * (t + 1))
    (best : ∀ k D, k < n → x k * A < v k * (t + 1) → (x k + 1) * A ≤ v k * D → (x b + 1) * A ≤ v b * D)
    (hy : y b = x b + 1) (hy2 : ∀ k, k < n → k ≠ b → y k = x k) : Fair n A v (t + 1) y where
  tot := by rw [S_bump hb hy2 hy, F.tot]
  up := fun k hk => by
    by_cases e : k = b
    · subst e
      rw [hy, Int.add_mul, Int.one_mul]
      omega
    · rw [hy2 k hk e]
      have h1 := F.up k hk
      have h2 : v k * t ≤ v k * (t + 1) := Int.mul_le_mul_of_nonneg_left (by omega) (hv k hk)
      omega
  nn := fun k hk => by
    by_cases e : k = b
    · subst e
      have := F.nn k hk
      omega
    · rw [hy2 k hk e]; exact F.nn k hk
  hall := fun D hD => by
    by_cases hd : (x b + 1) * A ≤ v b * D
    · -- the page that is placed was due by D
      have h1 := F.hall D (by omega)
      have q : x b + 1 ≤ v b * D / A := (Int.le_ediv_iff_mul_le hA).mpr hd
      have e1 : need A v y D b = need A v x D b + (-1) := by
        unfold need
        rw [hy]
        split <;> split <;> omega
      have e2 : ∀ k, k < n → k ≠ b → need A v y D k = need A v x D k := fun k hk hn => by
        unfold need
        rw [hy2 k hk hn]
      have e3 := S_bump (n := n) hb e2 e1
      omega
    · -- nothing that may be placed is due by D
      have h1 : ∀ k, k < n → need A v y D k * A ≤ v k * (D - (t + 1)) := fun k hk => by
        have h0 : 0 ≤ v k * (D - (t + 1)) := Int.mul_nonneg (hv k hk) (by omega)
        have hn : need A v y D k ≤ need A v x D k := by
          unfold need
          by_cases e : k = b
          · subst e
            rw [hy]
            split <;> split <;> omega
          · rw [hy2 k hk e]
            exact Int.le_refl _
        have hn2 : need A v y D k * A ≤ need A v x D k * A := Int.mul_le_mul_of_nonneg_right hn (by omega)
        refine Int.le_trans hn2 ?_
        unfold need
        split
        · rename_i hp
          have q1 : (x k + 1) * A ≤ v k * D := (Int.le_ediv_iff_mul_le hA).mp (by omega)
          have q2 : ¬ x k * A < v k * (t + 1) := fun z => hd (best k D hk z q1)
          have q3 : v k * D / A * A ≤ v k * D := Int.ediv_mul_le _ (by omega)
          rw [Int.sub_mul, Int.mul_sub]
          omega
        · rw [Int.zero_mul]; exact h0
      have h2 := S_mono h1
      rw [S_mul, S_mul, hs, Int.mul_comm A] at h2
      have h3 := Int.le_of_mul_le_mul_right h2 hA
      omega
end CkM

namespace CkM
def g (l : List Int) (k : Nat) : Int := l.getD k 0
theorem g_get {l : List Int} {k : Nat} (h : k < l.length) : l[k]? = some (g l k) := by
  unfold g
  rw [List.getD_eq_getElem?_getD, List.getElem?_eq_getElem h]; rfl
theorem g_set_same {l : List Int} {k : Nat} {x : Int} (h : k < l.length) : g (l.set k x) k = x := by
  unfold g
  rw [List.getD_eq_getElem?_getD, List.getElem?_set_self h]; rfl
theorem g_set_ne {l : List Int} {k j : Nat} {x : Int} (h : j ≠ k) : g (l.set k x) j = g l j := by
  unfold g
  rw [List.getD_eq_getElem?_getD, List.getElem?_set_ne (Ne.symm h), List.getD_eq_getElem?_getD]
theorem sum_S : ∀ (l : List Int), l.sum = S l.length (g l) := by
  have key : ∀ (l : List Int) (x : Int), S (l.length + 1) (g (l ++ [x])) = S l.length (g l) + x := by
    intro l x
    show S l.length (g (l ++ [x])) + g (l ++ [x]) l.length = _
    have e1 : g (l ++ [x]) l.length = x := by unfold g; simp
    have e2 : ∀ k, k < l.length → g (l ++ [x]) k = g l k := fun k hk => by
      unfold g
      rw [List.getD_eq_getElem?_getD, List.getD_eq_getElem?_getD, List.getElem?_append_left hk]
    rw [e1, S_congr e2]
  intro l
  induction h : l.length generalizing l with
  | zero => 
    have : l = [] := List.eq_nil_of_length_eq_zero h
    subst this; rfl
  | succ m ih =>
    have hne : l ≠ [] := fun z => by rw [z] at h; cases h
    have e := List.dropLast_concat_getLast hne
    have hl : l.dropLast.length = m := by rw [List.length_dropLast, h]; rfl
    have q := key l.dropLast (l.getLast hne)
    rw [e, hl] at q
    rw [q, ← ih l.dropLast hl]
    conv => lhs; rw [← e]
    rw [List.sum_append]
    simp
/-- the weight of a source that is active, else 0 -/
def act (ws ls : List Int) (k : Nat) : Int := if g ls k > 0 then g ws k else 0
def totF (ws ls : List Int) : Int := S ws.length (act ws ls)
def dueF (A w x : Int) : Int := ((x + 1) * A + w - 1) / w
theorem due_iff {A w x D : Int} (hw : 0 < w) : dueF A w x ≤ D ↔ (x + 1) * A ≤ w * D := by
  unfold dueF
  constructor
  · intro h
    have h1 : (x + 1) * A + w - 1 < (((x + 1) * A + w - 1) / w + 1) * w := Int.lt_ediv_add_one_mul_self _ hw
    have h2 : (((x + 1) * A + w - 1) / w + 1) * w ≤ (D + 1) * w := Int.mul_le_mul_of_nonneg_right (by omega) (by omega)
    have e : (D + 1) * w = w * D + w := by rw [Int.add_mul, Int.one_mul, Int.mul_comm]
    rw [e] at h2
    omega
  · intro h
    have e : (D + 1) * w = w * D + w := by rw [Int.add_mul, Int.one_mul, Int.mul_comm]
    have h1 : (x + 1) * A + w - 1 < (D + 1) * w := by
      rw [e]
      omega
    have := Int.ediv_lt_of_lt_mul hw h1
    omega
/-- the next source, as the loop finds it -/
def nsStep (ws ls xs : List Int) (A t : Int) (s : Int × Int) (k : Nat) : Int × Int :=
  if g ls k > 0 ∧ g xs k * A < g ws k * (t + 1) then (if s.1 < 0 ∨ dueF A (g ws k) (g xs k) < s.2 then ((k : Int), dueF A (g ws k) (g xs k)) else s) else s
def nsF (ws ls xs : List Int) (A t : Int) : Nat → Int × Int
  | 0 => (-1, 0)
  | k + 1 => nsStep ws ls xs A t (nsF ws ls xs A t k) k
def nextF (ws ls xs : List Int) (t : Int) : Int := (nsF ws ls xs (totF ws ls) t ws.length).1
theorem nsF_spec (ws ls xs : List Int) (A t : Int) : ∀ m, ((nsF ws ls xs A t m).1 = -1 ∧ ∀ k, k < m → ¬ (g ls k > 0 ∧ g xs k * A < g ws k * (t + 1))) ∨
    ∃ b : Nat, b < m ∧ (nsF ws ls xs A t m).1 = b ∧ (g ls b > 0 ∧ g xs b * A < g ws b * (t + 1)) ∧ (nsF ws ls xs A t m).2 = dueF A (g ws b) (g xs b) ∧
      ∀ k, k < m → g ls k > 0 ∧ g xs k * A < g ws k * (t + 1) → dueF A (g ws b) (g xs b) ≤ dueF A (g ws k) (g xs k)
  | 0 => .inl ⟨rfl, fun k hk => absurd hk (Nat.not_lt_zero _)⟩
  | m + 1 => by
    have ih := nsF_spec ws ls xs A t m
    show ((nsStep ws ls xs A t (nsF ws ls xs A t m) m).1 = -1 ∧ _) ∨ ∃ b : Nat, b < m + 1 ∧ (nsStep ws ls xs A t (nsF ws ls xs A t m) m).1 = b ∧ _ ∧ (nsStep ws ls xs A t (nsF ws ls xs A t m) m).2 = _ ∧ _
    unfold nsStep
    by_cases e : g ls m > 0 ∧ g xs m * A < g ws m * (t + 1)
    · rw [if_pos e]
      rcases ih with ⟨h1, h2⟩ | ⟨b, hb, h1, h2, h3, h4⟩
      · rw [if_pos (.inl (by rw [h1]; decide))]
        refine .inr ⟨m, by omega, rfl, e, rfl, fun k hk he => ?_⟩
        by_cases q : k = m
        · subst q; exact Int.le_refl _
        · exact absurd he (h2 k (by omega))
      · by_cases q : dueF A (g ws m) (g xs m) < dueF A (g ws b) (g xs b)
        · rw [if_pos (.inr (by rw [h3]; exact q))]
          refine .inr ⟨m, by omega, rfl, e, rfl, fun k hk he => ?_⟩
          by_cases z : k = m
          · subst z; exact Int.le_refl _
          · have := h4 k (by omega) he
            omega
        · rw [if_neg (by rw [h1, h3]; omega)]
          refine .inr ⟨b, by omega, h1, h2, h3, fun k hk he => ?_⟩
          by_cases z : k = m
          · subst z; omega
          · exact h4 k (by omega) he
    · rw [if_neg e]
      rcases ih with ⟨h1, h2⟩ | ⟨b, hb, h1, h2, h3, h4⟩
      · refine .inl ⟨h1, fun k hk => ?_⟩
        by_cases q : k = m
        · subst q; exact e
        · exact h2 k (by omega)
      · refine .inr ⟨b, by omega, h1, h2, h3, fun k hk he => ?_⟩
        by_cases q : k = m
        · subst q; exact absurd he e
        · exact h4 k (by omega) he
/-- a phase -/
def fpGo (ws ls : List Int) : Nat → Int → List Int → List Int → List Int
  | 0, _, _, row => row
  | n + 1, t, xs, row =>
    let s := nextF ws ls xs t
    if g xs s.toNat + 1 = g ls s.toNat then row ++ [s] else fpGo ws ls n (t + 1) (xs.set s.toNat (g xs s.toNat + 1)) (row ++ [s])
def firstF (ws ls : List Int) : List Int := fpGo ws ls ls.sum.toNat 0 (List.replicate ws.length 0) []
structure Wf (ws ls : List Int) : Prop where
  len : ls.length = ws.length
  w : ∀ k, k < ws.length → 0 < g ws k
  l : ∀ k, k < ws.length → 0 ≤ g ls k
structure PhaseOk (ws ls row : List Int) : Prop where
  ne : row ≠ []
  mem : ∀ s ∈ row, ∃ k : Nat, k < ws.length ∧ s = (k : Int) ∧ g ls k > 0
  fair : ∀ j, j ≤ row.length → ∀ k, k < ws.length → g ls k > 0 → ((row.take j).count (k : Int) : Int) * totF ws ls < g ws k * (j : Int) + totF ws ls ∧ g ws k * (j : Int) < ((row.take j).count (k : Int) : Int) * totF ws ls + totF ws ls
  last : ∀ (j : Nat) (k : Nat), row[j]? = some (k : Int) → (((row.take (j + 1)).count (k : Int) : Int) ≥ g ls k ↔ j = row.length - 1)
  most : ∀ k, k < ws.length → (row.count (k : Int) : Int) ≤ g ls k
/-- within a phase -/
structure InP (ws ls : List Int) (t : Int) (xs row : List Int) : Prop where
  len : xs.length = ws.length
  rl : (row.length : Int) = t
  cnt : ∀ k, k < ws.length → g xs k = (row.count (k : Int) : Int)
  mem : ∀ s ∈ row, ∃ k : Nat, k < ws.length ∧ s = (k : Int) ∧ g ls k > 0
  F : Fair ws.length (totF ws ls) (act ws ls) t (g xs)
  less : ∀ k, k < ws.length → g ls k > 0 → g xs k < g ls k
  fair : ∀ j, j ≤ row.length → ∀ k, k < ws.length → g ls k > 0 → ((row.take j).count (k : Int) : Int) * totF ws ls < g ws k * (j : Int) + totF ws ls ∧ g ws k * (j : Int) < ((row.take j).count (k : Int) : Int) * totF ws ls + totF ws ls
theorem act_nn {ws ls : List Int} (W : Wf ws ls) : ∀ k, k < ws.length → 0 ≤ act ws ls k := fun k hk => by
  unfold act
  split
  · exact Int.le_of_lt (W.w k hk)
  · exact Int.le_refl 0
theorem tot_pos {ws ls : List Int} (W : Wf ws ls) {k : Nat} (hk : k < ws.length) (h : g ls k > 0) : 0 < totF ws ls := by
  have h1 := S_le (f := act ws ls) (act_nn W) hk
  have h2 := W.w k hk
  unfold act at h1
  rw [if_pos h] at h1
  exact Int.lt_of_lt_of_le h2 h1
/-- one who is active -/
theorem some_act {ws ls : List Int} (W : Wf ws ls) (h : 0 < ls.sum) : ∃ k, k < ws.length ∧ g ls k > 0 := by
  apply Classical.byContradiction
  intro q
  have h1 : S ls.length (g ls) ≤ S ls.length (fun _ => 0) := S_mono fun k hk => by
    apply Classical.byContradiction
    intro z
    exact q ⟨k, by rw [← W.len]; exact hk, by omega⟩
  have h2 : ∀ m, S m (fun _ => 0) = 0 := fun m => by
    induction m with
    | zero => rfl
    | succ m ih => show S m (fun _ => 0) + 0 = 0; rw [ih]; rfl
  rw [h2, ← sum_S] at h1
  omega
/-- who has the next page -/
theorem next_ok {ws ls xs row : List Int} {t : Int} (W : Wf ws ls) (hA : 0 < totF ws ls) (I : InP ws ls t xs row) : ∃ b : Nat, b < ws.length ∧ nextF ws ls xs t = b ∧ g ls b > 0 ∧
    Fair ws.length (totF ws ls) (act ws ls) (t + 1) (g (xs.set b (g xs b + 1))) := by
  have sp := nsF_spec ws ls xs (totF ws ls) t ws.length
  obtain ⟨k0, hk0, he0⟩ := I.F.some hA rfl
  have hk1 : g ls k0 > 0 := by
    apply Classical.byContradiction
    intro z
    unfold act at he0
    rw [if_neg z, Int.zero_mul] at he0
    have := Int.mul_nonneg (I.F.nn k0 hk0) (Int.le_of_lt hA)
    omega
  have hk2 : g xs k0 * totF ws ls < g ws k0 * (t + 1) := by
    unfold act at he0
    rw [if_pos hk1] at he0
    exact he0
  rcases sp with ⟨_, h2⟩ | ⟨b, hb, h1, ⟨h2, h3⟩, _, h5⟩
  · exact absurd ⟨hk1, hk2⟩ (h2 k0 hk0)
  · have av : ∀ k, g ls k > 0 → act ws ls k = g ws k := fun k h => by
      unfold act
      rw [if_pos h]
    have el : ∀ k, k < ws.length → g xs k * totF ws ls < act ws ls k * (t + 1) → g ls k > 0 ∧ g xs k * totF ws ls < g ws k * (t + 1) := fun k hk h => by
      have h0 : g ls k > 0 := by
        apply Classical.byContradiction
        intro z
        unfold act at h
        rw [if_neg z, Int.zero_mul] at h
        have := Int.mul_nonneg (I.F.nn k hk) (Int.le_of_lt hA)
        omega
      rw [av k h0] at h
      exact ⟨h0, h⟩
    refine ⟨b, hb, h1, h2, ?_⟩
    have hbl : b < xs.length := by rw [I.len]; exact hb
    refine I.F.next hA (act_nn W) rfl (by have := I.rl; omega) hb (by rw [av b h2]; exact h3) (fun k D hk he hd => ?_) (g_set_same hbl) (fun k _ hn => g_set_ne hn)
    obtain ⟨e1, e2⟩ := el k hk he
    have q := h5 k hk ⟨e1, e2⟩
    rw [av k e1] at hd
    rw [av b h2]
    have := (due_iff (A := totF ws ls) (x := g xs k) (D := D) (W.w k hk)).mpr hd
    exact (due_iff (W.w b hb)).mp (by omega)
theorem count_snoc (row : List Int) (b k : Int) : ((row ++ [b]).count k : Int) = (row.count k : Int) + (if b = k then 1 else 0) := by
  rw [List.count_append, List.count_singleton]
  by_cases e : b = k
  · rw [if_pos e]; subst e; simp
  · rw [if_neg e]
    have : (b == k) = false := by simpa using e
    simp [this]
/-- a page more -/
theorem InP.more {ws ls xs row : List Int} {t : Int} {b : Nat} (hA : 0 < totF ws ls) (I : InP ws ls t xs row) (hb : b < ws.length) (hl : g ls b > 0) (F : Fair ws.length (totF ws ls) (act ws ls) (t + 1) (g (xs.set b (g xs b + 1)))) :
    (∀ k, k < ws.length → g (xs.set b (g xs b + 1)) k = ((row ++ [(b : Int)]).count (k : Int) : Int)) ∧ (∀ s ∈ row ++ [(b : Int)], ∃ k : Nat, k < ws.length ∧ s = (k : Int) ∧ g ls k > 0) ∧
    ∀ j, j ≤ (row ++ [(b : Int)]).length → ∀ k, k < ws.length → g ls k > 0 → (((row ++ [(b : Int)]).take j).count (k : Int) : Int) * totF ws ls < g ws k * (j : Int) + totF ws ls ∧ g ws k * (j : Int) < (((row ++ [(b : Int)]).take j).count (k : Int) : Int) * totF ws ls + totF ws ls := by
  have hbl : b < xs.length := by rw [I.len]; exact hb
  have c1 : ∀ k, k < ws.length → g (xs.set b (g xs b + 1)) k = ((row ++ [(b : Int)]).count (k : Int) : Int) := fun k hk => by
    rw [count_snoc]
    by_cases e : k = b
    · subst e
      rw [g_set_same hbl, I.cnt k hk, if_pos rfl]
    · rw [g_set_ne e, I.cnt k hk, if_neg (by omega), Int.add_zero]
  refine ⟨c1, fun s hs => ?_, fun j hj k hk hlk => ?_⟩
  · rcases List.mem_append.mp hs with h | h
    · exact I.mem s h
    · exact ⟨b, hb, List.mem_singleton.mp h, hl⟩
  · rw [List.length_append, List.length_singleton] at hj
    by_cases e : j ≤ row.length
    · rw [List.take_append_of_le_length e]
      exact I.fair j e k hk hlk
    · have ej : j = row.length + 1 := by omega
      have et : (row ++ [(b : Int)]).take j = row ++ [(b : Int)] := List.take_of_length_le (by rw [List.length_append, List.length_singleton]; omega)
      have hjt : (j : Int) = t + 1 := by have := I.rl; omega
      have av : act ws ls k = g ws k := by
        unfold act
        rw [if_pos hlk]
      rw [et, ← c1 k hk, hjt]
      have h1 := F.up k hk
      have h2 := F.low hA hk
      rw [av] at h1 h2
      exact ⟨h1, h2⟩
theorem InP.go {ws ls xs row : List Int} {t : Int} {b : Nat} (hA : 0 < totF ws ls) (I : InP ws ls t xs row) (hb : b < ws.length) (hl : g ls b > 0) (F : Fair ws.length (totF ws ls) (act ws ls) (t + 1) (g (xs.set b (g xs b + 1))))
    (hn : g xs b + 1 ≠ g ls b) : InP ws ls (t + 1) (xs.set b (g xs b + 1)) (row ++ [(b : Int)]) := by
  obtain ⟨c1, c2, c3⟩ := I.more hA hb hl F
  have hbl : b < xs.length := by rw [I.len]; exact hb
  refine ⟨by rw [List.length_set]; exact I.len, by rw [List.length_append, List.length_singleton]; have := I.rl; omega, c1, c2, F, fun k hk hlk => ?_, c3⟩
  have h1 := I.less k hk hlk
  by_cases e : k = b
  · subst e
    rw [g_set_same hbl]
    omega
  · rw [g_set_ne e]
    exact h1
theorem InP.end {ws ls xs row : List Int} {t : Int} {b : Nat} (W : Wf ws ls) (hA : 0 < totF ws ls) (I : InP ws ls t xs row) (hb : b < ws.length) (hl : g ls b > 0) (F : Fair ws.length (totF ws ls) (act ws ls) (t + 1) (g (xs.set b (g xs b + 1))))
    (hn : g xs b + 1 = g ls b) : PhaseOk ws ls (row ++ [(b : Int)]) := by
  obtain ⟨c1, c2, c3⟩ := I.more hA hb hl F
  have hbl : b < xs.length := by rw [I.len]; exact hb
  refine ⟨by simp, c2, c3, fun j k hj => ?_, fun k hk => ?_⟩
  · have hjl : j < (row ++ [(b : Int)]).length := (List.getElem?_eq_some_iff.mp hj).1
    rw [List.length_append, List.length_singleton] at hjl ⊢
    obtain ⟨k', hk', ek, hlk⟩ := c2 (k : Int) (List.mem_of_getElem? hj)
    have ek' : k = k' := by omega
    subst ek'
    by_cases e : j = row.length
    · subst e
      have eb : (b : Int) = (k : Int) := by
        rw [List.getElem?_append_right (Nat.le_refl _), Nat.sub_self] at hj
        exact Option.some.inj hj
      have eb' : b = k := by omega
      subst eb'
      rw [List.take_of_length_le (by rw [List.length_append, List.length_singleton]; omega), ← c1 b hb, g_set_same hbl, hn]
      exact ⟨fun _ => by omega, fun _ => Int.le_refl _⟩
    · have hle : j + 1 ≤ row.length := by omega
      rw [List.take_append_of_le_length hle]
      have h1 := I.less k hk' hlk
      rw [I.cnt k hk'] at h1
      have h2 : ((row.take (j + 1)).count (k : Int) : Int) ≤ (row.count (k : Int) : Int) := by
        have := (List.take_sublist (j + 1) row).count_le (k : Int)
        omega
      constructor
      · intro h; omega
      · intro h; omega
  · rw [← c1 k hk]
    by_cases e : k = b
    · subst e
      rw [g_set_same hbl]
      omega
    · rw [g_set_ne e]
      by_cases hlk : g ls k > 0
      · exact Int.le_of_lt (I.less k hk hlk)
      · have h0 : row.count (k : Int) = 0 := by
          apply List.count_eq_zero.mpr
          intro hm
          obtain ⟨k', _, ek, hl'⟩ := I.mem _ hm
          have : k = k' := by omega
          subst this
          exact hlk hl'
        rw [I.cnt k hk, h0]
        exact W.l k hk
theorem InP.start {ws ls : List Int} (W : Wf ws ls) (hA : 0 < totF ws ls) : InP ws ls 0 (List.replicate ws.length 0) [] := by
  have e : g (List.replicate ws.length 0) = fun _ => 0 := by
    funext k
    unfold g
    rw [List.getD_eq_getElem?_getD, List.getElem?_replicate]
    split <;> rfl
  refine ⟨List.length_replicate, rfl, fun k _ => by rw [e]; rfl, fun s hs => by simp at hs, ?_, fun k _ h => by rw [e]; exact h, fun j hj k hk hl => ?_⟩
  · rw [e]
    exact Fair.start hA (act_nn W) rfl
  · have : j = 0 := by simpa using hj
    subst this
    simp
    exact hA
theorem fpGo_ok {ws ls : List Int} (W : Wf ws ls) (hA : 0 < totF ws ls) (hs : ∃ k, k < ws.length ∧ g ls k > 0) : ∀ (n : Nat) (t : Int) (xs row : List Int), InP ws ls t xs row → (n : Int) + t = ls.sum → PhaseOk ws ls (fpGo ws ls n t xs row)
  | 0, t, xs, row, I, h => by
    obtain ⟨k, hk, hl⟩ := hs
    have h1 : S ws.length (g xs) < S ws.length (g ls) := by
      have h2 : S ws.length (fun j => g xs j + (if j = k then 1 else 0)) ≤ S ws.length (g ls) := S_mono fun j hj => by
        by_cases e : j = k
        · subst e
          rw [if_pos rfl]
          have := I.less j hj hl
          omega
        · rw [if_neg e, Int.add_zero]
          by_cases hlj : g ls j > 0
          · exact Int.le_of_lt (I.less j hj hlj)
          · have h0 : row.count (j : Int) = 0 := by
              apply List.count_eq_zero.mpr
              intro hm
              obtain ⟨k', _, ek, hl'⟩ := I.mem _ hm
              have : j = k' := by omega
              subst this
              exact hlj hl'
            rw [I.cnt j hj, h0]
            exact W.l j hj
      have h3 : S ws.length (fun j => g xs j + (if j = k then 1 else 0)) = S ws.length (g xs) + 1 :=
        S_bump hk (fun j _ hn => by simp [hn]) (by simp)
      omega
    rw [I.F.tot] at h1
    have h4 := sum_S ls
    rw [W.len] at h4
    simp at h
    omega
  | n + 1, t, xs, row, I, h => by
    obtain ⟨b, hb, e, hl, F⟩ := next_ok W hA I
    unfold fpGo
    simp only [e, Int.toNat_natCast]
    by_cases q : g xs b + 1 = g ls b
    · rw [if_pos q]
      exact I.end W hA hb hl F q
    · rw [if_neg q]
      exact fpGo_ok W hA hs n (t + 1) _ _ (I.go hA hb hl F q) (by omega)
theorem first_ok {ws ls : List Int} (W : Wf ws ls) (h : 0 < ls.sum) : PhaseOk ws ls (firstF ws ls) := by
  have hs := some_act W h
  obtain ⟨k, hk, hl⟩ := hs
  have hA := tot_pos W hk hl
  refine fpGo_ok W hA ⟨k, hk, hl⟩ _ 0 _ _ (InP.start W hA) (by omega)
/-- what is left behind a phase -/
def after (n : Nat) (ls row : List Int) : List Int := row.foldl (fun l s => l.set s.toNat (g l s.toNat - 1)) ls
theorem after_len (n : Nat) : ∀ (row ls : List Int), (after n ls row).length = ls.length
  | [], _ => rfl
  | s :: r, ls => by
    show (after n (ls.set s.toNat (g ls s.toNat - 1)) r).length = _
    rw [after_len n r, List.length_set]
theorem after_g (n : Nat) : ∀ (row ls : List Int), (∀ s ∈ row, ∃ k : Nat, k < ls.length ∧ s = (k : Int)) → ∀ k : Nat, g (after n ls row) k = g ls k - (row.count (k : Int) : Int)
  | [], _, _, _ => by simp [after]
  | s :: r, ls, h, k => by
    obtain ⟨j, hj, e⟩ := h s List.mem_cons_self
    subst e
    show g (after n (ls.set (j : Int).toNat (g ls (j : Int).toNat - 1)) r) k = _
    rw [after_g n r _ (fun s hs => by
      obtain ⟨i, hi, e⟩ := h s (List.mem_cons_of_mem _ hs)
      exact ⟨i, by rw [List.length_set]; exact hi, e⟩) k, List.count_cons]
    simp only [Int.toNat_natCast]
    by_cases q : k = j
    · subst q
      rw [g_set_same hj]
      simp
      omega
    · rw [g_set_ne q]
      have : ((j : Int) == (k : Int)) = false := by simp; omega
      simp [this]
theorem after_sum (n : Nat) : ∀ (row ls : List Int), (∀ s ∈ row, ∃ k : Nat, k < ls.length ∧ s = (k : Int)) → (after n ls row).sum = ls.sum - (row.length : Int)
  | [], _, _ => by simp [after]
  | s :: r, ls, h => by
    obtain ⟨j, hj, e⟩ := h s List.mem_cons_self
    subst e
    show (after n (ls.set (j : Int).toNat (g ls (j : Int).toNat - 1)) r).sum = _
    rw [after_sum n r _ (fun s hs => by
      obtain ⟨i, hi, e⟩ := h s (List.mem_cons_of_mem _ hs)
      exact ⟨i, by rw [List.length_set]; exact hi, e⟩)]
    simp only [Int.toNat_natCast]
    have e1 : (ls.set j (g ls j - 1)).sum = ls.sum + (-1) := by
      rw [sum_S, sum_S, List.length_set]
      exact S_bump hj (fun k _ hn => g_set_ne hn) (by rw [g_set_same hj]; omega)
    rw [e1, List.length_cons]
    omega
theorem PhaseOk.rng {ws ls row : List Int} (P : PhaseOk ws ls row) (hl : ls.length = ws.length) : ∀ s ∈ row, ∃ k : Nat, k < ls.length ∧ s = (k : Int) := fun s hs => by
  obtain ⟨k, h1, h2, _⟩ := P.mem s hs
  exact ⟨k, by omega, h2⟩
theorem tot_le {ws ls ls' : List Int} (W : Wf ws ls) (h : ∀ k, k < ws.length → g ls' k ≤ g ls k) : totF ws ls' ≤ totF ws ls := S_mono fun k hk => by
  have h1 := h k hk
  have h2 := W.w k hk
  unfold act
  split <;> split <;> omega
theorem after_wf {ws ls row : List Int} (W : Wf ws ls) (P : PhaseOk ws ls row) : Wf ws (after ws.length ls row) ∧ (after ws.length ls row).sum = ls.sum - (row.length : Int) ∧ totF ws (after ws.length ls row) ≤ totF ws ls ∧ 0 < row.length ∧
    ∀ k, k < ws.length → g (after ws.length ls row) k = g ls k - (row.count (k : Int) : Int) := by
  have hr := P.rng W.len
  have hg := after_g ws.length row ls hr
  refine ⟨⟨by rw [after_len]; exact W.len, W.w, fun k hk => by rw [hg k]; have := P.most k hk; omega⟩, after_sum _ _ _ hr, tot_le W fun k hk => by rw [hg k]; omega, List.length_pos_iff.mpr P.ne, fun k _ => hg k⟩
def phGo (ws : List Int) : Nat → List Int → List (List Int) → List (List Int)
  | 0, _, rows => rows
  | n + 1, ls, rows => if ls.sum > 0 then phGo ws n (after ws.length ls (firstF ws ls)) (rows ++ [firstF ws ls]) else rows
def phasesF (ws ls : List Int) : List (List Int) := phGo ws ls.sum.toNat ls []
/-- a whole order -/
inductive Phs (ws : List Int) : List Int → List (List Int) → Prop where
  | nil {ls : List Int} : Wf ws ls → ls.sum ≤ 0 → Phs ws ls []
  | cons {ls row : List Int} {rows : List (List Int)} : Wf ws ls → PhaseOk ws ls row → Phs ws (after ws.length ls row) rows → Phs ws ls (row :: rows)
theorem phGo_ok {ws : List Int} : ∀ (n : Nat) (ls : List Int) (rows : List (List Int)), Wf ws ls → ls.sum ≤ n → ∃ more, phGo ws n ls rows = rows ++ more ∧ Phs ws ls more
  | 0, ls, rows, W, h => ⟨[], by simp [phGo], .nil W (by simpa using h)⟩
  | n + 1, ls, rows, W, h => by
    unfold phGo
    by_cases e : ls.sum > 0
    · rw [if_pos e]
      have P := first_ok W e
      obtain ⟨w1, w2, w3, w4, _⟩ := after_wf W P
      obtain ⟨more, e1, e2⟩ := phGo_ok n _ (rows ++ [firstF ws ls]) w1 (by omega)
      exact ⟨firstF ws ls :: more, by rw [e1]; simp, .cons W P e2⟩
    · rw [if_neg e]
      exact ⟨[], by simp, .nil W (by omega)⟩
theorem phases_ok {ws ls : List Int} (W : Wf ws ls) : Phs ws ls (phasesF ws ls) := by
  obtain ⟨more, e1, e2⟩ := phGo_ok ls.sum.toNat ls [] W (by omega)
  unfold phasesF
  rw [e1]
  exact e2
end CkM

/-! the text by places -/
namespace Ck
open PySem L2
def top (i : Nat) : Stmt := PySem.Challenge.pw_corpuskeep_k60_corpora_whole_shares_of_p.main.body.getD i (.Pass ⟨0, 0, 0, 0⟩)
abbrev s_shingles : Stmt := top 1
abbrev s_compare : Stmt := top 2
abbrev s_meeting_pairs : Stmt := top 4
abbrev s_alike_pairs : Stmt := top 5
abbrev s_kept_ids : Stmt := top 6
abbrev s_is_letter : Stmt := top 12
abbrev s_is_digit : Stmt := top 13
abbrev s_is_blank : Stmt := top 14
abbrev s_is_word : Stmt := top 15
abbrev s_place_of : Stmt := top 16
abbrev s_name_at : Stmt := top 17
abbrev s_number_at : Stmt := top 18
abbrev s_quoted_at : Stmt := top 19
abbrev s_sign_at : Stmt := top 20
abbrev s_read_signs : Stmt := top 21
abbrev s_has_any_shape : Stmt := top 27
abbrev s_change_text : Stmt := top 29
abbrev s_split_lines : Stmt := top 30
abbrev s_shown : Stmt := top 31
abbrev s_hide_words : Stmt := top 32
abbrev s_text_lines : Stmt := top 33
abbrev s_exam_words : Stmt := top 34
abbrev s_count_lines : Stmt := top 36
abbrev s_first_banned : Stmt := top 37
abbrev s_line_fate : Stmt := top 38
abbrev s_line_fates : Stmt := top 39
abbrev s_left_words : Stmt := top 40
abbrev s_drop_reason : Stmt := top 41
abbrev s_plain_lines : Stmt := top 42
abbrev s_clean_documents : Stmt := top 43
abbrev s_due : Stmt := top 45
abbrev s_total : Stmt := top 46
abbrev s_next_source : Stmt := top 47
abbrev s_first_phase : Stmt := top 48
abbrev s_phases : Stmt := top 49
abbrev s_fill : Stmt := top 51
abbrev s_deal : Stmt := top 52
abbrev s_Rules_init : Stmt := inClass (top 57) 0
abbrev s_SignReader_init : Stmt := inClass (top 62) 0
abbrev s_SignReader_sign : Stmt := inClass (top 62) 1
abbrev s_SignReader_skip : Stmt := inClass (top 62) 3
abbrev s_SignReader_sees : Stmt := inClass (top 62) 4
abbrev s_SignReader_demand : Stmt := inClass (top 62) 5
abbrev s_SignReader_take : Stmt := inClass (top 62) 6
abbrev s_SignReader_take_number : Stmt := inClass (top 62) 7
abbrev s_SignReader_take_second : Stmt := inClass (top 62) 8
abbrev s_SignReader_look_word : Stmt := inClass (top 62) 10
abbrev s_read_sources : Stmt := top 63
abbrev s_read_changes : Stmt := top 64
abbrev s_read_banned : Stmt := top 65
abbrev s_read_lines : Stmt := top 66
abbrev s_read_hidden : Stmt := top 70
abbrev s_read_mark : Stmt := top 71
abbrev s_read_shares : Stmt := top 72
abbrev s_read_alike : Stmt := top 73
abbrev s_read_count : Stmt := top 74
abbrev s_parse_rules : Stmt := top 75
abbrev s_make_join : Stmt := top 80
abbrev s_word_codes : Stmt := top 81
abbrev s_add_gains : Stmt := top 83
abbrev s_best_in : Stmt := top 84
abbrev s_learn_joins : Stmt := top 85
abbrev s_phrase_table : Stmt := top 87
abbrev s_standing_places : Stmt := top 88
abbrev s_covered_places : Stmt := top 90
abbrev s_uncovered_pieces : Stmt := top 91
abbrev s_Contents_init : Stmt := inClass (top 93) 0
abbrev s_Corpus_init : Stmt := inClass (top 94) 0
abbrev s_exam_lists : Stmt := top 95
abbrev s_all_phrases : Stmt := top 96
abbrev s_cleaned_rows : Stmt := top 97
abbrev s_long_pieces : Stmt := top 98
abbrev s_left_over : Stmt := top 99
abbrev s_published_rows : Stmt := top 100
abbrev s_stream : Stmt := top 101
abbrev s_published_words : Stmt := top 102
abbrev s_add_pages : Stmt := top 103
abbrev s_make_corpus : Stmt := top 104
abbrev s_law_cell : Stmt := top 106
abbrev s_law_digits : Stmt := top 107
abbrev s_law_word : Stmt := top 108
abbrev s_law_name : Stmt := top 109
abbrev s_law_text : Stmt := top 110
abbrev s_law_documents : Stmt := top 111
abbrev s_law_exams : Stmt := top 112
abbrev s_law_plain : Stmt := top 113
abbrev s_law_phase : Stmt := top 114
abbrev s_law : Stmt := top 115
end Ck


/-! ### typed readings of the abstract heap -/
namespace Ck
open PySem PySem.Spec L2

/-- a kind of data: when a value stands for a datum in a part of the heap -/
structure R (α : Type) where
  p : Hp → V → α → Prop
  mono : ∀ {F F' : Hp} {v : V} {a : α}, Same F F' → p F v a → p F' v a
def kI : R Int := ⟨fun _ v i => v = .int i, fun _ h => h⟩
def kS : R Str := ⟨fun _ v i => v = .str i, fun _ h => h⟩
def kB : R Bool := ⟨fun _ v i => v = .bl i, fun _ h => h⟩
def kX : R V := ⟨fun _ v i => v = i, fun _ h => h⟩
section
variable {α β γ δ : Type}
def k1 (r : R α) : R α := ⟨fun F v p => ∃ a x, v = .ref a ∧ F a = some (.tup [x]) ∧ r.p F x p,
  fun e ⟨a, x, h1, h2, h3⟩ => ⟨a, x, h1, e _ _ h2, r.mono e h3⟩⟩
def k2 (r : R α) (s : R β) : R (α × β) := ⟨fun F v p => ∃ a x y, v = .ref a ∧ F a = some (.tup [x, y]) ∧ r.p F x p.1 ∧ s.p F y p.2,
  fun e ⟨a, x, y, h1, h2, h3, h4⟩ => ⟨a, x, y, h1, e _ _ h2, r.mono e h3, s.mono e h4⟩⟩
def k3 (r : R α) (s : R β) (t : R γ) : R (α × β × γ) := ⟨fun F v p => ∃ a x y z, v = .ref a ∧ F a = some (.tup [x, y, z]) ∧ r.p F x p.1 ∧ s.p F y p.2.1 ∧ t.p F z p.2.2,
  fun e ⟨a, x, y, z, h1, h2, h3, h4, h5⟩ => ⟨a, x, y, z, h1, e _ _ h2, r.mono e h3, s.mono e h4, t.mono e h5⟩⟩
def k4 (r : R α) (s : R β) (t : R γ) (u : R δ) : R (α × β × γ × δ) := ⟨fun F v p => ∃ a x y z w, v = .ref a ∧ F a = some (.tup [x, y, z, w]) ∧ r.p F x p.1 ∧ s.p F y p.2.1 ∧ t.p F z p.2.2.1 ∧ u.p F w p.2.2.2,
  fun e ⟨a, x, y, z, w, h1, h2, h3, h4, h5, h6⟩ => ⟨a, x, y, z, w, h1, e _ _ h2, r.mono e h3, s.mono e h4, t.mono e h5, u.mono e h6⟩⟩
/-- a list of such -/
def kL (r : R α) : R (List α) := ⟨fun F v xs => ∃ a vs, v = .ref a ∧ F a = some (.lst vs) ∧ Paired (r.p F) vs xs,
  fun e ⟨a, vs, h1, h2, h3⟩ => ⟨a, vs, h1, e _ _ h2, L2.Paired.mapP h3 fun _ _ h => r.mono e h⟩⟩
/-- None or such -/
def kO (r : R α) : R (Option α) := ⟨fun F v o => (v = .non ∧ o = none) ∨ ∃ x, o = some x ∧ r.p F v x,
  fun e h => h.elim Or.inl fun ⟨x, h1, h2⟩ => Or.inr ⟨x, h1, r.mono e h2⟩⟩
/-- such, and more is known -/
def kW (r : R α) (φ : α → Prop) : R α := ⟨fun F v a => r.p F v a ∧ φ a, fun e h => ⟨r.mono e h.1, h.2⟩⟩
end
theorem paired_get {α β : Type} {Q : α → β → Prop} : ∀ {xs : List α} {ys : List β} {i : Nat} {x : α}, Paired Q xs ys → xs[i]? = some x → ∃ y, ys[i]? = some y ∧ Q x y
  | _, _, _, _, .nil, e => by simp at e
  | _, _, 0, _, .cons r _, e => by simp at e; subst e; exact ⟨_, rfl, r⟩
  | _, _, i + 1, x, .cons _ t, e => by
    obtain ⟨y, h1, h2⟩ := paired_get (i := i) (x := x) t (by simpa using e)
    exact ⟨y, by simpa using h1, h2⟩
theorem paired_get' {α β : Type} {Q : α → β → Prop} : ∀ {xs : List α} {ys : List β} {i : Nat} {y : β}, Paired Q xs ys → ys[i]? = some y → ∃ x, xs[i]? = some x ∧ Q x y
  | _, _, _, _, .nil, e => by simp at e
  | _, _, 0, _, .cons r _, e => by simp at e; subst e; exact ⟨_, rfl, r⟩
  | _, _, i + 1, x, .cons _ t, e => by
    obtain ⟨y, h1, h2⟩ := paired_get' (i := i) (y := x) t (by simpa using e)
    exact ⟨y, by simpa using h1, h2⟩
theorem paired_set {α β : Type} {Q : α → β → Prop} {x : α} {y : β} (h : Q x y) : ∀ {xs : List α} {ys : List β} (i : Nat), Paired Q xs ys → Paired Q (xs.set i x) (ys.set i y)
  | _, _, _, .nil => .nil
  | _, _, 0, .cons _ t => .cons h t
  | _, _, i + 1, .cons q t => .cons q (paired_set h i t)
theorem paired_take {α β : Type} {Q : α → β → Prop} : ∀ {xs : List α} {ys : List β} (n : Nat), Paired Q xs ys → Paired Q (xs.take n) (ys.take n)
  | _, _, 0, _ => .nil
  | _, _, _ + 1, .nil => .nil
  | _, _, n + 1, .cons r t => .cons r (paired_take n t)
theorem paired_drop {α β : Type} {Q : α → β → Prop} : ∀ {xs : List α} {ys : List β} (n : Nat), Paired Q xs ys → Paired Q (xs.drop n) (ys.drop n)
  | _, _, 0, r => r
  | _, _, _ + 1, .nil => .nil
  | _, _, n + 1, .cons _ t => paired_drop n t
theorem paired_app {α β : Type} {Q : α → β → Prop} : ∀ {xs xs' : List α} {ys ys' : List β}, Paired Q xs ys → Paired Q xs' ys' → Paired Q (xs ++ xs') (ys ++ ys')
  | _, _, _, _, .nil, h => h
  | _, _, _, _, .cons r t, h => .cons r (paired_app t h)
theorem paired_eq {α : Type} : ∀ {xs ys : List α}, Paired (fun x y => x = y) xs ys → xs = ys
  | _, _, .nil => rfl
  | _, _, .cons r t => by rw [r, paired_eq t]
theorem paired_map {α β : Type} {f : α → β} : ∀ {xs : List β} {ys : List α}, Paired (fun x y => x = f y) xs ys → xs = ys.map f
  | _, _, .nil => rfl
  | _, _, .cons r t => by rw [r, paired_map t]; rfl
theorem paired_of_map {α β : Type} {Q : α → β → Prop} {f : β → α} (h : ∀ y, Q (f y) y) : ∀ ys : List β, Paired Q (ys.map f) ys
  | [] => .nil
  | y :: ys => .cons (h y) (paired_of_map h ys)
theorem paired_rep {α β : Type} {Q : α → β → Prop} {x : α} {y : β} (h : Q x y) : ∀ n, Paired Q (List.replicate n x) (List.replicate n y)
  | 0 => .nil
  | n + 1 => .cons h (paired_rep h n)
/-- the values of a list of ints | texts -/
theorem kI_vals {F : Hp} {vs : List V} {ns : List Int} (h : Paired (kI.p F) vs ns) : vs = ns.map V.int := paired_map h
theorem kS_vals {F : Hp} {vs : List V} {ns : List Str} (h : Paired (kS.p F) vs ns) : vs = ns.map V.str := paired_map h
theorem kX_vals {F : Hp} {vs : List V} {ns : List V} (h : Paired (kX.p F) vs ns) : vs = ns := paired_eq h
theorem kI_all {F : Hp} (ns : List Int) : Paired (kI.p F) (ns.map V.int) ns := paired_of_map (f := V.int) (Q := kI.p F) (fun _ => rfl) ns
theorem kS_all {F : Hp} (ns : List Str) : Paired (kS.p F) (ns.map V.str) ns := paired_of_map (f := V.str) (Q := kS.p F) (fun _ => rfl) ns

/-! ### growth: H what is tracked, F the part of it that is fixed from now on -/
structure Gr (F H F' H' : Hp) : Prop where
  ff : Same F F'
  fh : Same F' H'
  hh : Same H H'
  nw : ∀ b, Mut (H b) → F b = none → F' b = none
section
variable {F H F1 H1 F2 H2 F0 H0 : Hp} {p l : Addr} {o o' : HO}
theorem Gr.refl (h : Same F H) : Gr F H F H := ⟨Same.refl _, h, Same.refl _, fun _ _ h => h⟩
theorem Gr.trans (a : Gr F H F1 H1) (b : Gr F1 H1 F2 H2) : Gr F H F2 H2 :=
  ⟨a.ff.trans b.ff, b.fh, a.hh.trans b.hh, fun c h1 h2 => b.nw c (by
    cases q : H c with
    | none => rw [q] at h1; exact h1.elim
    | some u => rw [a.hh c u q, ← q]; exact h1) (a.nw c h1 h2)⟩
theorem mut_ne {H : Hp} {b p : Addr} (h : Mut (H b)) (hp : H p = none) : b ≠ p := fun z => by rw [z, hp] at h; exact h
theorem same_new (h : H p = none) : Same H (upd H p o) := fun b u e => by rw [upd_ne (ne_of_none e h)]; exact e
theorem same_mut (e : Same F H) (h : F p = none) : Same F (upd H p o) := fun b u q => by rw [upd_ne (ne_of_none q h)]; exact e b u q
theorem same_upd (e : Same F H) : Same (upd F p o) (upd H p o) := fun b u q => by
  by_cases z : b = p
  · subst z; rw [upd_same] at q ⊢; exact q
  · rw [upd_ne z] at q ⊢; exact e b u q
theorem Gr.keep (fh : Same F H) (hh : Same H H1) : Gr F H F H1 := ⟨Same.refl _, fh.trans hh, hh, fun _ _ h => h⟩
/-- a new object, fixed at once -/
theorem Gr.new (h : Same F H) (hp : H p = none) : Gr F H (upd F p o) (upd H p o) :=
  ⟨same_new (h.free hp), same_upd h, same_new hp, fun b h1 h2 => by rw [upd_ne (mut_ne h1 hp)]; exact h2⟩
/-- a new object that may change -/
theorem Gr.newM (h : Same F H) (hp : H p = none) : Gr F H F (upd H p o) :=
  ⟨Same.refl _, same_mut h (h.free hp), same_new hp, fun _ _ h2 => h2⟩
/-- an object of one's own changes -/
theorem Gr.mut (g : Gr F0 H0 F H) (hl : F l = none) (h0 : H0 l = none) : Gr F0 H0 F (upd H l o) :=
  ⟨g.ff, same_mut g.fh hl, same_mut g.hh h0, g.nw⟩
/-- an object of one's own is fixed -/
theorem Gr.fix (g : Gr F0 H0 F H) (hl : H l = some o) (h0 : H0 l = none) (hf : F l = none) : Gr F0 H0 (upd F l o) H :=
  ⟨g.ff.trans (same_new hf), fun b u q => by
    by_cases z : b = l
    · subst z; rw [upd_same] at q; rw [hl]; exact q
    · rw [upd_ne z] at q; exact g.fh b u q, g.hh, fun b h1 h2 => by
    rw [upd_ne (mut_ne h1 h0)]; exact g.nw b h1 h2⟩
/-- a tuple that is there is fixed -/
theorem Gr.fixT {xs : List V} (g : Gr F0 H0 F H) (hq : H p = some (.tup xs)) : Gr F0 H0 (upd F p (.tup xs)) H :=
  ⟨fun b u q => by
    by_cases z : b = p
    · subst z; rw [upd_same]; have := g.fh b u (g.ff b u q); rw [hq] at this; exact this
    · rw [upd_ne z]; exact g.ff b u q, fun b u q => by
    by_cases z : b = p
    · subst z; rw [upd_same] at q; rw [hq]; exact q
    · rw [upd_ne z] at q; exact g.fh b u q, g.hh, fun b h1 h2 => by
    have nb : b ≠ p := fun z => by
      subst z
      cases q : H0 b with
      | none => rw [q] at h1; exact h1
      | some u => rw [q] at h1; have := g.hh b u q; rw [hq] at this; cases this; exact h1
    rw [upd_ne nb]; exact g.nw b h1 h2⟩
/-- one's own: there, and not fixed -/
structure Own (F H : Hp) (l : Addr) (o : HO) : Prop where
  h : H l = some o
  f : F l = none
theorem Own.go (w : Own F H l o) (g : Gr F H F1 H1) (hm : Mut (some o) := by exact True.intro) : Own F1 H1 l o := ⟨g.hh _ _ w.h, g.nw _ (by rw [w.h]; exact hm) w.f⟩
theorem Own.ne (w : Own F H l o) (h : F p = some o') : p ≠ l := ne_of_none h w.f
theorem Own.mut (w : Own F H l o) : Own F (upd H l o') l o' := ⟨upd_same, w.f⟩
theorem Own.mutNe (w : Own F H l o) (h : l ≠ p) : Own F (upd H p o') l o := ⟨by rw [upd_ne h]; exact w.h, w.f⟩
theorem Gr.up (g : Gr F H F1 H1) (h : F p = some o) : F1 p = some o := g.ff _ _ h
theorem Gr.at (g : Gr F H F1 H1) (h : F1 p = some o) : H1 p = some o := g.fh _ _ h
theorem Gr.same (g : Gr F0 H0 F H) (gh : Gr F H F1 H1) : Gr F0 H0 F1 H1 := g.trans gh
end

/-! ### new objects in a reading, and changes -/
structure New (H : Hp) (p : Addr) (o : HO) (H' : Hp) : Prop where
  fr : H p = none
  eq : H' = upd H p o
section
variable {F H H' F0 H0 : Hp} {o o' : HO} {p l : Addr}
theorem New.own (n : New H p o H') (fh : Same F H) : Gr F H F H' ∧ Own F H' p o := by
  obtain ⟨h, rfl⟩ := n
  exact ⟨Gr.newM fh h, upd_same, fh.free h⟩
theorem New.fix (n : New H p o H') (fh : Same F H) : ∃ F', Gr F H F' H' ∧ F' p = some o := by
  obtain ⟨h, rfl⟩ := n
  exact ⟨_, Gr.new fh h, upd_same⟩
/-- H' is H but for l, which is o -/
def Chg (H : Hp) (l : Addr) (o : HO) (H' : Hp) : Prop := H' = upd H l o
theorem Chg.gr (c : Chg H l o H') (g : Gr F0 H0 F H) (hl : F l = none) (h0 : H0 l = none) : Gr F0 H0 F H' := by
  subst c; exact g.mut hl h0
theorem Chg.own (c : Chg H l o H') (w : Own F H l o') : Own F H' l o := by
  subst c; exact w.mut
theorem Chg.ne (c : Chg H p o H') (w : Own F H l o') (h : l ≠ p) : Own F H' l o' := by
  subst c; exact w.mutNe h
theorem Chg.at (c : Chg H l o H') : H' l = some o := by subst c; exact upd_same
end

/-! ### promises -/
/-- from data ι: the arguments, what is known of them in a fixed part, what the result is in a grown one -/
def SpOf {ι : Type} (args : ι → List V) (pre : ι → Hp → Prop) (post : ι → Hp → V → Prop) : Sp := fun vs H Q _ =>
  ∃ (i : ι) (F : Hp), vs = args i ∧ Same F H ∧ pre i F ∧ ∀ v F' H', Gr F H F' H' → post i F' v → Q v H'

/-- the result is a new list of such values -/
def SpFl {ι : Type} (args : ι → List V) (pre : ι → Hp → Prop) (cont : ι → List V → Prop) : Sp := fun vs H Q _ =>
  ∃ (i : ι) (F : Hp), vs = args i ∧ Same F H ∧ pre i F ∧ ∀ p ys H', Same H H' → H p = none → H' p = some (.lst ys) → cont i ys → Q (.ref p) H'

/-! ### loops -/
section
variable {α : Type} {K : PySem.W.Frag} {F H F0 H0 : Hp} {σ : St} {a : Addr} {D : Ends} {g : TG} {tb : TS}
/-- for over a list of data that stands fixed -/
theorem for_kL {r : R α} {xs : List α} {vs : List V} (G : Gr F0 H0 F H) (ha : F a = some (.lst vs)) (hp : Paired (r.p F) vs xs) (J : Nat → St → Hp → Hp → Prop) (h0 : J 0 σ F H)
    (hs : ∀ i x v σ1 F1 H1 (N : St → Hp → Prop), xs[i]? = some x → i < xs.length → r.p F1 v x → Gr F0 H0 F1 H1 → Same F F1 → J i σ1 F1 H1 →
      (∀ σ' F' H', Gr F0 H0 F' H' → Same F1 F' → J (i + 1) σ' F' H' → N σ' H') → g v σ1 H1 fun σ2 H2 => tb { D with nx := N, ct := N, bk := D.nx } σ2 H2)
    (hd : ∀ σ1 F1 H1, Gr F0 H0 F1 H1 → Same F F1 → J xs.length σ1 F1 H1 → D.nx σ1 H1) :
    ∃ W : Nat → Nat → St → Hp → Prop, (∃ m, W 0 m σ H) ∧ ∀ i m σ H, W i m σ H →
      ((Itl K a).stop i H ∧ D.nx σ H) ∨ ((Itl K a).go i H ∧ ∃ N : St → Hp → Prop, (∀ σ' H', N σ' H' → ∃ m', m' < m ∧ W (i + 1) m' σ' H') ∧ ∀ x H', (Itl K a).yld i H x H' → g x σ H' fun σ2 H2 => tb { D with nx := N, ct := N, bk := D.nx } σ2 H2) := by
  have hlen := hp.length
  refine for_list (K := K) (a := a) (xs := vs) (fun i σ1 H1 => ∃ F1, Gr F0 H0 F1 H1 ∧ Same F F1 ∧ J i σ1 F1 H1) ⟨F, G, Same.refl _, h0⟩ (fun i σ1 H1 _ ⟨F1, g1, s1, _⟩ => SqL.of (g1.fh _ _ (s1 _ _ ha))) ?_ ?_
  · rintro i v σ1 H1 hv ⟨F1, g1, s1, j1⟩
    obtain ⟨x, hx, hr⟩ := paired_get hp hv
    have hi : i < xs.length := (List.getElem?_eq_some_iff.mp hx).1
    exact hs i x v σ1 F1 H1 _ hx hi (r.mono s1 hr) g1 s1 j1 fun σ' F' H' g' s' j' => ⟨F', g', s1.trans s', j'⟩
  · rintro σ1 H1 ⟨F1, g1, s1, j1⟩
    rw [hlen] at j1
    exact hd σ1 F1 H1 g1 s1 j1
/-- for over a range -/
theorem for_rg {lo : Int} {n : Nat} (G : Gr F0 H0 F H) (J : Nat → St → Hp → Hp → Prop) (h0 : J 0 σ F H)
    (hs : ∀ (i : Nat) σ1 F1 H1 (N : St → Hp → Prop), i < n → Gr F0 H0 F1 H1 → Same F F1 → J i σ1 F1 H1 →
      (∀ σ' F' H', Gr F0 H0 F' H' → Same F1 F' → J (i + 1) σ' F' H' → N σ' H') → g (.int (lo + i)) σ1 H1 fun σ2 H2 => tb { D with nx := N, ct := N, bk := D.nx } σ2 H2)
    (hd : ∀ σ1 F1 H1, Gr F0 H0 F1 H1 → Same F F1 → J n σ1 F1 H1 → D.nx σ1 H1) :
    ∃ W : Nat → Nat → St → Hp → Prop, (∃ m, W 0 m σ H) ∧ ∀ i m σ H, W i m σ H →
      ((Itr lo n).stop i H ∧ D.nx σ H) ∨ ((Itr lo n).go i H ∧ ∃ N : St → Hp → Prop, (∀ σ' H', N σ' H' → ∃ m', m' < m ∧ W (i + 1) m' σ' H') ∧ ∀ x H', (Itr lo n).yld i H x H' → g x σ H' fun σ2 H2 => tb { D with nx := N, ct := N, bk := D.nx } σ2 H2) := by
  refine for_range (lo := lo) (n := n) (fun i σ1 H1 => ∃ F1, Gr F0 H0 F1 H1 ∧ Same F F1 ∧ J i σ1 F1 H1) ⟨F, G, Same.refl _, h0⟩ ?_ ?_
  · rintro i σ1 H1 hi ⟨F1, g1, s1, j1⟩
    exact hs i σ1 F1 H1 _ hi g1 s1 j1 fun σ' F' H' g' s' j' => ⟨F', g', s1.trans s', j'⟩
  · rintro σ1 H1 ⟨F1, g1, s1, j1⟩
    exact hd σ1 F1 H1 g1 s1 j1
theorem for_rg0 {n : Nat} (G : Gr F0 H0 F H) (J : Nat → St → Hp → Hp → Prop) (h0 : J 0 σ F H)
    (hs : ∀ (i : Nat) σ1 F1 H1 (N : St → Hp → Prop), i < n → Gr F0 H0 F1 H1 → Same F F1 → J i σ1 F1 H1 →
      (∀ σ' F' H', Gr F0 H0 F' H' → Same F1 F' → J (i + 1) σ' F' H' → N σ' H') → g (.int (i : Int)) σ1 H1 fun σ2 H2 => tb { D with nx := N, ct := N, bk := D.nx } σ2 H2)
    (hd : ∀ σ1 F1 H1, Gr F0 H0 F1 H1 → Same F F1 → J n σ1 F1 H1 → D.nx σ1 H1) :
    ∃ W : Nat → Nat → St → Hp → Prop, (∃ m, W 0 m σ H) ∧ ∀ i m σ H, W i m σ H →
      ((Itr 0 n).stop i H ∧ D.nx σ H) ∨ ((Itr 0 n).go i H ∧ ∃ N : St → Hp → Prop, (∀ σ' H', N σ' H' → ∃ m', m' < m ∧ W (i + 1) m' σ' H') ∧ ∀ x H', (Itr 0 n).yld i H x H' → g x σ H' fun σ2 H2 => tb { D with nx := N, ct := N, bk := D.nx } σ2 H2) :=
  for_rg G J h0 (fun i σ1 F1 H1 N hi g1 s1 j1 k => by rw [Int.zero_add]; exact hs i σ1 F1 H1 N hi g1 s1 j1 k) hd
theorem for_rgc {lo c : Int} {n : Nat} (G : Gr F0 H0 F H) (J : Nat → St → Hp → Hp → Prop) (h0 : J 0 σ F H)
    (hs : ∀ (i : Nat) σ1 F1 H1 (N : St → Hp → Prop), i < n → Gr F0 H0 F1 H1 → Same F F1 → J i σ1 F1 H1 →
      (∀ σ' F' H', Gr F0 H0 F' H' → Same F1 F' → J (i + 1) σ' F' H' → N σ' H') → g (.int (lo + (i : Nat) * c)) σ1 H1 fun σ2 H2 => tb { D with nx := N, ct := N, bk := D.nx } σ2 H2)
    (hd : ∀ σ1 F1 H1, Gr F0 H0 F1 H1 → Same F F1 → J n σ1 F1 H1 → D.nx σ1 H1) :
    ∃ W : Nat → Nat → St → Hp → Prop, (∃ m, W 0 m σ H) ∧ ∀ i m σ H, W i m σ H →
      ((Itc lo c n).stop i H ∧ D.nx σ H) ∨ ((Itc lo c n).go i H ∧ ∃ N : St → Hp → Prop, (∀ σ' H', N σ' H' → ∃ m', m' < m ∧ W (i + 1) m' σ' H') ∧ ∀ x H', (Itc lo c n).yld i H x H' → g x σ H' fun σ2 H2 => tb { D with nx := N, ct := N, bk := D.nx } σ2 H2) := by
  refine for_rangeC (lo := lo) (c := c) (n := n) (fun i σ1 H1 => ∃ F1, Gr F0 H0 F1 H1 ∧ Same F F1 ∧ J i σ1 F1 H1) ⟨F, G, Same.refl _, h0⟩ ?_ ?_
  · rintro i σ1 H1 hi ⟨F1, g1, s1, j1⟩
    exact hs i σ1 F1 H1 _ hi g1 s1 j1 fun σ' F' H' g' s' j' => ⟨F', g', s1.trans s', j'⟩
  · rintro σ1 H1 ⟨F1, g1, s1, j1⟩
    exact hd σ1 F1 H1 g1 s1 j1
/-- for over a text -/
theorem for_st {z : Str} (G : Gr F0 H0 F H) (J : Nat → St → Hp → Hp → Prop) (h0 : J 0 σ F H)
    (hs : ∀ (i : Nat) (c : Nat) σ1 F1 H1 (N : St → Hp → Prop), z.cps[i]? = some c → Gr F0 H0 F1 H1 → Same F F1 → J i σ1 F1 H1 →
      (∀ σ' F' H', Gr F0 H0 F' H' → Same F1 F' → J (i + 1) σ' F' H' → N σ' H') → g (.str ⟨#[c]⟩) σ1 H1 fun σ2 H2 => tb { D with nx := N, ct := N, bk := D.nx } σ2 H2)
    (hd : ∀ σ1 F1 H1, Gr F0 H0 F1 H1 → Same F F1 → J z.cps.size σ1 F1 H1 → D.nx σ1 H1) :
    ∃ W : Nat → Nat → St → Hp → Prop, (∃ m, W 0 m σ H) ∧ ∀ i m σ H, W i m σ H →
      ((Its z).stop i H ∧ D.nx σ H) ∨ ((Its z).go i H ∧ ∃ N : St → Hp → Prop, (∀ σ' H', N σ' H' → ∃ m', m' < m ∧ W (i + 1) m' σ' H') ∧ ∀ x H', (Its z).yld i H x H' → g x σ H' fun σ2 H2 => tb { D with nx := N, ct := N, bk := D.nx } σ2 H2) := by
  refine for_it walk_str (fun i σ1 H1 => ∃ F1, Gr F0 H0 F1 H1 ∧ Same F F1 ∧ J i σ1 F1 H1) ⟨F, G, Same.refl _, h0⟩ (fun _ _ _ _ _ => trivial) ?_ ?_
  · rintro i x σ1 H1 H' hi ⟨F1, g1, s1, j1⟩ ⟨rfl, c, hc, rfl⟩
    exact hs i c σ1 F1 _ _ hc g1 s1 j1 fun σ' F' H' g' s' j' => ⟨F', g', s1.trans s', j'⟩
  · rintro σ1 H1 ⟨F1, g1, s1, j1⟩
    exact hd σ1 F1 H1 g1 s1 j1
/-- while, by a measure -/
def WJ (F0 H0 F : Hp) (J : Nat → St → Hp → Hp → Prop) : Nat → St → Hp → Prop := fun m σ H => ∃ F1, Gr F0 H0 F1 H ∧ Same F F1 ∧ J m σ F1 H
theorem wh_go {F1 H2 : Hp} {J : Nat → St → Hp → Hp → Prop} {m : Nat} {σ1 : St} {bk : St → Hp → Prop} (s1 : Same F F1)
    (h : ∀ N : St → Hp → Prop, (∀ m' σ' F' H', m' < m → Gr F0 H0 F' H' → Same F1 F' → J m' σ' F' H' → N σ' H') → tb { D with nx := N, ct := N, bk := bk } σ1 H2) :
    ∃ N : St → Hp → Prop, (∀ σ' H', N σ' H' → ∃ m', m' < m ∧ WJ F0 H0 F J m' σ' H') ∧ tb { D with nx := N, ct := N, bk := bk } σ1 H2 :=
  ⟨fun σ' H' => ∃ m', m' < m ∧ WJ F0 H0 F J m' σ' H', fun _ _ h => h, h _ fun m' _ F' _ lt g' s' j' => ⟨m', lt, F', g', s1.trans s', j'⟩⟩
theorem while_m {c : TT} (G : Gr F0 H0 F H) (J : Nat → St → Hp → Hp → Prop) (m : Nat) (h0 : J m σ F H)
    (hs : ∀ m σ1 F1 H1, Gr F0 H0 F1 H1 → Same F F1 → J m σ1 F1 H1 →
      c σ1 H1 fun b H2 => if b = true then ∃ N : St → Hp → Prop, (∀ σ' H', N σ' H' → ∃ m', m' < m ∧ WJ F0 H0 F J m' σ' H') ∧ tb { D with nx := N, ct := N, bk := D.nx } σ1 H2 else D.nx σ1 H2) : tWhile c tb D σ H :=
  ⟨WJ F0 H0 F J, ⟨m, F, G, Same.refl _, h0⟩, fun m σ1 H1 ⟨F1, g1, s1, j1⟩ => hs m σ1 F1 H1 g1 s1 j1⟩
end
/-! ### comprehensions -/
section
variable {α β : Type} {K : PySem.W.Frag} {F H : Hp} {σ : St} {a : Addr} {g : TG} {tt : TT} {te : TE} {vs : List Nat} {Qd : Addr → Hp → Prop} {J : It} {n : Nat} {Gp : Hp → Prop} {y0 : Nat → V → Prop} {Y : Nat → Hp → V → Hp → Prop}
/-- a comprehension over anything that leaves the heap as it is, with tests -/
theorem lc_gen (w : Walk J n Gp Y) (hY : ∀ i H x H', Y i H x H' → H' = H ∧ y0 i x) {s : R β} (fh : Same F H) (hn : n ≤ sizeLine) (hG : ∀ F1 H1, Gr F H F1 H1 → Gp H1) (P : Nat → β → Prop) (S : Nat → Prop)
    (hs : ∀ i x F1 H1 (NY : VK) (NN : Hp → Prop), i < n → y0 i x → Gr F H F1 H1 → (∀ y F' H' b, Gr F1 H1 F' H' → s.p F' y b → P i b → NY y H') → (∀ F' H', Gr F1 H1 F' H' → S i → NN H') →
      g x (wipe σ vs) H1 fun σ2 H2 => wipe σ2 vs = wipe σ vs ∧ tt σ2 H2 fun b H3 => if b = true then te σ2 H3 NY else NN H3)
    (hd : ∀ p F' H' (sel : List Nat) (ys : List β), H p = none → Gr F H F' H' → (kL s).p F' (.ref p) ys → sel.Sublist (List.range n) → Paired P sel ys → (∀ i, i < n → i ∈ sel ∨ S i) → Qd p H') :
    ∀ D, H D = none → ∃ W : Nat → Nat → Hp → Prop, (∃ m, W 0 m (upd H D (.lst []))) ∧ ∀ i m H, W i m H →
      (J.stop i H ∧ Qd D H) ∨ (J.go i H ∧ ∃ Nx : Hp → Prop, (∀ H', Nx H' → ∃ m', m' < m ∧ W (i + 1) m' H') ∧ ∀ x H', J.yld i H x H' → g x (wipe σ vs) H' fun σ2 H2 => wipe σ2 vs = wipe σ vs ∧ tt σ2 H2 fun b H3 =>
        if b = true then te σ2 H3 fun y H4 => ∃ acc, H4 D = some (.lst acc) ∧ acc.length < sizeLine ∧ Nx (upd H4 D (.lst (acc ++ [y]))) else Nx H3) := by
  intro D hD
  refine lc_it (Qd := Qd D) w (fun i H1 => ∃ (F1 : Hp) (acc : List V) (sel : List Nat) (ys : List β), Gr F H F1 H1 ∧ Own F1 H1 D (.lst acc) ∧ Paired (s.p F1) acc ys ∧ sel.Sublist (List.range i) ∧ Paired P sel ys ∧ (∀ j, j < i → j ∈ sel ∨ S j))
    ⟨F, [], [], [], Gr.newM fh hD, ⟨upd_same, fh.free hD⟩, .nil, by simp, .nil, fun j hj => absurd hj (Nat.not_lt_zero _)⟩ (fun i H1 _ ⟨F1, _, _, _, g1, _⟩ => hG F1 H1 g1) ?_ ?_
  · rintro i x H1 H1' hi ⟨F1, acc, sel, ys, g1, ow, pa, sl, pp, no⟩ y
    obtain ⟨rfl, hy⟩ := hY _ _ _ _ y
    refine hs i x F1 _ _ _ hi hy g1 ?_ ?_
    · intro y F' H' b g' hb hP
      have ow' := ow.go g'
      have hl : acc.length < sizeLine := by
        have e1 := pa.length
        have e2 := pp.length
        have e3 := sl.length_le
        rw [List.length_range] at e3
        omega
      refine ⟨acc, ow'.h, hl, F', acc ++ [y], sel ++ [i], ys ++ [b], (g1.trans g').mut ow'.f hD, ow'.mut, (L2.Paired.mapP pa fun _ _ h => s.mono g'.ff h).snoc hb, ?_, pp.snoc hP, fun j hj => ?_⟩
      · rw [List.range_succ]
        exact sl.append (List.Sublist.refl _)
      · by_cases e : j = i
        · exact Or.inl (by simp [e])
        · exact (no j (by omega)).elim (fun h => Or.inl (by simp [h])) Or.inr
    · intro F' H' g' hS
      have ow' := ow.go g'
      refine ⟨F', acc, sel, ys, g1.trans g', ow', L2.Paired.mapP pa fun _ _ h => s.mono g'.ff h, ?_, pp, fun j hj => ?_⟩
      · rw [List.range_succ]
        exact sl.trans (List.sublist_append_left _ _)
      · by_cases e : j = i
        · exact Or.inr (by rw [e]; exact hS)
        · exact no j (by omega)
  · rintro H1 ⟨F1, acc, sel, ys, g1, ow, pa, sl, pp, no⟩
    refine hd D (upd F1 D (.lst acc)) H1 sel ys hD (g1.fix ow.h hD ow.f) ⟨D, acc, rfl, upd_same, L2.Paired.mapP pa fun _ _ h => s.mono (same_new ow.f) h⟩ sl pp no
theorem range_all {n : Nat} {sel : List Nat} (h : sel.Sublist (List.range n)) (a : ∀ i, i < n → i ∈ sel ∨ False) : sel = List.range n := by
  refine h.eq_of_length_le ?_
  have nd : (List.range n).Nodup := List.nodup_range
  refine nd.length_le_of_subset fun i hi => ?_
  exact (a i (List.mem_range.mp hi)).elim id False.elim
theorem paired_idx {α β : Type} {P : Nat → β → Prop} {xs : List α} {ys : List β} (h : Paired P (List.range xs.length) ys) (Q : α → β → Prop) (hq : ∀ i x y, xs[i]? = some x → P i y → Q x y) : Paired Q xs ys := by
  have key : ∀ (xs : List α) (ys : List β) (k : Nat), Paired P (List.range' k xs.length) ys → (∀ i x y, xs[i]? = some x → P (k + i) y → Q x y) → Paired Q xs ys := by
    intro xs
    induction xs with
    | nil => intro ys k h _; cases h; exact .nil
    | cons x xs ih =>
      intro ys k h hq
      rw [List.length_cons, List.range'_succ] at h
      cases h with
      | cons h1 t => exact .cons (hq 0 x _ rfl h1) (ih _ (k + 1) t fun i z y e p => hq (i + 1) z y (by simpa using e) (by rw [show k + (i + 1) = k + 1 + i by omega]; exact p))
  rw [List.range_eq_range'] at h
  exact key xs ys 0 h fun i x y e p => hq i x y e (by simpa using p)
/-- over a list of data, no test -/
theorem lc_kL {r : R α} {s : R β} {xs : List α} {ws : List V} (fh : Same F H) (ha : F a = some (.lst ws)) (hp : Paired (r.p F) ws xs) (hn : xs.length ≤ sizeLine) (P : α → β → Prop)
    (hs : ∀ (i : Nat) x v F1 H1 (N : VK), xs[i]? = some x → r.p F1 v x → Gr F H F1 H1 → (∀ y F' H' b, Gr F1 H1 F' H' → s.p F' y b → P x b → N y H') →
      g v (wipe σ vs) H1 fun σ2 H2 => wipe σ2 vs = wipe σ vs ∧ te σ2 H2 N)
    (hd : ∀ p F' H' (ys : List β), H p = none → Gr F H F' H' → (kL s).p F' (.ref p) ys → Paired P xs ys → Qd p H') :
    ∀ D, H D = none → ∃ W : Nat → Nat → Hp → Prop, (∃ m, W 0 m (upd H D (.lst []))) ∧ ∀ i m H, W i m H →
      ((Itl K a).stop i H ∧ Qd D H) ∨ ((Itl K a).go i H ∧ ∃ Nx : Hp → Prop, (∀ H', Nx H' → ∃ m', m' < m ∧ W (i + 1) m' H') ∧ ∀ x H', (Itl K a).yld i H x H' → g x (wipe σ vs) H' fun σ2 H2 => wipe σ2 vs = wipe σ vs ∧ tYes σ2 H2 fun b H3 =>
        if b = true then te σ2 H3 fun y H4 => ∃ acc, H4 D = some (.lst acc) ∧ acc.length < sizeLine ∧ Nx (upd H4 D (.lst (acc ++ [y]))) else Nx H3) := by
  have hl := hp.length
  refine lc_gen (s := s) (walk_list (xs := ws)) (y0 := fun i x => ws[i]? = some x) (fun _ _ _ _ h => h) fh (by omega) (fun F1 H1 g1 => SqL.of (g1.fh _ _ (g1.ff _ _ ha))) (fun i b => ∀ x, xs[i]? = some x → P x b) (fun _ => False) ?_ ?_
  · intro i v F1 H1 NY NN hi hv g1 kY _
    obtain ⟨x, hx, hr⟩ := paired_get hp hv
    have q := hs i x v F1 H1 NY hx (r.mono g1.ff hr) g1 (fun y F' H' b g' hb hP => kY y F' H' b g' hb fun x' hx' => by rw [hx] at hx'; cases hx'; exact hP)
    exact q
  · intro p F' H' sel ys hp0 g' hk sl pp no
    have e := range_all sl no
    subst e
    rw [hl] at pp
    exact hd p F' H' ys hp0 g' hk (paired_idx pp P fun i x y e h => h x e)
theorem range_pick {α : Type} (xs : List α) : ∀ n, n ≤ xs.length → (List.range n).filterMap (fun i => xs[i]?) = xs.take n
  | 0, _ => by simp
  | n + 1, h => by
    have hn : n < xs.length := h
    rw [List.range_succ, List.filterMap_append, range_pick xs n (by omega), List.take_succ_eq_append_getElem hn]
    simp [List.getElem?_eq_getElem hn]
/-- over a list of data, with a test: some of them, in their order -/
theorem lc_kLf {r : R α} {s : R β} {xs : List α} {ws : List V} (fh : Same F H) (ha : F a = some (.lst ws)) (hp : Paired (r.p F) ws xs) (hn : xs.length ≤ sizeLine) (P : α → β → Prop)
    (hs : ∀ (i : Nat) x v F1 H1 (NY : VK) (NN : Hp → Prop), xs[i]? = some x → r.p F1 v x → Gr F H F1 H1 → (∀ y F' H' b, Gr F1 H1 F' H' → s.p F' y b → P x b → NY y H') → (∀ F' H', Gr F1 H1 F' H' → NN H') →
      g v (wipe σ vs) H1 fun σ2 H2 => wipe σ2 vs = wipe σ vs ∧ tt σ2 H2 fun b H3 => if b = true then te σ2 H3 NY else NN H3)
    (hd : ∀ p F' H' (xs' : List α) (ys : List β), H p = none → Gr F H F' H' → (kL s).p F' (.ref p) ys → xs'.Sublist xs → Paired P xs' ys → Qd p H') :
    ∀ D, H D = none → ∃ W : Nat → Nat → Hp → Prop, (∃ m, W 0 m (upd H D (.lst []))) ∧ ∀ i m H, W i m H →
      ((Itl K a).stop i H ∧ Qd D H) ∨ ((Itl K a).go i H ∧ ∃ Nx : Hp → Prop, (∀ H', Nx H' → ∃ m', m' < m ∧ W (i + 1) m' H') ∧ ∀ x H', (Itl K a).yld i H x H' → g x (wipe σ vs) H' fun σ2 H2 => wipe σ2 vs = wipe σ vs ∧ tt σ2 H2 fun b H3 =>
        if b = true then te σ2 H3 fun y H4 => ∃ acc, H4 D = some (.lst acc) ∧ acc.length < sizeLine ∧ Nx (upd H4 D (.lst (acc ++ [y]))) else Nx H3) := by
  have hl := hp.length
  refine lc_gen (s := s) (walk_list (xs := ws)) (y0 := fun i x => ws[i]? = some x) (fun _ _ _ _ h => h) fh (by omega) (fun F1 H1 g1 => SqL.of (g1.fh _ _ (g1.ff _ _ ha))) (fun i b => ∃ x, xs[i]? = some x ∧ P x b) (fun _ => True) ?_ ?_
  · intro i v F1 H1 NY NN hi hv g1 kY kN
    obtain ⟨x, hx, hr⟩ := paired_get hp hv
    exact hs i x v F1 H1 NY NN hx (r.mono g1.ff hr) g1 (fun y F' H' b g' hb hP => kY y F' H' b g' hb ⟨x, hx, hP⟩) (fun F' H' g' => kN F' H' g' trivial)
  · intro p F' H' sel ys hp0 g' hk sl pp _
    obtain ⟨xs', h1, h2⟩ : ∃ xs', xs'.Sublist xs ∧ Paired P xs' ys := by
      have key : ∀ (l : List Nat) (ys : List β), l.Sublist (List.range xs.length) → Paired (fun i b => ∃ x, xs[i]? = some x ∧ P x b) l ys → Paired P (l.filterMap fun i => xs[i]?) ys := by
        intro l
        induction l with
        | nil => intro ys _ h; cases h; exact .nil
        | cons i l ih =>
          intro ys hs h
          cases h with
          | cons h1 t =>
            obtain ⟨x, hx, hP⟩ := h1
            rw [List.filterMap_cons, hx]
            exact .cons hP (ih _ ((List.sublist_cons_self i l).trans hs) t)
      rw [hl] at sl
      refine ⟨sel.filterMap fun i => xs[i]?, ?_, key sel ys sl pp⟩
      have q := sl.filterMap (fun i => xs[i]?)
      rw [range_pick xs _ (Nat.le_refl _), List.take_length] at q
      exact q
    exact hd p F' H' xs' ys hp0 g' hk h1 h2
end
end Ck

/-! ### more rules -/
namespace Ck
open PySem PySem.Spec L2
section
variable {X : Cx}
/-- xs[i], for xs[i] op= e -/
theorem get_list : PGet X (rIxL X.K) := by
  intro pins s σ H o i ov iv Q I ro ri h
  obtain ⟨p, xs, k, z, rfl, rfl, hq, he, q⟩ := h
  obtain rfl : ov = Value.ref p := ro
  obtain ⟨t, rfl⟩ := ri
  obtain ⟨its, r, pl, hz⟩ := I.list hq
  obtain ⟨j, h1, h2, h3, h4, h5⟩ := atI_get he
  obtain ⟨w, ew, rw'⟩ := r.get h2
  have hl : xs.length = its.length := r.length
  have hn := line63
  have fin : EP X pins σ Q w s := ⟨z, H, I, rw', q⟩
  by_cases h0 : 0 ≤ k
  · have hj : k.toNat = j := Option.some.inj ((seqIndex_of h0 h5).symm.trans h1)
    exact wpAny_getItem_list pl.isList h0 (by omega) (by rw [hj]; simpa using ew) fin
  · have hj : (k + (its.toArray.size : Int)).toNat = j := by
      have e1 := seqIndex_neg (by omega) h4
      rw [h1] at e1
      rw [List.size_toArray, ← hl]
      exact (Option.some.inj e1).symm
    exact wpAny_getItem_list_neg pl.isList (by omega) (by rw [List.size_toArray] <;> omega) (by omega) (by rw [hj]; simpa using ew) fin
/-- a text, so many times -/
def repS (z : Str) (n : Nat) : Str := ⟨(List.replicate n z.cps).foldl (· ++ ·) #[]⟩
theorem fold_toList : ∀ (l : List (Array Nat)) (a : Array Nat), (l.foldl (· ++ ·) a).toList = a.toList ++ (l.map Array.toList).flatten
  | [], a => by simp
  | b :: r, a => by rw [List.foldl_cons, fold_toList r]; simp
theorem repS_list (z : Str) (n : Nat) : (repS z n).cps.toList = (List.replicate n z.cps.toList).flatten := by
  unfold repS
  rw [fold_toList]
  simp
theorem repS_length (z : Str) (n : Nat) : (repS z n).length = n * z.length := by
  show (repS z n).cps.size = n * z.cps.size
  rw [← Array.length_toList, repS_list]
  induction n with
  | zero => simp
  | succ n ih => rw [List.replicate_succ, List.flatten_cons, List.length_append, ih, Array.length_toList, Nat.succ_mul, Nat.add_comm]
theorem repS_zero (z : Str) : repS z 0 = Str.empty := rfl
theorem repS_one (z : Str) : repS z 1 = z := by
  obtain ⟨c⟩ := z
  show (⟨#[] ++ c⟩ : Str) = ⟨c⟩
  rw [Array.empty_append]
theorem repS_nil (z : Str) (h : z.length = 0) (n : Nat) : repS z n = z := by
  have e : z.cps = #[] := Array.eq_empty_of_size_eq_zero h
  have e2 : (repS z n).cps = #[] := Array.eq_empty_of_size_eq_zero (by
    have q := repS_length z n
    rw [h, Nat.mul_zero] at q
    exact q)
  obtain ⟨c⟩ := z
  show repS ⟨c⟩ n = ⟨c⟩
  have e3 : repS ⟨c⟩ n = ⟨(repS ⟨c⟩ n).cps⟩ := rfl
  rw [e3, e2, show c = #[] from e]
def rRepS : R2 := fun x y H Q => ∃ z k, x = .str z ∧ y = .int k ∧ 0 ≤ k ∧ k ≤ 1000 ∧ z.length * k.toNat ≤ 1000000 ∧ Q (.str (repS z k.toNat)) H
theorem op_repS : OpR X (binaryOp .Mult) rRepS := by
  intro pins s σ H x y v u Q I rx ry h
  obtain ⟨z, k, rfl, rfl, h0, h1, h2, q⟩ := h
  obtain ⟨t, rfl⟩ := rx
  obtain ⟨t', rfl⟩ := ry
  have hs : sizeLine = 16777216 := sizeLine_eq
  have big : ¬ k < 1 → ((z.length : Int) > (2 ^ 63 - 1) / k) → False := fun hk hg => by
    have e1 : (z.length : Int) * k ≤ 1000000 := by
      have e2 : ((z.length * k.toNat : Nat) : Int) ≤ 1000000 := by omega
      rw [Int.natCast_mul, Int.toNat_of_nonneg h0] at e2
      exact e2
    have e3 : (2 ^ 63 - 1) / k + 1 ≤ (z.length : Int) := hg
    have e4 : (2 ^ 63 - 1 : Int) < ((2 ^ 63 - 1) / k + 1) * k := Int.lt_ediv_add_one_mul_self _ (by omega)
    have e5 : ((2 ^ 63 - 1) / k + 1) * k ≤ (z.length : Int) * k := Int.mul_le_mul_of_nonneg_right e3 h0
    omega
  refine P.mul_str (by rw [decide_eq_false (by omega : ¬ k < -(2 ^ 63 : Int)), decide_eq_false (by omega : ¬ k ≥ 2 ^ 63)]; rfl) (fun hk _ => big hk) (fun _ _ => ?_) ?_
  · exact decide_eq_false (by omega)
  · by_cases hk : k < 1
    · rw [if_pos hk]
      have e : k = 0 := by omega
      subst e
      exact ⟨by decide, .str (repS z 0), H, I.tok _, ⟨_, rfl⟩, q⟩
    · rw [if_neg hk]
      by_cases h3 : (k == 1 || z.length == 0) = true
      · rw [if_pos h3]
        have e : repS z k.toNat = z := by
          rcases Bool.or_eq_true_iff.mp h3 with e | e
          · have e1 : k = 1 := by simpa using e
            subst e1
            exact repS_one z
          · exact repS_nil z (by simpa using e) _
        rw [e] at q
        exact ⟨.str z, H, I, ⟨_, rfl⟩, q⟩
      · rw [if_neg h3]
        have hl := repS_length z k.toNat
        have hc : k.toNat * z.length = z.length * k.toNat := Nat.mul_comm _ _
        exact ⟨by show (repS z k.toNat).length ≤ sizeLine; omega, .str (repS z k.toNat), H, I.tok _, ⟨_, rfl⟩, q⟩
/-- i not in range(..) -/
theorem op_notin_rng : OpR X (compareOp .NotIn) (fun x y H Q => ∃ i a lo hi, x = V.int i ∧ y = V.ref a ∧ H a = some (.rng lo hi) ∧ Q (.bl (!decide (lo ≤ i ∧ i < hi))) H) := by
  intro pins s σ H x y v u Q I rx ry h
  obtain ⟨i, a, lo, hi, rfl, rfl, ha, q⟩ := h
  obtain ⟨k, rfl⟩ := rx
  obtain rfl : u = Value.ref a := ry
  obtain ⟨t1, t2, t3, ho⟩ := I.hok a _ ha
  have ty : s.TypeIs (.ref a) "range" := ⟨_, ho, rfl⟩
  have fin : EP X pins σ Q (.bool (!(Builtin.Range.rangePlace? lo hi 1 i).isSome)) s := ⟨.bl (!(Builtin.Range.rangePlace? lo hi 1 i).isSome), H, I, rfl, by rw [place1]; exact q⟩
  show wpAny _ _ (do return Value.bool (!(← contains (Value.ref a) (Value.int i k)))) _ _ s
  refine wpAny_bind (wpAny_contains_slot ty PySem.F.slot_range_contains (call_meets PySem.F.slot_range_contains ty PySem.F.entry_range_contains (PySem.F.args_range_contains_2 _ _) (q_contains a lo hi i t1 t2 t3 k) ⟨ho, ?_⟩))
  exact wpAny_truthy_bool (wpAny_pure fin)
/-- range(n) as a value -/
theorem cr_range1 : CallR X (.type "range") (fun vs H Q => ∃ j, vs = [V.int j] ∧ ∀ p, H p = none → Q (.ref p) (upd H p (.rng 0 j))) := by
  intro pins s σ H vs us Q I r h
  obtain ⟨j, rfl, q⟩ := h
  obtain ⟨u, rfl, ru⟩ := vals1 r
  obtain ⟨t, rfl⟩ := ru
  refine call_range_1 ⟨.ref s.heap.objs.size, upd H s.heap.objs.size (.rng 0 j), I.laid (t' := s.toks + 2) (fun b o e => Heap.get?_push_of_some _ e) (Nat.le_refl _) ?_, rfl, q _ (I.hok.fresh (Nat.le_refl _))⟩
  exact ⟨s.toks, t, s.toks + 1, Heap.get?_push_size _ rfl⟩
end
end Ck

/-! ### the text's facts -/
namespace Ck
open PySem PySem.Spec PyProof.Rows L2
def fn : List He.DefD := [
  ⟨("shingles", none), "shingles", "shingles", defArgs s_shingles, defBody s_shingles, defScope s_shingles, [], []⟩,
  ⟨("compare", none), "compare", "compare", defArgs s_compare, defBody s_compare, defScope s_compare, [], []⟩,
  ⟨("meeting_pairs", none), "meeting_pairs", "meeting_pairs", defArgs s_meeting_pairs, defBody s_meeting_pairs, defScope s_meeting_pairs, [], []⟩,
  ⟨("alike_pairs", none), "alike_pairs", "alike_pairs", defArgs s_alike_pairs, defBody s_alike_pairs, defScope s_alike_pairs, [], []⟩,
  ⟨("kept_ids", none), "kept_ids", "kept_ids", defArgs s_kept_ids, defBody s_kept_ids, defScope s_kept_ids, [], []⟩,
  ⟨("is_letter", none), "is_letter", "is_letter", defArgs s_is_letter, defBody s_is_letter, defScope s_is_letter, [], []⟩,
  ⟨("is_digit", none), "is_digit", "is_digit", defArgs s_is_digit, defBody s_is_digit, defScope s_is_digit, [], []⟩,
  ⟨("is_blank", none), "is_blank", "is_blank", defArgs s_is_blank, defBody s_is_blank, defScope s_is_blank, [], []⟩,
  ⟨("is_word", none), "is_word", "is_word", defArgs s_is_word, defBody s_is_word, defScope s_is_word, [], []⟩,
  ⟨("place_of", none), "place_of", "place_of", defArgs s_place_of, defBody s_place_of, defScope s_place_of, [], []⟩,
  ⟨("_name_at", none), "_name_at", "_name_at", defArgs s_name_at, defBody s_name_at, defScope s_name_at, [], []⟩,
  ⟨("_number_at", none), "_number_at", "_number_at", defArgs s_number_at, defBody s_number_at, defScope s_number_at, [], []⟩,
  ⟨("_quoted_at", none), "_quoted_at", "_quoted_at", defArgs s_quoted_at, defBody s_quoted_at, defScope s_quoted_at, [], []⟩,
  ⟨("_sign_at", none), "_sign_at", "_sign_at", defArgs s_sign_at, defBody s_sign_at, defScope s_sign_at, [], []⟩,
  ⟨("read_signs", none), "read_signs", "read_signs", defArgs s_read_signs, defBody s_read_signs, defScope s_read_signs, [], []⟩,
  ⟨("has_any_shape", none), "has_any_shape", "has_any_shape", defArgs s_has_any_shape, defBody s_has_any_shape, defScope s_has_any_shape, [], []⟩,
  ⟨("change_text", none), "change_text", "change_text", defArgs s_change_text, defBody s_change_text, defScope s_change_text, [], []⟩,
  ⟨("split_lines", none), "split_lines", "split_lines", defArgs s_split_lines, defBody s_split_lines, defScope s_split_lines, [], []⟩,
  ⟨("_shown", none), "_shown", "_shown", defArgs s_shown, defBody s_shown, defScope s_shown, [], []⟩,
  ⟨("hide_words", none), "hide_words", "hide_words", defArgs s_hide_words, defBody s_hide_words, defScope s_hide_words, [], []⟩,
  ⟨("text_lines", none), "text_lines", "text_lines", defArgs s_text_lines, defBody s_text_lines, defScope s_text_lines, [], []⟩,
  ⟨("exam_words", none), "exam_words", "exam_words", defArgs s_exam_words, defBody s_exam_words, defScope s_exam_words, [], []⟩,
  ⟨("count_lines", none), "count_lines", "count_lines", defArgs s_count_lines, defBody s_count_lines, defScope s_count_lines, [], []⟩,
  ⟨("_first_banned", none), "_first_banned", "_first_banned", defArgs s_first_banned, defBody s_first_banned, defScope s_first_banned, [], []⟩,
  ⟨("_line_fate", none), "_line_fate", "_line_fate", defArgs s_line_fate, defBody s_line_fate, defScope s_line_fate, [], []⟩,
  ⟨("line_fates", none), "line_fates", "line_fates", defArgs s_line_fates, defBody s_line_fates, defScope s_line_fates, [], []⟩,
  ⟨("left_words", none), "left_words", "left_words", defArgs s_left_words, defBody s_left_words, defScope s_left_words, [], []⟩,
  ⟨("drop_reason", none), "drop_reason", "drop_reason", defArgs s_drop_reason, defBody s_drop_reason, defScope s_drop_reason, [], []⟩,
  ⟨("_plain_lines", none), "_plain_lines", "_plain_lines", defArgs s_plain_lines, defBody s_plain_lines, defScope s_plain_lines, [], []⟩,
  ⟨("clean_documents", none), "clean_documents", "clean_documents", defArgs s_clean_documents, defBody s_clean_documents, defScope s_clean_documents, [], []⟩,
  ⟨("due", none), "due", "due", defArgs s_due, defBody s_due, defScope s_due, [], []⟩,
  ⟨("_total", none), "_total", "_total", defArgs s_total, defBody s_total, defScope s_total, [], []⟩,
  ⟨("_next_source", none), "_next_source", "_next_source", defArgs s_next_source, defBody s_next_source, defScope s_next_source, [], []⟩,
  ⟨("_first_phase", none), "_first_phase", "_first_phase", defArgs s_first_phase, defBody s_first_phase, defScope s_first_phase, [], []⟩,
  ⟨("phases", none), "phases", "phases", defArgs s_phases, defBody s_phases, defScope s_phases, [], []⟩,
  ⟨("fill", none), "fill", "fill", defArgs s_fill, defBody s_fill, defScope s_fill, [], []⟩,
  ⟨("deal", none), "deal", "deal", defArgs s_deal, defBody s_deal, defScope s_deal, [], []⟩,
  ⟨("Rules", some "__init__"), "__init__", "Rules.__init__", defArgs s_Rules_init, defBody s_Rules_init, defScope s_Rules_init, [], []⟩,
  ⟨("SignReader", some "__init__"), "__init__", "SignReader.__init__", defArgs s_SignReader_init, defBody s_SignReader_init, defScope s_SignReader_init, [], []⟩,
  ⟨("SignReader", some "sign"), "sign", "SignReader.sign", defArgs s_SignReader_sign, defBody s_SignReader_sign, defScope s_SignReader_sign, [], []⟩,
  ⟨("SignReader", some "skip"), "skip", "SignReader.skip", defArgs s_SignReader_skip, defBody s_SignReader_skip, defScope s_SignReader_skip, [], []⟩,
  ⟨("SignReader", some "sees"), "sees", "SignReader.sees", defArgs s_SignReader_sees, defBody s_SignReader_sees, defScope s_SignReader_sees, [], []⟩,
  ⟨("SignReader", some "demand"), "demand", "SignReader.demand", defArgs s_SignReader_demand, defBody s_SignReader_demand, defScope s_SignReader_demand, [], []⟩,
  ⟨("SignReader", some "take"), "take", "SignReader.take", defArgs s_SignReader_take, defBody s_SignReader_take, defScope s_SignReader_take, [], []⟩,
  ⟨("SignReader", some "take_number"), "take_number", "SignReader.take_number", defArgs s_SignReader_take_number, defBody s_SignReader_take_number, defScope s_SignReader_take_number, [], []⟩,
  ⟨("SignReader", some "take_second"), "take_second", "SignReader.take_second", defArgs s_SignReader_take_second, defBody s_SignReader_take_second, defScope s_SignReader_take_second, [], []⟩,
  ⟨("SignReader", some "look_word"), "look_word", "SignReader.look_word", defArgs s_SignReader_look_word, defBody s_SignReader_look_word, defScope s_SignReader_look_word, [], []⟩,
  ⟨("_read_sources", none), "_read_sources", "_read_sources", defArgs s_read_sources, defBody s_read_sources, defScope s_read_sources, [], []⟩,
  ⟨("_read_changes", none), "_read_changes", "_read_changes", defArgs s_read_changes, defBody s_read_changes, defScope s_read_changes, [], []⟩,
  ⟨("_read_banned", none), "_read_banned", "_read_banned", defArgs s_read_banned, defBody s_read_banned, defScope s_read_banned, [], []⟩,
  ⟨("_read_lines", none), "_read_lines", "_read_lines", defArgs s_read_lines, defBody s_read_lines, defScope s_read_lines, [], []⟩,
  ⟨("_read_hidden", none), "_read_hidden", "_read_hidden", defArgs s_read_hidden, defBody s_read_hidden, defScope s_read_hidden, [], []⟩,
  ⟨("_read_mark", none), "_read_mark", "_read_mark", defArgs s_read_mark, defBody s_read_mark, defScope s_read_mark, [], []⟩,
  ⟨("_read_shares", none), "_read_shares", "_read_shares", defArgs s_read_shares, defBody s_read_shares, defScope s_read_shares, [], []⟩,
  ⟨("_read_alike", none), "_read_alike", "_read_alike", defArgs s_read_alike, defBody s_read_alike, defScope s_read_alike, [], []⟩,
  ⟨("_read_count", none), "_read_count", "_read_count", defArgs s_read_count, defBody s_read_count, defScope s_read_count, [], []⟩,
  ⟨("parse_rules", none), "parse_rules", "parse_rules", defArgs s_parse_rules, defBody s_parse_rules, defScope s_parse_rules, [], []⟩,
  ⟨("make_join", none), "make_join", "make_join", defArgs s_make_join, defBody s_make_join, defScope s_make_join, [], []⟩,
  ⟨("word_codes", none), "word_codes", "word_codes", defArgs s_word_codes, defBody s_word_codes, defScope s_word_codes, [], []⟩,
  ⟨("_add_gains", none), "_add_gains", "_add_gains", defArgs s_add_gains, defBody s_add_gains, defScope s_add_gains, [], []⟩,
  ⟨("_best_in", none), "_best_in", "_best_in", defArgs s_best_in, defBody s_best_in, defScope s_best_in, [], []⟩,
  ⟨("learn_joins", none), "learn_joins", "learn_joins", defArgs s_learn_joins, defBody s_learn_joins, defScope s_learn_joins, [], []⟩,
  ⟨("_phrase_table", none), "_phrase_table", "_phrase_table", defArgs s_phrase_table, defBody s_phrase_table, defScope s_phrase_table, [], []⟩,
  ⟨("standing_places", none), "standing_places", "standing_places", defArgs s_standing_places, defBody s_standing_places, defScope s_standing_places, [], []⟩,
  ⟨("covered_places", none), "covered_places", "covered_places", defArgs s_covered_places, defBody s_covered_places, defScope s_covered_places, [], []⟩,
  ⟨("uncovered_pieces", none), "uncovered_pieces", "uncovered_pieces", defArgs s_uncovered_pieces, defBody s_uncovered_pieces, defScope s_uncovered_pieces, [], []⟩,
  ⟨("Contents", some "__init__"), "__init__", "Contents.__init__", defArgs s_Contents_init, defBody s_Contents_init, defScope s_Contents_init, [.non], []⟩,
  ⟨("Corpus", some "__init__"), "__init__", "Corpus.__init__", defArgs s_Corpus_init, defBody s_Corpus_init, defScope s_Corpus_init, [], []⟩,
  ⟨("exam_lists", none), "exam_lists", "exam_lists", defArgs s_exam_lists, defBody s_exam_lists, defScope s_exam_lists, [], []⟩,
  ⟨("all_phrases", none), "all_phrases", "all_phrases", defArgs s_all_phrases, defBody s_all_phrases, defScope s_all_phrases, [], []⟩,
  ⟨("cleaned_rows", none), "cleaned_rows", "cleaned_rows", defArgs s_cleaned_rows, defBody s_cleaned_rows, defScope s_cleaned_rows, [], []⟩,
  ⟨("long_pieces", none), "long_pieces", "long_pieces", defArgs s_long_pieces, defBody s_long_pieces, defScope s_long_pieces, [], []⟩,
  ⟨("left_over", none), "left_over", "left_over", defArgs s_left_over, defBody s_left_over, defScope s_left_over, [], []⟩,
  ⟨("published_rows", none), "published_rows", "published_rows", defArgs s_published_rows, defBody s_published_rows, defScope s_published_rows, [], []⟩,
  ⟨("stream", none), "stream", "stream", defArgs s_stream, defBody s_stream, defScope s_stream, [], []⟩,
  ⟨("published_words", none), "published_words", "published_words", defArgs s_published_words, defBody s_published_words, defScope s_published_words, [], []⟩,
  ⟨("_add_pages", none), "_add_pages", "_add_pages", defArgs s_add_pages, defBody s_add_pages, defScope s_add_pages, [], []⟩,
  ⟨("make_corpus", none), "make_corpus", "make_corpus", defArgs s_make_corpus, defBody s_make_corpus, defScope s_make_corpus, [], []⟩,
  ⟨("_law_cell", none), "_law_cell", "_law_cell", defArgs s_law_cell, defBody s_law_cell, defScope s_law_cell, [], []⟩,
  ⟨("_law_digits", none), "_law_digits", "_law_digits", defArgs s_law_digits, defBody s_law_digits, defScope s_law_digits, [], []⟩,
  ⟨("_law_word", none), "_law_word", "_law_word", defArgs s_law_word, defBody s_law_word, defScope s_law_word, [], []⟩,
  ⟨("_law_name", none), "_law_name", "_law_name", defArgs s_law_name, defBody s_law_name, defScope s_law_name, [], []⟩,
  ⟨("_law_text", none), "_law_text", "_law_text", defArgs s_law_text, defBody s_law_text, defScope s_law_text, [], []⟩,
  ⟨("_law_documents", none), "_law_documents", "_law_documents", defArgs s_law_documents, defBody s_law_documents, defScope s_law_documents, [], []⟩,
  ⟨("_law_exams", none), "_law_exams", "_law_exams", defArgs s_law_exams, defBody s_law_exams, defScope s_law_exams, [], []⟩,
  ⟨("_law_plain", none), "_law_plain", "_law_plain", defArgs s_law_plain, defBody s_law_plain, defScope s_law_plain, [], []⟩,
  ⟨("_law_phase", none), "_law_phase", "_law_phase", defArgs s_law_phase, defBody s_law_phase, defScope s_law_phase, [], []⟩,
  ⟨("law", none), "law", "law", defArgs s_law, defBody s_law, defScope s_law, [], []⟩]
def fa : List He.Fa := [
  .glo "shingles",
  .glo "compare",
  .glo "meeting_pairs",
  .glo "alike_pairs",
  .glo "kept_ids",
  .glo "is_letter",
  .glo "is_digit",
  .glo "is_blank",
  .glo "is_word",
  .glo "place_of",
  .glo "_name_at",
  .glo "_number_at",
  .glo "_quoted_at",
  .glo "_sign_at",
  .glo "read_signs",
  .glo "has_any_shape",
  .glo "change_text",
  .glo "split_lines",
  .glo "_shown",
  .glo "hide_words",
  .glo "text_lines",
  .glo "exam_words",
  .glo "count_lines",
  .glo "_first_banned",
  .glo "_line_fate",
  .glo "line_fates",
  .glo "left_words",
  .glo "drop_reason",
  .glo "_plain_lines",
  .glo "clean_documents",
  .glo "due",
  .glo "_total",
  .glo "_next_source",
  .glo "_first_phase",
  .glo "phases",
  .glo "fill",
  .glo "deal",
  .glo "_read_sources",
  .glo "_read_changes",
  .glo "_read_banned",
  .glo "_read_lines",
  .glo "_read_hidden",
  .glo "_read_mark",
  .glo "_read_shares",
  .glo "_read_alike",
  .glo "_read_count",
  .glo "parse_rules",
  .glo "make_join",
  .glo "word_codes",
  .glo "_add_gains",
  .glo "_best_in",
  .glo "learn_joins",
  .glo "_phrase_table",
  .glo "standing_places",
  .glo "covered_places",
  .glo "uncovered_pieces",
  .glo "exam_lists",
  .glo "all_phrases",
  .glo "cleaned_rows",
  .glo "long_pieces",
  .glo "left_over",
  .glo "published_rows",
  .glo "stream",
  .glo "published_words",
  .glo "_add_pages",
  .glo "make_corpus",
  .glo "_law_cell",
  .glo "_law_digits",
  .glo "_law_word",
  .glo "_law_name",
  .glo "_law_text",
  .glo "_law_documents",
  .glo "_law_exams",
  .glo "_law_plain",
  .glo "_law_phase",
  .glo "law",
  .glo "Rules",
  .glo "SignReader",
  .glo "Contents",
  .glo "Corpus",
  .glo "RESERVED",
  .free "len",
  .free "range",
  .free "sum",
  .free "sorted",
  .free "list",
  .free "tuple",
  .free "max",
  .free "min",
  .free "int",
  .free "str",
  .free "ord",
  .free "isinstance",
  .int "NAME_MOST" 20,
  .int "END" 1,
  .int "SPACE" 34,
  .int "FIRST_JOIN" 200,
  .str "LETTERS" "abcdefghijklmnopqrstuvwxyzABCDEFGHIJKLMNOPQRSTUVWXYZ",
  .str "DIGITS" "0123456789",
  .str "SYMBOLS" ",;:",
  .cls "Rules",
  .mkr "Rules",
  .noat "Rules" "sources",
  .noat "Rules" "changes",
  .noat "Rules" "banned",
  .noat "Rules" "line_words",
  .noat "Rules" "line_documents",
  .noat "Rules" "hidden",
  .noat "Rules" "mark",
  .noat "Rules" "document_words",
  .noat "Rules" "shares",
  .noat "Rules" "alike_least",
  .noat "Rules" "alike_of",
  .noat "Rules" "run_words",
  .noat "Rules" "phrase_words",
  .noat "Rules" "piece_words",
  .noat "Rules" "join_limit",
  .noat "Rules" "page_codes",
  .noat "Rules" "volume_pages",
  .cls "SignReader",
  .mkr "SignReader",
  .noat "SignReader" "signs",
  .noat "SignReader" "at",
  .cls "Contents",
  .mkr "Contents",
  .noat "Contents" "rules_text",
  .noat "Contents" "rules",
  .noat "Contents" "documents",
  .noat "Contents" "exams",
  .cls "Corpus",
  .mkr "Corpus",
  .noat "Corpus" "cleaned",
  .noat "Corpus" "phrases",
  .noat "Corpus" "pieces",
  .noat "Corpus" "left",
  .noat "Corpus" "kept_for",
  .noat "Corpus" "published",
  .noat "Corpus" "joins",
  .noat "Corpus" "phases",
  .noat "Corpus" "pages",
  .meth "SignReader" "sign",
  .meth "SignReader" "skip",
  .meth "SignReader" "sees",
  .meth "SignReader" "demand",
  .meth "SignReader" "take",
  .meth "SignReader" "take_number",
  .meth "SignReader" "take_second",
  .meth "SignReader" "look_word"]
def resv : List Str := ["sources", "change", "to", "ban", "lines", "least", "common", "hide", "letter", "digit", "any", "mark", "documents", "share", "of", "alike", "runs", "phrases", "pieces", "joins", "pages", "volumes"]
def exB (K : PySem.W.Frag) : Bool := He.tupB K "RESERVED" (resv.map He.Dv.str)
end Ck

namespace Ck
open PySem PySem.Spec L2
structure Says (K : PySem.W.Frag) : Prop where
  d : He.SaysD fa fn K
  ex : exB K = true
/-- all that the top tells of its names -/
structure Tx (K : PySem.W.Frag) (mg : Str → Option Value) : Prop where
  says : Says K
  glo : ∀ x, (He.Fa.glo x).ok K = true → mg x = some (.ref (He.ga K x))
  free : ∀ x, (He.Fa.free x).ok K = true → mg x = none
  int : ∀ x i, (He.Fa.int x i).ok K = true → ∃ t, mg x = some (.int i t)
  str : ∀ x z, (He.Fa.str x z).ok K = true → ∃ t, mg x = some (.str z t)
theorem Tx.of {K : PySem.W.Frag} {h : Heap} {mg : Str → Option Value} (c : Says K) (X : K.In h) (G : h.Ns mainGlobals mg) : Tx K mg :=
  ⟨c, fun _ q => He.glo_ok X G q, fun _ q => He.free_ok X G q, fun _ _ q => He.int_ok X G q, fun _ _ q => He.str_ok X G q⟩
section
variable {K : PySem.W.Frag} {mg : Str → Option Value}
theorem Tx.n_shingles (T : Tx K mg) : mg "shingles" = some (.ref (He.ga K "shingles")) := T.glo _ (T.says.d.fact 0 rfl)
theorem Tx.n_compare (T : Tx K mg) : mg "compare" = some (.ref (He.ga K "compare")) := T.glo _ (T.says.d.fact 1 rfl)
theorem Tx.n_meeting_pairs (T : Tx K mg) : mg "meeting_pairs" = some (.ref (He.ga K "meeting_pairs")) := T.glo _ (T.says.d.fact 2 rfl)
theorem Tx.n_alike_pairs (T : Tx K mg) : mg "alike_pairs" = some (.ref (He.ga K "alike_pairs")) := T.glo _ (T.says.d.fact 3 rfl)
theorem Tx.n_kept_ids (T : Tx K mg) : mg "kept_ids" = some (.ref (He.ga K "kept_ids")) := T.glo _ (T.says.d.fact 4 rfl)
theorem Tx.n_is_letter (T : Tx K mg) : mg "is_letter" = some (.ref (He.ga K "is_letter")) := T.glo _ (T.says.d.fact 5 rfl)
theorem Tx.n_is_digit (T : Tx K mg) : mg "is_digit" = some (.ref (He.ga K "is_digit")) := T.glo _ (T.says.d.fact 6 rfl)
theorem Tx.n_is_blank (T : Tx K mg) : mg "is_blank" = some (.ref (He.ga K "is_blank")) := T.glo _ (T.says.d.fact 7 rfl)
theorem Tx.n_is_word (T : Tx K mg) : mg "is_word" = some (.ref (He.ga K "is_word")) := T.glo _ (T.says.d.fact 8 rfl)
theorem Tx.n_place_of (T : Tx K mg) : mg "place_of" = some (.ref (He.ga K "place_of")) := T.glo _ (T.says.d.fact 9 rfl)
theorem Tx.n_name_at (T : Tx K mg) : mg "_name_at" = some (.ref (He.ga K "_name_at")) := T.glo _ (T.says.d.fact 10 rfl)
theorem Tx.n_number_at (T : Tx K mg) : mg "_number_at" = some (.ref (He.ga K "_number_at")) := T.glo _ (T.says.d.fact 11 rfl)
theorem Tx.n_quoted_at (T : Tx K mg) : mg "_quoted_at" = some (.ref (He.ga K "_quoted_at")) := T.glo _ (T.says.d.fact 12 rfl)
theorem Tx.n_sign_at (T : Tx K mg) : mg "_sign_at" = some (.ref (He.ga K "_sign_at")) := T.glo _ (T.says.d.fact 13 rfl)
theorem Tx.n_read_signs (T : Tx K mg) : mg "read_signs" = some (.ref (He.ga K "read_signs")) := T.glo _ (T.says.d.fact 14 rfl)
theorem Tx.n_has_any_shape (T : Tx K mg) : mg "has_any_shape" = some (.ref (He.ga K "has_any_shape")) := T.glo _ (T.says.d.fact 15 rfl)
theorem Tx.n_change_text (T : Tx K mg) : mg "change_text" = some (.ref (He.ga K "change_text")) := T.glo _ (T.says.d.fact 16 rfl)
theorem Tx.n_split_lines (T : Tx K mg) : mg "split_lines" = some (.ref (He.ga K "split_lines")) := T.glo _ (T.says.d.fact 17 rfl)
theorem Tx.n_shown (T : Tx K mg) : mg "_shown" = some (.ref (He.ga K "_shown")) := T.glo _ (T.says.d.fact 18 rfl)
theorem Tx.n_hide_words (T : Tx K mg) : mg "hide_words" = some (.ref (He.ga K "hide_words")) := T.glo _ (T.says.d.fact 19 rfl)
theorem Tx.n_text_lines (T : Tx K mg) : mg "text_lines" = some (.ref (He.ga K "text_lines")) := T.glo _ (T.says.d.fact 20 rfl)
theorem Tx.n_exam_words (T : Tx K mg) : mg "exam_words" = some (.ref (He.ga K "exam_words")) := T.glo _ (T.says.d.fact 21 rfl)
theorem Tx.n_count_lines (T : Tx K mg) : mg "count_lines" = some (.ref (He.ga K "count_lines")) := T.glo _ (T.says.d.fact 22 rfl)
theorem Tx.n_first_banned (T : Tx K mg) : mg "_first_banned" = some (.ref (He.ga K "_first_banned")) := T.glo _ (T.says.d.fact 23 rfl)
theorem Tx.n_line_fate (T : Tx K mg) : mg "_line_fate" = some (.ref (He.ga K "_line_fate")) := T.glo _ (T.says.d.fact 24 rfl)
theorem Tx.n_line_fates (T : Tx K mg) : mg "line_fates" = some (.ref (He.ga K "line_fates")) := T.glo _ (T.says.d.fact 25 rfl)
theorem Tx.n_left_words (T : Tx K mg) : mg "left_words" = some (.ref (He.ga K "left_words")) := T.glo _ (T.says.d.fact 26 rfl)
theorem Tx.n_drop_reason (T : Tx K mg) : mg "drop_reason" = some (.ref (He.ga K "drop_reason")) := T.glo _ (T.says.d.fact 27 rfl)
theorem Tx.n_plain_lines (T : Tx K mg) : mg "_plain_lines" = some (.ref (He.ga K "_plain_lines")) := T.glo _ (T.says.d.fact 28 rfl)
theorem Tx.n_clean_documents (T : Tx K mg) : mg "clean_documents" = some (.ref (He.ga K "clean_documents")) := T.glo _ (T.says.d.fact 29 rfl)
theorem Tx.n_due (T : Tx K mg) : mg "due" = some (.ref (He.ga K "due")) := T.glo _ (T.says.d.fact 30 rfl)
theorem Tx.n_total (T : Tx K mg) : mg "_total" = some (.ref (He.ga K "_total")) := T.glo _ (T.says.d.fact 31 rfl)
theorem Tx.n_next_source (T : Tx K mg) : mg "_next_source" = some (.ref (He.ga K "_next_source")) := T.glo _ (T.says.d.fact 32 rfl)
theorem Tx.n_first_phase (T : Tx K mg) : mg "_first_phase" = some (.ref (He.ga K "_first_phase")) := T.glo _ (T.says.d.fact 33 rfl)
theorem Tx.n_phases (T : Tx K mg) : mg "phases" = some (.ref (He.ga K "phases")) := T.glo _ (T.says.d.fact 34 rfl)
theorem Tx.n_fill (T : Tx K mg) : mg "fill" = some (.ref (He.ga K "fill")) := T.glo _ (T.says.d.fact 35 rfl)
theorem Tx.n_deal (T : Tx K mg) : mg "deal" = some (.ref (He.ga K "deal")) := T.glo _ (T.says.d.fact 36 rfl)
theorem Tx.n_read_sources (T : Tx K mg) : mg "_read_sources" = some (.ref (He.ga K "_read_sources")) := T.glo _ (T.says.d.fact 37 rfl)
theorem Tx.n_read_changes (T : Tx K mg) : mg "_read_changes" = some (.ref (He.ga K "_read_changes")) := T.glo _ (T.says.d.fact 38 rfl)
theorem Tx.n_read_banned (T : Tx K mg) : mg "_read_banned" = some (.ref (He.ga K "_read_banned")) := T.glo _ (T.says.d.fact 39 rfl)
theorem Tx.n_read_lines (T : Tx K mg) : mg "_read_lines" = some (.ref (He.ga K "_read_lines")) := T.glo _ (T.says.d.fact 40 rfl)
theorem Tx.n_read_hidden (T : Tx K mg) : mg "_read_hidden" = some (.ref (He.ga K "_read_hidden")) := T.glo _ (T.says.d.fact 41 rfl)
theorem Tx.n_read_mark (T : Tx K mg) : mg "_read_mark" = some (.ref (He.ga K "_read_mark")) := T.glo _ (T.says.d.fact 42 rfl)
theorem Tx.n_read_shares (T : Tx K mg) : mg "_read_shares" = some (.ref (He.ga K "_read_shares")) := T.glo _ (T.says.d.fact 43 rfl)
theorem Tx.n_read_alike (T : Tx K mg) : mg "_read_alike" = some (.ref (He.ga K "_read_alike")) := T.glo _ (T.says.d.fact 44 rfl)
theorem Tx.n_read_count (T : Tx K mg) : mg "_read_count" = some (.ref (He.ga K "_read_count")) := T.glo _ (T.says.d.fact 45 rfl)
theorem Tx.n_parse_rules (T : Tx K mg) : mg "parse_rules" = some (.ref (He.ga K "parse_rules")) := T.glo _ (T.says.d.fact 46 rfl)
theorem Tx.n_make_join (T : Tx K mg) : mg "make_join" = some (.ref (He.ga K "make_join")) := T.glo _ (T.says.d.fact 47 rfl)
theorem Tx.n_word_codes (T : Tx K mg) : mg "word_codes" = some (.ref (He.ga K "word_codes")) := T.glo _ (T.says.d.fact 48 rfl)
theorem Tx.n_add_gains (T : Tx K mg) : mg "_add_gains" = some (.ref (He.ga K "_add_gains")) := T.glo _ (T.says.d.fact 49 rfl)
theorem Tx.n_best_in (T : Tx K mg) : mg "_best_in" = some (.ref (He.ga K "_best_in")) := T.glo _ (T.says.d.fact 50 rfl)
theorem Tx.n_learn_joins (T : Tx K mg) : mg "learn_joins" = some (.ref (He.ga K "learn_joins")) := T.glo _ (T.says.d.fact 51 rfl)
theorem Tx.n_phrase_table (T : Tx K mg) : mg "_phrase_table" = some (.ref (He.ga K "_phrase_table")) := T.glo _ (T.says.d.fact 52 rfl)
theorem Tx.n_standing_places (T : Tx K mg) : mg "standing_places" = some (.ref (He.ga K "standing_places")) := T.glo _ (T.says.d.fact 53 rfl)
theorem Tx.n_covered_places (T : Tx K mg) : mg "covered_places" = some (.ref (He.ga K "covered_places")) := T.glo _ (T.says.d.fact 54 rfl)
theorem Tx.n_uncovered_pieces (T : Tx K mg) : mg "uncovered_pieces" = some (.ref (He.ga K "uncovered_pieces")) := T.glo _ (T.says.d.fact 55 rfl)
theorem Tx.n_exam_lists (T : Tx K mg) : mg "exam_lists" = some (.ref (He.ga K "exam_lists")) := T.glo _ (T.says.d.fact 56 rfl)
theorem Tx.n_all_phrases (T : Tx K mg) : mg "all_phrases" = some (.ref (He.ga K "all_phrases")) := T.glo _ (T.says.d.fact 57 rfl)
theorem Tx.n_cleaned_rows (T : Tx K mg) : mg "cleaned_rows" = some (.ref (He.ga K "cleaned_rows")) := T.glo _ (T.says.d.fact 58 rfl)
theorem Tx.n_long_pieces (T : Tx K mg) : mg "long_pieces" = some (.ref (He.ga K "long_pieces")) := T.glo _ (T.says.d.fact 59 rfl)
theorem Tx.n_left_over (T : Tx K mg) : mg "left_over" = some (.ref (He.ga K "left_over")) := T.glo _ (T.says.d.fact 60 rfl)
theorem Tx.n_published_rows (T : Tx K mg) : mg "published_rows" = some (.ref (He.ga K "published_rows")) := T.glo _ (T.says.d.fact 61 rfl)
theorem Tx.n_stream (T : Tx K mg) : mg "stream" = some (.ref (He.ga K "stream")) := T.glo _ (T.says.d.fact 62 rfl)
theorem Tx.n_published_words (T : Tx K mg) : mg "published_words" = some (.ref (He.ga K "published_words")) := T.glo _ (T.says.d.fact 63 rfl)
theorem Tx.n_add_pages (T : Tx K mg) : mg "_add_pages" = some (.ref (He.ga K "_add_pages")) := T.glo _ (T.says.d.fact 64 rfl)
theorem Tx.n_make_corpus (T : Tx K mg) : mg "make_corpus" = some (.ref (He.ga K "make_corpus")) := T.glo _ (T.says.d.fact 65 rfl)
theorem Tx.n_law_cell (T : Tx K mg) : mg "_law_cell" = some (.ref (He.ga K "_law_cell")) := T.glo _ (T.says.d.fact 66 rfl)
theorem Tx.n_law_digits (T : Tx K mg) : mg "_law_digits" = some (.ref (He.ga K "_law_digits")) := T.glo _ (T.says.d.fact 67 rfl)
theorem Tx.n_law_word (T : Tx K mg) : mg "_law_word" = some (.ref (He.ga K "_law_word")) := T.glo _ (T.says.d.fact 68 rfl)
theorem Tx.n_law_name (T : Tx K mg) : mg "_law_name" = some (.ref (He.ga K "_law_name")) := T.glo _ (T.says.d.fact 69 rfl)
theorem Tx.n_law_text (T : Tx K mg) : mg "_law_text" = some (.ref (He.ga K "_law_text")) := T.glo _ (T.says.d.fact 70 rfl)
theorem Tx.n_law_documents (T : Tx K mg) : mg "_law_documents" = some (.ref (He.ga K "_law_documents")) := T.glo _ (T.says.d.fact 71 rfl)
theorem Tx.n_law_exams (T : Tx K mg) : mg "_law_exams" = some (.ref (He.ga K "_law_exams")) := T.glo _ (T.says.d.fact 72 rfl)
theorem Tx.n_law_plain (T : Tx K mg) : mg "_law_plain" = some (.ref (He.ga K "_law_plain")) := T.glo _ (T.says.d.fact 73 rfl)
theorem Tx.n_law_phase (T : Tx K mg) : mg "_law_phase" = some (.ref (He.ga K "_law_phase")) := T.glo _ (T.says.d.fact 74 rfl)
theorem Tx.n_law (T : Tx K mg) : mg "law" = some (.ref (He.ga K "law")) := T.glo _ (T.says.d.fact 75 rfl)
theorem Tx.n_Rules (T : Tx K mg) : mg "Rules" = some (.ref (He.ga K "Rules")) := T.glo _ (T.says.d.fact 76 rfl)
theorem Tx.n_SignReader (T : Tx K mg) : mg "SignReader" = some (.ref (He.ga K "SignReader")) := T.glo _ (T.says.d.fact 77 rfl)
theorem Tx.n_Contents (T : Tx K mg) : mg "Contents" = some (.ref (He.ga K "Contents")) := T.glo _ (T.says.d.fact 78 rfl)
theorem Tx.n_Corpus (T : Tx K mg) : mg "Corpus" = some (.ref (He.ga K "Corpus")) := T.glo _ (T.says.d.fact 79 rfl)
theorem Tx.n_RESERVED (T : Tx K mg) : mg "RESERVED" = some (.ref (He.ga K "RESERVED")) := T.glo _ (T.says.d.fact 80 rfl)
theorem Tx.f_len (T : Tx K mg) : mg "len" = none := T.free _ (T.says.d.fact 81 rfl)
theorem Tx.f_range (T : Tx K mg) : mg "range" = none := T.free _ (T.says.d.fact 82 rfl)
theorem Tx.f_sum (T : Tx K mg) : mg "sum" = none := T.free _ (T.says.d.fact 83 rfl)
theorem Tx.f_sorted (T : Tx K mg) : mg "sorted" = none := T.free _ (T.says.d.fact 84 rfl)
theorem Tx.f_list (T : Tx K mg) : mg "list" = none := T.free _ (T.says.d.fact 85 rfl)
theorem Tx.f_tuple (T : Tx K mg) : mg "tuple" = none := T.free _ (T.says.d.fact 86 rfl)
theorem Tx.f_max (T : Tx K mg) : mg "max" = none := T.free _ (T.says.d.fact 87 rfl)
theorem Tx.f_min (T : Tx K mg) : mg "min" = none := T.free _ (T.says.d.fact 88 rfl)
theorem Tx.f_int (T : Tx K mg) : mg "int" = none := T.free _ (T.says.d.fact 89 rfl)
theorem Tx.f_str (T : Tx K mg) : mg "str" = none := T.free _ (T.says.d.fact 90 rfl)
theorem Tx.f_ord (T : Tx K mg) : mg "ord" = none := T.free _ (T.says.d.fact 91 rfl)
theorem Tx.f_isinstance (T : Tx K mg) : mg "isinstance" = none := T.free _ (T.says.d.fact 92 rfl)
theorem Tx.c_Rules (T : Tx K mg) : Cls K (He.ga K "Rules") := He.cls_ok (T.says.d.fact 100 rfl)
theorem Tx.mk_Rules (T : Tx K mg) : Mk K (He.ga K "Rules") (He.ma K (He.ga K "Rules") "__init__") := He.mkr_ok (T.says.d.fact 101 rfl)
theorem Tx.a_Rules_sources (T : Tx K mg) : NoAttr K (He.ga K "Rules") "sources" := He.noat_ok (T.says.d.fact 102 rfl)
theorem Tx.a_Rules_changes (T : Tx K mg) : NoAttr K (He.ga K "Rules") "changes" := He.noat_ok (T.says.d.fact 103 rfl)
theorem Tx.a_Rules_banned (T : Tx K mg) : NoAttr K (He.ga K "Rules") "banned" := He.noat_ok (T.says.d.fact 104 rfl)
theorem Tx.a_Rules_line_words (T : Tx K mg) : NoAttr K (He.ga K "Rules") "line_words" := He.noat_ok (T.says.d.fact 105 rfl)
theorem Tx.a_Rules_line_documents (T : Tx K mg) : NoAttr K (He.ga K "Rules") "line_documents" := He.noat_ok (T.says.d.fact 106 rfl)
theorem Tx.a_Rules_hidden (T : Tx K mg) : NoAttr K (He.ga K "Rules") "hidden" := He.noat_ok (T.says.d.fact 107 rfl)
theorem Tx.a_Rules_mark (T : Tx K mg) : NoAttr K (He.ga K "Rules") "mark" := He.noat_ok (T.says.d.fact 108 rfl)
theorem Tx.a_Rules_document_words (T : Tx K mg) : NoAttr K (He.ga K "Rules") "document_words" := He.noat_ok (T.says.d.fact 109 rfl)
theorem Tx.a_Rules_shares (T : Tx K mg) : NoAttr K (He.ga K "Rules") "shares" := He.noat_ok (T.says.d.fact 110 rfl)
theorem Tx.a_Rules_alike_least (T : Tx K mg) : NoAttr K (He.ga K "Rules") "alike_least" := He.noat_ok (T.says.d.fact 111 rfl)
theorem Tx.a_Rules_alike_of (T : Tx K mg) : NoAttr K (He.ga K "Rules") "alike_of" := He.noat_ok (T.says.d.fact 112 rfl)
theorem Tx.a_Rules_run_words (T : Tx K mg) : NoAttr K (He.ga K "Rules") "run_words" := He.noat_ok (T.says.d.fact 113 rfl)
theorem Tx.a_Rules_phrase_words (T : Tx K mg) : NoAttr K (He.ga K "Rules") "phrase_words" := He.noat_ok (T.says.d.fact 114 rfl)
theorem Tx.a_Rules_piece_words (T : Tx K mg) : NoAttr K (He.ga K "Rules") "piece_words" := He.noat_ok (T.says.d.fact 115 rfl)
theorem Tx.a_Rules_join_limit (T : Tx K mg) : NoAttr K (He.ga K "Rules") "join_limit" := He.noat_ok (T.says.d.fact 116 rfl)
theorem Tx.a_Rules_page_codes (T : Tx K mg) : NoAttr K (He.ga K "Rules") "page_codes" := He.noat_ok (T.says.d.fact 117 rfl)
theorem Tx.a_Rules_volume_pages (T : Tx K mg) : NoAttr K (He.ga K "Rules") "volume_pages" := He.noat_ok (T.says.d.fact 118 rfl)
theorem Tx.c_SignReader (T : Tx K mg) : Cls K (He.ga K "SignReader") := He.cls_ok (T.says.d.fact 119 rfl)
theorem Tx.c_SignReader_sign (T : Tx K mg) : Cls K (He.ga K "SignReader") := T.c_SignReader
theorem Tx.c_SignReader_skip (T : Tx K mg) : Cls K (He.ga K "SignReader") := T.c_SignReader
theorem Tx.c_SignReader_sees (T : Tx K mg) : Cls K (He.ga K "SignReader") := T.c_SignReader
theorem Tx.c_SignReader_demand (T : Tx K mg) : Cls K (He.ga K "SignReader") := T.c_SignReader
theorem Tx.c_SignReader_take (T : Tx K mg) : Cls K (He.ga K "SignReader") := T.c_SignReader
theorem Tx.c_SignReader_take_number (T : Tx K mg) : Cls K (He.ga K "SignReader") := T.c_SignReader
theorem Tx.c_SignReader_take_second (T : Tx K mg) : Cls K (He.ga K "SignReader") := T.c_SignReader
theorem Tx.c_SignReader_look_word (T : Tx K mg) : Cls K (He.ga K "SignReader") := T.c_SignReader
theorem Tx.mk_SignReader (T : Tx K mg) : Mk K (He.ga K "SignReader") (He.ma K (He.ga K "SignReader") "__init__") := He.mkr_ok (T.says.d.fact 120 rfl)
theorem Tx.a_SignReader_signs (T : Tx K mg) : NoAttr K (He.ga K "SignReader") "signs" := He.noat_ok (T.says.d.fact 121 rfl)
theorem Tx.a_SignReader_at (T : Tx K mg) : NoAttr K (He.ga K "SignReader") "at" := He.noat_ok (T.says.d.fact 122 rfl)
theorem Tx.c_Contents (T : Tx K mg) : Cls K (He.ga K "Contents") := He.cls_ok (T.says.d.fact 123 rfl)
theorem Tx.mk_Contents (T : Tx K mg) : Mk K (He.ga K "Contents") (He.ma K (He.ga K "Contents") "__init__") := He.mkr_ok (T.says.d.fact 124 rfl)
theorem Tx.a_Contents_rules_text (T : Tx K mg) : NoAttr K (He.ga K "Contents") "rules_text" := He.noat_ok (T.says.d.fact 125 rfl)
theorem Tx.a_Contents_rules (T : Tx K mg) : NoAttr K (He.ga K "Contents") "rules" := He.noat_ok (T.says.d.fact 126 rfl)
theorem Tx.a_Contents_documents (T : Tx K mg) : NoAttr K (He.ga K "Contents") "documents" := He.noat_ok (T.says.d.fact 127 rfl)
theorem Tx.a_Contents_exams (T : Tx K mg) : NoAttr K (He.ga K "Contents") "exams" := He.noat_ok (T.says.d.fact 128 rfl)
theorem Tx.c_Corpus (T : Tx K mg) : Cls K (He.ga K "Corpus") := He.cls_ok (T.says.d.fact 129 rfl)
theorem Tx.mk_Corpus (T : Tx K mg) : Mk K (He.ga K "Corpus") (He.ma K (He.ga K "Corpus") "__init__") := He.mkr_ok (T.says.d.fact 130 rfl)
theorem Tx.a_Corpus_cleaned (T : Tx K mg) : NoAttr K (He.ga K "Corpus") "cleaned" := He.noat_ok (T.says.d.fact 131 rfl)
theorem Tx.a_Corpus_phrases (T : Tx K mg) : NoAttr K (He.ga K "Corpus") "phrases" := He.noat_ok (T.says.d.fact 132 rfl)
theorem Tx.a_Corpus_pieces (T : Tx K mg) : NoAttr K (He.ga K "Corpus") "pieces" := He.noat_ok (T.says.d.fact 133 rfl)
theorem Tx.a_Corpus_left (T : Tx K mg) : NoAttr K (He.ga K "Corpus") "left" := He.noat_ok (T.says.d.fact 134 rfl)
theorem Tx.a_Corpus_kept_for (T : Tx K mg) : NoAttr K (He.ga K "Corpus") "kept_for" := He.noat_ok (T.says.d.fact 135 rfl)
theorem Tx.a_Corpus_published (T : Tx K mg) : NoAttr K (He.ga K "Corpus") "published" := He.noat_ok (T.says.d.fact 136 rfl)
theorem Tx.a_Corpus_joins (T : Tx K mg) : NoAttr K (He.ga K "Corpus") "joins" := He.noat_ok (T.says.d.fact 137 rfl)
theorem Tx.a_Corpus_phases (T : Tx K mg) : NoAttr K (He.ga K "Corpus") "phases" := He.noat_ok (T.says.d.fact 138 rfl)
theorem Tx.a_Corpus_pages (T : Tx K mg) : NoAttr K (He.ga K "Corpus") "pages" := He.noat_ok (T.says.d.fact 139 rfl)
theorem Tx.m_SignReader_sign (T : Tx K mg) : Meth K (He.ga K "SignReader") "sign" (He.ma K (He.ga K "SignReader") "sign") := He.meth_ok (T.says.d.fact 140 rfl)
theorem Tx.m_SignReader_skip (T : Tx K mg) : Meth K (He.ga K "SignReader") "skip" (He.ma K (He.ga K "SignReader") "skip") := He.meth_ok (T.says.d.fact 141 rfl)
theorem Tx.m_SignReader_sees (T : Tx K mg) : Meth K (He.ga K "SignReader") "sees" (He.ma K (He.ga K "SignReader") "sees") := He.meth_ok (T.says.d.fact 142 rfl)
theorem Tx.m_SignReader_demand (T : Tx K mg) : Meth K (He.ga K "SignReader") "demand" (He.ma K (He.ga K "SignReader") "demand") := He.meth_ok (T.says.d.fact 143 rfl)
theorem Tx.m_SignReader_take (T : Tx K mg) : Meth K (He.ga K "SignReader") "take" (He.ma K (He.ga K "SignReader") "take") := He.meth_ok (T.says.d.fact 144 rfl)
theorem Tx.m_SignReader_take_number (T : Tx K mg) : Meth K (He.ga K "SignReader") "take_number" (He.ma K (He.ga K "SignReader") "take_number") := He.meth_ok (T.says.d.fact 145 rfl)
theorem Tx.m_SignReader_take_second (T : Tx K mg) : Meth K (He.ga K "SignReader") "take_second" (He.ma K (He.ga K "SignReader") "take_second") := He.meth_ok (T.says.d.fact 146 rfl)
theorem Tx.m_SignReader_look_word (T : Tx K mg) : Meth K (He.ga K "SignReader") "look_word" (He.ma K (He.ga K "SignReader") "look_word") := He.meth_ok (T.says.d.fact 147 rfl)
end
section
variable {X : Cx} {K : PySem.W.Frag} {mg : Str → Option Value} {pos : Pos}
theorem Tx.e_NAME_MOST (T : Tx K mg) (hm : X.mg = mg := by rfl) (hg : Gl X "NAME_MOST" := by rfl) : PE X (.Name "NAME_MOST" pos) (tC (.int 20)) := by
  obtain ⟨t, e⟩ := T.int _ _ (T.says.d.fact 93 rfl)
  exact pe_glob hg (by rw [hm]; exact e) ⟨t, rfl⟩
theorem Tx.e_END (T : Tx K mg) (hm : X.mg = mg := by rfl) (hg : Gl X "END" := by rfl) : PE X (.Name "END" pos) (tC (.int 1)) := by
  obtain ⟨t, e⟩ := T.int _ _ (T.says.d.fact 94 rfl)
  exact pe_glob hg (by rw [hm]; exact e) ⟨t, rfl⟩
theorem Tx.e_SPACE (T : Tx K mg) (hm : X.mg = mg := by rfl) (hg : Gl X "SPACE" := by rfl) : PE X (.Name "SPACE" pos) (tC (.int 34)) := by
  obtain ⟨t, e⟩ := T.int _ _ (T.says.d.fact 95 rfl)
  exact pe_glob hg (by rw [hm]; exact e) ⟨t, rfl⟩
theorem Tx.e_FIRST_JOIN (T : Tx K mg) (hm : X.mg = mg := by rfl) (hg : Gl X "FIRST_JOIN" := by rfl) : PE X (.Name "FIRST_JOIN" pos) (tC (.int 200)) := by
  obtain ⟨t, e⟩ := T.int _ _ (T.says.d.fact 96 rfl)
  exact pe_glob hg (by rw [hm]; exact e) ⟨t, rfl⟩
def c_LETTERS : Str := "abcdefghijklmnopqrstuvwxyzABCDEFGHIJKLMNOPQRSTUVWXYZ"
theorem Tx.e_LETTERS (T : Tx K mg) (hm : X.mg = mg := by rfl) (hg : Gl X "LETTERS" := by rfl) : PE X (.Name "LETTERS" pos) (tC (.str c_LETTERS)) := by
  obtain ⟨t, e⟩ := T.str _ _ (T.says.d.fact 97 rfl)
  exact pe_glob hg (by rw [hm]; exact e) ⟨t, rfl⟩
def c_DIGITS : Str := "0123456789"
theorem Tx.e_DIGITS (T : Tx K mg) (hm : X.mg = mg := by rfl) (hg : Gl X "DIGITS" := by rfl) : PE X (.Name "DIGITS" pos) (tC (.str c_DIGITS)) := by
  obtain ⟨t, e⟩ := T.str _ _ (T.says.d.fact 98 rfl)
  exact pe_glob hg (by rw [hm]; exact e) ⟨t, rfl⟩
def c_SYMBOLS : Str := ",;:"
theorem Tx.e_SYMBOLS (T : Tx K mg) (hm : X.mg = mg := by rfl) (hg : Gl X "SYMBOLS" := by rfl) : PE X (.Name "SYMBOLS" pos) (tC (.str c_SYMBOLS)) := by
  obtain ⟨t, e⟩ := T.str _ _ (T.says.d.fact 99 rfl)
  exact pe_glob hg (by rw [hm]; exact e) ⟨t, rfl⟩
theorem Tx.e_RESERVED (T : Tx K mg) (hm : X.mg = mg := by rfl) (hg : Gl X "RESERVED" := by rfl) : PE X (.Name "RESERVED" pos) (tC (.ref (He.ga K "RESERVED"))) :=
  pe_glob hg (by rw [hm]; exact T.n_RESERVED) rfl
theorem Tx.t_resv (T : Tx K mg) (H : Hp) : SqT K H (He.ga K "RESERVED") (resv.map V.str) := by
  have h := He.tupB_ok (show He.tupB K "RESERVED" (resv.map He.Dv.str) = true from T.says.ex) H
  rw [List.map_map] at h
  exact h
end
/-! ### a def that is shown, and its call -/
def Okd (P : Program) (w : World) (K : PySem.W.Frag) (mg : Str → Option Value) (base : Heap) (k : Nat) (x : Str × Option Str) (ps : List Str) (dvs : List V) (sp : Sp) : Prop :=
  ∃ (fd : FuncData) (ds : List Value), FnOk P w K mg base CX0 k (He.fAd K x) fd ps sp ∧ Vals dvs ds ∧ Binds K fd ps ds ∧ PySem.W.keepIn K (.ref (He.fAd K x)) = true
section
variable {X : Cx} {k k' : Nat} {x c m : Str} {ps : List Str} {dvs : List V} {sp : Sp} {e o : Expr} {es : List Expr} {t : TA} {ta : TE} {p pos apos : Pos}
theorem pe_ok (O : Okd X.prog X.w X.K X.mg X.base k (x, none) ps dvs sp) (hm : X.mg x = some (.ref (He.ga X.K x))) (hr : Room k' X.A) (hk : k ≤ k') (hg : Gl X x) (ha : PA X (e :: es) t) (hdb : (x == ("__debug__" : Str)) = false := by decide)
    (he : starEach (e :: es) X.env = (false, eval e X.env) :: starEach es X.env := by rfl) (hpl : (backTo pos (starEach es X.env)).any (·.1) = false := by rfl) : PE X (.Call (.Name x p) (e :: es) [] pos) (tCall sp dvs E0 t) := by
  obtain ⟨fd, ds, F, hd, hb, kp⟩ := O
  exact pe_call F (hr.mono hk) hg hm kp hb hd pass0 ha hdb he hpl
theorem pe_mk (O : Okd X.prog X.w X.K X.mg X.base k (c, some "__init__") ps dvs sp) (M : Mk X.K (He.ga X.K c) (He.ma X.K (He.ga X.K c) "__init__")) (hm : X.mg c = some (.ref (He.ga X.K c))) (hr : Room k' X.A) (hk : k + 1 ≤ k') (hg : Gl X c) (ha : PA X (e :: es) t) (hdb : (c == ("__debug__" : Str)) = false := by decide)
    (he : starEach (e :: es) X.env = (false, eval e X.env) :: starEach es X.env := by rfl) (hpl : (backTo pos (starEach es X.env)).any (·.1) = false := by rfl) : PE X (.Call (.Name c p) (e :: es) [] pos) (tMake (He.ga X.K c) sp dvs E0 t) := by
  obtain ⟨fd, ds, F, hd, hb, kp⟩ := O
  exact pe_make M F (hr.mono hk) hg hm hb hd pass0 ha hdb he hpl
theorem pe_mk0 (O : Okd X.prog X.w X.K X.mg X.base k (c, some "__init__") ps dvs sp) (M : Mk X.K (He.ga X.K c) (He.ma X.K (He.ga X.K c) "__init__")) (hm : X.mg c = some (.ref (He.ga X.K c))) (hr : Room k' X.A) (hk : k + 1 ≤ k') (hg : Gl X c) (hdb : (c == ("__debug__" : Str)) = false := by decide) :
    PE X (.Call (.Name c p) [] [] pos) (tMake (He.ga X.K c) sp dvs E0 tNil) := by
  obtain ⟨fd, ds, F, hd, hb, kp⟩ := O
  exact pe_make0 M F (hr.mono hk) hg hm hb hd pass0 hdb
theorem pe_mt {pl : Sem Bool} (ho : PE X o ta) (O : Okd X.prog X.w X.K X.mg X.base k (c, some m) ps dvs sp) (hc : Cls X.K (He.ga X.K c)) (hm : Meth X.K (He.ga X.K c) m (He.ma X.K (He.ga X.K c) m)) (hr : Room k' X.A) (hk : k ≤ k') (ha : PA X (e :: es) t)
    (hst : starEach (e :: es) X.env = (false, eval e X.env) :: starEach es X.env := by rfl) (hpl : (backTo pos (starEach es X.env)).any (·.1) = false := by rfl)
    (ht : eval (.Call (.Attribute o m apos) (e :: es) [] pos) X.env = (do
      let ov ← eval o X.env
      standAt apos.atName
      let (f, first) ← holding [ov] (getMethod ov m pl)
      callWith pos f first (backTo pos (starEach (e :: es) X.env)) (backToKw pos (keywordEach [] X.env))) := by rfl) : PE X (.Call (.Attribute o m apos) (e :: es) [] pos) (tMeth (He.ga X.K c) m sp dvs E0 ta t) := by
  obtain ⟨fd, ds, F, hd, hb, kp⟩ := O
  exact pe_meth ho hc hm F (hr.mono hk) hb hd pass0 ha hst hpl ht
theorem pe_mt0 {pl : Sem Bool} (ho : PE X o ta) (O : Okd X.prog X.w X.K X.mg X.base k (c, some m) ps dvs sp) (hc : Cls X.K (He.ga X.K c)) (hm : Meth X.K (He.ga X.K c) m (He.ma X.K (He.ga X.K c) m)) (hr : Room k' X.A) (hk : k ≤ k')
    (ht : eval (.Call (.Attribute o m apos) [] [] pos) X.env = (do
      let ov ← eval o X.env
      standAt apos.atName
      let (f, first) ← holding [ov] (getMethod ov m pl)
      callWith pos f first (backTo pos (starEach [] X.env)) (backToKw pos (keywordEach [] X.env))) := by rfl) : PE X (.Call (.Attribute o m apos) [] [] pos) (tMeth (He.ga X.K c) m sp dvs E0 ta tNil) := by
  obtain ⟨fd, ds, F, hd, hb, kp⟩ := O
  exact pe_meth0 ho hc hm F (hr.mono hk) hb hd pass0 ht
end
abbrev N_shingles : List Str := ["pieces", "length", "seen", "rows", "piece", "start", "shingle"]
theorem sc_shingles : FnScope N_shingles ["pieces", "length"] (defScope s_shingles) := ⟨rfl, rfl, rfl, by decide +kernel, rfl, by decide +kernel, by decide +kernel⟩
abbrev N_compare : List Str := ["first", "second", "length", "over", "under", "ours", "table", "theirs", "common", "together", "shingle"]
theorem sc_compare : FnScope N_compare ["first", "second", "length", "over", "under"] (defScope s_compare) := ⟨rfl, rfl, rfl, by decide +kernel, rfl, by decide +kernel, by decide +kernel⟩
abbrev N_meeting_pairs : List Str := ["documents", "length", "table", "pairs", "number", "pieces", "shingle", "earlier", "other"]
theorem sc_meeting_pairs : FnScope N_meeting_pairs ["documents", "length"] (defScope s_meeting_pairs) := ⟨rfl, rfl, rfl, by decide +kernel, rfl, by decide +kernel, by decide +kernel⟩
abbrev N_alike_pairs : List Str := ["documents", "length", "over", "under", "table", "rows", "first", "second", "alike", "common", "together", "number", "pieces"]
theorem sc_alike_pairs : FnScope N_alike_pairs ["documents", "length", "over", "under"] (defScope s_alike_pairs) := ⟨rfl, rfl, rfl, by decide +kernel, rfl, by decide +kernel, by decide +kernel⟩
abbrev N_kept_ids : List Str := ["documents", "length", "over", "under", "kept", "first", "second", "common", "together", "low", "high", "number", "pieces"]
theorem sc_kept_ids : FnScope N_kept_ids ["documents", "length", "over", "under"] (defScope s_kept_ids) := ⟨rfl, rfl, rfl, by decide +kernel, rfl, by decide +kernel, by decide +kernel⟩
abbrev N_is_letter : List Str := ["char"]
theorem sc_is_letter : FnScope N_is_letter ["char"] (defScope s_is_letter) := ⟨rfl, rfl, rfl, by decide +kernel, rfl, by decide +kernel, by decide +kernel⟩
abbrev N_is_digit : List Str := ["char"]
theorem sc_is_digit : FnScope N_is_digit ["char"] (defScope s_is_digit) := ⟨rfl, rfl, rfl, by decide +kernel, rfl, by decide +kernel, by decide +kernel⟩
abbrev N_is_blank : List Str := ["char"]
theorem sc_is_blank : FnScope N_is_blank ["char"] (defScope s_is_blank) := ⟨rfl, rfl, rfl, by decide +kernel, rfl, by decide +kernel, by decide +kernel⟩
abbrev N_is_word : List Str := ["text"]
theorem sc_is_word : FnScope N_is_word ["text"] (defScope s_is_word) := ⟨rfl, rfl, rfl, by decide +kernel, rfl, by decide +kernel, by decide +kernel⟩
abbrev N_place_of : List Str := ["text", "index", "before"]
theorem sc_place_of : FnScope N_place_of ["text", "index"] (defScope s_place_of) := ⟨rfl, rfl, rfl, by decide +kernel, rfl, by decide +kernel, by decide +kernel⟩
abbrev N_name_at : List Str := ["text", "at", "end"]
theorem sc_name_at : FnScope N_name_at ["text", "at"] (defScope s_name_at) := ⟨rfl, rfl, rfl, by decide +kernel, rfl, by decide +kernel, by decide +kernel⟩
abbrev N_number_at : List Str := ["text", "at", "end"]
theorem sc_number_at : FnScope N_number_at ["text", "at"] (defScope s_number_at) := ⟨rfl, rfl, rfl, by decide +kernel, rfl, by decide +kernel, by decide +kernel⟩
abbrev N_quoted_at : List Str := ["text", "at", "chars", "index"]
theorem sc_quoted_at : FnScope N_quoted_at ["text", "at"] (defScope s_quoted_at) := ⟨rfl, rfl, rfl, by decide +kernel, rfl, by decide +kernel, by decide +kernel⟩
abbrev N_sign_at : List Str := ["text", "at", "char"]
theorem sc_sign_at : FnScope N_sign_at ["text", "at"] (defScope s_sign_at) := ⟨rfl, rfl, rfl, by decide +kernel, rfl, by decide +kernel, by decide +kernel⟩
abbrev N_read_signs : List Str := ["text", "signs", "at", "kind", "value", "end", "line", "column"]
theorem sc_read_signs : FnScope N_read_signs ["text"] (defScope s_read_signs) := ⟨rfl, rfl, rfl, by decide +kernel, rfl, by decide +kernel, by decide +kernel⟩
abbrev N_has_any_shape : List Str := ["word", "shapes", "shape"]
theorem sc_has_any_shape : FnScope N_has_any_shape ["word", "shapes"] (defScope s_has_any_shape) := ⟨rfl, rfl, rfl, by decide +kernel, rfl, by decide +kernel, by decide +kernel⟩
abbrev N_change_text : List Str := ["text", "changes", "table", "char", "replacement", "changed", "index"]
theorem sc_change_text : FnScope N_change_text ["text", "changes"] (defScope s_change_text) := ⟨rfl, rfl, rfl, by decide +kernel, rfl, by decide +kernel, by decide +kernel⟩
abbrev N_split_lines : List Str := ["changed", "lines", "line", "chars", "first", "last", "char", "index"]
theorem sc_split_lines : FnScope N_split_lines ["changed"] (defScope s_split_lines) := ⟨rfl, rfl, rfl, by decide +kernel, rfl, by decide +kernel, by decide +kernel⟩
abbrev N_shown : List Str := ["word", "hidden", "mark"]
theorem sc_shown : FnScope N_shown ["word", "hidden", "mark"] (defScope s_shown) := ⟨rfl, rfl, rfl, by decide +kernel, rfl, by decide +kernel, by decide +kernel⟩
abbrev N_hide_words : List Str := ["lines", "hidden", "mark", "rows", "line", "word", "first", "last"]
theorem sc_hide_words : FnScope N_hide_words ["lines", "hidden", "mark"] (defScope s_hide_words) := ⟨rfl, rfl, rfl, by decide +kernel, rfl, by decide +kernel, by decide +kernel⟩
abbrev N_text_lines : List Str := ["text", "rules"]
theorem sc_text_lines : FnScope N_text_lines ["text", "rules"] (defScope s_text_lines) := ⟨rfl, rfl, rfl, by decide +kernel, rfl, by decide +kernel, by decide +kernel⟩
abbrev N_exam_words : List Str := ["text", "rules", "words", "line", "word", "first", "last"]
theorem sc_exam_words : FnScope N_exam_words ["text", "rules"] (defScope s_exam_words) := ⟨rfl, rfl, rfl, by decide +kernel, rfl, by decide +kernel, by decide +kernel⟩
abbrev N_count_lines : List Str := ["documents", "counts", "lines", "seen", "line", "key"]
theorem sc_count_lines : FnScope N_count_lines ["documents"] (defScope s_count_lines) := ⟨rfl, rfl, rfl, by decide +kernel, rfl, by decide +kernel, by decide +kernel⟩
abbrev N_first_banned : List Str := ["line", "banned", "word"]
theorem sc_first_banned : FnScope N_first_banned ["line", "banned"] (defScope s_first_banned) := ⟨rfl, rfl, rfl, by decide +kernel, rfl, by decide +kernel, by decide +kernel⟩
abbrev N_line_fate : List Str := ["line", "rules", "counts", "word", "many"]
theorem sc_line_fate : FnScope N_line_fate ["line", "rules", "counts"] (defScope s_line_fate) := ⟨rfl, rfl, rfl, by decide +kernel, rfl, by decide +kernel, by decide +kernel⟩
abbrev N_line_fates : List Str := ["lines", "rules", "counts", "line"]
theorem sc_line_fates : FnScope N_line_fates ["lines", "rules", "counts"] (defScope s_line_fates) := ⟨rfl, rfl, rfl, by decide +kernel, rfl, by decide +kernel, by decide +kernel⟩
abbrev N_left_words : List Str := ["lines", "fates", "words", "index"]
theorem sc_left_words : FnScope N_left_words ["lines", "fates"] (defScope s_left_words) := ⟨rfl, rfl, rfl, by decide +kernel, rfl, by decide +kernel, by decide +kernel⟩
abbrev N_drop_reason : List Str := ["words", "rules", "index", "shape", "over", "under", "many", "word"]
theorem sc_drop_reason : FnScope N_drop_reason ["words", "rules"] (defScope s_drop_reason) := ⟨rfl, rfl, rfl, by decide +kernel, rfl, by decide +kernel, by decide +kernel⟩
abbrev N_plain_lines : List Str := ["lines", "line", "word", "first", "last"]
theorem sc_plain_lines : FnScope N_plain_lines ["lines"] (defScope s_plain_lines) := ⟨rfl, rfl, rfl, by decide +kernel, rfl, by decide +kernel, by decide +kernel⟩
abbrev N_clean_documents : List Str := ["texts", "rules", "placed", "plain", "counts", "rows", "index", "fates", "words", "text", "lines", "word", "first", "last"]
theorem sc_clean_documents : FnScope N_clean_documents ["texts", "rules"] (defScope s_clean_documents) := ⟨rfl, rfl, rfl, by decide +kernel, rfl, by decide +kernel, by decide +kernel⟩
abbrev N_due : List Str := ["total", "weight", "placed"]
theorem sc_due : FnScope N_due ["total", "weight", "placed"] (defScope s_due) := ⟨rfl, rfl, rfl, by decide +kernel, rfl, by decide +kernel, by decide +kernel⟩
abbrev N_total : List Str := ["weights", "left", "total", "index"]
theorem sc_total : FnScope N_total ["weights", "left"] (defScope s_total) := ⟨rfl, rfl, rfl, by decide +kernel, rfl, by decide +kernel, by decide +kernel⟩
abbrev N_next_source : List Str := ["weights", "left", "placed", "turn", "total", "best", "best_due", "index", "when"]
theorem sc_next_source : FnScope N_next_source ["weights", "left", "placed", "turn"] (defScope s_next_source) := ⟨rfl, rfl, rfl, by decide +kernel, rfl, by decide +kernel, by decide +kernel⟩
abbrev N_first_phase : List Str := ["weights", "left", "placed", "row", "turn", "source"]
theorem sc_first_phase : FnScope N_first_phase ["weights", "left"] (defScope s_first_phase) := ⟨rfl, rfl, rfl, by decide +kernel, rfl, by decide +kernel, by decide +kernel⟩
abbrev N_phases : List Str := ["weights", "counts", "left", "rows", "row", "source"]
theorem sc_phases : FnScope N_phases ["weights", "counts"] (defScope s_phases) := ⟨rfl, rfl, rfl, by decide +kernel, rfl, by decide +kernel, by decide +kernel⟩
abbrev N_fill : List Str := ["stream", "size", "rows", "start", "part"]
theorem sc_fill : FnScope N_fill ["stream", "size"] (defScope s_fill) := ⟨rfl, rfl, rfl, by decide +kernel, rfl, by decide +kernel, by decide +kernel⟩
abbrev N_deal : List Str := ["weights", "streams", "size", "parts", "used", "rows", "phase", "source", "stream", "part"]
theorem sc_deal : FnScope N_deal ["weights", "streams", "size"] (defScope s_deal) := ⟨rfl, rfl, rfl, by decide +kernel, rfl, by decide +kernel, by decide +kernel⟩
abbrev N_Rules_init : List Str := ["self"]
theorem sc_Rules_init : FnScope N_Rules_init ["self"] (defScope s_Rules_init) := ⟨rfl, rfl, rfl, by decide +kernel, rfl, by decide +kernel, by decide +kernel⟩
abbrev N_SignReader_init : List Str := ["self", "signs"]
theorem sc_SignReader_init : FnScope N_SignReader_init ["self", "signs"] (defScope s_SignReader_init) := ⟨rfl, rfl, rfl, by decide +kernel, rfl, by decide +kernel, by decide +kernel⟩
abbrev N_SignReader_sign : List Str := ["self", "entry"]
theorem sc_SignReader_sign : FnScope N_SignReader_sign ["self"] (defScope s_SignReader_sign) := ⟨rfl, rfl, rfl, by decide +kernel, rfl, by decide +kernel, by decide +kernel⟩
abbrev N_SignReader_skip : List Str := ["self"]
theorem sc_SignReader_skip : FnScope N_SignReader_skip ["self"] (defScope s_SignReader_skip) := ⟨rfl, rfl, rfl, by decide +kernel, rfl, by decide +kernel, by decide +kernel⟩
abbrev N_SignReader_sees : List Str := ["self", "kind", "value", "entry"]
theorem sc_SignReader_sees : FnScope N_SignReader_sees ["self", "kind", "value"] (defScope s_SignReader_sees) := ⟨rfl, rfl, rfl, by decide +kernel, rfl, by decide +kernel, by decide +kernel⟩
abbrev N_SignReader_demand : List Str := ["self", "kind", "entry"]
theorem sc_SignReader_demand : FnScope N_SignReader_demand ["self", "kind"] (defScope s_SignReader_demand) := ⟨rfl, rfl, rfl, by decide +kernel, rfl, by decide +kernel, by decide +kernel⟩
abbrev N_SignReader_take : List Str := ["self", "kind", "value"]
theorem sc_SignReader_take : FnScope N_SignReader_take ["self", "kind", "value"] (defScope s_SignReader_take) := ⟨rfl, rfl, rfl, by decide +kernel, rfl, by decide +kernel, by decide +kernel⟩
abbrev N_SignReader_take_number : List Str := ["self", "least", "number"]
theorem sc_SignReader_take_number : FnScope N_SignReader_take_number ["self", "least"] (defScope s_SignReader_take_number) := ⟨rfl, rfl, rfl, by decide +kernel, rfl, by decide +kernel, by decide +kernel⟩
abbrev N_SignReader_take_second : List Str := ["self", "first", "number"]
theorem sc_SignReader_take_second : FnScope N_SignReader_take_second ["self", "first"] (defScope s_SignReader_take_second) := ⟨rfl, rfl, rfl, by decide +kernel, rfl, by decide +kernel, by decide +kernel⟩
abbrev N_SignReader_look_word : List Str := ["self", "text"]
theorem sc_SignReader_look_word : FnScope N_SignReader_look_word ["self"] (defScope s_SignReader_look_word) := ⟨rfl, rfl, rfl, by decide +kernel, rfl, by decide +kernel, by decide +kernel⟩
abbrev N_read_sources : List Str := ["reader", "names", "sources", "more", "name"]
theorem sc_read_sources : FnScope N_read_sources ["reader"] (defScope s_read_sources) := ⟨rfl, rfl, rfl, by decide +kernel, rfl, by decide +kernel, by decide +kernel⟩
abbrev N_read_changes : List Str := ["reader", "chars", "changes", "char", "text"]
theorem sc_read_changes : FnScope N_read_changes ["reader"] (defScope s_read_changes) := ⟨rfl, rfl, rfl, by decide +kernel, rfl, by decide +kernel, by decide +kernel⟩
abbrev N_read_banned : List Str := ["reader", "banned", "more"]
theorem sc_read_banned : FnScope N_read_banned ["reader"] (defScope s_read_banned) := ⟨rfl, rfl, rfl, by decide +kernel, rfl, by decide +kernel, by decide +kernel⟩
abbrev N_read_lines : List Str := ["reader", "least", "common"]
theorem sc_read_lines : FnScope N_read_lines ["reader"] (defScope s_read_lines) := ⟨rfl, rfl, rfl, by decide +kernel, rfl, by decide +kernel, by decide +kernel⟩
abbrev N_read_hidden : List Str := ["reader", "hidden"]
theorem sc_read_hidden : FnScope N_read_hidden ["reader"] (defScope s_read_hidden) := ⟨rfl, rfl, rfl, by decide +kernel, rfl, by decide +kernel, by decide +kernel⟩
abbrev N_read_mark : List Str := ["reader", "hidden", "mark"]
theorem sc_read_mark : FnScope N_read_mark ["reader", "hidden"] (defScope s_read_mark) := ⟨rfl, rfl, rfl, by decide +kernel, rfl, by decide +kernel, by decide +kernel⟩
abbrev N_read_shares : List Str := ["reader", "shares", "shape", "over"]
theorem sc_read_shares : FnScope N_read_shares ["reader"] (defScope s_read_shares) := ⟨rfl, rfl, rfl, by decide +kernel, rfl, by decide +kernel, by decide +kernel⟩
abbrev N_read_alike : List Str := ["reader", "rules"]
theorem sc_read_alike : FnScope N_read_alike ["reader", "rules"] (defScope s_read_alike) := ⟨rfl, rfl, rfl, by decide +kernel, rfl, by decide +kernel, by decide +kernel⟩
abbrev N_read_count : List Str := ["reader", "words", "least", "word", "number"]
theorem sc_read_count : FnScope N_read_count ["reader", "words", "least"] (defScope s_read_count) := ⟨rfl, rfl, rfl, by decide +kernel, rfl, by decide +kernel, by decide +kernel⟩
abbrev N_parse_rules : List Str := ["text", "reader", "rules"]
theorem sc_parse_rules : FnScope N_parse_rules ["text"] (defScope s_parse_rules) := ⟨rfl, rfl, rfl, by decide +kernel, rfl, by decide +kernel, by decide +kernel⟩
abbrev N_make_join : List Str := ["codes", "pair", "code", "first", "second", "row", "at"]
theorem sc_make_join : FnScope N_make_join ["codes", "pair", "code"] (defScope s_make_join) := ⟨rfl, rfl, rfl, by decide +kernel, rfl, by decide +kernel, by decide +kernel⟩
abbrev N_word_codes : List Str := ["joins", "word", "codes", "index", "char"]
theorem sc_word_codes : FnScope N_word_codes ["joins", "word"] (defScope s_word_codes) := ⟨rfl, rfl, rfl, by decide +kernel, rfl, by decide +kernel, by decide +kernel⟩
abbrev N_add_gains : List Str := ["codes", "gains", "last", "at", "pair"]
theorem sc_add_gains : FnScope N_add_gains ["codes", "gains"] (defScope s_add_gains) := ⟨rfl, rfl, rfl, by decide +kernel, rfl, by decide +kernel, by decide +kernel⟩
abbrev N_best_in : List Str := ["lists", "gains", "codes", "best", "pair"]
theorem sc_best_in : FnScope N_best_in ["lists"] (defScope s_best_in) := ⟨rfl, rfl, rfl, by decide +kernel, rfl, by decide +kernel, by decide +kernel⟩
abbrev N_learn_joins : List Str := ["count", "words", "lists", "joins", "best", "code", "word", "codes"]
theorem sc_learn_joins : FnScope N_learn_joins ["count", "words"] (defScope s_learn_joins) := ⟨rfl, rfl, rfl, by decide +kernel, rfl, by decide +kernel, by decide +kernel⟩
abbrev N_phrase_table : List Str := ["length", "texts", "table", "text", "words", "phrase"]
theorem sc_phrase_table : FnScope N_phrase_table ["length", "texts"] (defScope s_phrase_table) := ⟨rfl, rfl, rfl, by decide +kernel, rfl, by decide +kernel, by decide +kernel⟩
abbrev N_standing_places : List Str := ["length", "texts", "words", "table", "place"]
theorem sc_standing_places : FnScope N_standing_places ["length", "texts", "words"] (defScope s_standing_places) := ⟨rfl, rfl, rfl, by decide +kernel, rfl, by decide +kernel, by decide +kernel⟩
abbrev N_covered_places : List Str := ["length", "texts", "words", "covered", "end", "place", "index"]
theorem sc_covered_places : FnScope N_covered_places ["length", "texts", "words"] (defScope s_covered_places) := ⟨rfl, rfl, rfl, by decide +kernel, rfl, by decide +kernel, by decide +kernel⟩
abbrev N_uncovered_pieces : List Str := ["length", "texts", "words", "pieces", "start", "place"]
theorem sc_uncovered_pieces : FnScope N_uncovered_pieces ["length", "texts", "words"] (defScope s_uncovered_pieces) := ⟨rfl, rfl, rfl, by decide +kernel, rfl, by decide +kernel, by decide +kernel⟩
abbrev N_Contents_init : List Str := ["self", "rules_text", "documents", "exams", "rules"]
theorem sc_Contents_init : FnScope N_Contents_init ["self", "rules_text", "documents", "exams", "rules"] (defScope s_Contents_init) := ⟨rfl, rfl, rfl, by decide +kernel, rfl, by decide +kernel, by decide +kernel⟩
abbrev N_Corpus_init : List Str := ["self", "cleaned", "phrases", "pieces", "left", "kept_for", "published"]
theorem sc_Corpus_init : FnScope N_Corpus_init ["self", "cleaned", "phrases", "pieces", "left", "kept_for", "published"] (defScope s_Corpus_init) := ⟨rfl, rfl, rfl, by decide +kernel, rfl, by decide +kernel, by decide +kernel⟩
abbrev N_exam_lists : List Str := ["contents", "text"]
theorem sc_exam_lists : FnScope N_exam_lists ["contents"] (defScope s_exam_lists) := ⟨rfl, rfl, rfl, by decide +kernel, rfl, by decide +kernel, by decide +kernel⟩
abbrev N_all_phrases : List Str := ["length", "texts", "rows", "words", "start"]
theorem sc_all_phrases : FnScope N_all_phrases ["length", "texts"] (defScope s_all_phrases) := ⟨rfl, rfl, rfl, by decide +kernel, rfl, by decide +kernel, by decide +kernel⟩
abbrev N_cleaned_rows : List Str := ["contents", "texts", "rows", "results", "index", "reason", "_", "placed", "words", "text", "word"]
theorem sc_cleaned_rows : FnScope N_cleaned_rows ["contents"] (defScope s_cleaned_rows) := ⟨rfl, rfl, rfl, by decide +kernel, rfl, by decide +kernel, by decide +kernel⟩
abbrev N_long_pieces : List Str := ["pieces", "least", "place", "words"]
theorem sc_long_pieces : FnScope N_long_pieces ["pieces", "least"] (defScope s_long_pieces) := ⟨rfl, rfl, rfl, by decide +kernel, rfl, by decide +kernel, by decide +kernel⟩
abbrev N_left_over : List Str := ["pieces", "least", "rows", "number", "parts", "kept", "_", "words"]
theorem sc_left_over : FnScope N_left_over ["pieces", "least"] (defScope s_left_over) := ⟨rfl, rfl, rfl, by decide +kernel, rfl, by decide +kernel, by decide +kernel⟩
abbrev N_published_rows : List Str := ["contents", "pieces", "kept", "sources", "rows", "number", "parts", "place", "words", "source", "_"]
theorem sc_published_rows : FnScope N_published_rows ["contents", "pieces", "kept"] (defScope s_published_rows) := ⟨rfl, rfl, rfl, by decide +kernel, rfl, by decide +kernel, by decide +kernel⟩
abbrev N_stream : List Str := ["corpus", "source", "codes", "_", "origin", "words", "word"]
theorem sc_stream : FnScope N_stream ["corpus", "source"] (defScope s_stream) := ⟨rfl, rfl, rfl, by decide +kernel, rfl, by decide +kernel, by decide +kernel⟩
abbrev N_published_words : List Str := ["corpus", "row", "word"]
theorem sc_published_words : FnScope N_published_words ["corpus"] (defScope s_published_words) := ⟨rfl, rfl, rfl, by decide +kernel, rfl, by decide +kernel, by decide +kernel⟩
abbrev N_add_pages : List Str := ["contents", "corpus", "rules", "weights", "streams", "counts", "_", "weight", "source", "codes"]
theorem sc_add_pages : FnScope N_add_pages ["contents", "corpus"] (defScope s_add_pages) := ⟨rfl, rfl, rfl, by decide +kernel, rfl, by decide +kernel, by decide +kernel⟩
abbrev N_make_corpus : List Str := ["contents", "rules", "texts", "cleaned", "pieces", "number", "reason", "words", "left", "kept", "kept_for", "published", "phrases", "corpus", "_"]
theorem sc_make_corpus : FnScope N_make_corpus ["contents"] (defScope s_make_corpus) := ⟨rfl, rfl, rfl, by decide +kernel, rfl, by decide +kernel, by decide +kernel⟩
abbrev N_law_cell : List Str := ["_law_script", "_law_k"]
theorem sc_law_cell : FnScope N_law_cell ["_law_script", "_law_k"] (defScope s_law_cell) := ⟨rfl, rfl, rfl, by decide +kernel, rfl, by decide +kernel, by decide +kernel⟩
abbrev N_law_digits : List Str := ["_law_cell_here", "_law_k", "_law_most", "_law_digits_here", "_law_turn", "_law_seed"]
theorem sc_law_digits : FnScope N_law_digits ["_law_cell_here", "_law_k", "_law_most"] (defScope s_law_digits) := ⟨rfl, rfl, rfl, by decide +kernel, rfl, by decide +kernel, by decide +kernel⟩
abbrev N_law_word : List Str := ["_law_rest", "_law_signs", "_law_word_here", "_law_size", "_law_k"]
theorem sc_law_word : FnScope N_law_word ["_law_rest"] (defScope s_law_word) := ⟨rfl, rfl, rfl, by decide +kernel, rfl, by decide +kernel, by decide +kernel⟩
abbrev N_law_name : List Str := ["_law_cell_here", "_law_k", "_law_letters"]
theorem sc_law_name : FnScope N_law_name ["_law_cell_here", "_law_k"] (defScope s_law_name) := ⟨rfl, rfl, rfl, by decide +kernel, rfl, by decide +kernel, by decide +kernel⟩
abbrev N_law_text : List Str := ["_law_cell_here", "_law_k", "_law_most", "_law_text_here", "_law_digit"]
theorem sc_law_text : FnScope N_law_text ["_law_cell_here", "_law_k", "_law_most"] (defScope s_law_text) := ⟨rfl, rfl, rfl, by decide +kernel, rfl, by decide +kernel, by decide +kernel⟩
abbrev N_law_documents : List Str := ["_law_script", "_law_sources", "_law_documents_here", "_law_number", "_law_k", "_law_cell_here", "_law_text_here"]
theorem sc_law_documents : FnScope N_law_documents ["_law_script", "_law_sources"] (defScope s_law_documents) := ⟨rfl, rfl, rfl, by decide +kernel, rfl, by decide +kernel, by decide +kernel⟩
abbrev N_law_exams : List Str := ["_law_script", "_law_exams_here", "_law_k"]
theorem sc_law_exams : FnScope N_law_exams ["_law_script"] (defScope s_law_exams) := ⟨rfl, rfl, rfl, by decide +kernel, rfl, by decide +kernel, by decide +kernel⟩
abbrev N_law_plain : List Str := ["_law_script", "_law_first", "_law_d", "_law_k", "_law_weights", "_law_names", "_law_least", "_law_numbers", "_law_text_here"]
theorem sc_law_plain : FnScope N_law_plain ["_law_script", "_law_first"] (defScope s_law_plain) := ⟨rfl, rfl, rfl, by decide +kernel, rfl, by decide +kernel, by decide +kernel⟩
abbrev N_law_phase : List Str := ["_law_weights", "_law_left", "_law_phase_here", "_law_total", "_law_k", "_law_placed", "_law_turn"]
theorem sc_law_phase : FnScope N_law_phase ["_law_weights", "_law_left", "_law_phase_here"] (defScope s_law_phase) := ⟨rfl, rfl, rfl, by decide +kernel, rfl, by decide +kernel, by decide +kernel⟩
abbrev N_law : List Str := ["_law_script", "_law_rules", "_law_documents_here", "_law_exams_here", "_law_numbers", "_law_corpus", "_law_left", "_law_order", "_law_page", "_law_flat", "_law_phase_here", "_law_source"]
theorem sc_law : FnScope N_law ["_law_script"] (defScope s_law) := ⟨rfl, rfl, rfl, by decide +kernel, rfl, by decide +kernel, by decide +kernel⟩
end Ck

namespace Ck
open PySem PySem.Spec PyProof.Rows L2
abbrev Rw : PySem.W.OpenRow := PySem.W.OpenLaw.row PySem.Challenge.rw_corpuskeep_k60_corpora_whole_shares_of_p

/-! facts by names, read off a part of the heap that is forced ahead of the looks -/
def frA {α : Type} (l : List Addr) (k : List Addr → α) : α := match l with
  | [] => k []
  | a :: r => HandSHeadRun.frNat a fun a => frA r fun r => k (a :: r)
theorem frA_eq {α : Type} : ∀ (l : List Addr) (k : List Addr → α), frA l k = k l
  | [], _ => rfl
  | a :: r, k => by
    show HandSHeadRun.frNat a (fun a => frA r fun r => k (a :: r)) = _
    rw [HandSHeadRun.frNat_eq, frA_eq r]
def frK {α : Type} (l : PySem.W.Frag) (k : PySem.W.Frag → α) : α := match l with
  | [] => k []
  | (a, ⟨c, d, dt, sl⟩) :: r => HandSHeadRun.frNat a fun a => frK r fun r => k ((a, ⟨c, d, dt, sl⟩) :: r)
theorem frK_eq {α : Type} : ∀ (l : PySem.W.Frag) (k : PySem.W.Frag → α), frK l k = k l
  | [], _ => rfl
  | (a, ⟨c, d, dt, sl⟩) :: r, k => by
    show HandSHeadRun.frNat a (fun a => frK r fun r => k ((a, ⟨c, d, dt, sl⟩) :: r)) = _
    rw [HandSHeadRun.frNat_eq, frK_eq r]
def stepA (g : Addr → Option Obj) (fr : List Addr) : List Addr := fr.flatMap fun a => match g a with
  | some o => He.refsD o
  | none => []
def asF (g : Addr → Option Obj) : Nat → List Addr → List Addr
  | 0, fr => fr
  | n + 1, fr => frA fr fun fr => fr ++ asF g n (stepA g fr)
abbrev AlC : Type := He.AlD × Bool
def obsC (g : Addr → Option Obj) : AlC := frA (asF g 4 [mainGlobals]) fun as => frK (He.frG g as) fun K => (He.obsD fa fn K, exB K)
def valC : AlC := (He.valD fn, true)
def hk : PySem.W.Hook where
  α := AlC
  obs := fun s => obsC s.heap.get?
  val := fun _ => valC
  says := fun _ h => ∃ K : PySem.W.Frag, K.In h ∧ Says K
  of := fun _ s e => by
    have e2 : obsC s.heap.get? = valC := e
    unfold obsC at e2
    rw [frA_eq, frK_eq] at e2
    exact ⟨_, He.frG_in, ⟨congrArg (fun z : AlC => z.1) e2, congrArg (fun z : AlC => z.2) e2⟩⟩
  keeps := fun _ _ _ ⟨K, hK, c⟩ k => ⟨K, PySem.W.Frag.In.keeps hK k, c⟩
def ob (s : PySem.W.SharedT) : AlC := obsC (HandSHeadRun.getT s)
theorem ob_eq (s : PySem.W.SharedT) : ob s = hk.obs s.abs := by
  have e : HandSHeadRun.getT s = s.abs.heap.get? := funext (HandSHeadRun.getT_eq s)
  show obsC (HandSHeadRun.getT s) = obsC s.abs.heap.get?
  rw [e]
def loose0 : List PySem.Str := ["shingles", "compare", "meeting_pairs", "alike_pairs", "kept_ids", "LETTERS", "DIGITS", "SYMBOLS", "NAME_MOST", "is_letter", "is_digit", "is_blank", "is_word", "place_of", "_name_at"]
def loose1 : List PySem.Str := ["_number_at", "_quoted_at", "_sign_at", "read_signs", "is_of_kind", "_run_length", "_ends", "has_shape", "has_any_shape", "change_text", "split_lines", "_shown", "hide_words", "text_lines", "exam_words"]
def loose2 : List PySem.Str := ["count_lines", "_first_banned", "_line_fate", "line_fates", "left_words", "drop_reason", "_plain_lines", "clean_documents", "due", "_total", "_next_source", "_first_phase", "phases", "fill", "deal"]
def loose3 : List PySem.Str := ["CorpusError", "RulesFault", "Rules", "RESERVED", "KINDS", "UNEXPECTED", "SignReader", "_read_sources", "_read_changes", "_read_banned", "_read_lines", "_read_kind", "_read_element", "_read_shape", "_read_hidden"]
def loose4 : List PySem.Str := ["_read_mark", "_read_shares", "_read_alike", "_read_count", "parse_rules", "END", "SPACE", "FIRST_JOIN", "make_join", "word_codes", "_add_gains", "_best_in", "learn_joins", "_phrase_table", "standing_places"]
def loose5 : List PySem.Str := ["covered_places", "uncovered_pieces", "Contents", "Corpus", "exam_lists", "all_phrases", "cleaned_rows", "long_pieces", "left_over", "published_rows", "stream", "published_words", "_add_pages", "make_corpus", "_law_cell"]
def loose6 : List PySem.Str := ["_law_digits", "_law_word", "_law_name", "_law_text", "_law_documents", "_law_exams", "_law_plain", "_law_phase"]
def loose : List PySem.Str := loose0 ++ loose1 ++ loose2 ++ loose3 ++ loose4 ++ loose5 ++ loose6
set_option maxHeartbeats 0 in
theorem run (w : World) : HandSHeadRun.RunEq Rw (PySem.W.view Rw.prog [115]) hk ob 6000 loose w := by
  intro os
  kernel_rfl
/-- the law holds, if law keeps its promise over what the top has left -/
abbrev Left (k : Nat) (sp : PySem.W.Frag → Sp) : Prop := ∀ (w : World) (K : PySem.W.Frag) (hp : Heap) (mg : Str → Option Value) (fa : Addr), K.In hp → Says K → hp.Ns mainGlobals mg → mg ("law" : Str) = some (.ref fa) →
  ∃ fd : FuncData, (∀ (s : Shared) (v : Value), BindsTo s fd ⟨[v], []⟩ [("_law_script", v)]) ∧ ∀ base : Heap, K.In base → base.Ns mainGlobals mg → FnOk (PySem.Challenge.rw_corpuskeep_k60_corpora_whole_shares_of_p).prog w K mg base CX0 k fa fd ["_law_script"] (sp K)
end Ck
namespace Ck
open PySem PySem.W PySem.Calls PyProof.Rows
set_option maxHeartbeats 0 in
theorem holds_of {k : Nat} {sp : PySem.W.Frag → L2.Sp} (hk : L2.Room k PySem.callerA) (hL : Left k sp)
    (hsp : ∀ (K : PySem.W.Frag) (H : L2.Hp) (a : Addr) (ns : List Int), L2.SqL K H a (ns.map L2.V.int) → sp K [.ref a] H (fun v _ => v = .bl true) fun _ _ _ => False) : PySem.Challenge.rw_corpuskeep_k60_corpora_whole_shares_of_p.Holds := by
  w_on; o_law
  refine HandSHeadRun.head_any (r := OpenLaw.row PySem.Challenge.rw_corpuskeep_k60_corpora_whole_shares_of_p) (q := view (OpenLaw.row PySem.Challenge.rw_corpuskeep_k60_corpora_whole_shares_of_p).prog [115]) (H := Ck.hk) (ob := Ck.ob) (M := 6000) (loose := Ck.loose) (d := HandSHeadRun.topDef (OpenLaw.row PySem.Challenge.rw_corpuskeep_k60_corpora_whole_shares_of_p).prog 115) (kwd := [])
    Ck.ob_eq (by kernel_rfl) (fun s => by kernel_rfl) Ck.run (by kernel_rfl) (by kernel_rfl) (by kernel_rfl) (by rfl) (by first | assumption | decide +kernel) (by decide +kernel) ⟨rfl, rfl, rfl, rfl, rfl, by decide +kernel⟩ ?hw ?hc
  case hw => w_witness2
  case hc =>
    refine L2.walk_ofE (l := PySem.Challenge.rw_corpuskeep_k60_corpora_whole_shares_of_p) (n := 63) (k := k) (x := "_law_script") (CX := L2.CX0) rfl (by decide) (by kernel_rfl) hk ?F (fun _ _ _ _ z => z)
    intro w mg fa hp Y G hm0
    obtain ⟨K, KX, c⟩ := Y
    have hm : mg ("law" : PySem.Str) = some (.ref fa) := by
      have en : (HandSHeadRun.topDef (OpenLaw.row PySem.Challenge.rw_corpuskeep_k60_corpora_whole_shares_of_p).prog 115).name = ("law" : PySem.Str) := by kernel_rfl
      rw [← en]
      exact hm0
    obtain ⟨fd, hb, hF⟩ := hL w K hp mg fa KX c G hm
    exact ⟨K, fd, sp K, KX, hb, fun H a ns _ _ hS => hsp K H a ns hS, hF⟩
end Ck

/-! ### readings, step by step -/
namespace Ck
open PySem PySem.Spec L2
section
variable {σ : L2.St} {H : Hp} {Q : VK} {te ta tb : TE} {D : Ends} {g : TG} {t u : TS} {K : PySem.W.Frag}
theorem r_seq (h : t { D with nx := u D } σ H) : tSeq t u D σ H := h
theorem r_next (h : D.nx σ H) : tNext D σ H := h
theorem r_asgN {i : Nat} (h : te σ H fun x H1 => D.nx (σ.set i (some x)) H1) : tAsg te (gName i) D σ H := h
theorem r_asg (h : te σ H fun x H1 => g x σ H1 D.nx) : tAsg te g D σ H := h
theorem r_drop (h : te σ H fun _ H1 => D.nx σ H1) : tDrop te D σ H := h
theorem r_ret (h : te σ H D.rt) : tRet te D σ H := h
theorem r_retN (h : D.rt .non H) : tRetN D σ H := h
theorem r_if {c : TT} (h : c σ H fun b H1 => if b = true then t D σ H1 else u D σ H1) : tIfS c t u D σ H := h
theorem r_var {i : Nat} {v : V} (e : σ[i]? = some (some v)) (h : Q v H) : tVar i σ H Q := ⟨v, e, h⟩
theorem r_c {v : V} (h : Q v H) : tC v σ H Q := h
theorem r_op {r : R2} (h : ta σ H fun x H1 => tb σ H1 fun y H2 => r x y H2 Q) : tOp r ta tb σ H Q := h
theorem r_un {r : V → Hp → VK → Prop} (h : ta σ H fun x H1 => r x H1 Q) : tUn r ta σ H Q := h
theorem r_I0 {g : Int → Int → V} {i j : Int} (h : Q (g i j) H) : L2.rI0 g (.int i) (.int j) H Q := ⟨i, j, rfl, rfl, h⟩
theorem r_I {C : Int → Int → Prop} {g : Int → Int → V} {i j : Int} (c : C i j) (h : Q (g i j) H) : L2.rI C g (.int i) (.int j) H Q := ⟨i, j, rfl, rfl, c, h⟩
theorem r_U {g : Int → V} {i : Int} (h : Q (g i) H) : rU g (.int i) H Q := ⟨i, rfl, h⟩
theorem r_eqI {i j : Int} (h : Q (.bl (decide (i = j))) H) : rEq (.int i) (.int j) H Q := ⟨rfl, by
  have e : decide (V.int i = V.int j) = decide (i = j) := by rw [dec_int]; exact Bool.beq_eq_decide_eq i j
  rw [e]; exact h⟩
theorem r_neI {i j : Int} (h : Q (.bl (!decide (i = j))) H) : rNe (.int i) (.int j) H Q := ⟨rfl, by
  have e : decide (V.int i = V.int j) = decide (i = j) := by rw [dec_int]; exact Bool.beq_eq_decide_eq i j
  rw [e]; exact h⟩
theorem r_eqS {i j : Str} (h : Q (.bl (decide (i = j))) H) : rEq (.str i) (.str j) H Q := ⟨rfl, by
  have e : decide (V.str i = V.str j) = decide (i = j) := by rw [dec_str]; exact Bool.beq_eq_decide_eq i j
  rw [e]; exact h⟩
theorem r_neS {i j : Str} (h : Q (.bl (!decide (i = j))) H) : rNe (.str i) (.str j) H Q := ⟨rfl, by
  have e : decide (V.str i = V.str j) = decide (i = j) := by rw [dec_str]; exact Bool.beq_eq_decide_eq i j
  rw [e]; exact h⟩
theorem r_neB {i j : Bool} (h : Q (.bl (!decide (i = j))) H) : rNe (.bl i) (.bl j) H Q := ⟨rfl, by
  have e : decide (V.bl i = V.bl j) = decide (i = j) := by rw [dec_bl]; exact Bool.beq_eq_decide_eq i j
  rw [e]; exact h⟩
theorem r_test {Q : Bool → Hp → Prop} (h : te σ H fun x H' => ∃ k, x = .bl k ∧ Q k H') : tTest te σ H Q := h
theorem r_tB {Q : Bool → Hp → Prop} (h : te σ H fun x H' => ∃ k, x = .bl k ∧ Q k H') : tB te σ H Q := h
theorem r_and {a b : TT} {Q : Bool → Hp → Prop} (h : a σ H fun c H1 => if c = true then b σ H1 Q else Q false H1) : tAnd a b σ H Q := h
theorem r_or {a b : TT} {Q : Bool → Hp → Prop} (h : a σ H fun c H1 => if c = true then Q true H1 else b σ H1 Q) : tOr a b σ H Q := h
theorem r_not {a : TT} {Q : Bool → Hp → Prop} (h : a σ H fun c H1 => Q (!c) H1) : tNot a σ H Q := h
theorem r_andV (h : ta σ H fun x H1 => ∃ c, x = .bl c ∧ if c = true then tb σ H1 Q else Q (.bl false) H1) : tAndV ta tb σ H Q := h
theorem r_orV (h : ta σ H fun x H1 => ∃ c, x = .bl c ∧ if c = true then Q (.bl true) H1 else tb σ H1 Q) : tOrV ta tb σ H Q := h
theorem r_yes {Q : Bool → Hp → Prop} (h : Q true H) : tYes σ H Q := h
theorem r_nil {Q : List V → Hp → Prop} (h : Q [] H) : tNil σ H Q := h
theorem r_cons {tr : TA} {Q : List V → Hp → Prop} (h : ta σ H fun x H1 => tr σ H1 fun xs H2 => Q (x :: xs) H2) : tCons ta tr σ H Q := h
theorem r_call {sp : Sp} {dvs : List V} {E : XK} {t : TA} (h : t σ H fun vs H1 => sp (vs ++ dvs) H1 Q E) : tCall sp dvs E t σ H Q := h
theorem r_CB {r : List V → Hp → VK → Prop} {t : TA} (h : t σ H fun vs H1 => r vs H1 Q) : tCB r t σ H Q := h
theorem r_gN {i : Nat} {v : V} {Q : L2.St → Hp → Prop} (h : Q (σ.set i (some v)) H) : gName i v σ H Q := h
theorem r_aug {i : Nat} {v : V} {ti : TIp} (e : σ[i]? = some (some v)) (h : te σ H fun y H1 => ti v y H1 fun z H2 => D.nx (σ.set i (some z)) H2) : tAug i te ti D σ H := ⟨v, e, h⟩
theorem r_ip {f : Int → Int → Int} {i j : Int} (h : Q (.int (f i j)) H) : ipI f (.int i) (.int j) H Q := ⟨i, j, rfl, rfl, h⟩
theorem n_al {Q : VK} {o : HO} (h : ∀ p H', New H p o H' → Q (.ref p) H') : ∀ p, H p = none → Q (.ref p) (upd H p o) := fun p n => h p _ ⟨n, rfl⟩
theorem mono_ta {t : TA} {P P' : List V → Hp → Prop} (e : P = P') (h : t σ H P) : t σ H P' := e ▸ h
theorem al_eq {Q : VK} {o : HO} : (∀ p H', New H p o H' → Q (.ref p) H') = (∀ p, H p = none → Q (.ref p) (upd H p o)) :=
  propext ⟨fun h p n => h p _ ⟨n, rfl⟩, fun h p H' n => by obtain ⟨n, rfl⟩ := n; exact h p n⟩
theorem r_tup {t : TA} (h : t σ H fun xs H1 => xs.length ≤ sizeLine ∧ ∀ p H', New H1 p (.tup xs) H' → Q (.ref p) H') : tTup t σ H Q :=
  mono_ta (funext fun xs => funext fun H1 => by rw [al_eq]) h
theorem r_lst {t : TA} (h : t σ H fun xs H1 => xs.length ≤ sizeLine ∧ ∀ p H', New H1 p (.lst xs) H' → Q (.ref p) H') : tLst t σ H Q :=
  mono_ta (funext fun xs => funext fun H1 => by rw [al_eq]) h
theorem r_fld {f : Str} (h : ta σ H fun x H1 => ∃ a C dx fs v, x = .ref a ∧ H1 a = some (.ins C dx fs) ∧ Cls K C ∧ NoAttr K C f ∧ fs.lookup f = some v ∧ Q v H1) : tFld K ta f σ H Q := h
theorem r_BM {T : String} {r : V → List V → Hp → VK → Prop} {t : TA} (h : ta σ H fun x H1 => tyV K T x H1 ∧ t σ H1 fun xs H2 => r x xs H2 Q) : tBM K T r ta t σ H Q := h
theorem r_for {wi : TI} {tb : TS} (h : wi σ H fun J H1 => ∃ W : Nat → Nat → L2.St → Hp → Prop, (∃ m, W 0 m σ H1) ∧ ∀ i m σ H, W i m σ H →
      (J.stop i H ∧ D.nx σ H) ∨ (J.go i H ∧ ∃ N : L2.St → Hp → Prop, (∀ σ' H', N σ' H' → ∃ m', m' < m ∧ W (i + 1) m' σ' H') ∧ ∀ x H', J.yld i H x H' → g x σ H' fun σ2 H2 => tb { D with nx := N, ct := N, bk := D.nx } σ2 H2)) : tFor wi g tb D σ H := h
theorem r_iL {tl : TE} {R : It → Hp → Prop} (h : tl σ H fun x H1 => ∃ a, x = .ref a ∧ (∃ xs, SqL K H1 a xs) ∧ R (Itl K a) H1) : iList K tl σ H R := h
theorem r_iR1 {ta : TA} {R : It → Hp → Prop} (h : ta σ H fun vs H1 => ∃ j : Int, vs = [.int j] ∧ -(2 ^ 62) ≤ j ∧ j < 2 ^ 62 ∧ R (Itr 0 j.toNat) H1) : iRng1 ta σ H R := h
theorem r_iR2 {ta : TA} {R : It → Hp → Prop} (h : ta σ H fun vs H1 => ∃ i j : Int, vs = [.int i, .int j] ∧ (-(2 ^ 62) ≤ i ∧ i < 2 ^ 62 ∧ -(2 ^ 62) ≤ j ∧ j < 2 ^ 62) ∧ R (Itr i (j - i).toNat) H1) : iRng2 ta σ H R := h
theorem r_iS {R : It → Hp → Prop} (h : te σ H fun v H1 => ∃ x, v = .str x ∧ R (Its x) H1) : iStr te σ H R := h
theorem r_sl {r : V → Option Int → Option Int → Hp → VK → Prop} {tl th : TO} (h : te σ H fun x H1 => tl σ H1 fun l H2 => th σ H2 fun u H3 => r x l u H3 Q) : tSl r te tl th σ H Q := h
theorem r_po0 {Q : Option Int → Hp → Prop} (h : Q none H) : tNoPart σ H Q := h
theorem r_po1 {Q : Option Int → Hp → Prop} (h : te σ H fun x H1 => ∃ i, x = .int i ∧ Q (some i) H1) : tPart te σ H Q := h
theorem r_augS {to ti : TE} {tget : V → V → Hp → VK → Prop} {tip : TIp} {tset : TSet} (h : to σ H fun o H1 => ti σ H1 fun i H2 => tget o i H2 fun x H3 => te σ H3 fun y H4 => tip x y H4 fun z H5 => tset o i z H5 fun H6 => D.nx σ H6) : tAugS to ti te tget tip tset D σ H := h
/-! the places where values are known -/
theorem x_b {P : Bool → Prop} {b : Bool} (h : P b) : ∃ k, V.bl b = .bl k ∧ P k := ⟨b, rfl, h⟩
theorem x_i {P : Int → Prop} {i : Int} (h : P i) : ∃ k, V.int i = .int k ∧ P k := ⟨i, rfl, h⟩
theorem x_s {P : Str → Prop} {i : Str} (h : P i) : ∃ k, V.str i = .str k ∧ P k := ⟨i, rfl, h⟩
theorem x_ii {P : Int → Int → Prop} {i j : Int} (h : P i j) : ∃ a b, V.int i = .int a ∧ V.int j = .int b ∧ P a b := ⟨i, j, rfl, rfl, h⟩
theorem x_ss {P : Str → Str → Prop} {i j : Str} (h : P i j) : ∃ a b, V.str i = .str a ∧ V.str j = .str b ∧ P a b := ⟨i, j, rfl, rfl, h⟩
theorem x_li {P : Int → Prop} {i : Int} (h : P i) : ∃ k, [V.int i] = [.int k] ∧ P k := ⟨i, rfl, h⟩
theorem x_ls {P : Str → Prop} {i : Str} (h : P i) : ∃ k, [V.str i] = [.str k] ∧ P k := ⟨i, rfl, h⟩
theorem x_lii {P : Int → Int → Prop} {i j : Int} (h : P i j) : ∃ a b, [V.int i, V.int j] = [.int a, .int b] ∧ P a b := ⟨i, j, rfl, h⟩
theorem x_t {A B : Prop} (h : A) : if true = true then A else B := by rw [if_pos rfl]; exact h
theorem x_f {A B : Prop} (h : B) : if false = true then A else B := by rw [if_neg Bool.false_ne_true]; exact h
theorem x_d {c A B : Prop} [Decidable c] (h1 : c → A) (h2 : ¬ c → B) : if decide c = true then A else B := by
  by_cases h : c
  · rw [decide_eq_true h]; exact x_t (h1 h)
  · rw [decide_eq_false h]; exact x_f (h2 h)
theorem x_nd {c A B : Prop} [Decidable c] (h1 : c → B) (h2 : ¬ c → A) : if (!decide c) = true then A else B := by
  by_cases h : c
  · rw [decide_eq_true h]; exact x_f (h1 h)
  · rw [decide_eq_false h]; exact x_t (h2 h)
theorem x_len {P : List V → Prop} {a : Addr} {xs : List V} (h : H a = some (.lst xs)) (q : P xs) : ∃ p ys, [V.ref a] = [V.ref p] ∧ (SqL K H p ys ∨ SqT K H p ys) ∧ P ys := ⟨a, xs, rfl, Or.inl (SqL.of h), q⟩
theorem x_ixL {a : Addr} {xs : List V} {i : Int} {v : V} (h : H a = some (.lst xs)) (e : atI xs i = some v) (q : Q v H) : rIxL K (.ref a) (.int i) H Q := ⟨a, xs, i, v, rfl, rfl, SqL.of h, e, q⟩
theorem x_ixT {a : Addr} {xs : List V} {i : Int} {v : V} (h : H a = some (.tup xs)) (e : atI xs i = some v) (q : Q v H) : rIxT K (.ref a) (.int i) H Q := ⟨a, xs, i, v, rfl, rfl, SqT.of h, e, q⟩
theorem x_app {l : Addr} {xs : List V} {y : V} (h : H l = some (.lst xs)) (z : xs.length < sizeLine) (q : ∀ H', Chg H l (.lst (xs ++ [y])) H' → Q .non H') : rAppend (.ref l) [y] H Q := ⟨l, xs, y, rfl, rfl, h, z, q _ rfl⟩
theorem x_tyL {l : Addr} {xs : List V} (h : H l = some (.lst xs)) : tyV K "list" (.ref l) H := Or.inl ⟨rfl, _, SqL.of h⟩
theorem x_setL {a : Addr} {xs : List V} {k : Int} {j : Nat} {v : V} {Q : Hp → Prop} (h : H a = some (.lst xs)) (e : ixN xs.length k = some j) (q : ∀ H', Chg H a (.lst (xs.set j v)) H' → Q H') : rSetL (.ref a) (.int k) v H Q := ⟨a, xs, k, j, rfl, rfl, h, e, q _ rfl⟩
theorem x_sum {a : Addr} {ns : List Int} (h : H a = some (.lst (ns.map V.int))) (q : Q (.int ns.sum) H) : rSum K [.ref a] H Q := ⟨a, ns, rfl, SqL.of h, q⟩
theorem x_slL {a : Addr} {xs : List V} {lo hi : Option Int} (h : H a = some (.lst xs)) (q : ∀ p H', New H p (.lst (cutV xs lo hi)) H' → Q (.ref p) H') : rSlL K (.ref a) lo hi H Q := ⟨a, xs, rfl, SqL.of h, n_al q⟩
theorem x_rep {l : Addr} {xs : List V} {k : Int} (h : H l = some (.lst xs)) (k0 : 0 ≤ k) (k1 : k ≤ 16777216) (hx : xs.length = 1) (q : ∀ p H', New H p (.lst (List.replicate k.toNat xs).flatten) H' → Q (.ref p) H') : rRep (.ref l) (.int k) H Q :=
  ⟨l, k, xs, rfl, rfl, h, by omega, by omega, by rw [sizeLine_eq, hx]; omega, n_al q⟩
theorem rep_one {x : V} (n : Nat) : (List.replicate n [x]).flatten = List.replicate n x := by
  induction n with
  | zero => rfl
  | succ n ih => rw [List.replicate_succ, List.flatten_cons, ih, List.replicate_succ]; rfl
theorem x_cat {l b : Addr} {xs ys : List V} (h1 : H l = some (.lst xs)) (h2 : H b = some (.lst ys)) (z : xs.length + ys.length ≤ sizeLine) (q : ∀ p H', New H p (.lst (xs ++ ys)) H' → Q (.ref p) H') : rCat (.ref l) (.ref b) H Q :=
  ⟨l, b, xs, ys, rfl, rfl, h1, h2, z, n_al q⟩
theorem x_lt {x : Nat} (h : x ≤ 1000) : x ≤ sizeLine := by rw [sizeLine_eq]; omega
def rListOf (K : PySem.W.Frag) : List V → Hp → VK → Prop := fun xs H Q => ∃ p ys, xs = [.ref p] ∧ (SqL K H p ys ∨ SqT K H p ys) ∧ ∀ l, H l = none → Q (.ref l) (upd H l (.lst ys))
theorem x_listof {a : Addr} {xs : List V} (h : H a = some (.lst xs)) (q : ∀ p H', New H p (.lst xs) H' → Q (.ref p) H') : rListOf K [.ref a] H Q := ⟨a, xs, rfl, Or.inl (SqL.of h), n_al q⟩
def rTupOf (K : PySem.W.Frag) : List V → Hp → VK → Prop := fun xs H Q => ∃ p ys, xs = [.ref p] ∧ ((SqL K H p ys ∧ ∀ l, H l = none → Q (.ref l) (upd H l (.tup ys))) ∨ (SqT K H p ys ∧ Q (.ref p) H))
theorem x_tupof {a : Addr} {xs : List V} (h : H a = some (.lst xs)) (q : ∀ p H', New H p (.tup xs) H' → Q (.ref p) H') : rTupOf K [.ref a] H Q := ⟨a, xs, rfl, Or.inl ⟨SqL.of h, n_al q⟩⟩
theorem ixN_nat {n : Nat} {i : Nat} (h : i < n) : ixN n (i : Int) = some i := by
  unfold ixN
  rw [if_pos (Int.natCast_nonneg i), if_pos (by omega)]
  simp
end
/-! the rules with K told -/
section
variable {X : Cx} (K : PySem.W.Frag) {e o : Expr} {es : List Expr} {ta te : TE} {t : TA} {pos apos cpos : Pos} {f : Str}
def rLenSq (K : PySem.W.Frag) : List V → Hp → VK → Prop := fun xs H Q => ∃ p ys, xs = [.ref p] ∧ (SqL K H p ys ∨ SqT K H p ys) ∧ Q (.int ys.length) H
theorem call_lenK (h : X.K = K := by rfl) : CallR X (.builtin "len") (rLenSq K) := by subst h; exact call_len_seq
theorem call_listofK (h : X.K = K := by rfl) : CallR X (.type "list") (rListOf K) := by subst h; exact call_list_of
theorem call_tupofK (h : X.K = K := by rfl) : CallR X (.type "tuple") (rTupOf K) := by subst h; exact call_tuple_of
theorem cr_sumK (hc : X.calm = true) (h : X.K = K := by rfl) : CallR X (.builtin "sum") (rSum K) := by subst h; exact cr_sum hc
theorem cr_sortedPK (h : X.K = K := by rfl) : CallR X (.builtin "sorted") (rSortedP K) := by subst h; exact cr_sortedP
theorem call_isiK' (h : X.K = K := by rfl) : CallR X (.builtin "isinstance") (rIsi K) := by subst h; exact call_isi
theorem ix_listK (h : X.K = K := by rfl) : IxR X (rIxL K) := by subst h; exact ix_list
theorem ix_tupK (h : X.K = K := by rfl) : IxR X (rIxT K) := by subst h; exact ix_tup
theorem sl_listK (h : X.K = K := by rfl) : SlR X (rSlL K) := by subst h; exact sl_list
theorem get_listK (h : X.K = K := by rfl) : PGet X (rIxL K) := by subst h; exact get_list
theorem op_in_seqK (h : X.K = K := by rfl) : OpR X (compareOp .In) (rIn K false) := by subst h; exact op_in_seq
theorem op_notIn_seqK (h : X.K = K := by rfl) : OpR X (compareOp .NotIn) (rIn K true) := by subst h; exact op_notIn_seq
theorem op_ltTK (hu : X.A.units < cLine) (h : X.K = K := by rfl) : OpR X (compareOp .Lt) (rLtT K) := by subst h; exact op_ltT hu
theorem op_neDK (hu : X.A.units + 64 < cLine) (h : X.K = K := by rfl) : OpR X (compareOp .NotEq) (rNeD K) := by subst h; exact op_neD hu
theorem pe_fldK (he : PE X e ta) (hb : attributeBase e f X.env (eval e X.env) = eval e X.env := by rfl) (h : X.K = K := by rfl) : PE X (.Attribute e f pos) (tFld K ta f) := by subst h; exact pe_fld he hb
theorem pi_listK {tg l : Expr} {tl : TE} (hl : PE X l tl) (h : X.K = K := by rfl) : PI X tg l (iList K tl) := by subst h; exact pi_list hl
theorem pg_tupK {es : List Expr} {k : Nat} {n : Nat} {t : TGs} (hc : X.calm = true) (h : PGs X es t)
    (hn : (assignEach es X.env).length = n := by rfl) (hst : (assignEach es X.env).findIdx? (·.1) = none := by rfl) (hK : X.K = K := by rfl) : PG X (.Tuple es k pos) (gTup K n t) := by
  subst hK; exact pg_tup hc h hn hst
theorem pe_bmK {T : String} {id : String} {name : Str} {r : V → List V → Hp → VK → Prop} {to : TE} (pa : PlainAttrs T) (slot : Slot T name id) (hty : typeOf (.builtin id) = pure (.type "method_descriptor")) (hm : MtR X id r) (ho : PE X o to) (ha : PA X (e :: es) t)
    (hbase : attributeBase o name X.env (eval o X.env) = eval o X.env := by rfl)
    (hfew : ((backTo cpos (starEach (e :: es) X.env)).all (fun x => !x.1) && (backToKw cpos (keywordEach [] X.env)).all (fun x => x.1.isSome)
      && decide ((e :: es).length + ([] : List Keyword).length + (if ([] : List Keyword).isEmpty then 0 else 1) < 30)) = true := by rfl)
    (hline : (apos.endLine == cpos.line) = true := by rfl) (hs : starEach (e :: es) X.env = (false, eval e X.env) :: starEach es X.env := by rfl) (hplain : (backTo cpos (starEach es X.env)).any (·.1) = false := by rfl) (hK : X.K = K := by rfl) :
    PE X (.Call (.Attribute o name apos) (e :: es) [] cpos) (tBM K T r to t) := by
  subst hK; exact pe_bm pa slot hty hm ho ha hbase hfew hline hs hplain
theorem pe_bm0K {T : String} {id : String} {name : Str} {r : V → List V → Hp → VK → Prop} {to : TE} (pa : PlainAttrs T) (slot : Slot T name id) (hty : typeOf (.builtin id) = pure (.type "method_descriptor")) (hm : MtR X id r) (ho : PE X o to)
    (hbase : attributeBase o name X.env (eval o X.env) = eval o X.env := by rfl) (hline : (apos.endLine == cpos.line) = true := by rfl) (hK : X.K = K := by rfl) : PE X (.Call (.Attribute o name apos) [] [] cpos) (tBM0 K T r to) := by
  subst hK; exact pe_bm0 pa slot hty hm ho hbase hline
def tTruK (K : PySem.W.Frag) (ta : TE) : TT := fun σ H Q => ta σ H fun x H' => ∃ k, TruV K x H' k ∧ Q k H'
theorem pt_truthK (ha : PE X e ta) (he : ∀ whole, isTrue e X.env whole = (do let v ← whole; standAt e.pos; holding [v] (truthy v))) (hK : X.K = K := by rfl) : PT X e (tTruK K ta) := by
  subst hK; exact pt_truth ha he
theorem ps_fldK {value : Expr} {pos' : Pos} {tv : TE} (ha : PE X o ta) (hv : PE X value tv) (hs : swapsWith value (some (.Attribute o f pos')) pos.line X.env = pure false) (hK : X.K = K := by rfl) : PS X (.Assign [.Attribute o f pos'] value pos) (sFld K ta tv f) := by
  subst hK; exact ps_fld ha hv hs
theorem ps_fldaugK {value : Expr} {pos' : Pos} {tv : TE} {op : Operator} {rd : V → V → Hp → VK → Prop} (ha : PE X o ta) (hv : PE X value tv) (hop : InOp X op rd) (hK : X.K = K := by rfl) : PS X (.AugAssign (.Attribute o f pos') op value pos) (sFldAug K ta tv rd f) := by
  subst hK; exact ps_fldaug ha hv hop
end
section
variable {K : PySem.W.Frag} {σ : L2.St} {H : Hp} {Q : VK} {ta : TE}
theorem x_lenK {a : Addr} {xs : List V} (h : H a = some (.lst xs)) (q : Q (.int xs.length) H) : rLenSq K [V.ref a] H Q := ⟨a, xs, rfl, Or.inl (SqL.of h), q⟩
theorem r_tru {Q : Bool → Hp → Prop} (h : ta σ H fun x H' => ∃ k, TruV K x H' k ∧ Q k H') : tTruK K ta σ H Q := h
end
end Ck

namespace Ck
open PySem PySem.Spec L2 CkM
theorem kLI {F : Hp} {v : V} {ns : List Int} (h : (kL kI).p F v ns) : ∃ a, v = .ref a ∧ F a = some (.lst (ns.map V.int)) := by
  obtain ⟨a, vs, e, ha, hp⟩ := h
  rw [kI_vals hp] at ha
  exact ⟨a, e, ha⟩
theorem kLI' {F : Hp} {a : Addr} {ns : List Int} (h : F a = some (.lst (ns.map V.int))) : (kL kI).p F (.ref a) ns := ⟨a, _, rfl, h, kI_all ns⟩
theorem kLS {F : Hp} {v : V} {ns : List Str} (h : (kL kS).p F v ns) : ∃ a, v = .ref a ∧ F a = some (.lst (ns.map V.str)) := by
  obtain ⟨a, vs, e, ha, hp⟩ := h
  rw [kS_vals hp] at ha
  exact ⟨a, e, ha⟩
theorem kLS' {F : Hp} {a : Addr} {ns : List Str} (h : F a = some (.lst (ns.map V.str))) : (kL kS).p F (.ref a) ns := ⟨a, _, rfl, h, kS_all ns⟩
theorem at_g {l : List Int} {k : Nat} (h : k < l.length) : atI (l.map V.int) (k : Int) = some (V.int (g l k)) := by
  refine atI_nat ?_
  rw [List.getElem?_map, g_get h]; rfl
theorem at_g0 {l : List Int} {k : Nat} (h : k < l.length) : atI (l.map V.int) (0 + (k : Int)) = some (V.int (g l k)) := by
  rw [Int.zero_add]; exact at_g h
theorem ixN_g {l : List Int} {k : Nat} (h : k < l.length) : ixN (l.map V.int).length (k : Int) = some k := ixN_nat (by rw [List.length_map]; exact h)
theorem map_set {l : List Int} {k : Nat} {x : Int} : (l.map V.int).set k (V.int x) = (l.set k x).map V.int := by rw [List.map_set]
theorem S_succ {n : Nat} {f : Nat → Int} : S (n + 1) f = S n f + f n := rfl
theorem act_pos {ws ls : List Int} {i : Nat} (h : g ls i > 0) : act ws ls i = g ws i := if_pos h
theorem act_neg {ws ls : List Int} {i : Nat} (h : ¬ g ls i > 0) : act ws ls i = 0 := if_neg h
end Ck
namespace Ck
open PySem PySem.Spec L2 CkM
theorem RgC_up {len n : Nat} (h1 : 1 ≤ n) (h2 : n ≤ 1000) (h3 : len ≤ 10000000) : RgC 0 (len : Int) (n : Int) ((len + n - 1) / n) := by
  have e : Builtin.Range.rangeSize 0 (len : Int) (n : Int) = (((len + n - 1) / n : Nat) : Int) := by
    rw [PyProof.Rows.rangeSize_pos (by omega) (by omega), Int.natCast_ediv]
    congr 1
    omega
  have hq : (len + n - 1) / n ≤ len + n - 1 := Nat.div_le_self _ _
  have hm : (((len + n - 1) / n : Nat) : Int) * (n : Int) ≤ (len : Int) + n - 1 := by
    have := Nat.div_mul_le_self (len + n - 1) n
    have e1 : ((((len + n - 1) / n) * n : Nat) : Int) ≤ ((len + n - 1 : Nat) : Int) := Int.ofNat_le.mpr this
    rw [Int.natCast_mul] at e1
    omega
  generalize (len + n - 1) / n = q at e hq hm ⊢
  refine ⟨by omega, by omega, ?_, e⟩
  unfold Builtin.Range.small
  rw [e]
  simp only [Builtin.Range.rangeFitsLong, Bool.and_eq_true, Bool.or_eq_true, decide_eq_true_eq, beq_iff_eq]
  have hn0 : (n : Int) > 0 := by omega
  simp only [hn0, if_true]
  have hd : Builtin.Range.rangeFitsLong ((len : Int) + ((n : Int) - 1)) = true := by
    simp only [Builtin.Range.rangeFitsLong, Bool.and_eq_true, decide_eq_true_eq]
    omega
  exact ⟨⟨⟨⟨by omega, by omega⟩, ⟨by omega, by omega⟩⟩, ⟨by omega, by omega⟩⟩, Or.inr hd⟩
end Ck
namespace Ck
open PySem PySem.Spec L2 CkM
theorem cutV_nat (xs : List V) {a b : Nat} (h : a ≤ b) : cutV xs (some (a : Int)) (some (b : Int)) = (xs.drop a).take (b - a) := by
  unfold cutV
  rw [HT.sIx_nat, HT.sIx_nat]
  by_cases h1 : a ≤ xs.length
  · rw [Nat.min_eq_left h1]
    by_cases h2 : b ≤ xs.length
    · rw [Nat.min_eq_left h2]
    · rw [Nat.min_eq_right (show xs.length ≤ b by omega), List.take_of_length_le (by rw [List.length_drop]; omega), List.take_of_length_le (by rw [List.length_drop]; omega)]
  · rw [Nat.min_eq_right (show xs.length ≤ a by omega), List.drop_eq_nil_of_le (Nat.le_refl _), List.drop_eq_nil_of_le (show xs.length ≤ a by omega)]
    simp
theorem cutV_from (xs : List V) (a : Nat) : cutV xs (some (a : Int)) none = xs.drop a := by
  unfold cutV
  rw [HT.sIx_nat]
  show (xs.drop (min a xs.length)).take (xs.length - min a xs.length) = _
  by_cases h1 : a ≤ xs.length
  · rw [Nat.min_eq_left h1, List.take_of_length_le (by rw [List.length_drop]; omega)]
  · rw [Nat.min_eq_right (show xs.length ≤ a by omega), List.drop_eq_nil_of_le (Nat.le_refl _), List.drop_eq_nil_of_le (show xs.length ≤ a by omega)]
    simp
theorem cut_map {α : Type} {f : α → V} (xs : List α) {a b : Nat} (h : a ≤ b) : cutV (xs.map f) (some (a : Int)) (some (b : Int)) = ((xs.drop a).take (b - a)).map f := by
  rw [cutV_nat _ h, ← List.map_drop, ← List.map_take]
end Ck
namespace Ck
open PySem PySem.Spec L2
section
variable {σ : L2.St} {H : Hp} {Q : VK} {te ta tb td ty tv tx : TE} {D : Ends} {g : TG} {t u : TS} {K : PySem.W.Frag}
theorem r_iR3 {ta : TA} {R : It → Hp → Prop} (h : ta σ H fun vs H1 => ∃ (i j c : Int) (n : Nat), vs = [.int i, .int j, .int c] ∧ RgC i j c n ∧ R (Itc i c n) H1) : iRng3 ta σ H R := h
theorem r_lc {wi : TI} {tt : TT} {vs : List Nat} (h : wi σ H fun J H1 => ∀ D, H1 D = none → ∃ W : Nat → Nat → Hp → Prop, (∃ m, W 0 m (upd H1 D (.lst []))) ∧ ∀ i m H, W i m H →
  (J.stop i H ∧ Q (.ref D) H) ∨ (J.go i H ∧ ∃ Nx : Hp → Prop, (∀ H', Nx H' → ∃ m', m' < m ∧ W (i + 1) m' H') ∧ ∀ x H', J.yld i H x H' → g x (wipe σ vs) H' fun σ2 H2 => wipe σ2 vs = wipe σ vs ∧ tt σ2 H2 fun b H3 =>
    if b = true then te σ2 H3 fun y H4 => ∃ acc, H4 D = some (.lst acc) ∧ acc.length < sizeLine ∧ Nx (upd H4 D (.lst (acc ++ [y]))) else Nx H3)) : tLc wi g tt te vs σ H Q := h
theorem x_gT {a : Addr} {xs : List V} {n : Nat} {t : TGs} {Q : L2.St → Hp → Prop} (h : H a = some (.tup xs)) (e : xs.length = n) (q : t xs σ H Q) : gTup K n t (.ref a) σ H Q := ⟨a, xs, rfl, SqT.of h, e, q⟩
theorem r_gC {t : TG} {u : TGs} {v : V} {r : List V} {Q : L2.St → Hp → Prop} (h : t v σ H fun σ' H' => u r σ' H' Q) : gCons t u (v :: r) σ H Q := ⟨v, r, rfl, h⟩
theorem r_gNil {Q : L2.St → Hp → Prop} (h : Q σ H) : gNil [] σ H Q := ⟨rfl, h⟩
theorem r_mk {C : Addr} {sp : Sp} {dvs : List V} {E : XK} {t : TA} (h : t σ H fun vs H1 => ∀ x dx, H1 x = none → H1 dx = none → dx ≠ x → sp (.ref x :: (vs ++ dvs)) (upd (upd H1 dx (.own x)) x (.ins C dx [])) (fun v H2 => v = .non ∧ Q (.ref x) H2) E) : tMake C sp dvs E t σ H Q := h
theorem r_mt {C : Addr} {m : Str} {sp : Sp} {dvs : List V} {E : XK} {t : TA} (h : ta σ H fun x H1 => ∃ a dx fs, x = .ref a ∧ H1 a = some (.ins C dx fs) ∧ fs.lookup m = none ∧ t σ H1 fun vs H2 => sp (x :: (vs ++ dvs)) H2 Q E) : tMeth C m sp dvs E ta t σ H Q := h
theorem r_sfld {f : Str} (h : tv σ H fun y H1 => ta σ H1 fun x H2 => ∃ a C dx fs, x = .ref a ∧ H2 a = some (.ins C dx fs) ∧ Cls K C ∧ NoAttr K C f ∧ fs.length < 1000 ∧ D.nx σ (upd H2 a (.ins C dx (putF f y fs)))) : sFld K ta tv f D σ H := h
theorem r_sfa {f : Str} {rd : V → V → Hp → VK → Prop} (h : ta σ H fun x H1 => ∃ a C dx fs v, x = .ref a ∧ H1 a = some (.ins C dx fs) ∧ Cls K C ∧ NoAttr K C f ∧ fs.lookup f = some v ∧
  tv σ H1 fun y H2 => rd v y H2 fun z H3 => ∃ dx' fs', H3 a = some (.ins C dx' fs') ∧ fs'.length < 1000 ∧ D.nx σ (upd H3 a (.ins C dx' (putF f z fs')))) : sFldAug K ta tv rd f D σ H := h
theorem r_add {i j : Int} (h : Q (.int (i + j)) H) : rAdd (.int i) (.int j) H Q := ⟨i, j, rfl, rfl, h⟩
theorem r_dput (h : tv σ H fun v H1 => td σ H1 fun x H2 => ty σ H2 fun y H3 => ∃ a H4, x = .ref a ∧ DPut H3 a y v H4 ∧ D.nx σ H4) : sDPut td ty tv D σ H := h
theorem r_dget (h : td σ H fun x H1 => ty σ H1 fun y H2 => ∃ a v, x = .ref a ∧ DGet H2 a y (some v) ∧ Q v H2) : tDGet td ty σ H Q := h
theorem r_dget2 (h : td σ H fun x H1 => ∃ a, x = .ref a ∧ IsD H1 a ∧ ty σ H1 fun y H2 => tx σ H2 fun z H3 => ∃ o, DGet H3 a y o ∧ Q (o.getD z) H3) : tDGet2 td ty tx σ H Q := h
theorem r_din (h : ty σ H fun y H1 => td σ H1 fun x H2 => ∃ a o, x = .ref a ∧ DGet H2 a y o ∧ Q (.bl o.isSome) H2) : tDIn ty td σ H Q := h
theorem r_dnin (h : ty σ H fun y H1 => td σ H1 fun x H2 => ∃ a o, x = .ref a ∧ DGet H2 a y o ∧ Q (.bl (!o.isSome)) H2) : tDNotIn ty td σ H Q := h
theorem r_dnK (h : ∀ p H', New H p (.dK []) H' → Q (.ref p) H') : tDNewK σ H Q := n_al h
theorem r_dnT (h : ∀ p H', New H p (.dT []) H' → Q (.ref p) H') : tDNewT σ H Q := n_al h
theorem x_isN {A : Prop} (h : A) : V.non = .non ∧ A := ⟨rfl, h⟩
end
end Ck

namespace Ck
open PySem PySem.Spec L2 CkM
local macro_rules | `(tactic| walk_at "s1") => `(tactic| first
  | (with_reducible refine r_seq ?_) | (with_reducible refine r_var (by with_unfolding_all rfl) ?_) | (with_reducible refine r_c ?_) | (with_reducible refine r_op ?_)
  | (with_reducible refine r_I0 ?_) | (with_reducible refine r_asgN ?_) | (with_reducible refine r_asg ?_) | (with_reducible refine r_ret ?_) | (with_reducible refine r_drop ?_)
  | (with_reducible refine r_cons ?_) | (with_reducible refine r_nil ?_) | (with_reducible refine r_CB ?_) | (with_reducible refine r_call ?_) | (with_reducible refine r_BM ?_)
  | (with_reducible refine r_if ?_) | (with_reducible refine r_test ?_) | (with_reducible refine r_tB ?_) | (with_reducible refine r_and ?_) | (with_reducible refine r_or ?_) | (with_reducible refine r_not ?_)
  | (with_reducible refine r_andV ?_) | (with_reducible refine r_orV ?_) | (with_reducible refine r_eqI ?_) | (with_reducible refine r_neI ?_) | (with_reducible refine r_eqS ?_) | (with_reducible refine r_neS ?_) | (with_reducible refine r_neB ?_)
  | (with_reducible refine x_b ?_) | (with_reducible refine x_ii ?_) | (with_reducible refine x_ss ?_) | (with_reducible refine x_i ?_) | (with_reducible refine x_s ?_) | (with_reducible refine x_li ?_) | (with_reducible refine x_ls ?_) | (with_reducible refine x_lii ?_)
  | (with_reducible refine r_un ?_) | (with_reducible refine r_U ?_) | (with_reducible refine r_gN ?_) | (with_reducible refine r_aug (by with_unfolding_all rfl) ?_) | (with_reducible refine r_ip ?_) | (with_reducible refine r_tup ?_) | (with_reducible refine r_lst ?_)
  | (with_reducible refine r_fld ?_) | (with_reducible refine r_for ?_) | (with_reducible refine r_iL ?_) | (with_reducible refine r_iR1 ?_) | (with_reducible refine r_iR2 ?_) | (with_reducible refine r_iS ?_) | (with_reducible refine r_sl ?_) | (with_reducible refine r_po0 ?_) | (with_reducible refine r_po1 ?_)
  | (with_reducible refine r_tru ?_) | (with_reducible refine r_augS ?_) | (with_reducible refine r_iR3 ?_) | (with_reducible refine r_lc ?_) | (with_reducible refine r_gC ?_) | (with_reducible refine r_gNil ?_) | (with_reducible refine r_mk ?_) | (with_reducible refine r_mt ?_) | (with_reducible refine r_sfld ?_) | (with_reducible refine r_sfa ?_) | (with_reducible refine r_add ?_)
  | (with_reducible refine r_dput ?_) | (with_reducible refine r_gFld ?_) | (with_reducible refine r_dcp ?_) | (with_reducible refine r_dsetT ?_) | (with_reducible refine r_BM0 ?_) | (with_reducible refine r_dget ?_) | (with_reducible refine r_dget2 ?_) | (with_reducible refine r_din ?_) | (with_reducible refine r_dnin ?_) | (with_reducible refine r_dnK ?_) | (with_reducible refine r_dnT ?_) | (with_reducible refine x_isN ?_) | (with_reducible refine r_next ?_) | (with_reducible refine r_retN ?_) | (with_reducible refine r_yes ?_) | (with_reducible refine x_t ?_) | (with_reducible refine x_f ?_))
local macro_rules | `(tactic| walk_at "s") => `(tactic| repeat walk_at "s1")

/-! D_order1.src -/
def sp_due : Sp := SpOf (ι := Int × Int × Int) (fun i => [.int i.1, .int i.2.1, .int i.2.2]) (fun i _ => 0 < i.2.1 ∧ i.2.1 ≤ 1000 ∧ 0 ≤ i.1 ∧ i.1 ≤ 10000) (fun i _ v => v = .int (dueF i.1 i.2.1 i.2.2))
theorem ok_due {P : Program} {w : World} {K : PySem.W.Frag} {mg : Str → Option Value} {base : Heap} (T : Tx K mg) : Okd P w K mg base 1 ("due", none) ["total", "weight", "placed"] [] (sp_due) := by
  obtain ⟨fd, F⟩ : ∃ fd, FunD K "due" "due" (defArgs s_due) (defBody s_due) (defScope s_due) [] [] (He.fAd K ("due", none)) fd := T.says.d.def_ 30 rfl
  refine ⟨fd, [], F.ok sc_due (fun vs H Q E h => ?_) (fun cdv A outer s H vs Q E hr h => ?_), .nil, F.bindsN (fun _ _ _ _ _ _ us hl => match us, hl with | [_, _, _], _ => rfl), F.kp⟩
  · obtain ⟨_, _, rfl, _⟩ := h; rfl
  · refine ⟨_, PSs.nox (pss_one (ps_ret (pe_op op_fdiv (pe_op op_sub (pe_op op_add (pe_op op_mul (pe_op op_add (pv 2) pe_int) (pv 0)) (pv 1)) pe_int) (pv 1)))), ?_⟩
    obtain ⟨⟨a, b, c⟩, F0, rfl, fh, ⟨h1, h2, h3, h4⟩, k⟩ := h
    dsimp only at h1 h2 h3 h4 ⊢
    walk_at "s"
    refine r_I (Or.inr ⟨by omega, by omega⟩) ?_
    walk_at "s"
    refine r_I ⟨h1, by omega⟩ ?_
    exact k _ _ _ (Gr.refl fh) rfl
def sp_total : Sp := SpOf (ι := V × V × List Int × List Int) (fun i => [i.1, i.2.1]) (fun i F => (kL kI).p F i.1 i.2.2.1 ∧ (kL kI).p F i.2.1 i.2.2.2 ∧ i.2.2.2.length = i.2.2.1.length ∧ i.2.2.1.length ≤ 1000) (fun i _ v => v = .int (totF i.2.2.1 i.2.2.2))
theorem ok_total {P : Program} {w : World} {K : PySem.W.Frag} {mg : Str → Option Value} {base : Heap} (T : Tx K mg) : Okd P w K mg base 1 ("_total", none) ["weights", "left"] [] (sp_total) := by
  obtain ⟨fd, F⟩ : ∃ fd, FunD K "_total" "_total" (defArgs s_total) (defBody s_total) (defScope s_total) [] [] (He.fAd K ("_total", none)) fd := T.says.d.def_ 31 rfl
  refine ⟨fd, [], F.ok sc_total (fun vs H Q E h => ?_) (fun cdv A outer s H vs Q E hr h => ?_), .nil, F.bindsN (fun _ _ _ _ _ _ us hl => match us, hl with | [_, _], _ => rfl), F.kp⟩
  · obtain ⟨_, _, rfl, _⟩ := h; rfl
  · refine ⟨_, PSs.nox (pss_cons (ps_set (i := 2) sc_total.nd rfl (by first | exact Or.inl rfl | exact Or.inr rfl) pe_int)
    (pss_cons (ps_for PassesOwn.never rfl (pi_range1 rfl T.f_range (pa_cons (pe_callB (call_lenK K) (by rfl) T.f_len (by decide +kernel) (pa_cons (pv 0) pa_nil)) pa_nil)) (pg_name (i := 3) sc_total.nd rfl (by first | exact Or.inl rfl | exact Or.inr rfl)) (pss_one (ps_if (pt_cmpR op_gt (pe_ix (ix_listK K) (pv 1) (pv 3) (fun _ _ => rfl)) pe_int (nomark _)) (pss_one (ps_aug (i := 2) sc_total.nd rfl (by first | exact Or.inl rfl | exact Or.inr rfl) (pe_ix (ix_listK K) (pv 0) (pv 3) (fun _ _ => rfl)) ip_add)) pss_nil)))
    (pss_one (ps_ret (pv 2))))), ?_⟩
    obtain ⟨⟨v1, v2, ws, ls⟩, F0, rfl, fh, ⟨h1, h2, hl, hn⟩, k⟩ := h
    dsimp only at h1 h2 hl hn ⊢
    obtain ⟨a1, rfl, ha1⟩ := kLI h1
    obtain ⟨a2, rfl, ha2⟩ := kLI h2
    walk_at "s"
    refine x_lenK (fh _ _ ha1) ?_
    walk_at "s"
    rw [List.length_map]
    refine ⟨by omega, by omega, ?_⟩
    rw [Int.toNat_natCast]
    refine for_rg (Gr.refl fh) (fun i σ F H => ∃ x, σ = [some (.ref a1), some (.ref a2), some (.int (S i (act ws ls))), x]) ⟨_, rfl⟩ ?_ ?_
    · rintro i σ1 F1 H1 N hi G1 s1 ⟨x, rfl⟩ kN
      walk_at "s"
      refine x_ixL (G1.hh _ _ (fh _ _ ha2)) (at_g0 (by omega)) ?_
      walk_at "s"
      refine x_d (fun hc => ?_) (fun hc => ?_)
      · walk_at "s"
        refine x_ixL (G1.hh _ _ (fh _ _ ha1)) (at_g0 (by omega)) ?_
        walk_at "s"
        refine kN _ _ _ G1 (Same.refl _) ⟨some (.int (0 + (i : Int))), ?_⟩
        rw [S_succ, act_pos hc]; rfl
      · walk_at "s"
        refine kN _ _ _ G1 (Same.refl _) ⟨some (.int (0 + (i : Int))), ?_⟩
        rw [S_succ, act_neg hc, Int.add_zero]; rfl
    · rintro σ1 F1 H1 G1 s1 ⟨x, rfl⟩
      walk_at "s"
      exact k _ _ _ G1 rfl
/-! D_order2.src -/
abbrev NsI := V × V × V × Int × List Int × List Int × List Int
def sp_next_source : Sp := SpOf (ι := NsI) (fun i => [i.1, i.2.1, i.2.2.1, .int i.2.2.2.1])
  (fun ⟨v1, v2, v3, t, ws, ls, xs⟩ F => (kL kI).p F v1 ws ∧ (kL kI).p F v2 ls ∧ (kL kI).p F v3 xs ∧ ls.length = ws.length ∧ xs.length = ws.length ∧ ws.length ≤ 1000 ∧ (∀ k, k < ws.length → 0 < g ws k ∧ g ws k ≤ 1000) ∧ 0 ≤ totF ws ls ∧ totF ws ls ≤ 10000)
  (fun ⟨_, _, _, t, ws, ls, xs⟩ _ v => v = .int (nextF ws ls xs t))
theorem ok_next_source {P : Program} {w : World} {K : PySem.W.Frag} {mg : Str → Option Value} {base : Heap} (T : Tx K mg) : Okd P w K mg base 2 ("_next_source", none) ["weights", "left", "placed", "turn"] [] (sp_next_source) := by
  have O_total := ok_total (P := P) (w := w) (base := base) T
  have O_due := ok_due (P := P) (w := w) (base := base) T
  obtain ⟨fd, F⟩ : ∃ fd, FunD K "_next_source" "_next_source" (defArgs s_next_source) (defBody s_next_source) (defScope s_next_source) [] [] (He.fAd K ("_next_source", none)) fd := T.says.d.def_ 32 rfl
  refine ⟨fd, [], F.ok sc_next_source (fun vs H Q E h => ?_) (fun cdv A outer s H vs Q E hr h => ?_), .nil, F.bindsN (fun _ _ _ _ _ _ us hl => match us, hl with | [_, _, _, _], _ => rfl), F.kp⟩
  · obtain ⟨_, _, rfl, _⟩ := h; rfl
  · refine ⟨_, PSs.nox (pss_cons (ps_set (i := 4) sc_next_source.nd rfl (by first | exact Or.inl rfl | exact Or.inr rfl) (pe_ok O_total T.n_total hr (by decide) (by rfl) (pa_cons (pv 0) (pa_cons (pv 1) pa_nil))))
    (pss_cons (ps_set (i := 5) sc_next_source.nd rfl (by first | exact Or.inl rfl | exact Or.inr rfl) (pe_un un_neg pe_int))
    (pss_cons (ps_set (i := 6) sc_next_source.nd rfl (by first | exact Or.inl rfl | exact Or.inr rfl) pe_int)
    (pss_cons (ps_for PassesOwn.never rfl (pi_range1 rfl T.f_range (pa_cons (pe_callB (call_lenK K) (by rfl) T.f_len (by decide +kernel) (pa_cons (pv 0) pa_nil)) pa_nil)) (pg_name (i := 7) sc_next_source.nd rfl (by first | exact Or.inl rfl | exact Or.inr rfl)) (pss_one (ps_if (PW.pt (pw_and (pt_cmpR op_gt (pe_ix (ix_listK K) (pv 1) (pv 7) (fun _ _ => rfl)) pe_int (nomark _)) (pw_and1 (pt_cmpR op_lt (pe_op op_mul (pe_ix (ix_listK K) (pv 2) (pv 7) (fun _ _ => rfl)) (pv 4)) (pe_op op_mul (pe_ix (ix_listK K) (pv 0) (pv 7) (fun _ _ => rfl)) (pe_op op_add (pv 3) pe_int)) (nomark _))))) (pss_cons (ps_set (i := 8) sc_next_source.nd rfl (by first | exact Or.inl rfl | exact Or.inr rfl) (pe_ok O_due T.n_due hr (by decide) (by rfl) (pa_cons (pv 4) (pa_cons (pe_ix (ix_listK K) (pv 0) (pv 7) (fun _ _ => rfl)) (pa_cons (pe_ix (ix_listK K) (pv 2) (pv 7) (fun _ _ => rfl)) pa_nil)))))
    (pss_one (ps_if (PW.pt (pw_or (pt_cmpR op_lt (pv 5) pe_int (nomark _)) (pw_or1 (pt_cmpR op_lt (pv 8) (pv 6) (nomark _))))) (pss_cons (ps_set (i := 5) sc_next_source.nd rfl (by first | exact Or.inl rfl | exact Or.inr rfl) (pv 7))
    (pss_one (ps_set (i := 6) sc_next_source.nd rfl (by first | exact Or.inl rfl | exact Or.inr rfl) (pv 8)))) pss_nil))) pss_nil)))
    (pss_one (ps_ret (pv 5))))))), ?_⟩
    obtain ⟨⟨v1, v2, v3, t, ws, ls, xs⟩, F0, rfl, fh, ⟨h1, h2, h3, hl, hx, hn, hw, ht0, ht1⟩, k⟩ := h
    dsimp only at h1 h2 h3 hl hx hn hw ht0 ht1 k ⊢
    obtain ⟨a1, rfl, ha1⟩ := kLI h1
    obtain ⟨a2, rfl, ha2⟩ := kLI h2
    obtain ⟨a3, rfl, ha3⟩ := kLI h3
    walk_at "s"
    refine ⟨(.ref a1, .ref a2, ws, ls), F0, rfl, fh, ⟨h1, h2, hl, hn⟩, fun v F1 H1 g1 hv => ?_⟩
    subst hv
    walk_at "s"
    refine x_lenK (g1.hh _ _ (fh _ _ ha1)) ?_
    walk_at "s"
    rw [List.length_map]
    refine ⟨by omega, by omega, ?_⟩
    rw [Int.toNat_natCast]
    refine for_rg g1 (fun i σ F H => ∃ x y, σ = [some (.ref a1), some (.ref a2), some (.ref a3), some (.int t), some (.int (totF ws ls)), some (.int (nsF ws ls xs (totF ws ls) t i).1), some (.int (nsF ws ls xs (totF ws ls) t i).2), x, y]) ⟨_, _, rfl⟩ ?_ ?_
    · rintro i σ1 F1 H1 N hi G1 s1 ⟨x, y, rfl⟩ kN
      have e1 := G1.hh _ _ (fh _ _ ha1)
      have e2 := G1.hh _ _ (fh _ _ ha2)
      have e3 := G1.hh _ _ (fh _ _ ha3)
      have hwi := hw i hi
      have nx : nsF ws ls xs (totF ws ls) t (i + 1) = nsStep ws ls xs (totF ws ls) t (nsF ws ls xs (totF ws ls) t i) i := rfl
      walk_at "s"
      refine x_ixL e2 (at_g0 (by omega)) ?_
      walk_at "s"
      refine x_d (fun hc => ?_) (fun hc => ?_)
      · walk_at "s"
        refine x_ixL e3 (at_g0 (by omega)) ?_
        walk_at "s"
        refine r_I (Or.inr ⟨by omega, by omega⟩) ?_
        walk_at "s"
        refine x_ixL e1 (at_g0 (by omega)) ?_
        walk_at "s"
        refine r_I (Or.inl ⟨by omega, by omega⟩) ?_
        walk_at "s"
        refine x_d (fun hd => ?_) (fun hd => ?_)
        · walk_at "s"
          refine x_ixL e1 (at_g0 (by omega)) ?_
          walk_at "s"
          refine x_ixL e3 (at_g0 (by omega)) ?_
          walk_at "s"
          refine ⟨(totF ws ls, g ws i, g xs i), F1, rfl, G1.fh, ⟨hwi.1, hwi.2, ht0, ht1⟩, fun v F2 H2 g2 hv => ?_⟩
          dsimp only at hv
          subst hv
          walk_at "s"
          refine x_d (fun he => ?_) (fun he => ?_)
          · walk_at "s"
            refine kN _ _ _ (G1.trans g2) g2.ff ⟨some (.int (0 + (i : Int))), some (.int (dueF (totF ws ls) (g ws i) (g xs i))), ?_⟩
            rw [nx]
            unfold nsStep
            rw [if_pos ⟨hc, hd⟩, if_pos (Or.inl he)]
            simp
          · walk_at "s"
            refine x_d (fun hf => ?_) (fun hf => ?_)
            · walk_at "s"
              refine kN _ _ _ (G1.trans g2) g2.ff ⟨some (.int (0 + (i : Int))), some (.int (dueF (totF ws ls) (g ws i) (g xs i))), ?_⟩
              rw [nx]
              unfold nsStep
              rw [if_pos ⟨hc, hd⟩, if_pos (Or.inr hf)]
              simp
            · walk_at "s"
              refine kN _ _ _ (G1.trans g2) g2.ff ⟨some (.int (0 + (i : Int))), some (.int (dueF (totF ws ls) (g ws i) (g xs i))), ?_⟩
              rw [nx]
              unfold nsStep
              rw [if_pos ⟨hc, hd⟩, if_neg (fun z => z.elim he hf)]
              rfl
        · walk_at "s"
          refine kN _ _ _ G1 (Same.refl _) ⟨some (.int (0 + (i : Int))), y, ?_⟩
          rw [nx]
          unfold nsStep
          rw [if_neg (fun z => hd z.2)]
          rfl
      · walk_at "s"
        refine kN _ _ _ G1 (Same.refl _) ⟨some (.int (0 + (i : Int))), y, ?_⟩
        rw [nx]
        unfold nsStep
        rw [if_neg (fun z => hc z.1)]
        rfl
    · rintro σ1 F2 H2 G2 s2 ⟨x, y, rfl⟩
      walk_at "s"
      exact k _ _ _ G2 rfl
/-! D_order3.src -/
theorem rep0 (n : Nat) : List.replicate n (V.int 0) = (List.replicate n (0 : Int)).map V.int := by rw [List.map_replicate]
abbrev FpI := V × V × List Int × List Int
def WsOk (ws ls : List Int) : Prop := Wf ws ls ∧ ws.length ≤ 1000 ∧ (∀ k, k < ws.length → g ws k ≤ 1000) ∧ totF ws ls ≤ 10000 ∧ ls.sum ≤ 10000000
def sp_first_phase : Sp := SpFl (ι := FpI) (fun i => [i.1, i.2.1])
  (fun ⟨v1, v2, ws, ls⟩ F => (kL kI).p F v1 ws ∧ (kL kI).p F v2 ls ∧ WsOk ws ls ∧ 0 < ls.sum)
  (fun ⟨_, _, ws, ls⟩ ys => ys = (firstF ws ls).map V.int)
theorem ok_first_phase {P : Program} {w : World} {K : PySem.W.Frag} {mg : Str → Option Value} {base : Heap} (T : Tx K mg) : Okd P w K mg base 3 ("_first_phase", none) ["weights", "left"] [] (sp_first_phase) := by
  have O_next_source := ok_next_source (P := P) (w := w) (base := base) T
  obtain ⟨fd, F⟩ : ∃ fd, FunD K "_first_phase" "_first_phase" (defArgs s_first_phase) (defBody s_first_phase) (defScope s_first_phase) [] [] (He.fAd K ("_first_phase", none)) fd := T.says.d.def_ 33 rfl
  refine ⟨fd, [], F.ok sc_first_phase (fun vs H Q E h => ?_) (fun cdv A outer s H vs Q E hr h => ?_), .nil, F.bindsN (fun _ _ _ _ _ _ us hl => match us, hl with | [_, _], _ => rfl), F.kp⟩
  · obtain ⟨_, _, rfl, _⟩ := h; rfl
  · refine ⟨_, PSs.nox (pss_cons (ps_set (i := 2) sc_first_phase.nd rfl (by first | exact Or.inl rfl | exact Or.inr rfl) (pe_op op_rep (pe_lst (pa_cons pe_int pa_nil)) (pe_callB (call_lenK K) (by rfl) T.f_len (by decide +kernel) (pa_cons (pv 0) pa_nil))))
    (pss_cons (ps_set (i := 3) sc_first_phase.nd rfl (by first | exact Or.inl rfl | exact Or.inr rfl) (pe_lst pa_nil))
    (pss_cons (ps_for PassesOwn.never rfl (pi_range1 rfl T.f_range (pa_cons (pe_callB (cr_sumK K rfl) (by rfl) T.f_sum (by decide +kernel) (pa_cons (pv 1) pa_nil)) pa_nil)) (pg_name (i := 4) sc_first_phase.nd rfl (by first | exact Or.inl rfl | exact Or.inr rfl)) (pss_cons (ps_set (i := 5) sc_first_phase.nd rfl (by first | exact Or.inl rfl | exact Or.inr rfl) (pe_ok O_next_source T.n_next_source hr (by decide) (by rfl) (pa_cons (pv 0) (pa_cons (pv 1) (pa_cons (pv 2) (pa_cons (pv 4) pa_nil))))))
    (pss_cons (ps_expr (pe_bmK K PySem.F.plainAttrs_list PySem.F.slot_list_append PySem.F.type_list_append mt_append (pv 3) (pa_cons (pv 5) pa_nil)))
    (pss_cons (ps_augS (pv 2) (pv 5) (get_listK K) pe_int ip_add set_list)
    (pss_one (ps_if (pt_cmpR op_eq (pe_ix (ix_listK K) (pv 2) (pv 5) (fun _ _ => rfl)) (pe_ix (ix_listK K) (pv 1) (pv 5) (fun _ _ => rfl)) (nomark _)) (pss_one (ps_ret (pv 3))) pss_nil))))))
    (pss_one (ps_ret (pv 3)))))), ?_⟩
    obtain ⟨⟨v1, v2, ws, ls⟩, F0, rfl, fh, ⟨h1, h2, ⟨W, hn, hw, ht, hs⟩, hp⟩, k⟩ := h
    dsimp only at h1 h2 hp k ⊢
    obtain ⟨a1, rfl, ha1⟩ := kLI h1
    obtain ⟨a2, rfl, ha2⟩ := kLI h2
    obtain ⟨k0, hk0, hl0⟩ := some_act W hp
    have hA := tot_pos W hk0 hl0
    walk_at "s"
    refine ⟨x_lt (by decide), fun l0 H1 nw => ?_⟩
    obtain ⟨F1, g1, e1⟩ := nw.fix fh
    walk_at "s"
    refine x_lenK (g1.hh _ _ (fh _ _ ha1)) ?_
    walk_at "s"
    rw [List.length_map]
    refine x_rep (g1.at e1) (by omega) (by omega) rfl fun l1 H2 n1 => ?_
    obtain ⟨g2, o1⟩ := n1.own g1.fh
    rw [rep_one, Int.toNat_natCast, rep0] at o1
    walk_at "s"
    refine ⟨x_lt (by decide), fun l2 H3 n2 => ?_⟩
    obtain ⟨g3, o2⟩ := n2.own g2.fh
    have z1 : H l1 = none := g1.hh.free n1.fr
    have z2 : H l2 = none := (g1.trans g2).hh.free n2.fr
    have n12 : l1 ≠ l2 := ne_of_none o1.h n2.fr
    have o1 := o1.go g3
    have G0 := (g1.trans g2).trans g3
    walk_at "s"
    refine x_sum (G0.hh _ _ (fh _ _ ha2)) ?_
    walk_at "s"
    refine ⟨by omega, by omega, ?_⟩
    refine for_rg0 G0 (fun i σ F H => ∃ xs row x y, σ = [some (.ref a1), some (.ref a2), some (.ref l1), some (.ref l2), x, y] ∧ Own F H l1 (.lst (xs.map V.int)) ∧ Own F H l2 (.lst (row.map V.int)) ∧
      InP ws ls i xs row ∧ fpGo ws ls (ls.sum.toNat - i) i xs row = firstF ws ls) ⟨_, [], _, _, rfl, o1, o2, InP.start W hA, rfl⟩ ?_ ?_
    · rintro i σ1 F2 H4 N hi G1 s1 ⟨xs, row, x, y, rfl, o1, o2, I, R⟩ kN
      obtain ⟨b, hb, eb, hlb, Fb⟩ := next_ok W hA I
      walk_at "s"
      refine ⟨(.ref a1, .ref a2, .ref l1, (i : Int), ws, ls, xs), upd F2 l1 (.lst (xs.map V.int)), rfl, (Gr.fix G1 o1.h z1 o1.f).fh, ⟨?_, ?_, kLI' upd_same, W.len, I.len, hn, fun k hk => ⟨W.w k hk, hw k hk⟩, by omega, ht⟩, fun v F3 H5 g3 hv => ?_⟩
      · exact kLI' ((Gr.fix G1 o1.h z1 o1.f).ff _ _ ha1)
      · exact kLI' ((Gr.fix G1 o1.h z1 o1.f).ff _ _ ha2)
      dsimp only at hv
      rw [eb] at hv
      subst hv
      have gk : Gr F2 H4 F2 H5 := Gr.keep G1.fh g3.hh
      have G2 := G1.trans gk
      have o1 := o1.go gk
      have o2 := o2.go gk
      have hbx : b < xs.length := by rw [I.len]; exact hb
      have hrl := I.rl
      walk_at "s"
      refine ⟨x_tyL o2.h, ?_⟩
      walk_at "s"
      refine x_app o2.h (by rw [List.length_map, sizeLine_eq]; omega) fun H6 c6 => ?_
      have G3 := c6.gr G2 o2.f z2
      have o1 := c6.ne o1 n12
      have o2 := c6.own o2
      walk_at "s"
      refine x_ixL o1.h (at_g hbx) ?_
      walk_at "s"
      refine x_setL o1.h (ixN_g hbx) fun H7 c7 => ?_
      have G4 := c7.gr G3 o1.f z1
      have o2 := c7.ne o2 n12.symm
      have o1 := c7.own o1
      rw [map_set] at o1
      have hbx2 : b < (xs.set b (g xs b + 1)).length := by rw [List.length_set]; exact hbx
      have ers : (row.map V.int ++ [V.int (b : Int)]) = (row ++ [(b : Int)]).map V.int := by rw [List.map_append]; rfl
      rw [ers] at o2
      walk_at "s"
      refine x_ixL o1.h (at_g hbx2) ?_
      walk_at "s"
      refine x_ixL (G4.hh _ _ (fh _ _ ha2)) (at_g (by rw [W.len]; exact hb)) ?_
      rw [g_set_same hbx]
      have hm : ls.sum.toNat - i = (ls.sum.toNat - (i + 1)) + 1 := by omega
      rw [hm] at R
      unfold fpGo at R
      simp only [eb, Int.toNat_natCast] at R
      walk_at "s"
      refine x_d (fun hc => ?_) (fun hc => ?_)
      · walk_at "s"
        rw [if_pos hc] at R
        rw [R] at o2
        exact k _ _ _ G4.hh z2 o2.h rfl
      · walk_at "s"
        rw [if_neg hc] at R
        exact kN _ _ _ G4 (Same.refl _) ⟨_, _, _, _, rfl, o1, o2, I.go hA hb hlb Fb hc, R⟩
    · rintro σ1 F2 H4 G1 s1 ⟨xs, row, x, y, rfl, o1, o2, I, R⟩
      walk_at "s"
      rw [Nat.sub_self] at R
      have R : row = firstF ws ls := R
      rw [R] at o2
      exact k _ _ _ G1.hh z2 o2.h rfl
/-! D_order4.src -/
theorem wsok_after {ws ls row : List Int} (h : WsOk ws ls) (P : PhaseOk ws ls row) : WsOk ws (after ws.length ls row) := by
  obtain ⟨W, h1, h2, h3, h4⟩ := h
  obtain ⟨w1, w2, w3, w4, _⟩ := after_wf W P
  exact ⟨w1, h1, h2, by omega, by omega⟩
theorem after_take {n : Nat} {ls row : List Int} {i : Nat} {s : Int} (h : row[i]? = some s) : after n ls (row.take (i + 1)) = (after n ls (row.take i)).set s.toNat (g (after n ls (row.take i)) s.toNat - 1) := by
  obtain ⟨hi, e⟩ := List.getElem?_eq_some_iff.mp h
  rw [List.take_succ_eq_append_getElem hi, e]
  unfold after
  rw [List.foldl_append]
  rfl
theorem phGo_stop {ws : List Int} {m : Nat} {ls : List Int} {rows : List (List Int)} (h : ¬ ls.sum > 0) : phGo ws m ls rows = rows := by
  cases m with
  | zero => rfl
  | succ m => unfold phGo; rw [if_neg h]
def sp_phases : Sp := SpOf (ι := FpI) (fun i => [i.1, i.2.1])
  (fun ⟨v1, v2, ws, ls⟩ F => (kL kI).p F v1 ws ∧ (kL kI).p F v2 ls ∧ WsOk ws ls)
  (fun ⟨_, _, ws, ls⟩ F v => (kL (kL kI)).p F v (phasesF ws ls))
theorem ok_phases {P : Program} {w : World} {K : PySem.W.Frag} {mg : Str → Option Value} {base : Heap} (T : Tx K mg) : Okd P w K mg base 4 ("phases", none) ["weights", "counts"] [] (sp_phases) := by
  have O_first_phase := ok_first_phase (P := P) (w := w) (base := base) T
  obtain ⟨fd, F⟩ : ∃ fd, FunD K "phases" "phases" (defArgs s_phases) (defBody s_phases) (defScope s_phases) [] [] (He.fAd K ("phases", none)) fd := T.says.d.def_ 34 rfl
  refine ⟨fd, [], F.ok sc_phases (fun vs H Q E h => ?_) (fun cdv A outer s H vs Q E hr h => ?_), .nil, F.bindsN (fun _ _ _ _ _ _ us hl => match us, hl with | [_, _], _ => rfl), F.kp⟩
  · obtain ⟨_, _, rfl, _⟩ := h; rfl
  · refine ⟨_, PSs.nox (pss_cons (ps_set (i := 2) sc_phases.nd rfl (by first | exact Or.inl rfl | exact Or.inr rfl) (pe_callTy (call_listofK K) (by rfl) T.f_list (by decide +kernel) (pa_cons (pv 1) pa_nil)))
    (pss_cons (ps_set (i := 3) sc_phases.nd rfl (by first | exact Or.inl rfl | exact Or.inr rfl) (pe_lst pa_nil))
    (pss_cons (ps_while PassesOwn.never (pt_cmpR op_gt (pe_callB (cr_sumK K rfl) (by rfl) T.f_sum (by decide +kernel) (pa_cons (pv 2) pa_nil)) pe_int (nomark _)) (pss_cons (ps_set (i := 4) sc_phases.nd rfl (by first | exact Or.inl rfl | exact Or.inr rfl) (pe_ok O_first_phase T.n_first_phase hr (by decide) (by rfl) (pa_cons (pv 0) (pa_cons (pv 2) pa_nil))))
    (pss_cons (ps_for PassesOwn.never rfl (pi_listK K (pv 4)) (pg_name (i := 5) sc_phases.nd rfl (by first | exact Or.inl rfl | exact Or.inr rfl)) (pss_one (ps_augS (pv 2) (pv 5) (get_listK K) pe_int ip_sub set_list)))
    (pss_one (ps_expr (pe_bmK K PySem.F.plainAttrs_list PySem.F.slot_list_append PySem.F.type_list_append mt_append (pv 3) (pa_cons (pv 4) pa_nil)))))))
    (pss_one (ps_ret (pv 3)))))), ?_⟩
    obtain ⟨⟨v1, v2, ws, ls⟩, F0, rfl, fh, ⟨h1, h2, WO⟩, k⟩ := h
    dsimp only at h1 h2 k ⊢
    obtain ⟨a1, rfl, ha1⟩ := kLI h1
    obtain ⟨a2, rfl, ha2⟩ := kLI h2
    walk_at "s"
    refine x_listof (fh _ _ ha2) fun l H1 n1 => ?_
    obtain ⟨g1, o1⟩ := n1.own fh
    walk_at "s"
    refine ⟨x_lt (by decide), fun r H2 n2 => ?_⟩
    obtain ⟨g2, o2⟩ := n2.own g1.fh
    have z1 : H l = none := n1.fr
    have z2 : H r = none := g1.hh.free n2.fr
    have n12 : l ≠ r := ne_of_none o1.h n2.fr
    have o1 := o1.go g2
    have G0 := g1.trans g2
    walk_at "s"
    refine while_m G0 (fun m σ F H => ∃ ls' rows vs x y, σ = [some (.ref a1), some (.ref a2), some (.ref l), some (.ref r), x, y] ∧ Own F H l (.lst (ls'.map V.int)) ∧ Own F H r (.lst vs) ∧ Paired ((kL kI).p F) vs rows ∧
      WsOk ws ls' ∧ ls'.sum ≤ (m : Int) ∧ phGo ws m ls' rows = phasesF ws ls ∧ (rows.length : Int) + ls'.sum ≤ ls.sum) ls.sum.toNat ⟨ls, [], [], _, _, rfl, o1, o2, .nil, WO, by omega, rfl, by simp⟩ ?_
    rintro m σ1 F1 H3 G1 s1 ⟨ls', rows, vs, x, y, rfl, o1, o2, pv1, WO', em, R, hz⟩
    walk_at "s"
    refine x_sum o1.h ?_
    walk_at "s"
    refine x_d (fun hc => ?_) (fun hc => ?_)
    · refine wh_go s1 fun N kN => ?_
      have P := first_ok WO'.1 hc
      walk_at "s"
      refine ⟨(.ref a1, .ref l, ws, ls'), upd F1 l (.lst (ls'.map V.int)), rfl, (Gr.fix G1 o1.h z1 o1.f).fh, ⟨kLI' ((Gr.fix G1 o1.h z1 o1.f).ff _ _ ha1), kLI' upd_same, WO', hc⟩, fun p ys H4 sh np hp hy => ?_⟩
      dsimp only at hy
      subst hy
      have gk : Gr F1 H3 F1 H4 := Gr.keep G1.fh sh
      have npl : l ≠ p := ne_of_none o1.h np
      have npr : r ≠ p := ne_of_none o2.h np
      have G2 := G1.trans gk
      have o1 := o1.go gk
      have o2 := o2.go gk
      have zp : H p = none := G1.hh.free np
      have G3 := G2.fix hp zp (G1.fh.free np)
      have fp : (upd F1 p (.lst ((firstF ws ls').map V.int))) p = some (.lst ((firstF ws ls').map V.int)) := upd_same
      have s3 : Same F1 (upd F1 p (.lst ((firstF ws ls').map V.int))) := same_new (G1.fh.free np)
      have o1 : Own (upd F1 p (.lst ((firstF ws ls').map V.int))) H4 l _ := ⟨o1.h, by rw [upd_ne npl]; exact o1.f⟩
      have o2 : Own (upd F1 p (.lst ((firstF ws ls').map V.int))) H4 r _ := ⟨o2.h, by rw [upd_ne npr]; exact o2.f⟩
      have pv1 := L2.Paired.mapP pv1 fun _ _ h => (kL kI).mono s3 h
      generalize (upd F1 p (.lst ((firstF ws ls').map V.int))) = F3 at fp s3 o1 o2 G3 pv1
      walk_at "s"
      refine ⟨p, rfl, ⟨_, SqL.of hp⟩, ?_⟩
      refine for_kL (r := kI) (xs := firstF ws ls') G3 fp (kI_all _) (fun i σ F H => ∃ y, σ = [some (.ref a1), some (.ref a2), some (.ref l), some (.ref r), some (.ref p), y] ∧ Own F H l (.lst ((after ws.length ls' ((firstF ws ls').take i)).map V.int)) ∧ Own F H r (.lst vs)) ⟨_, rfl, o1, o2⟩ ?_ ?_
      · rintro i x v σ2 F4 H5 N2 hx hi hv G4 s4 ⟨y2, rfl, o1, o2⟩ kN2
        obtain rfl : v = .int x := hv
        obtain ⟨b, hb, rfl⟩ := P.rng WO'.1.len x (List.mem_of_getElem? hx)
        have hb2 : b < (after ws.length ls' ((firstF ws ls').take i)).length := by rw [after_len]; exact hb
        walk_at "s"
        refine x_ixL o1.h (at_g hb2) ?_
        walk_at "s"
        refine x_setL o1.h (ixN_g hb2) fun H6 c6 => ?_
        have o2' := c6.ne o2 n12.symm
        have o1' := c6.own o1
        rw [map_set] at o1'
        walk_at "s"
        refine kN2 _ _ _ (c6.gr G4 o1.f z1) (Same.refl _) ⟨_, rfl, ?_, o2'⟩
        rw [after_take hx]
        exact o1'
      · rintro σ2 F4 H5 G4 s4 ⟨y2, rfl, o1, o2⟩
        rw [List.take_length] at o1
        have hrl : rows.length ≤ 10000000 := by have := WO.2.2.2.2; omega
        have pl := pv1.length
        walk_at "s"
        refine ⟨x_tyL o2.h, ?_⟩
        walk_at "s"
        refine x_app o2.h (by rw [sizeLine_eq]; omega) fun H6 c6 => ?_
        have o1' := c6.ne o1 n12
        have o2' := c6.own o2
        obtain ⟨w1, w2, w3, w4, _⟩ := after_wf WO'.1 P
        walk_at "s"
        have hm : m = (m - 1) + 1 := by omega
        rw [hm] at R
        unfold phGo at R
        rw [if_pos hc] at R
        refine kN (m - 1) _ _ _ (by omega) (c6.gr G4 o2.f z2) (s3.trans s4) ⟨after ws.length ls' (firstF ws ls'), rows ++ [firstF ws ls'], _, _, _, rfl, o1', o2', (L2.Paired.mapP pv1 fun _ _ h => (kL kI).mono s4 h).snoc (kLI' (s4 _ _ fp)), wsok_after WO' P, ?_, ?_, ?_⟩
        · omega
        · exact R
        · rw [List.length_append, List.length_singleton]; omega
    · walk_at "s"
      rw [phGo_stop hc] at R
      subst R
      exact k _ _ _ (G1.fix o2.h z2 o2.f) ⟨r, vs, rfl, upd_same, L2.Paired.mapP pv1 fun _ _ h => (kL kI).mono (same_new o2.f) h⟩
/-! D_fill.src -/
/-- the stream cut into parts, the last one filled up -/
def fillF (st : List Int) (n : Nat) : List (List Int) := (List.range ((st.length + n - 1) / n)).map fun i => ((st.drop (i * n)).take n) ++ List.replicate (n - ((st.drop (i * n)).take n).length) 0
def sp_fill : Sp := SpOf (ι := V × List Int × Nat) (fun i => [i.1, .int (i.2.2 : Int)])
  (fun ⟨v1, st, n⟩ F => (kL kI).p F v1 st ∧ 1 ≤ n ∧ n ≤ 1000 ∧ st.length ≤ 10000000)
  (fun ⟨_, st, n⟩ F v => (kL (kL kI)).p F v (fillF st n))
theorem ok_fill {P : Program} {w : World} {K : PySem.W.Frag} {mg : Str → Option Value} {base : Heap} (T : Tx K mg) : Okd P w K mg base 1 ("fill", none) ["stream", "size"] [] (sp_fill) := by
  obtain ⟨fd, F⟩ : ∃ fd, FunD K "fill" "fill" (defArgs s_fill) (defBody s_fill) (defScope s_fill) [] [] (He.fAd K ("fill", none)) fd := T.says.d.def_ 35 rfl
  refine ⟨fd, [], F.ok sc_fill (fun vs H Q E h => ?_) (fun cdv A outer s H vs Q E hr h => ?_), .nil, F.bindsN (fun _ _ _ _ _ _ us hl => match us, hl with | [_, _], _ => rfl), F.kp⟩
  · obtain ⟨_, _, rfl, _⟩ := h; rfl
  · refine ⟨_, PSs.nox (pss_cons (ps_set (i := 2) sc_fill.nd rfl (by first | exact Or.inl rfl | exact Or.inr rfl) (pe_lst pa_nil))
    (pss_cons (ps_for PassesOwn.never rfl (pi_range3 rfl T.f_range (pa_cons pe_int (pa_cons (pe_callB (call_lenK K) (by rfl) T.f_len (by decide +kernel) (pa_cons (pv 0) pa_nil)) (pa_cons (pv 1) pa_nil)))) (pg_name (i := 3) sc_fill.nd rfl (by first | exact Or.inl rfl | exact Or.inr rfl)) (pss_cons (ps_set (i := 4) sc_fill.nd rfl (by first | exact Or.inl rfl | exact Or.inr rfl) (pe_slice (sl_listK K) (pv 0) (po_some (pv 3)) (po_some (pe_op op_add (pv 3) (pv 1)))))
    (pss_one (ps_expr (pe_bmK K PySem.F.plainAttrs_list PySem.F.slot_list_append PySem.F.type_list_append mt_append (pv 2) (pa_cons (pe_op op_cat (pv 4) (pe_op op_rep (pe_lst (pa_cons pe_int pa_nil)) (pe_op op_sub (pv 1) (pe_callB (call_lenK K) (by rfl) T.f_len (by decide +kernel) (pa_cons (pv 4) pa_nil))))) pa_nil))))))
    (pss_one (ps_ret (pv 2))))), ?_⟩
    obtain ⟨⟨v1, st, n⟩, F0, rfl, fh, ⟨h1, hn1, hn2, hst⟩, k⟩ := h
    dsimp only at h1 hn1 hn2 hst k ⊢
    obtain ⟨a1, rfl, ha1⟩ := kLI h1
    walk_at "s"
    refine ⟨x_lt (by decide), fun r H1 nw => ?_⟩
    obtain ⟨g1, o1⟩ := nw.own fh
    walk_at "s"
    refine x_lenK (g1.hh _ _ (fh _ _ ha1)) ?_
    walk_at "s"
    refine ⟨_, _, _, (st.length + n - 1) / n, rfl, by rw [List.length_map]; exact RgC_up hn1 hn2 hst, ?_⟩
    refine for_rgc g1 (fun i σ F H => ∃ vs x y, σ = [some (.ref a1), some (.int n), some (.ref r), x, y] ∧ Own F H r (.lst vs) ∧ Paired ((kL kI).p F) vs ((fillF st n).take i)) ⟨[], _, _, rfl, o1, .nil⟩ ?_ ?_
    · rintro i σ1 F2 H2 N hi G1 s1 ⟨vs, x, y, rfl, o1, pv1⟩ kN
      have hsz : (fillF st n).length = (st.length + n - 1) / n := by unfold fillF; rw [List.length_map, List.length_range]
      have e0 : (0 + (i : Int) * (n : Int)) = ((i * n : Nat) : Int) := by rw [Int.zero_add, Int.natCast_mul]
      have e1 : ((i * n : Nat) : Int) + (n : Int) = ((i * n + n : Nat) : Int) := by omega
      rw [e0]
      walk_at "s"
      rw [e1]
      refine x_slL (G1.hh _ _ (fh _ _ ha1)) fun p1 H3 n3 => ?_
      rw [cut_map _ (by omega), show i * n + n - i * n = n by omega] at n3
      obtain ⟨F3, g3, f3⟩ := n3.fix G1.fh
      walk_at "s"
      refine ⟨x_tyL (o1.go g3).h, ?_⟩
      walk_at "s"
      refine ⟨x_lt (by decide), fun p2 H4 n4 => ?_⟩
      obtain ⟨F4, g4, f4⟩ := n4.fix g3.fh
      walk_at "s"
      refine x_lenK (g4.at (g4.up f3)) ?_
      walk_at "s"
      have hl : ((st.drop (i * n)).take n).length ≤ n := List.length_take_le _ _
      rw [List.length_map]
      have e2 : (n : Int) - (((st.drop (i * n)).take n).length : Int) = ((n - ((st.drop (i * n)).take n).length : Nat) : Int) := by omega
      rw [e2]
      refine x_rep (g4.at f4) (by omega) (by omega) rfl fun p3 H5 n5 => ?_
      rw [rep_one, Int.toNat_natCast, rep0] at n5
      obtain ⟨F5, g5, f5⟩ := n5.fix g4.fh
      refine x_cat (g5.at (g5.up (g4.up f3))) (g5.at f5) (by rw [List.length_map, List.length_map, List.length_replicate, sizeLine_eq]; omega) fun p4 H6 n6 => ?_
      rw [← List.map_append] at n6
      obtain ⟨F6, g6, f6⟩ := n6.fix g5.fh
      have gg := ((g3.trans g4).trans g5).trans g6
      have o1 := o1.go gg
      have hvl := pv1.length
      rw [List.length_take, hsz] at hvl
      have hdv : (st.length + n - 1) / n ≤ st.length + n - 1 := Nat.div_le_self _ _
      walk_at "s"
      refine x_app o1.h (by rw [sizeLine_eq]; omega) fun H7 c7 => ?_
      walk_at "s"
      refine kN _ _ _ (c7.gr (G1.trans gg) o1.f nw.fr) gg.ff ⟨_, _, _, rfl, c7.own o1, ?_⟩
      have e3 : (fillF st n)[i]? = some (((st.drop (i * n)).take n) ++ List.replicate (n - ((st.drop (i * n)).take n).length) 0) := by
        unfold fillF
        rw [List.getElem?_map, List.getElem?_range hi]
        rfl
      obtain ⟨hi2, e4⟩ := List.getElem?_eq_some_iff.mp e3
      rw [List.take_succ_eq_append_getElem hi2, e4]
      exact (L2.Paired.mapP pv1 fun _ _ h => (kL kI).mono gg.ff h).snoc (kLI' f6)
    · rintro σ1 F2 H2 G1 s1 ⟨vs, x, y, rfl, o1, pv1⟩
      walk_at "s"
      rw [List.take_of_length_le (by unfold fillF; rw [List.length_map, List.length_range]; exact Nat.le_refl _)] at pv1
      exact k _ _ _ (G1.fix o1.h nw.fr o1.f) ⟨r, vs, rfl, upd_same, L2.Paired.mapP pv1 fun _ _ h => (kL kI).mono (same_new o1.f) h⟩
/-! D_deal.src -/
theorem phs_count {ws : List Int} : ∀ {ls : List Int} {rows : List (List Int)}, Phs ws ls rows → ∀ k, k < ws.length → (rows.flatten.count (k : Int) : Int) = g ls k := by
  intro ls rows h
  induction h with
  | @nil ls W hs =>
    intro k hk
    have h1 := S_le (f := g ls) (n := ls.length) (j := k) (fun j hj => W.l j (by rw [← W.len]; exact hj)) (by rw [W.len]; exact hk)
    rw [← sum_S] at h1
    have h2 := W.l k hk
    simp
    omega
  | @cons ls row rows W P _ ih =>
    intro k hk
    have h1 := ih k hk
    rw [(after_wf W P).2.2.2.2 k hk] at h1
    rw [List.flatten_cons, List.count_append]
    omega
theorem phs_rng {ws : List Int} : ∀ {ls : List Int} {rows : List (List Int)}, Phs ws ls rows → ∀ s ∈ rows.flatten, ∃ k : Nat, k < ws.length ∧ s = (k : Int) := by
  intro ls rows h
  induction h with
  | nil => intro s hs; simp at hs
  | @cons ls row rows W P _ ih =>
    intro s hs
    rw [List.flatten_cons] at hs
    rcases List.mem_append.mp hs with q | q
    · obtain ⟨k, h1, h2, _⟩ := P.mem s q
      exact ⟨k, h1, h2⟩
    · exact ih s q
theorem flat_pre {phs : List (List Int)} {row : List Int} {i j : Nat} {s : Int} (h1 : phs[i]? = some row) (h2 : row[j]? = some s) : ∃ r, phs.flatten = (phs.take i).flatten ++ row.take j ++ s :: r := by
  obtain ⟨hi, e1⟩ := List.getElem?_eq_some_iff.mp h1
  obtain ⟨hj, e2⟩ := List.getElem?_eq_some_iff.mp h2
  refine ⟨row.drop (j + 1) ++ (phs.drop (i + 1)).flatten, ?_⟩
  have q1 : phs = phs.take i ++ row :: phs.drop (i + 1) := by
    rw [← e1, List.getElem_cons_drop, List.take_append_drop]
  have q2 : row = row.take j ++ s :: row.drop (j + 1) := by
    rw [← e2, List.getElem_cons_drop, List.take_append_drop]
  conv => lhs; rw [q1, List.flatten_append, List.flatten_cons, q2]
  simp
theorem flat_take {phs : List (List Int)} {row : List Int} {i : Nat} (h1 : phs[i]? = some row) : (phs.take (i + 1)).flatten = (phs.take i).flatten ++ row := by
  obtain ⟨hi, e1⟩ := List.getElem?_eq_some_iff.mp h1
  rw [List.take_succ_eq_append_getElem hi, e1, List.flatten_append]
  simp
theorem paired_fun {α β : Type} {f : α → β} : ∀ {xs : List α} {ys : List β}, Paired (fun x y => y = f x) xs ys → ys = xs.map f
  | _, _, .nil => rfl
  | _, _, .cons r t => by rw [r, paired_fun t]; rfl
theorem at_p {α : Type} {Q : V → α → Prop} {vs : List V} {xs : List α} {k : Nat} {x : α} (h : Paired Q vs xs) (e : xs[k]? = some x) : ∃ v, atI vs (k : Int) = some v ∧ Q v x := by
  obtain ⟨v, h1, h2⟩ := paired_get' h e
  exact ⟨v, atI_nat h1, h2⟩
def dealCs (sts : List (List Int)) (n : Nat) : List Int := sts.map fun s => ((fillF s n).length : Int)
def sp_deal : Sp := SpOf (ι := V × V × List Int × List (List Int) × Nat) (fun i => [i.1, i.2.1, .int (i.2.2.2.2 : Int)])
  (fun ⟨v1, v2, ws, sts, n⟩ F => (kL kI).p F v1 ws ∧ (kL (kL kI)).p F v2 sts ∧ 1 ≤ n ∧ n ≤ 1000 ∧ sts.length = ws.length ∧ (∀ s ∈ sts, s.length ≤ 10000000) ∧ WsOk ws (dealCs sts n))
  (fun ⟨_, _, ws, sts, n⟩ F v => ∃ rows : List (Int × List Int), (kL (k2 kI (kL kI))).p F v rows ∧ rows.map (·.1) = (phasesF ws (dealCs sts n)).flatten ∧ ∀ p ∈ rows, p.2.length = n)
theorem fillF_len {st : List Int} {n : Nat} {row : List Int} (h : row ∈ fillF st n) : row.length = n := by
  unfold fillF at h
  obtain ⟨i, _, rfl⟩ := List.mem_map.mp h
  have hl : ((st.drop (i * n)).take n).length ≤ n := List.length_take_le _ _
  rw [List.length_append, List.length_replicate]
  omega
structure DealI (ws : List Int) (n : Nat) (pre us : List Int) (rows : List (Int × List Int)) (vs : List V) (F : Hp) : Prop where
  pr : Paired ((k2 kI (kL kI)).p F) vs rows
  fst : rows.map (·.1) = pre
  all : ∀ p ∈ rows, p.2.length = n
  ul : us.length = ws.length
  cnt : ∀ k, k < ws.length → g us k = (pre.count (k : Int) : Int)
theorem DealI.up {ws : List Int} {n : Nat} {pre us : List Int} {rows : List (Int × List Int)} {vs : List V} {F F' : Hp} (I : DealI ws n pre us rows vs F) (s : Same F F') : DealI ws n pre us rows vs F' :=
  ⟨L2.Paired.mapP I.pr fun _ _ h => (k2 kI (kL kI)).mono s h, I.fst, I.all, I.ul, I.cnt⟩
theorem ok_deal {P : Program} {w : World} {K : PySem.W.Frag} {mg : Str → Option Value} {base : Heap} (T : Tx K mg) : Okd P w K mg base 5 ("deal", none) ["weights", "streams", "size"] [] (sp_deal) := by
  have O_fill := ok_fill (P := P) (w := w) (base := base) T
  have O_phases := ok_phases (P := P) (w := w) (base := base) T
  obtain ⟨fd, F⟩ : ∃ fd, FunD K "deal" "deal" (defArgs s_deal) (defBody s_deal) (defScope s_deal) [] [] (He.fAd K ("deal", none)) fd := T.says.d.def_ 36 rfl
  refine ⟨fd, [], F.ok sc_deal (fun vs H Q E h => ?_) (fun cdv A outer s H vs Q E hr h => ?_), .nil, F.bindsN (fun _ _ _ _ _ _ us hl => match us, hl with | [_, _, _], _ => rfl), F.kp⟩
  · obtain ⟨_, _, rfl, _⟩ := h; rfl
  · refine ⟨_, PSs.nox (pss_cons (ps_setLc (i := 3) (own := [("stream", 8)]) (g := (gName 8)) (tt := tYes) rfl sc_deal.nd rfl rfl (sw_true rfl rfl rfl (by decide +kernel)) (pi_listK K (pv 1)) (blkOk_by (own := [("stream", 8)]) (N := N_deal) (sc := defScope s_deal) (by decide +kernel)) (fun _ _ _ _ _ => (pg_name (i := 8) sc_deal.nd rfl (by first | exact Or.inl rfl | exact Or.inr rfl))) (fun _ _ _ _ _ => pts_nil) (fun _ _ _ _ _ => (pe_ok O_fill T.n_fill hr (by decide) (by rfl) (pa_cons (pv 8) (pa_cons (pv 2) pa_nil)))))
    (pss_cons (ps_set (i := 4) sc_deal.nd rfl (by first | exact Or.inl rfl | exact Or.inr rfl) (pe_op op_rep (pe_lst (pa_cons pe_int pa_nil)) (pe_callB (call_lenK K) (by rfl) T.f_len (by decide +kernel) (pa_cons (pv 1) pa_nil))))
    (pss_cons (ps_set (i := 5) sc_deal.nd rfl (by first | exact Or.inl rfl | exact Or.inr rfl) (pe_lst pa_nil))
    (pss_cons (ps_for PassesOwn.never rfl (pi_listK K (pe_ok O_phases T.n_phases hr (by decide) (by rfl) (pa_cons (pv 0) (pa_cons (pe_lc (own := [("part", 9)]) (g := (gName 9)) (tt := tYes) rfl sc_deal.nd (pi_listK K (pv 3)) (blkOk_by (own := [("part", 9)]) (N := N_deal) (sc := defScope s_deal) (by decide +kernel)) (fun _ _ _ _ _ => (pg_name (i := 9) sc_deal.nd rfl (by first | exact Or.inl rfl | exact Or.inr rfl))) (fun _ _ _ _ _ => pts_nil) (fun _ _ _ _ _ => (pe_callB (call_lenK K) (by rfl) T.f_len (by decide +kernel) (pa_cons (pv 9) pa_nil)))) pa_nil)))) (pg_name (i := 6) sc_deal.nd rfl (by first | exact Or.inl rfl | exact Or.inr rfl)) (pss_one (ps_for PassesOwn.never rfl (pi_listK K (pv 6)) (pg_name (i := 7) sc_deal.nd rfl (by first | exact Or.inl rfl | exact Or.inr rfl)) (pss_cons (ps_expr (pe_bmK K PySem.F.plainAttrs_list PySem.F.slot_list_append PySem.F.type_list_append mt_append (pv 5) (pa_cons (pe_tup (pa_cons (pv 7) (pa_cons (pe_ix (ix_listK K) (pe_ix (ix_listK K) (pv 3) (pv 7) (fun _ _ => rfl)) (pe_ix (ix_listK K) (pv 4) (pv 7) (fun _ _ => rfl)) (fun _ _ => rfl)) pa_nil))) pa_nil)))
    (pss_one (ps_augS (pv 4) (pv 7) (get_listK K) pe_int ip_add set_list))))))
    (pss_one (ps_ret (pv 5))))))), ?_⟩
    obtain ⟨⟨v1, v2, ws, sts, n⟩, F0, rfl, fh, ⟨h1, h2, hn1, hn2, hl, hst, WO⟩, k⟩ := h
    dsimp only at h1 h2 hn1 hn2 hl hst k ⊢
    have hwl := WO.2.1
    obtain ⟨a1, rfl, ha1⟩ := kLI h1
    obtain ⟨a2, vs2, rfl, ha2, hp2⟩ := h2
    walk_at "s"
    refine ⟨a2, rfl, ⟨_, SqL.of (fh _ _ ha2)⟩, lc_kL (s := kL (kL kI)) fh ha2 hp2 (x_lt (by omega)) (fun st rows => rows = fillF st n) ?_ ?_⟩
    · intro i st v F1 H1 N hst1 hv g1 kN
      walk_at "s"
      refine ⟨rfl, ?_⟩
      walk_at "s"
      exact ⟨(v, st, n), F1, rfl, g1.fh, ⟨hv, hn1, hn2, hst _ (List.mem_of_getElem? hst1)⟩, fun v F2 H2 g2 hv => kN _ _ _ _ g2 hv rfl⟩
    intro p1 F1 H1 parts np1 g1 kp1 pp1
    have ep := paired_fun (f := fun s => fillF s n) pp1
    subst ep
    obtain ⟨_, vsp, er, hp1, hpp⟩ := kp1
    cases er
    walk_at "s"
    refine ⟨x_lt (by decide), fun l0 H2 nw => ?_⟩
    obtain ⟨F2, g2, e2⟩ := nw.fix g1.fh
    have G2 := g1.trans g2
    walk_at "s"
    refine x_lenK (G2.hh _ _ (fh _ _ ha2)) ?_
    have hl2 : vs2.length = ws.length := by rw [hp2.length]; exact hl
    walk_at "s"
    refine x_rep (g2.at e2) (by omega) (by omega) rfl fun l1 H3 n1 => ?_
    rw [rep_one, Int.toNat_natCast, rep0, hl2] at n1
    obtain ⟨g3, o1⟩ := n1.own g2.fh
    have G3 := G2.trans g3
    walk_at "s"
    refine ⟨x_lt (by decide), fun l2 H4 n2 => ?_⟩
    obtain ⟨g4, o2⟩ := n2.own g3.fh
    have G4 := G3.trans g4
    have z1 : H l1 = none := G2.hh.free n1.fr
    have z2 : H l2 = none := G3.hh.free n2.fr
    have n12 : l1 ≠ l2 := ne_of_none o1.h n2.fr
    have o1 := o1.go g4
    have hp1' : F2 p1 = some (.lst vsp) := g2.up hp1
    have hpp' : Paired ((kL (kL kI)).p F2) vsp (sts.map fun s => fillF s n) := L2.Paired.mapP hpp fun _ _ h => (kL (kL kI)).mono g2.ff h
    walk_at "s"
    refine ⟨p1, rfl, ⟨_, SqL.of (G4.fh _ _ hp1')⟩, lc_kL (s := kI) G4.fh hp1' hpp' (x_lt (by rw [List.length_map]; omega)) (fun part c => c = (part.length : Int)) ?_ ?_⟩
    · intro i part v F5 H5 N hx hv g5 kN
      obtain ⟨b, ws2, rfl, hb, hq⟩ := hv
      walk_at "s"
      refine ⟨rfl, ?_⟩
      walk_at "s"
      refine x_lenK (g5.at hb) ?_
      exact kN _ _ _ _ (Gr.refl g5.fh) rfl (by rw [hq.length])
    intro p2 F5 H5 cs np2 g5 kp2 pp2
    have ec := paired_fun (f := fun part : List (List Int) => (part.length : Int)) pp2
    rw [List.map_map] at ec
    have ec : cs = dealCs sts n := ec
    subst ec
    have G5 := G4.trans g5
    have o1 := o1.go g5
    have o2 := o2.go g5
    walk_at "s"
    refine ⟨(.ref a1, .ref p2, ws, dealCs sts n), F5, rfl, g5.fh, ⟨kLI' (G5.up ha1), kp2, WO⟩, fun v F6 H6 g6 hv => ?_⟩
    obtain ⟨a3, vs3, rfl, ha3, hp3⟩ := hv
    have P := phases_ok WO.1
    have hcnt := phs_count P
    have hrng := phs_rng P
    have G6 := G5.trans g6
    have o1 := o1.go g6
    have o2 := o2.go g6
    have hp1'' : F6 p1 = some (.lst vsp) := g6.up (g5.up hp1')
    have hpp'' : Paired ((kL (kL kI)).p F6) vsp (sts.map fun s => fillF s n) := L2.Paired.mapP hpp' fun _ _ h => (kL (kL kI)).mono (g5.trans g6).ff h
    generalize hph : phasesF ws (dealCs sts n) = phs at *
    walk_at "s"
    refine ⟨a3, rfl, ⟨_, SqL.of (g6.at ha3)⟩, ?_⟩
    have flen : phs.flatten.length ≤ 10000000 := by
      have e1 : ∀ (ls : List Int) (rows : List (List Int)), Phs ws ls rows → (rows.flatten.length : Int) ≤ ls.sum := by
        intro ls rows h
        induction h with
        | @nil ls W hs =>
          have := S_nn (f := g ls) (n := ls.length) (fun j hj => W.l j (by rw [← W.len]; exact hj))
          rw [← sum_S] at this
          simpa using this
        | @cons ls row rows W P _ ih =>
          have := (after_wf W P).2.1
          rw [List.flatten_cons, List.length_append]
          omega
      have := e1 _ _ P
      have := WO.2.2.2.2
      omega
    refine for_kL (r := kL kI) (xs := phs) G6 ha3 hp3 (fun i σ F H => ∃ us rows vs x y, σ = [some (.ref a1), some (.ref a2), some (.int n), some (.ref p1), some (.ref l1), some (.ref l2), x, y, none, none] ∧ Own F H l1 (.lst (us.map V.int)) ∧ Own F H l2 (.lst vs) ∧
      DealI ws n (phs.take i).flatten us rows vs F) ⟨List.replicate ws.length 0, [], [], none, none, rfl, o1, o2, ⟨.nil, rfl, fun _ h => by simp at h, List.length_replicate, fun k _ => ?_⟩⟩ ?_ ?_
    · unfold g
      rw [List.getD_eq_getElem?_getD, List.getElem?_replicate]
      split <;> rfl
    · rintro i row v σ1 F7 H7 N hrow hi hv G7 s7 ⟨us, rows, vs, x, y, rfl, o1, o2, I⟩ kN
      obtain ⟨a4, rfl, ha4⟩ := kLI hv
      walk_at "s"
      refine ⟨a4, rfl, ⟨_, SqL.of (G7.fh _ _ ha4)⟩, ?_⟩
      refine for_kL (r := kI) (xs := row) G7 ha4 (kI_all _) (fun j σ F H => ∃ us rows vs y, σ = [some (.ref a1), some (.ref a2), some (.int n), some (.ref p1), some (.ref l1), some (.ref l2), some (.ref a4), y, none, none] ∧ Own F H l1 (.lst (us.map V.int)) ∧ Own F H l2 (.lst vs) ∧
        DealI ws n ((phs.take i).flatten ++ row.take j) us rows vs F) ⟨us, rows, vs, y, rfl, o1, o2, by rw [List.take_zero, List.append_nil]; exact I⟩ ?_ ?_
      · rintro j s v σ2 F8 H8 N2 hs hj hv G8 s8 ⟨us, rows, vs, y, rfl, o1, o2, I⟩ kN2
        obtain rfl : v = .int s := hv
        obtain ⟨r, er⟩ := flat_pre hrow hs
        obtain ⟨b, hb, rfl⟩ := hrng s (by rw [er]; simp)
        have hbs : b < sts.length := by rw [hl]; exact hb
        have hc1 := hcnt b hb
        rw [er, List.count_append, List.count_cons_self] at hc1
        have hdc : g (dealCs sts n) b = ((fillF sts[b] n).length : Int) := by
          unfold g dealCs
          rw [List.getD_eq_getElem?_getD, List.getElem?_map, List.getElem?_eq_getElem hbs]
          rfl
        rw [hdc] at hc1
        have hs68 : Same F6 F8 := s7.trans s8
        obtain ⟨w1, hw1, hk1⟩ := at_p (k := b) (x := fillF sts[b] n) hpp'' (by rw [List.getElem?_map, List.getElem?_eq_getElem hbs]; rfl)
        obtain ⟨a5, ws5, rfl, ha5, hp5⟩ := hk1
        have hu : ((phs.take i).flatten ++ row.take j).count (b : Int) < (fillF sts[b] n).length := by omega
        obtain ⟨w2, hw2, hk2⟩ := at_p (k := ((phs.take i).flatten ++ row.take j).count (b : Int)) hp5 (List.getElem?_eq_getElem hu)
        have hbu : b < us.length := by rw [I.ul]; exact hb
        walk_at "s"
        refine ⟨x_tyL o2.h, ?_⟩
        walk_at "s"
        refine x_ixL (G8.fh _ _ (hs68 _ _ hp1'')) hw1 ?_
        walk_at "s"
        refine x_ixL o1.h (at_g hbu) ?_
        rw [I.cnt b hb]
        refine x_ixL (G8.fh _ _ (hs68 _ _ ha5)) hw2 ?_
        walk_at "s"
        refine ⟨x_lt (Nat.le_of_ble_eq_true rfl), fun t H9 nt => ?_⟩
        obtain ⟨F9, g9, e9⟩ := nt.fix G8.fh
        have G9 := G8.trans g9
        have o1 := o1.go g9
        have o2 := o2.go g9
        have hrl : rows.length = ((phs.take i).flatten ++ row.take j).length := by rw [← I.fst, List.length_map]
        have hvl := I.pr.length
        have hfl : ((phs.take i).flatten ++ row.take j).length ≤ phs.flatten.length := by rw [er]; simp only [List.length_append]; omega
        walk_at "s"
        refine x_app o2.h (by rw [sizeLine_eq]; omega) fun H10 c10 => ?_
        have G10 := c10.gr G9 o2.f z2
        have o1 := c10.ne o1 n12
        have o2 := c10.own o2
        walk_at "s"
        refine x_ixL o1.h (at_g hbu) ?_
        walk_at "s"
        refine x_setL o1.h (ixN_g hbu) fun H11 c11 => ?_
        have G11 := c11.gr G10 o1.f z1
        have o2 := c11.ne o2 n12.symm
        have o1 := c11.own o1
        rw [map_set] at o1
        walk_at "s"
        refine kN2 _ _ _ G11 g9.ff ⟨_, rows ++ [((b : Int), (fillF sts[b] n)[((phs.take i).flatten ++ row.take j).count (b : Int)])], _, _, rfl, o1, o2, ?_⟩
        obtain ⟨hj2, ej⟩ := List.getElem?_eq_some_iff.mp hs
        refine ⟨(I.up g9.ff).pr.snoc ⟨t, _, _, rfl, e9, rfl, (kL kI).mono (hs68.trans g9.ff) hk2⟩, ?_, fun p hp => ?_, by rw [List.length_set]; exact I.ul, fun k hk => ?_⟩
        · rw [List.map_append, I.fst, List.take_succ_eq_append_getElem hj2, ej, List.append_assoc]
          rfl
        · rcases List.mem_append.mp hp with h | h
          · exact I.all p h
          · rw [List.mem_singleton.mp h]
            exact fillF_len (List.getElem_mem _)
        · rw [List.take_succ_eq_append_getElem hj2, ej, ← List.append_assoc, count_snoc]
          by_cases e : k = b
          · subst e
            rw [g_set_same hbu, I.cnt k hk, if_pos rfl]
          · rw [g_set_ne e, I.cnt k hk, if_neg (by omega), Int.add_zero]
      · rintro σ2 F8 H8 G8 s8 ⟨us, rows, vs, y, rfl, o1, o2, I⟩
        rw [List.take_length] at I
        refine kN _ _ _ G8 s8 ⟨us, rows, vs, _, _, rfl, o1, o2, ?_⟩
        rw [flat_take hrow]
        exact I
    · rintro σ1 F7 H7 G7 s7 ⟨us, rows, vs, x, y, rfl, o1, o2, I⟩
      rw [List.take_length] at I
      walk_at "s"
      exact k _ _ _ (G7.fix o2.h z2 o2.f) ⟨rows, ⟨l2, vs, rfl, upd_same, (I.up (same_new o2.f)).pr⟩, I.fst, I.all⟩
/-! D_join.src -/
/-- a comprehension over a text, no test -/
theorem lc_str {β : Type} {F H : Hp} {σ : L2.St} {g : TG} {te : TE} {vs : List Nat} {Qd : Addr → Hp → Prop} {z : Str} {s : R β} (fh : Same F H) (hn : z.length ≤ sizeLine) (P : β → Prop)
    (hs : ∀ (i : Nat) (c : Nat) F1 H1 (N : VK), z.cps[i]? = some c → Gr F H F1 H1 → (∀ y F' H' b, Gr F1 H1 F' H' → s.p F' y b → P b → N y H') → g (.str ⟨#[c]⟩) (wipe σ vs) H1 fun σ2 H2 => wipe σ2 vs = wipe σ vs ∧ te σ2 H2 N)
    (hd : ∀ p F' H' (ys : List β), H p = none → Gr F H F' H' → (kL s).p F' (.ref p) ys → ys.length = z.length → (∀ b ∈ ys, P b) → Qd p H') :
    ∀ D, H D = none → ∃ W : Nat → Nat → Hp → Prop, (∃ m, W 0 m (upd H D (.lst []))) ∧ ∀ i m H, W i m H →
      ((Its z).stop i H ∧ Qd D H) ∨ ((Its z).go i H ∧ ∃ Nx : Hp → Prop, (∀ H', Nx H' → ∃ m', m' < m ∧ W (i + 1) m' H') ∧ ∀ x H', (Its z).yld i H x H' → g x (wipe σ vs) H' fun σ2 H2 => wipe σ2 vs = wipe σ vs ∧ tYes σ2 H2 fun b H3 =>
        if b = true then te σ2 H3 fun y H4 => ∃ acc, H4 D = some (.lst acc) ∧ acc.length < sizeLine ∧ Nx (upd H4 D (.lst (acc ++ [y]))) else Nx H3) := by
  refine lc_gen (s := s) walk_str (y0 := fun i x => ∃ c, z.cps[i]? = some c ∧ x = .str ⟨#[c]⟩) (fun _ _ _ _ h => h) fh hn (fun _ _ _ => trivial) (fun _ b => P b) (fun _ => False) ?_ ?_
  · rintro i x F1 H1 NY NN hi ⟨c, hc, rfl⟩ g1 kY _
    exact hs i c F1 H1 NY hc g1 fun y F' H' b g' hb hP => kY y F' H' b g' hb hP
  · intro p F' H' sel ys hp0 g' hk sl pp no
    have e := range_all sl no
    subst e
    refine hd p F' H' ys hp0 g' hk ?_ ?_
    · rw [← pp.length, List.length_range]; rfl
    · have key : ∀ (l : List Nat) (ys : List β), Paired (fun _ b => P b) l ys → ∀ b ∈ ys, P b := by
        intro l ys h
        induction h with
        | nil => intro b hb; simp at hb
        | cons h1 t ih =>
          intro b hb
          rcases List.mem_cons.mp hb with e | e
          · rw [e]; exact h1
          · exact ih b e
      exact key _ _ pp
theorem k2I {F : Hp} {v : V} {p : Int × Int} (h : (k2 kI kI).p F v p) : ∃ a, v = .ref a ∧ F a = some (.tup [.int p.1, .int p.2]) := by
  obtain ⟨a, x, y, e, h1, h2, h3⟩ := h
  obtain rfl : x = .int p.1 := h2
  obtain rfl : y = .int p.2 := h3
  exact ⟨a, e, h1⟩
def sp_make_join : Sp := SpFl (ι := V × V × Int × List Int × Int × Int) (fun i => [i.1, i.2.1, .int i.2.2.1])
  (fun ⟨v1, v2, _, ns, a, b⟩ F => (kL kI).p F v1 ns ∧ (k2 kI kI).p F v2 (a, b) ∧ ns.length ≤ 10000000)
  (fun ⟨_, _, _, ns, _, _⟩ ys => ∃ ms : List Int, ys = ms.map V.int ∧ ms.length ≤ ns.length)
theorem ok_make_join {P : Program} {w : World} {K : PySem.W.Frag} {mg : Str → Option Value} {base : Heap} (T : Tx K mg) : Okd P w K mg base 1 ("make_join", none) ["codes", "pair", "code"] [] (sp_make_join) := by
  obtain ⟨fd, F⟩ : ∃ fd, FunD K "make_join" "make_join" (defArgs s_make_join) (defBody s_make_join) (defScope s_make_join) [] [] (He.fAd K ("make_join", none)) fd := T.says.d.def_ 57 rfl
  refine ⟨fd, [], F.ok sc_make_join (fun vs H Q E h => ?_) (fun cdv A outer s H vs Q E hr h => ?_), .nil, F.bindsN (fun _ _ _ _ _ _ us hl => match us, hl with | [_, _, _], _ => rfl), F.kp⟩
  · obtain ⟨_, _, rfl, _⟩ := h; rfl
  · refine ⟨_, PSs.nox (pss_cons (ps_asg (pv 1) (pg_tupK K rfl (pgs_cons (pg_name (i := 3) sc_make_join.nd rfl (by first | exact Or.inl rfl | exact Or.inr rfl)) (pgs_cons (pg_name (i := 4) sc_make_join.nd rfl (by first | exact Or.inl rfl | exact Or.inr rfl)) pgs_nil))))
    (pss_cons (ps_set (i := 5) sc_make_join.nd rfl (by first | exact Or.inl rfl | exact Or.inr rfl) (pe_lst pa_nil))
    (pss_cons (ps_set (i := 6) sc_make_join.nd rfl (by first | exact Or.inl rfl | exact Or.inr rfl) pe_int)
    (pss_cons (ps_while PassesOwn.never (pt_cmpR op_lt (pv 6) (pe_callB (call_lenK K) (by rfl) T.f_len (by decide +kernel) (pa_cons (pv 0) pa_nil)) (nomark _)) (pss_one (ps_if (PW.pt (pw_and (pt_cmpR op_lt (pe_op op_add (pv 6) pe_int) (pe_callB (call_lenK K) (by rfl) T.f_len (by decide +kernel) (pa_cons (pv 0) pa_nil)) (nomark _)) (pw_and (pt_cmpR op_eq (pe_ix (ix_listK K) (pv 0) (pv 6) (fun _ _ => rfl)) (pv 3) (nomark _)) (pw_and1 (pt_cmpR op_eq (pe_ix (ix_listK K) (pv 0) (pe_op op_add (pv 6) pe_int) (fun _ _ => rfl)) (pv 4) (nomark _)))))) (pss_cons (ps_expr (pe_bmK K PySem.F.plainAttrs_list PySem.F.slot_list_append PySem.F.type_list_append mt_append (pv 5) (pa_cons (pv 2) pa_nil)))
    (pss_one (ps_aug (i := 6) sc_make_join.nd rfl (by first | exact Or.inl rfl | exact Or.inr rfl) pe_int ip_add))) (pss_cons (ps_expr (pe_bmK K PySem.F.plainAttrs_list PySem.F.slot_list_append PySem.F.type_list_append mt_append (pv 5) (pa_cons (pe_ix (ix_listK K) (pv 0) (pv 6) (fun _ _ => rfl)) pa_nil)))
    (pss_one (ps_aug (i := 6) sc_make_join.nd rfl (by first | exact Or.inl rfl | exact Or.inr rfl) pe_int ip_add))))))
    (pss_one (ps_ret (pv 5))))))), ?_⟩
    obtain ⟨⟨v1, v2, code, ns, a, b⟩, F0, rfl, fh, ⟨h1, h2, hn⟩, k⟩ := h
    dsimp only at h1 h2 hn k ⊢
    obtain ⟨a1, rfl, ha1⟩ := kLI h1
    obtain ⟨a2, rfl, ha2⟩ := k2I h2
    walk_at "s"
    refine x_gT (fh _ _ ha2) rfl ?_
    walk_at "s"
    refine ⟨x_lt (by decide), fun r H1 nw => ?_⟩
    obtain ⟨g1, o1⟩ := nw.own fh
    walk_at "s"
    refine while_m g1 (fun m σ F H => ∃ (i : Nat) (row : List Int), σ = [some (.ref a1), some (.ref a2), some (.int code), some (.int a), some (.int b), some (.ref r), some (.int i)] ∧ Own F H r (.lst (row.map V.int)) ∧ row.length ≤ i ∧ i ≤ ns.length ∧ m = ns.length - i) ns.length
      ⟨0, [], rfl, o1, Nat.le_refl _, Nat.zero_le _, rfl⟩ ?_
    rintro m σ1 F1 H2 G1 s1 ⟨i, row, rfl, o1, hri, hin, rfl⟩
    have e1 := G1.hh _ _ (fh _ _ ha1)
    walk_at "s"
    refine x_lenK e1 ?_
    rw [List.length_map]
    walk_at "s"
    refine x_d (fun hc => ?_) (fun hc => ?_)
    · have hi : i < ns.length := by omega
      refine wh_go s1 fun N kN => ?_
      have fin : ∀ D : Ends, D.nx = N → tSeq (tDrop (tBM K "list" rAppend (tVar 5) (tCons (tOp (rIxL K) (tVar 0) (tVar 6)) tNil))) (tAug 6 (tC (.int 1)) (ipI fun i j => i + j)) D [some (.ref a1), some (.ref a2), some (.int code), some (.int a), some (.int b), some (.ref r), some (.int i)] H2 := by
        intro D hD
        walk_at "s"
        refine ⟨x_tyL o1.h, ?_⟩
        walk_at "s"
        refine x_ixL e1 (at_g hi) ?_
        walk_at "s"
        refine x_app o1.h (by rw [List.length_map, sizeLine_eq]; omega) fun H3 c3 => ?_
        walk_at "s"
        rw [hD]
        refine kN (ns.length - (i + 1)) _ _ _ (by omega) (c3.gr G1 o1.f nw.fr) (Same.refl _) ⟨i + 1, row ++ [g ns i], rfl, ?_, by rw [List.length_append, List.length_singleton]; omega, by omega, rfl⟩
        rw [List.map_append]
        exact c3.own o1
      walk_at "s"
      refine x_lenK e1 ?_
      rw [List.length_map]
      walk_at "s"
      refine x_d (fun hd => ?_) (fun hd => ?_)
      · have hi2 : i + 1 < ns.length := by omega
        walk_at "s"
        refine x_ixL e1 (at_g hi) ?_
        walk_at "s"
        refine x_d (fun he => ?_) (fun he => ?_)
        · walk_at "s"
          rw [show (i : Int) + 1 = ((i + 1 : Nat) : Int) from rfl]
          refine x_ixL e1 (at_g hi2) ?_
          walk_at "s"
          refine x_d (fun hf => ?_) (fun hf => ?_)
          · walk_at "s"
            refine ⟨x_tyL o1.h, ?_⟩
            walk_at "s"
            refine x_app o1.h (by rw [List.length_map, sizeLine_eq]; omega) fun H3 c3 => ?_
            walk_at "s"
            refine kN (ns.length - (i + 2)) _ _ _ (by omega) (c3.gr G1 o1.f nw.fr) (Same.refl _) ⟨i + 2, row ++ [code], rfl, ?_, by rw [List.length_append, List.length_singleton]; omega, by omega, rfl⟩
            rw [List.map_append]
            exact c3.own o1
          · exact fin _ rfl
        · refine x_f ?_
          exact fin _ rfl
      · refine x_f ?_
        exact fin _ rfl
    · walk_at "s"
      exact k _ _ _ G1.hh nw.fr o1.h ⟨row, rfl, by omega⟩
/-! D_join2.src -/
def sp_word_codes : Sp := SpFl (ι := V × Str × List (Int × Int)) (fun i => [i.1, .str i.2.1])
  (fun ⟨v1, z, js⟩ F => (kL (k2 kI kI)).p F v1 js ∧ js.length ≤ 1000 ∧ z.length ≤ 100000)
  (fun ⟨_, z, _⟩ ys => ∃ ms : List Int, ys = ms.map V.int ∧ ms.length ≤ z.length + 1)
theorem ok_word_codes {P : Program} {w : World} {K : PySem.W.Frag} {mg : Str → Option Value} {base : Heap} (T : Tx K mg) : Okd P w K mg base 2 ("word_codes", none) ["joins", "word"] [] (sp_word_codes) := by
  have O_make_join := ok_make_join (P := P) (w := w) (base := base) T
  obtain ⟨fd, F⟩ : ∃ fd, FunD K "word_codes" "word_codes" (defArgs s_word_codes) (defBody s_word_codes) (defScope s_word_codes) [] [] (He.fAd K ("word_codes", none)) fd := T.says.d.def_ 58 rfl
  refine ⟨fd, [], F.ok sc_word_codes (fun vs H Q E h => ?_) (fun cdv A outer s H vs Q E hr h => ?_), .nil, F.bindsN (fun _ _ _ _ _ _ us hl => match us, hl with | [_, _], _ => rfl), F.kp⟩
  · obtain ⟨_, _, rfl, _⟩ := h; rfl
  · refine ⟨_, PSs.nox (pss_cons (ps_set (i := 2) sc_word_codes.nd rfl (by first | exact Or.inl rfl | exact Or.inr rfl) (pe_op op_cat (pe_lc (own := [("char", 4)]) (g := (gName 4)) (tt := tYes) rfl sc_word_codes.nd (pi_str (pv 1)) (blkOk_by (own := [("char", 4)]) (N := N_word_codes) (sc := defScope s_word_codes) (by decide +kernel)) (fun _ _ _ _ _ => (pg_name (i := 4) sc_word_codes.nd rfl (by first | exact Or.inl rfl | exact Or.inr rfl))) (fun _ _ _ _ _ => pts_nil) (fun _ _ _ _ _ => (pe_op op_add pe_int (pe_callB call_ord (by rfl) T.f_ord (by decide +kernel) (pa_cons (pv 4) pa_nil))))) (pe_lst (pa_cons T.e_SPACE pa_nil))))
    (pss_cons (ps_for PassesOwn.never rfl (pi_range1 rfl T.f_range (pa_cons (pe_callB (call_lenK K) (by rfl) T.f_len (by decide +kernel) (pa_cons (pv 0) pa_nil)) pa_nil)) (pg_name (i := 3) sc_word_codes.nd rfl (by first | exact Or.inl rfl | exact Or.inr rfl)) (pss_one (ps_set (i := 2) sc_word_codes.nd rfl (by first | exact Or.inl rfl | exact Or.inr rfl) (pe_ok O_make_join T.n_make_join hr (by decide) (by rfl) (pa_cons (pv 2) (pa_cons (pe_ix (ix_listK K) (pv 0) (pv 3) (fun _ _ => rfl)) (pa_cons (pe_op op_add T.e_FIRST_JOIN (pv 3)) pa_nil)))))))
    (pss_one (ps_ret (pv 2))))), ?_⟩
    obtain ⟨⟨v1, z, js⟩, F0, rfl, fh, ⟨h1, hj, hz⟩, k⟩ := h
    dsimp only at h1 hj hz k ⊢
    obtain ⟨a1, vs1, rfl, ha1, hp1⟩ := h1
    walk_at "s"
    refine lc_str (s := kI) fh (by rw [sizeLine_eq]; omega) (fun _ => True) ?_ ?_
    · intro i c F1 H1 N hc g1 kN
      walk_at "s"
      refine ⟨rfl, ?_⟩
      walk_at "s"
      refine ⟨rfl, ?_⟩
      walk_at "s"
      exact kN _ _ _ _ (Gr.refl g1.fh) rfl trivial
    intro p F1 H1 ys np g1 hk hlen _
    obtain ⟨_, e, hp⟩ := kLI hk
    cases e
    walk_at "s"
    refine ⟨x_lt (by decide), fun q H2 nq => ?_⟩
    obtain ⟨F2, g2, e2⟩ := nq.fix g1.fh
    refine x_cat (g2.at (g2.up hp)) (g2.at e2) (by rw [List.length_map, sizeLine_eq]; show ys.length + 1 ≤ _; omega) fun q2 H3 nq2 => ?_
    have e3 : ys.map V.int ++ [V.int 34] = (ys ++ [34]).map V.int := by rw [List.map_append]; rfl
    rw [e3] at nq2
    obtain ⟨F3, g3, e4⟩ := nq2.fix g2.fh
    have G3 := (g1.trans g2).trans g3
    have z3 : H q2 = none := (g1.trans g2).hh.free nq2.fr
    walk_at "s"
    refine x_lenK (G3.hh _ _ (fh _ _ ha1)) ?_
    walk_at "s"
    refine ⟨by rw [hp1.length]; omega, by rw [hp1.length]; omega, ?_⟩
    rw [Int.toNat_natCast, hp1.length]
    refine for_rg0 G3 (fun i σ F H' => ∃ (l : Addr) (ns : List Int) (x : Option V), σ = [some (.ref a1), some (.str z), some (.ref l), x, none] ∧ F l = some (.lst (ns.map V.int)) ∧ H l = none ∧ ns.length ≤ z.length + 1)
      ⟨q2, ys ++ [34], none, rfl, e4, z3, by rw [List.length_append, hlen]; exact Nat.le_refl _⟩ ?_ ?_
    · rintro i σ1 F4 H4 N hi G4 s4 ⟨l, ns, x, rfl, hl, zl, hn⟩ kN
      obtain ⟨w1, hw1, hk1⟩ := paired_get' hp1 (List.getElem?_eq_getElem hi)
      walk_at "s"
      refine x_ixL (G4.hh _ _ (fh _ _ ha1)) (atI_nat hw1) ?_
      walk_at "s"
      refine ⟨(.ref l, w1, 200 + (i : Int), ns, js[i].1, js[i].2), F4, rfl, G4.fh, ⟨kLI' hl, (k2 kI kI).mono G4.ff hk1, by omega⟩, fun p2 ys2 H5 sh np2 hp2 hy2 => ?_⟩
      obtain ⟨ms, rfl, hm⟩ := hy2
      have gk := Gr.keep G4.fh sh
      have G5 := (G4.trans gk).fix hp2 (G4.hh.free np2) (G4.fh.free np2)
      walk_at "s"
      exact kN _ _ _ G5 (same_new (G4.fh.free np2)) ⟨p2, ms, _, rfl, upd_same, G4.hh.free np2, by omega⟩
    · rintro σ1 F4 H4 G4 s4 ⟨l, ns, x, rfl, hl, zl, hn⟩
      walk_at "s"
      exact k _ _ _ G4.hh zl (G4.fh _ _ hl) ⟨ns, rfl, hn⟩
/-- gains of pairs of codes -/
def GainOk (kvs : List (List L2.Key × V)) : Prop := ∀ p ∈ kvs, (∃ a b : Int, p.1 = [Sum.inl a, Sum.inl b]) ∧ ∃ n : Int, p.2 = .int n
theorem valV_mem {κ : Type} [DecidableEq κ] {kvs : List (κ × V)} {k : κ} {v : V} (h : valV kvs k = some v) : (k, v) ∈ kvs := by
  unfold valV at h
  obtain ⟨p, hp, e⟩ := Option.map_eq_some_iff.mp h
  have h1 := List.find?_some hp
  have h2 := List.mem_of_find?_eq_some hp
  have e1 : p.1 = k := of_decide_eq_true h1
  obtain ⟨a, b⟩ := p
  simp only at e e1
  subst e e1
  exact h2
theorem putK_mem {κ : Type} [DecidableEq κ] {kvs : List (κ × V)} {k : κ} {v : V} {p : κ × V} (h : p ∈ putK kvs k v) : p ∈ kvs ∨ p = (k, v) := by
  unfold putK at h
  split at h
  · obtain ⟨q, hq, e⟩ := List.mem_map.mp h
    split at e
    · rename_i e2
      right
      rw [← e, e2]
    · left
      rw [← e]
      exact hq
  · rcases List.mem_append.mp h with q | q
    · exact Or.inl q
    · exact Or.inr (List.mem_singleton.mp q)
theorem GainOk.put {kvs : List (List L2.Key × V)} {a b n : Int} (h : GainOk kvs) : GainOk (putK kvs [Sum.inl a, Sum.inl b] (.int n)) := fun p hp => by
  rcases putK_mem hp with q | q
  · exact h p q
  · rw [q]
    exact ⟨⟨a, b, rfl⟩, n, rfl⟩
def sp_add_gains : Sp := fun vs H Q _ => ∃ (v1 : V) (d : Addr) (F : Hp) (ns : List Int) (kvs : List (List L2.Key × V)), vs = [v1, .ref d] ∧ Same F H ∧ (kL kI).p F v1 ns ∧ Own F H d (.dT kvs) ∧ GainOk kvs ∧ kvs.length + ns.length ≤ 10000000 ∧
  ∀ H' kvs', (∀ b o, b ≠ d → H b = some o → H' b = some o) → H' d = some (.dT kvs') → GainOk kvs' → kvs'.length ≤ kvs.length + ns.length → Q .non H'
theorem len_add_gains {vs : List V} {H : Hp} {Q : VK} {E : XK} (h : sp_add_gains vs H Q E) : vs.length = ["codes", "gains"].length := by
  obtain ⟨_, _, _, _, _, rfl, _⟩ := h
  rfl
/-- H without d -/
def del (H : Hp) (d : Addr) : Hp := fun b => if b = d then none else H b
theorem del_same {H : Hp} {d : Addr} : del H d d = none := by unfold del; rw [if_pos rfl]
theorem del_ne {H : Hp} {b d : Addr} (h : b ≠ d) : del H d b = H b := by unfold del; rw [if_neg h]
theorem gr_del {F H : Hp} {d : Addr} (fh : Same F H) : Gr F (del H d) F H :=
  ⟨Same.refl _, fh, fun b o e => by
    by_cases z : b = d
    · subst z; rw [del_same] at e; cases e
    · rw [del_ne z] at e; exact e, fun _ _ h => h⟩
theorem del_out {H H' : Hp} {d : Addr} (h : Same (del H d) H') : ∀ b o, b ≠ d → H b = some o → H' b = some o := fun b o n e => h b o (by rw [del_ne n]; exact e)
theorem ok_add_gains {P : Program} {w : World} {K : PySem.W.Frag} {mg : Str → Option Value} {base : Heap} (T : Tx K mg) : Okd P w K mg base 1 ("_add_gains", none) ["codes", "gains"] [] (sp_add_gains) := by
  obtain ⟨fd, F⟩ : ∃ fd, FunD K "_add_gains" "_add_gains" (defArgs s_add_gains) (defBody s_add_gains) (defScope s_add_gains) [] [] (He.fAd K ("_add_gains", none)) fd := T.says.d.def_ 59 rfl
  refine ⟨fd, [], F.ok sc_add_gains (fun vs H Q E h => ?_) (fun cdv A outer s H vs Q E hr h => ?_), .nil, F.bindsN (fun _ _ _ _ _ _ us hl => match us, hl with | [_, _], _ => rfl), F.kp⟩
  · exact len_add_gains h
  · have hu := hu_of hr; refine ⟨_, PSs.nox (pss_cons (ps_set (i := 2) sc_add_gains.nd rfl (by first | exact Or.inl rfl | exact Or.inr rfl) (pe_un un_neg pe_int))
    (pss_one (ps_for PassesOwn.never rfl (pi_range1 rfl T.f_range (pa_cons (pe_op op_sub (pe_callB (call_lenK K) (by rfl) T.f_len (by decide +kernel) (pa_cons (pv 0) pa_nil)) pe_int) pa_nil)) (pg_name (i := 3) sc_add_gains.nd rfl (by first | exact Or.inl rfl | exact Or.inr rfl)) (pss_cons (ps_set (i := 4) sc_add_gains.nd rfl (by first | exact Or.inl rfl | exact Or.inr rfl) (pe_tup (pa_cons (pe_ix (ix_listK K) (pv 0) (pv 3) (fun _ _ => rfl)) (pa_cons (pe_ix (ix_listK K) (pv 0) (pe_op op_add (pv 3) pe_int) (fun _ _ => rfl)) pa_nil))))
    (pss_one (ps_if (pt_cmpR op_ne (pe_ix (ix_tupK K) (pv 4) pe_int (fun _ _ => rfl)) (pe_ix (ix_tupK K) (pv 4) pe_int (fun _ _ => rfl)) (nomark _)) (pss_one (ps_dput hu (pv 1) (pv 4) (pe_op op_add (pe_dget2 hu (pv 1) (pv 4) pe_int ⟨rfl, rfl, rfl, rfl⟩) pe_int) rfl)) (pss_one (ps_if (pt_cmpR op_ne (pv 2) (pe_op op_sub (pv 3) pe_int) (nomark _)) (pss_cons (ps_dput hu (pv 1) (pv 4) (pe_op op_add (pe_dget2 hu (pv 1) (pv 4) pe_int ⟨rfl, rfl, rfl, rfl⟩) pe_int) rfl)
    (pss_one (ps_set (i := 2) sc_add_gains.nd rfl (by first | exact Or.inl rfl | exact Or.inr rfl) (pv 3)))) pss_nil)))))))), ?_⟩
    obtain ⟨v1, d, F0, ns, kvs, rfl, fh, h1, od, hG, hz, k⟩ := h
    obtain ⟨a1, rfl, ha1⟩ := kLI h1
    have G0 := gr_del (d := d) fh
    walk_at "s"
    refine x_lenK (fh _ _ ha1) ?_
    rw [List.length_map]
    walk_at "s"
    refine ⟨by omega, by omega, ?_⟩
    refine for_rg0 G0 (fun i σ F H' => ∃ (kv : List (List L2.Key × V)) (l : Int) (x y : Option V), σ = [some (.ref a1), some (.ref d), some (.int l), x, y] ∧ Own F H' d (.dT kv) ∧ GainOk kv ∧ kv.length ≤ kvs.length + i) ⟨kvs, -2, _, _, rfl, od, hG, Nat.le_refl _⟩ ?_ ?_
    · rintro i σ1 F1 H1 N hi G1 s1 ⟨kv, l, x, y, rfl, o1, hg, hl⟩ kN
      have e1 : H1 a1 = some (.lst (ns.map V.int)) := G1.fh _ _ (s1 _ _ ha1)
      have hi1 : i < ns.length := by omega
      have hi2 : i + 1 < ns.length := by omega
      walk_at "s"
      refine x_ixL e1 (at_g hi1) ?_
      walk_at "s"
      rw [show (i : Int) + 1 = ((i + 1 : Nat) : Int) from rfl]
      refine x_ixL e1 (at_g hi2) ?_
      walk_at "s"
      refine ⟨x_lt (Nat.le_of_ble_eq_true rfl), fun t H2 nt => ?_⟩
      obtain ⟨F2, g2, e2⟩ := nt.fix G1.fh
      have o2 := o1.go g2
      have G2 := G1.trans g2
      have et := g2.at e2
      -- the store of a gain
      have fin : ∀ (D : Ends) (u : TS) (l : Int) (x : Option V), (∀ (σ' : L2.St) (H3 : Hp) (kv' : List (List L2.Key × V)) (F3 : Hp), σ' = [some (.ref a1), some (.ref d), some (.int l), x, some (.ref t)] → Gr F0 (del H d) F3 H3 → Same F2 F3 → Own F3 H3 d (.dT kv') → GainOk kv' → kv'.length ≤ kvs.length + (i + 1) → D.nx σ' H3) →
          sDPut (tVar 1) (tVar 4) (tOp (rI0 fun i j => V.int (i + j)) (tDGet2 (tVar 1) (tVar 4) (tC (.int 0))) (tC (.int 1))) D [some (.ref a1), some (.ref d), some (.int l), x, some (.ref t)] H2 := by
        intro D u l x kD
        walk_at "s"
        refine ⟨d, rfl, Or.inr ⟨kv, Or.inl o2.h⟩, ?_⟩
        walk_at "s"
        refine ⟨_, DGet.t (k := [Sum.inl (g ns i), Sum.inl (g ns (i + 1))]) o2.h et, ?_⟩
        obtain ⟨n, en⟩ : ∃ n : Int, (valV kv [Sum.inl (g ns i), Sum.inl (g ns (i + 1))]).getD (V.int 0) = V.int n := by
          cases e : valV kv [Sum.inl (g ns i), Sum.inl (g ns (i + 1))] with
          | none => exact ⟨0, rfl⟩
          | some v =>
            obtain ⟨_, n, en⟩ := hg _ (valV_mem e)
            exact ⟨n, en⟩
        rw [en]
        walk_at "s"
        have hlp := length_putK kv [Sum.inl (g ns i), Sum.inl (g ns (i + 1))] (V.int (n + 1))
        refine ⟨d, _, rfl, DPut.t (k := [Sum.inl (g ns i), Sum.inl (g ns (i + 1))]) o2.h et (by rw [sizeLine_eq]; omega), ?_⟩
        have c : Chg H2 d (.dT (putK kv [Sum.inl (g ns i), Sum.inl (g ns (i + 1))] (.int (n + 1)))) (upd H2 d (.dT (putK kv [Sum.inl (g ns i), Sum.inl (g ns (i + 1))] (.int (n + 1))))) := rfl
        exact kD _ _ _ _ rfl (c.gr G2 o2.f del_same) (Same.refl _) (c.own o2) hg.put (by omega)
      walk_at "s"
      refine x_ixT et rfl ?_
      walk_at "s"
      refine x_ixT et rfl ?_
      walk_at "s"
      refine x_nd (fun hc => ?_) (fun hc => ?_)
      · walk_at "s"
        refine x_nd (fun hd => ?_) (fun hd => ?_)
        · walk_at "s"
          exact kN _ _ _ G2 g2.ff ⟨kv, _, _, _, rfl, o2, hg, by omega⟩
        · walk_at "s1"
          refine fin _ (tNext) _ _ fun σ' H3 kv' F3 hσ G3 s3 o3 hg3 hl3 => ?_
          subst hσ
          walk_at "s"
          exact kN _ _ _ G3 (g2.ff.trans s3) ⟨kv', _, _, _, rfl, o3, hg3, hl3⟩
      · refine fin _ (tNext) _ _ fun σ' H3 kv' F3 hσ G3 s3 o3 hg3 hl3 => ?_
        subst hσ
        walk_at "s"
        exact kN _ _ _ G3 (g2.ff.trans s3) ⟨kv', _, _, _, rfl, o3, hg3, hl3⟩
    · rintro σ1 F1 H1 G1 s1 ⟨kv, l, x, y, rfl, o1, hg, hl⟩
      walk_at "s"
      exact k _ _ (del_out G1.hh) o1.h hg (by omega)
/-! D_join3.src -/
theorem Gr.chx {F0 H0 F H H' : Hp} {d : Addr} (g : Gr F0 H0 F H) (hx : ∀ b o, b ≠ d → H b = some o → H' b = some o) (fd : F d = none) (zd : H0 d = none) : Gr F0 H0 F H' :=
  ⟨g.ff, fun b o e => hx b o (ne_of_none e fd) (g.fh b o e), fun b o e => hx b o (ne_of_none e zd) (g.hh b o e), g.nw⟩
theorem New.fix' {F H H' : Hp} {o : HO} {p : Addr} (n : New H p o H') (fh : Same F H) : ∃ F', Gr F H F' H' ∧ F' p = some o ∧ ∀ b, b ≠ p → F' b = F b := by
  obtain ⟨h, rfl⟩ := n
  exact ⟨_, Gr.new fh h, upd_same, fun b hb => upd_ne hb⟩
theorem r_iK {td : TE} {σ : L2.St} {H : Hp} {R : It → Hp → Prop} (h : td σ H fun x H1 => ∃ d o, x = .ref d ∧ ((∃ kvs, H1 d = some (.frz o (.dK kvs)) ∧ R (Itk d o kvs) H1) ∨ ∃ kvs, H1 d = some (.frz o (.dT kvs)) ∧ R (Itkt d o kvs) H1)) : iKeys td σ H R := h
theorem r_lock {t : TS} {D : Ends} {σ : L2.St} {H : Hp} {d : Addr} {u : HO} (h : H d = some u) (m : Mut (some u)) (q : ∀ od H', Chg H d (.frz od u) H' → t ⟨fun σ' H' => H' d = some (.frz od u) ∧ D.nx σ' (upd H' d u), fun v H' => H' d = some (.frz od u) ∧ D.rt v (upd H' d u), fun σ' H' => H' d = some (.frz od u) ∧ D.bk σ' (upd H' d u), fun σ' H' => H' d = some (.frz od u) ∧ D.ct σ' (upd H' d u)⟩ σ H') : tLock t D σ H :=
  ⟨d, u, h, m, fun od => q od _ rfl⟩
theorem valV_of_mem {κ : Type} [DecidableEq κ] {kvs : List (κ × V)} {k : κ} {v : V} (h : (k, v) ∈ kvs) : ∃ w, valV kvs k = some w := by
  have e : (kvs.any fun kv => decide (kv.1 = k)) = true := List.any_eq_true.mpr ⟨_, h, by simp⟩
  rw [valV_any] at e
  exact Option.isSome_iff_exists.mp e
theorem x_ltT {K : PySem.W.Frag} {H : Hp} {Q : VK} {a b : Addr} {ns ms : List Int} (h1 : H a = some (.tup (ns.map V.int))) (h2 : H b = some (.tup (ms.map V.int))) (q : ∀ c : Bool, Q (.bl c) H) : rLtT K (.ref a) (.ref b) H Q :=
  ⟨a, b, ns, ms, rfl, rfl, SqT.of h1, SqT.of h2, q _⟩
theorem x_any {A B : Prop} {c : Bool} (h1 : A) (h2 : B) : if c = true then A else B := by
  cases c
  · exact x_f h2
  · exact x_t h1
abbrev kBest : R (Option ((Int × Int) × Int)) := kO (k2 (k2 kI kI) kI)
def sp_best_in : Sp := SpOf (ι := V × List (List Int)) (fun i => [i.1]) (fun ⟨v1, ls⟩ F => (kL (kL kI)).p F v1 ls ∧ (ls.map List.length).sum ≤ 9000000) (fun _ F v => ∃ o, kBest.p F v o)
theorem ok_best_in {P : Program} {w : World} {K : PySem.W.Frag} {mg : Str → Option Value} {base : Heap} (T : Tx K mg) : Okd P w K mg base 2 ("_best_in", none) ["lists"] [] (sp_best_in) := by
  have O_add_gains := ok_add_gains (P := P) (w := w) (base := base) T
  obtain ⟨fd, F⟩ : ∃ fd, FunD K "_best_in" "_best_in" (defArgs s_best_in) (defBody s_best_in) (defScope s_best_in) [] [] (He.fAd K ("_best_in", none)) fd := T.says.d.def_ 60 rfl
  refine ⟨fd, [], F.ok sc_best_in (fun vs H Q E h => ?_) (fun cdv A outer s H vs Q E hr h => ?_), .nil, F.bindsN (fun _ _ _ _ _ _ us hl => match us, hl with | [_], _ => rfl), F.kp⟩
  · obtain ⟨_, _, rfl, _⟩ := h; rfl
  · have hu := hu_of hr; refine ⟨_, PSs.nox (pss_cons (ps_set (i := 1) sc_best_in.nd rfl (by first | exact Or.inl rfl | exact Or.inr rfl) pe_dnewT)
    (pss_cons (ps_for PassesOwn.never rfl (pi_listK K (pv 0)) (pg_name (i := 2) sc_best_in.nd rfl (by first | exact Or.inl rfl | exact Or.inr rfl)) (pss_one (ps_expr (pe_ok O_add_gains T.n_add_gains hr (by decide) (by rfl) (pa_cons (pv 2) (pa_cons (pv 1) pa_nil))))))
    (pss_cons (ps_set (i := 3) sc_best_in.nd rfl (by first | exact Or.inl rfl | exact Or.inr rfl) pe_non)
    (pss_cons (ps_lock (ps_for PassesOwn.never rfl (pi_keys (pv 1)) (pg_name (i := 4) sc_best_in.nd rfl (by first | exact Or.inl rfl | exact Or.inr rfl)) (pss_one (ps_if (PW.pt (pw_or (pt_cmpR op_isN (pv 3) pe_non (nomark _)) (pw_or (pt_cmpR op_gt (pe_dget hu (pv 1) (pv 4) (fun _ _ => rfl)) (pe_ix (ix_tupK K) (pv 3) pe_int (fun _ _ => rfl)) (nomark _)) (pw_or1 (PW.pt (pw_and (pt_cmpR op_eq (pe_dget hu (pv 1) (pv 4) (fun _ _ => rfl)) (pe_ix (ix_tupK K) (pv 3) pe_int (fun _ _ => rfl)) (nomark _)) (pw_and1 (pt_cmpR (op_ltTK K hr.units0) (pv 4) (pe_ix (ix_tupK K) (pv 3) pe_int (fun _ _ => rfl)) (nomark _))))))))) (pss_one (ps_set (i := 3) sc_best_in.nd rfl (by first | exact Or.inl rfl | exact Or.inr rfl) (pe_tup (pa_cons (pv 4) (pa_cons (pe_dget hu (pv 1) (pv 4) (fun _ _ => rfl)) pa_nil))))) pss_nil))))
    (pss_one (ps_ret (pv 3))))))), ?_⟩
    obtain ⟨⟨v1, ls⟩, F0, rfl, fh, ⟨h1, hz⟩, k⟩ := h
    dsimp only at h1 hz k ⊢
    obtain ⟨a1, vs1, rfl, ha1, hp1⟩ := h1
    walk_at "s"
    intro d H1 nd
    obtain ⟨g1, o1⟩ := nd.own fh
    walk_at "s"
    refine ⟨a1, rfl, ⟨_, SqL.of (g1.hh _ _ (fh _ _ ha1))⟩, ?_⟩
    refine for_kL (r := kL kI) (xs := ls) g1 ha1 hp1 (fun i σ F H => ∃ kv x, σ = [some (.ref a1), some (.ref d), x, none, none] ∧ Own F H d (.dT kv) ∧ GainOk kv ∧ kv.length + ((ls.drop i).map List.length).sum ≤ 9000000) ⟨[], none, rfl, o1, fun _ h => by simp at h, by simpa using hz⟩ ?_ ?_
    · rintro i ns v σ1 F1 H2 N hx hi hv G1 s1 ⟨kv, x, rfl, o1, hg, hl⟩ kN
      have ed : ls.drop i = ns :: ls.drop (i + 1) := by
        obtain ⟨hi2, e⟩ := List.getElem?_eq_some_iff.mp hx
        rw [← e, List.getElem_cons_drop]
      rw [ed, List.map_cons, List.sum_cons] at hl
      walk_at "s"
      refine ⟨v, d, F1, ns, kv, rfl, G1.fh, hv, o1, hg, by omega, fun H3 kv' hx3 hd3 hg3 hl3 => ?_⟩
      walk_at "s"
      exact kN _ _ _ (G1.chx hx3 o1.f nd.fr) (Same.refl _) ⟨kv', _, rfl, ⟨hd3, o1.f⟩, hg3, by omega⟩
    · rintro σ1 F1 H2 G1 s1 ⟨kv, x, rfl, o1, hg, hl⟩
      walk_at "s"
      refine r_lock o1.h True.intro fun od H3 c3 => ?_
      have G3 := c3.gr G1 o1.f nd.fr
      have o3 := c3.own o1
      walk_at "s"
      refine r_iK ?_
      walk_at "s"
      refine ⟨d, od, rfl, Or.inr ⟨kv, o3.h, ?_⟩⟩
      refine for_it walk_keysT (fun i σ H' => ∃ F' v bo y, σ = [some (.ref a1), some (.ref d), x, some v, y] ∧ Gr F0 H F' H' ∧ H' d = some (.frz od (.dT kv)) ∧ F' d = none ∧ kBest.p F' v bo) ⟨F1, .non, none, none, rfl, G3, o3.h, o1.f, Or.inl ⟨rfl, rfl⟩⟩ (fun i σ H' _ ⟨_, _, _, _, _, _, h, _⟩ => h) ?_ ?_
      · rintro i xk σ2 H4 H5 hi ⟨F4, v, bo, y, rfl, G4, hd4, fd4, hb⟩ ⟨rfl, key, val, q, hkv, rfl, hq⟩
        obtain ⟨⟨a, b, ek⟩, _, _⟩ := hg _ (List.mem_of_getElem? hkv)
        dsimp only at ek
        subst ek
        obtain ⟨w, hw⟩ := valV_of_mem (List.mem_of_getElem? hkv)
        obtain ⟨_, n, en⟩ := hg _ (valV_mem hw)
        dsimp only at en
        subst en
        have hget : DGet H5 d (.ref q) (some (.int n)) := Or.inr ⟨kv, [Sum.inl a, Sum.inl b], q, Or.inr ⟨od, hd4⟩, rfl, hq, hw.symm⟩
        have fin : ∀ D : Ends, (∀ σ' H', (∃ F' v bo y, σ' = [some (.ref a1), some (.ref d), x, some v, y] ∧ Gr F0 H F' H' ∧ H' d = some (.frz od (.dT kv)) ∧ F' d = none ∧ kBest.p F' v bo) → D.nx σ' H') →
            tAsg (tTup (tCons (tVar 4) (tCons (tDGet (tVar 1) (tVar 4)) tNil))) (gName 3) D [some (.ref a1), some (.ref d), x, some v, some (.ref q)] H5 := by
          intro D kD
          walk_at "s"
          refine ⟨d, _, rfl, hget, ?_⟩
          walk_at "s"
          refine ⟨x_lt (Nat.le_of_ble_eq_true rfl), fun t H6 nt => ?_⟩
          have G5 := G4.fixT hq
          have hqd : q ≠ d := fun e => by rw [e, hd4] at hq; cases hq
          obtain ⟨F6, g6, e6, off⟩ := nt.fix' G5.fh
          walk_at "s"
          have td : d ≠ t := fun e => by have := nt.fr; rw [← e, hd4] at this; cases this
          exact kD _ _ ⟨F6, .ref t, some ((a, b), n), _, rfl, G5.trans g6, g6.hh _ _ hd4, by rw [off d td, upd_ne hqd.symm]; exact fd4, Or.inr ⟨_, rfl, t, .ref q, .int n, rfl, e6, ⟨q, .int a, .int b, rfl, g6.up upd_same, rfl, rfl⟩, rfl⟩⟩
        have skip : ∀ D : Ends, (∀ σ' H', (∃ F' v bo y, σ' = [some (.ref a1), some (.ref d), x, some v, y] ∧ Gr F0 H F' H' ∧ H' d = some (.frz od (.dT kv)) ∧ F' d = none ∧ kBest.p F' v bo) → D.nx σ' H') → tNext D [some (.ref a1), some (.ref d), x, some v, some (.ref q)] H5 := by
          intro D kD
          exact kD _ _ ⟨F4, v, bo, _, rfl, G4, hd4, fd4, hb⟩
        walk_at "s"
        rcases hb with ⟨rfl, rfl⟩ | ⟨⟨⟨a', b'⟩, n'⟩, rfl, t2, y1, y2, rfl, ht2, ⟨q2, z1, z2, rfl, hq2, hz1, hz2⟩, hy2⟩
        · refine x_d (fun _ => ?_) (fun h => absurd rfl h)
          refine x_t ?_
          exact fin _ fun _ _ h => h
        · obtain rfl : y2 = .int n' := hy2
          obtain rfl : z1 = .int a' := hz1
          obtain rfl : z2 = .int b' := hz2
          refine x_d (fun h => by cases h) (fun _ => ?_)
          walk_at "s"
          refine ⟨d, _, rfl, hget, ?_⟩
          walk_at "s"
          refine x_ixT (G4.fh _ _ ht2) rfl ?_
          walk_at "s"
          refine x_d (fun _ => ?_) (fun _ => ?_)
          · refine x_t ?_
            exact fin _ fun _ _ h => h
          · walk_at "s"
            refine ⟨d, _, rfl, hget, ?_⟩
            walk_at "s"
            refine x_ixT (G4.fh _ _ ht2) rfl ?_
            walk_at "s"
            refine x_d (fun _ => ?_) (fun _ => ?_)
            · walk_at "s"
              refine x_ixT (G4.fh _ _ ht2) rfl ?_
              refine x_ltT (ns := [a, b]) (ms := [a', b']) hq (G4.fh _ _ hq2) fun c => ?_
              walk_at "s"
              refine x_any ?_ ?_
              · exact fin _ fun _ _ h => h
              · exact skip _ fun _ _ h => h
            · refine x_f ?_
              exact skip _ fun _ _ h => h
      · rintro σ2 H4 ⟨F4, v, bo, y, rfl, G4, hd4, fd4, hb⟩
        refine ⟨hd4, ?_⟩
        walk_at "s"
        have c : Chg H4 d (.dT kv) (upd H4 d (.dT kv)) := rfl
        exact k _ _ _ (c.gr G4 fd4 nd.fr) ⟨bo, hb⟩
/-! D_join4.src -/
theorem fl_gr {F H H' : Hp} {p : Addr} {o : HO} (fh : Same F H) (sh : Same H H') (np : H p = none) (hp : H' p = some o) : Gr F H (upd F p o) H' ∧ (upd F p o) p = some o :=
  ⟨(Gr.keep fh sh).trans ((Gr.keep (F := F) (fh.trans sh) (Same.refl _))) |>.fix hp np (fh.free np), upd_same⟩
theorem sum_pair {α β : Type} {f : β → Nat} {h : α → Nat} : ∀ {xs : List α} {ys : List β}, Paired (fun x y => f y ≤ h x) xs ys → (ys.map f).sum ≤ (xs.map h).sum
  | _, _, .nil => Nat.le_refl _
  | _, _, .cons r t => by
    rw [List.map_cons, List.map_cons, List.sum_cons, List.sum_cons]
    exact Nat.add_le_add r (sum_pair t)
theorem sum_mem {α : Type} {f : α → Nat} : ∀ {xs : List α} {x : α}, x ∈ xs → f x ≤ (xs.map f).sum
  | [], _, h => by simp at h
  | y :: ys, x, h => by
    rw [List.map_cons, List.sum_cons]
    rcases List.mem_cons.mp h with e | e
    · rw [e]; exact Nat.le_add_right _ _
    · exact Nat.le_trans (sum_mem e) (Nat.le_add_left _ _)
def sp_learn_joins : Sp := SpOf (ι := Int × V × List Str) (fun i => [.int i.1, i.2.1])
  (fun ⟨n, v1, zs⟩ F => (kL kS).p F v1 zs ∧ n ≤ 1000 ∧ (zs.map fun z => z.length + 1).sum ≤ 9000000 ∧ (∀ z ∈ zs, z.length ≤ 100000) ∧ zs.length ≤ 9000000) (fun ⟨n, _, _⟩ F v => ∃ js, (kL (k2 kI kI)).p F v js ∧ js.length ≤ 1000)
theorem ok_learn_joins {P : Program} {w : World} {K : PySem.W.Frag} {mg : Str → Option Value} {base : Heap} (T : Tx K mg) : Okd P w K mg base 3 ("learn_joins", none) ["count", "words"] [] (sp_learn_joins) := by
  have O_word_codes := ok_word_codes (P := P) (w := w) (base := base) T
  have O_best_in := ok_best_in (P := P) (w := w) (base := base) T
  have O_make_join := ok_make_join (P := P) (w := w) (base := base) T
  obtain ⟨fd, F⟩ : ∃ fd, FunD K "learn_joins" "learn_joins" (defArgs s_learn_joins) (defBody s_learn_joins) (defScope s_learn_joins) [] [] (He.fAd K ("learn_joins", none)) fd := T.says.d.def_ 61 rfl
  refine ⟨fd, [], F.ok sc_learn_joins (fun vs H Q E h => ?_) (fun cdv A outer s H vs Q E hr h => ?_), .nil, F.bindsN (fun _ _ _ _ _ _ us hl => match us, hl with | [_, _], _ => rfl), F.kp⟩
  · obtain ⟨_, _, rfl, _⟩ := h; rfl
  · refine ⟨_, PSs.nox (pss_cons (ps_setLc (i := 2) (own := [("word", 6)]) (g := (gName 6)) (tt := tYes) rfl sc_learn_joins.nd rfl rfl (sw_true rfl rfl rfl (by decide +kernel)) (pi_listK K (pv 1)) (blkOk_by (own := [("word", 6)]) (N := N_learn_joins) (sc := defScope s_learn_joins) (by decide +kernel)) (fun _ _ _ _ _ => (pg_name (i := 6) sc_learn_joins.nd rfl (by first | exact Or.inl rfl | exact Or.inr rfl))) (fun _ _ _ _ _ => pts_nil) (fun _ _ _ _ _ => (pe_ok O_word_codes T.n_word_codes hr (by decide) (by rfl) (pa_cons (pe_lst pa_nil) (pa_cons (pv 6) pa_nil)))))
    (pss_cons (ps_set (i := 3) sc_learn_joins.nd rfl (by first | exact Or.inl rfl | exact Or.inr rfl) (pe_lst pa_nil))
    (pss_cons (ps_while PassesOwn.never (pt_cmpR op_lt (pe_callB (call_lenK K) (by rfl) T.f_len (by decide +kernel) (pa_cons (pv 3) pa_nil)) (pv 0) (nomark _)) (pss_cons (ps_set (i := 4) sc_learn_joins.nd rfl (by first | exact Or.inl rfl | exact Or.inr rfl) (pe_ok O_best_in T.n_best_in hr (by decide) (by rfl) (pa_cons (pv 2) pa_nil)))
    (pss_cons (ps_if (PW.pt (pw_or (pt_cmpR op_isN (pv 4) pe_non (nomark _)) (pw_or1 (pt_cmpR op_lt (pe_ix (ix_tupK K) (pv 4) pe_int (fun _ _ => rfl)) pe_int (nomark _))))) (pss_one (ps_ret (pv 3))) pss_nil)
    (pss_cons (ps_set (i := 5) sc_learn_joins.nd rfl (by first | exact Or.inl rfl | exact Or.inr rfl) (pe_op op_add T.e_FIRST_JOIN (pe_callB (call_lenK K) (by rfl) T.f_len (by decide +kernel) (pa_cons (pv 3) pa_nil))))
    (pss_cons (ps_setLc (i := 2) (own := [("codes", 7)]) (g := (gName 7)) (tt := tYes) rfl sc_learn_joins.nd rfl rfl (sw_true rfl rfl rfl (by decide +kernel)) (pi_listK K (pv 2)) (blkOk_by (own := [("codes", 7)]) (N := N_learn_joins) (sc := defScope s_learn_joins) (by decide +kernel)) (fun _ _ _ _ _ => (pg_name (i := 7) sc_learn_joins.nd rfl (by first | exact Or.inl rfl | exact Or.inr rfl))) (fun _ _ _ _ _ => pts_nil) (fun _ _ _ _ _ => (pe_ok O_make_join T.n_make_join hr (by decide) (by rfl) (pa_cons (pv 7) (pa_cons (pe_ix (ix_tupK K) (pv 4) pe_int (fun _ _ => rfl)) (pa_cons (pv 5) pa_nil))))))
    (pss_one (ps_expr (pe_bmK K PySem.F.plainAttrs_list PySem.F.slot_list_append PySem.F.type_list_append mt_append (pv 3) (pa_cons (pe_ix (ix_tupK K) (pv 4) pe_int (fun _ _ => rfl)) pa_nil)))))))))
    (pss_one (ps_ret (pv 3)))))), ?_⟩
    obtain ⟨⟨n, v1, zs⟩, F0, rfl, fh, ⟨h1, hn, hz, hz1, hz2⟩, k⟩ := h
    dsimp only at h1 hn hz hz1 hz2 k ⊢
    obtain ⟨a1, rfl, ha1⟩ := kLS h1
    walk_at "s"
    refine ⟨a1, rfl, ⟨_, SqL.of (fh _ _ ha1)⟩, lc_kL (r := kS) (s := kL kI) fh ha1 (kS_all zs) (by rw [sizeLine_eq]; omega) (fun z ms => ms.length ≤ z.length + 1) ?_ ?_⟩
    · intro i z v F1 H1 N hx hv g1 kN
      obtain rfl : v = .str z := hv
      walk_at "s"
      refine ⟨rfl, ?_⟩
      walk_at "s"
      refine ⟨x_lt (by decide), fun q H2 nq => ?_⟩
      obtain ⟨F2, g2, e2⟩ := nq.fix g1.fh
      walk_at "s"
      refine ⟨(.ref q, z, []), F2, rfl, g2.fh, ⟨⟨q, [], rfl, e2, .nil⟩, by decide, hz1 z (List.mem_of_getElem? hx)⟩, fun p ys H3 sh np hp hy => ?_⟩
      obtain ⟨ms, rfl, hm⟩ := hy
      obtain ⟨g3, e3⟩ := fl_gr g2.fh sh np hp
      exact kN _ _ _ ms (g2.trans g3) (kLI' e3) hm
    intro p1 F1 H1 ls np1 g1 hk1 pp1
    have hl1 := sum_pair (f := List.length) (h := fun z : Str => z.length + 1) pp1
    obtain ⟨_, vs1, er, hp1, hq1⟩ := hk1
    cases er
    walk_at "s"
    refine ⟨x_lt (by decide), fun r H2 nr => ?_⟩
    obtain ⟨g2, o2⟩ := nr.own g1.fh
    have zr : H r = none := g1.hh.free nr.fr
    walk_at "s"
    refine while_m (g1.trans g2) (fun m σ F H => ∃ (p : Addr) (vs : List V) (ls : List (List Int)) (js : List (Int × Int)) (ws : List V) (x y : Option V), σ = [some (.int n), some (.ref a1), some (.ref p), some (.ref r), x, y, none, none] ∧ F p = some (.lst vs) ∧ Paired ((kL kI).p F) vs ls ∧
      (ls.map List.length).sum ≤ 9000000 ∧ ls.length ≤ 9000000 ∧ Own F H r (.lst ws) ∧ Paired ((k2 kI kI).p F) ws js ∧ js.length ≤ 1000 ∧ m = (n - js.length).toNat) n.toNat
      ⟨p1, vs1, ls, [], [], none, none, rfl, hp1, hq1, by omega, by rw [← pp1.length]; exact hz2, o2, .nil, by decide, by simp⟩ ?_
    rintro m σ1 F3 H3 G3 s3 ⟨p, vs, ls, js, ws, x, y, rfl, hp, hq, hl, hl2, o3, hw, hj, rfl⟩
    walk_at "s"
    refine x_lenK o3.h ?_
    have ew := hw.length
    walk_at "s"
    refine x_d (fun hc => ?_) (fun hc => ?_)
    · refine wh_go s3 fun N kN => ?_
      walk_at "s"
      refine ⟨(.ref p, ls), F3, rfl, G3.fh, ⟨⟨p, vs, rfl, hp, hq⟩, hl⟩, fun v F4 H4 g4 hb => ?_⟩
      obtain ⟨bo, hb⟩ := hb
      have o4 := o3.go g4
      have G4 := G3.trans g4
      have hw4 := L2.Paired.mapP hw fun _ _ h => (k2 kI kI).mono g4.ff h
      have done : ∀ D : Ends, D.rt = Q → ∀ σ : L2.St, σ[3]? = some (some (.ref r)) → tRet (tVar 3) D σ H4 := by
        intro D hD σ hσ
        refine ⟨_, hσ, ?_⟩
        show D.rt (.ref r) H4
        rw [hD]
        exact k _ _ _ (G4.fix o4.h zr o4.f) ⟨js, ⟨r, ws, rfl, upd_same, L2.Paired.mapP hw4 fun _ _ h => (k2 kI kI).mono (same_new o4.f) h⟩, hj⟩
      walk_at "s"
      rcases hb with ⟨rfl, rfl⟩ | ⟨⟨⟨a, b⟩, n'⟩, rfl, t2, y1, y2, rfl, ht2, hk2, hy2⟩
      · refine x_d (fun _ => ?_) (fun h => absurd rfl h)
        refine x_t ?_
        exact done _ rfl _ rfl
      · obtain rfl : y2 = .int n' := hy2
        obtain ⟨q2, rfl, hq2⟩ := k2I hk2
        refine x_d (fun h => by cases h) (fun _ => ?_)
        walk_at "s"
        refine x_ixT (G4.fh _ _ ht2) rfl ?_
        walk_at "s"
        refine x_d (fun _ => ?_) (fun _ => ?_)
        · exact done _ rfl _ rfl
        · walk_at "s"
          refine x_lenK o4.h ?_
          walk_at "s"
          have hp4 := g4.up hp
          have hq4 := L2.Paired.mapP hq fun _ _ h => (kL kI).mono g4.ff h
          refine ⟨p, rfl, ⟨_, SqL.of (g4.at hp4)⟩, lc_kL (r := kL kI) (s := kL kI) G4.fh hp4 hq4 (by rw [sizeLine_eq]; omega) (fun ns ms => ms.length ≤ ns.length) ?_ ?_⟩
          · intro i ns v F5 H5 N5 hx hv g5 kN5
            have hns : ns.length ≤ 9000000 := Nat.le_trans (sum_mem (f := List.length) (List.mem_of_getElem? hx)) hl
            walk_at "s"
            refine ⟨rfl, ?_⟩
            walk_at "s"
            refine x_ixT (g5.at (g5.up ht2)) rfl ?_
            walk_at "s"
            refine ⟨(v, .ref q2, 200 + (ws.length : Int), ns, a, b), F5, rfl, g5.fh, ⟨hv, (k2 kI kI).mono g5.ff hk2, ?_⟩, fun p6 ys6 H6 sh np6 hp6 hy6 => ?_⟩
            · omega
            obtain ⟨ms, rfl, hm⟩ := hy6
            obtain ⟨g6, e6⟩ := fl_gr g5.fh sh np6 hp6
            exact kN5 _ _ _ ms g6 (kLI' e6) hm
          intro p5 F5 H5 ls5 np5 g5 hk5 pp5
          have hl5 := sum_pair (f := List.length) (h := List.length) pp5
          obtain ⟨_, vs5, er, hp5, hq5⟩ := hk5
          cases er
          have o5 := o4.go g5
          have G5 := G4.trans g5
          have hw5 := L2.Paired.mapP hw4 fun _ _ h => (k2 kI kI).mono g5.ff h
          walk_at "s"
          refine ⟨x_tyL o5.h, ?_⟩
          walk_at "s"
          refine x_ixT (G5.fh _ _ (g5.up ht2)) rfl ?_
          walk_at "s"
          refine x_app o5.h (by rw [sizeLine_eq]; omega) fun H6 c6 => ?_
          walk_at "s"
          refine kN (n - (js.length + 1 : Nat)).toNat _ _ _ (by omega) (c6.gr G5 o5.f zr) (g4.trans g5).ff ⟨p5, vs5, ls5, js ++ [(a, b)], _, _, _, rfl, hp5, hq5, by omega, by rw [← pp5.length]; exact hl2, c6.own o5, hw5.snoc ((k2 kI kI).mono g5.ff hk2), by rw [List.length_append, List.length_singleton]; omega, by rw [List.length_append, List.length_singleton]⟩
    · walk_at "s"
      exact k _ _ _ (G3.fix o3.h zr o3.f) ⟨js, ⟨r, ws, rfl, upd_same, L2.Paired.mapP hw fun _ _ h => (k2 kI kI).mono (same_new o3.f) h⟩, hj⟩
/-! D_lines.src -/
def isBlk (z : Str) : Bool := decide (z = " ") || decide (z = "\n")
def sp_is_blank : Sp := SpOf (ι := Str) (fun z => [.str z]) (fun _ _ => True) (fun z _ v => v = .bl (isBlk z))
theorem ok_is_blank {P : Program} {w : World} {K : PySem.W.Frag} {mg : Str → Option Value} {base : Heap} (T : Tx K mg) : Okd P w K mg base 1 ("is_blank", none) ["char"] [] (sp_is_blank) := by
  obtain ⟨fd, F⟩ : ∃ fd, FunD K "is_blank" "is_blank" (defArgs s_is_blank) (defBody s_is_blank) (defScope s_is_blank) [] [] (He.fAd K ("is_blank", none)) fd := T.says.d.def_ 7 rfl
  refine ⟨fd, [], F.ok sc_is_blank (fun vs H Q E h => ?_) (fun cdv A outer s H vs Q E hr h => ?_), .nil, F.bindsN (fun _ _ _ _ _ _ us hl => match us, hl with | [_], _ => rfl), F.kp⟩
  · obtain ⟨_, _, rfl, _⟩ := h; rfl
  · refine ⟨_, PSs.nox (pss_one (ps_ret (pe_or (pe_cmpR op_eq (pv 0) pe_str (nomark _)) (pe_one (pe_cmpR op_eq (pv 0) pe_str (nomark _)))))), ?_⟩
    obtain ⟨z, F0, rfl, fh, _, k⟩ := h
    dsimp only at k ⊢
    walk_at "s"
    refine x_d (fun hc => ?_) (fun hc => ?_)
    · exact k _ _ _ (Gr.refl fh) (by show V.bl true = V.bl (decide (z = (" " : Str)) || _); rw [decide_eq_true hc]; rfl)
    · walk_at "s"
      exact k _ _ _ (Gr.refl fh) (by show _ = V.bl (decide (z = (" " : Str)) || _); rw [decide_eq_false hc]; rfl)
def sp_has_any_shape : Sp := SpOf (ι := Str × V) (fun i => [.str i.1, i.2]) (fun i F => (kL kX).p F i.2 []) (fun _ _ v => v = .bl false)
theorem ok_has_any_shape {P : Program} {w : World} {K : PySem.W.Frag} {mg : Str → Option Value} {base : Heap} (T : Tx K mg) : Okd P w K mg base 1 ("has_any_shape", none) ["word", "shapes"] [] (sp_has_any_shape) := by
  obtain ⟨fd, F⟩ : ∃ fd, FunD K "has_any_shape" "has_any_shape" (defArgs s_has_any_shape) (defBody s_has_any_shape) (defScope s_has_any_shape) [] [] (He.fAd K ("has_any_shape", none)) fd := T.says.d.def_ 15 rfl
  refine ⟨fd, [], F.ok sc_has_any_shape (fun vs H Q E h => ?_) (fun cdv A outer s H vs Q E hr h => ?_), .nil, F.bindsN (fun _ _ _ _ _ _ us hl => match us, hl with | [_, _], _ => rfl), F.kp⟩
  · obtain ⟨_, _, rfl, _⟩ := h; rfl
  · refine ⟨_, PSs.nox (pss_cons (ps_for PassesOwn.never rfl (pi_listK K (pv 1)) (pg_name (i := 2) sc_has_any_shape.nd rfl (by first | exact Or.inl rfl | exact Or.inr rfl)) (pss_one ps_never))
    (pss_one (ps_ret pe_bl))), ?_⟩
    obtain ⟨⟨z, v2⟩, F0, rfl, fh, h2, k⟩ := h
    dsimp only at h2 k ⊢
    obtain ⟨a2, vs, rfl, ha2, hp2⟩ := h2
    walk_at "s"
    refine ⟨a2, rfl, ⟨_, SqL.of (fh _ _ ha2)⟩, ?_⟩
    refine for_kL (r := kX) (xs := []) (Gr.refl fh) ha2 hp2 (fun i σ F H => ∃ x, σ = [some (.str z), some (.ref a2), x]) ⟨_, rfl⟩ ?_ ?_
    · rintro i x v σ1 F1 H1 N hx
      simp at hx
    · rintro σ1 F1 H1 G1 s1 ⟨x, rfl⟩
      walk_at "s"
      exact k _ _ _ G1 rfl
theorem k2S {F : Hp} {v : V} {p : Str × Int} (h : (k2 kS kI).p F v p) : ∃ a, v = .ref a ∧ F a = some (.tup [.str p.1, .int p.2]) := by
  obtain ⟨a, x, y, e, h1, h2, h3⟩ := h
  obtain rfl : x = .str p.1 := h2
  obtain rfl : y = .int p.2 := h3
  exact ⟨a, e, h1⟩
theorem k3W {F : Hp} {v : V} {p : Str × Int × Int} (h : (k3 kS kI kI).p F v p) : ∃ a, v = .ref a ∧ F a = some (.tup [.str p.1, .int p.2.1, .int p.2.2]) := by
  obtain ⟨a, x, y, z, e, h1, h2, h3, h4⟩ := h
  obtain rfl : x = .str p.1 := h2
  obtain rfl : y = .int p.2.1 := h3
  obtain rfl : z = .int p.2.2 := h4
  exact ⟨a, e, h1⟩
theorem x_ixS {H : Hp} {Q : VK} {z : Str} {i : Nat} {c : Nat} (hz : z.length ≤ 1000000) (h : z.cps[i]? = some c) (q : Q (.str ⟨#[c]⟩) H) : rIxS (.str z) (.int (i : Int)) H Q :=
  ⟨z, (i : Int), c, rfl, rfl, by rw [sizeLine_eq]; omega, atI_nat (by rw [Array.getElem?_toList]; exact h), q⟩
def sp_change_text : Sp := SpOf (ι := Str × V) (fun i => [.str i.1, i.2]) (fun i F => (kL kX).p F i.2 [] ∧ i.1.length ≤ 100000) (fun i F v => ∃ cs, (kL (k2 kS kI)).p F v cs ∧ cs.length = i.1.length ∧ ∀ p ∈ cs, p.1.length = 1)
theorem ok_change_text {P : Program} {w : World} {K : PySem.W.Frag} {mg : Str → Option Value} {base : Heap} (T : Tx K mg) : Okd P w K mg base 1 ("change_text", none) ["text", "changes"] [] (sp_change_text) := by
  obtain ⟨fd, F⟩ : ∃ fd, FunD K "change_text" "change_text" (defArgs s_change_text) (defBody s_change_text) (defScope s_change_text) [] [] (He.fAd K ("change_text", none)) fd := T.says.d.def_ 16 rfl
  refine ⟨fd, [], F.ok sc_change_text (fun vs H Q E h => ?_) (fun cdv A outer s H vs Q E hr h => ?_), .nil, F.bindsN (fun _ _ _ _ _ _ us hl => match us, hl with | [_, _], _ => rfl), F.kp⟩
  · obtain ⟨_, _, rfl, _⟩ := h; rfl
  · have hu := hu_of hr; refine ⟨_, PSs.nox (pss_cons (ps_set (i := 2) sc_change_text.nd rfl (by first | exact Or.inl rfl | exact Or.inr rfl) pe_dnewK)
    (pss_cons (ps_for PassesOwn.never rfl (pi_listK K (pv 1)) (pg_tupK K rfl (pgs_cons (pg_name (i := 3) sc_change_text.nd rfl (by first | exact Or.inl rfl | exact Or.inr rfl)) (pgs_cons (pg_name (i := 4) sc_change_text.nd rfl (by first | exact Or.inl rfl | exact Or.inr rfl)) pgs_nil))) (pss_one ps_never))
    (pss_cons (ps_set (i := 5) sc_change_text.nd rfl (by first | exact Or.inl rfl | exact Or.inr rfl) (pe_lst pa_nil))
    (pss_cons (ps_for PassesOwn.never rfl (pi_range1 rfl T.f_range (pa_cons (pe_callB call_len_str (by rfl) T.f_len (by decide +kernel) (pa_cons (pv 0) pa_nil)) pa_nil)) (pg_name (i := 6) sc_change_text.nd rfl (by first | exact Or.inl rfl | exact Or.inr rfl)) (pss_one (ps_for PassesOwn.never rfl (pi_str (pe_dget2 hu (pv 2) (pe_ix ix_str (pv 0) (pv 6) (fun _ _ => rfl)) (pe_ix ix_str (pv 0) (pv 6) (fun _ _ => rfl)) ⟨rfl, rfl, rfl, rfl⟩)) (pg_name (i := 3) sc_change_text.nd rfl (by first | exact Or.inl rfl | exact Or.inr rfl)) (pss_one (ps_expr (pe_bmK K PySem.F.plainAttrs_list PySem.F.slot_list_append PySem.F.type_list_append mt_append (pv 5) (pa_cons (pe_tup (pa_cons (pv 3) (pa_cons (pv 6) pa_nil))) pa_nil)))))))
    (pss_one (ps_ret (pv 5))))))), ?_⟩
    obtain ⟨⟨z, v2⟩, F0, rfl, fh, ⟨h2, hz⟩, k⟩ := h
    dsimp only at h2 hz k ⊢
    obtain ⟨a2, vs, rfl, ha2, hp2⟩ := h2
    walk_at "s"
    intro d H1 nd
    obtain ⟨g1, o1⟩ := nd.own fh
    walk_at "s"
    refine ⟨a2, rfl, ⟨_, SqL.of (g1.hh _ _ (fh _ _ ha2))⟩, ?_⟩
    refine for_kL (r := kX) (xs := []) g1 ha2 hp2 (fun i σ F H => σ = [some (.str z), some (.ref a2), some (.ref d), none, none, none, none] ∧ Own F H d (.dK [])) ⟨rfl, o1⟩ ?_ ?_
    · rintro i x v σ1 F1 H1 N hx
      simp at hx
    · rintro σ1 F1 H2 G1 s1 ⟨rfl, o1⟩
      walk_at "s"
      refine ⟨x_lt (by decide), fun r H3 nr => ?_⟩
      have ndr : d ≠ r := ne_of_none o1.h nr.fr
      obtain ⟨g3, o3⟩ := nr.own G1.fh
      have o1 := o1.go g3
      have zr : H r = none := G1.hh.free nr.fr
      walk_at "s"
      refine ⟨by rw [sizeLine_eq]; omega, ?_⟩
      walk_at "s"
      refine ⟨by omega, by omega, ?_⟩
      rw [Int.toNat_natCast]
      refine for_rg0 (G1.trans g3) (fun i σ F H => ∃ (vs : List V) (cs : List (Str × Int)) (x y : Option V), σ = [some (.str z), some (.ref a2), some (.ref d), x, none, some (.ref r), y] ∧ Own F H d (.dK []) ∧ Own F H r (.lst vs) ∧ Paired ((k2 kS kI).p F) vs cs ∧ cs.length = i ∧ ∀ p ∈ cs, p.1.length = 1)
        ⟨[], [], _, _, rfl, o1, o3, .nil, rfl, fun _ h => by simp at h⟩ ?_ ?_
      · rintro i σ2 F4 H4 N hi G4 s4 ⟨vs, cs, x, y, rfl, o1, o3, hp, hl, hc⟩ kN
        have hi2 : i < z.cps.size := hi
        have hz1 : z.length ≤ 1000000 := by omega
        walk_at "s"
        refine ⟨d, rfl, Or.inl ⟨[], Or.inl o1.h⟩, ?_⟩
        walk_at "s"
        refine x_ixS hz1 (Array.getElem?_eq_getElem hi2) ?_
        walk_at "s"
        refine x_ixS hz1 (Array.getElem?_eq_getElem hi2) ?_
        refine ⟨none, DGet.k (k := Sum.inr ⟨#[z.cps[i]]⟩) o1.h, ?_⟩
        show ∃ x, V.str ⟨#[z.cps[i]]⟩ = .str x ∧ _
        walk_at "s"
        refine for_st (z := ⟨#[z.cps[i]]⟩) G4 (fun j σ F H => ∃ (vs : List V) (cs : List (Str × Int)) (x y : Option V), σ = [some (.str z), some (.ref a2), some (.ref d), x, none, some (.ref r), some (.int i)] ∧ Own F H d (.dK []) ∧ Own F H r (.lst vs) ∧ Paired ((k2 kS kI).p F) vs cs ∧ cs.length = i + j ∧ ∀ p ∈ cs, p.1.length = 1)
          ⟨vs, cs, _, y, rfl, o1, o3, hp, hl, hc⟩ ?_ ?_
        · rintro j c σ3 F5 H5 N5 hj G5 s5 ⟨vs, cs, x, y, rfl, o1, o3, hp, hl, hc⟩ kN5
          walk_at "s"
          refine ⟨x_tyL o3.h, ?_⟩
          walk_at "s"
          refine ⟨x_lt (Nat.le_of_ble_eq_true rfl), fun t H6 nt => ?_⟩
          obtain ⟨F6, g6, e6⟩ := nt.fix G5.fh
          have o1 := o1.go g6
          have o3 := o3.go g6
          have hvl := hp.length
          have hj1 : j < 1 := by
            have := (Array.getElem?_eq_some_iff.mp hj).1
            simpa using this
          walk_at "s"
          refine x_app o3.h (by rw [sizeLine_eq]; omega) fun H7 c7 => ?_
          walk_at "s"
          refine kN5 _ _ _ (c7.gr (G5.trans g6) o3.f zr) g6.ff ⟨_, cs ++ [((⟨#[c]⟩ : Str), (i : Int))], _, y, rfl, c7.ne o1 ndr, c7.own o3, (L2.Paired.mapP hp fun _ _ h => (k2 kS kI).mono g6.ff h).snoc ⟨t, _, _, rfl, e6, rfl, rfl⟩, by rw [List.length_append, List.length_singleton]; omega, fun p hp => ?_⟩
          rcases List.mem_append.mp hp with h | h
          · exact hc p h
          · rw [List.mem_singleton.mp h]; rfl
        · rintro σ3 F5 H5 G5 s5 ⟨vs, cs, x, y, rfl, o1, o3, hp, hl, hc⟩
          exact kN _ _ _ G5 s5 ⟨vs, cs, _, _, rfl, o1, o3, hp, hl, hc⟩
      · rintro σ2 F4 H4 G4 s4 ⟨vs, cs, x, y, rfl, o1, o3, hp, hl, hc⟩
        walk_at "s"
        exact k _ _ _ (G4.fix o3.h zr o3.f) ⟨cs, ⟨r, vs, rfl, upd_same, L2.Paired.mapP hp fun _ _ h => (k2 kS kI).mono (same_new o3.f) h⟩, hl, hc⟩
/-! D_lines2.src -/
abbrev kP : R (Str × Int × Int) := k3 kS kI kI
/-- lines of placed words, of a text of n signs -/
def LinesOk (n : Nat) (lns : List (List (Str × Int × Int))) : Prop := (lns.map List.length).sum ≤ n ∧ lns.length ≤ n + 1 ∧ ∀ ln ∈ lns, ∀ w ∈ ln, w.1.length ≤ n
theorem app_list (a b : Str) : (a ++ b).cps.toList = a.cps.toList ++ b.cps.toList := by
  show (a.cps ++ b.cps).toList = _
  rw [Array.toList_append]
theorem len_list (a : Str) : a.length = a.cps.toList.length := (Array.length_toList).symm
theorem join0 : ∀ cs : List Str, (Txt.join (Str.ofString "") cs).cps.toList = (cs.map fun c => c.cps.toList).flatten := by
  intro cs
  have e : Txt.join (Str.ofString "") cs = Str.join (Str.ofString "") cs := StrLaws.glued_eq_join _ _
  rw [e]
  clear e
  induction cs with
  | nil => rfl
  | cons a r ih =>
    cases r with
    | nil => 
      show a.cps.toList = _
      simp
    | cons b r =>
      rw [PyProof.Rows.join_cons_cons, app_list, app_list, ih, List.map_cons, List.flatten_cons]
      have e0 : (Str.ofString "").cps.toList = [] := rfl
      rw [e0, List.append_nil]
      simp
theorem join_len (cs : List Str) (h : ∀ c ∈ cs, c.length = 1) : (Txt.join (Str.ofString "") cs).length = cs.length := by
  rw [len_list, join0]
  induction cs with
  | nil => rfl
  | cons a r ih =>
    rw [List.map_cons, List.flatten_cons, List.length_append, ih fun c hc => h c (List.mem_cons_of_mem _ hc), ← len_list, h a List.mem_cons_self, List.length_cons]
    omega
theorem join_fits (cs : List Str) (h : ∀ c ∈ cs, c.length = 1) (hn : cs.length ≤ 100000) : (cs.map (·.length)).sum + cs.length * (Str.ofString "").length ≤ 16777216 := by
  have e1 : (Str.ofString "").length = 0 := rfl
  have e2 : (cs.map (·.length)).sum = cs.length := by
    clear hn
    induction cs with
    | nil => rfl
    | cons a r ih => rw [List.map_cons, List.sum_cons, ih fun c hc => h c (List.mem_cons_of_mem _ hc), h a List.mem_cons_self, List.length_cons]; omega
  rw [e1, e2]
  omega
theorem word_put {K : PySem.W.Frag} {σ : L2.St} {H F : Hp} {D : Ends} {l c : Addr} {f t : Int} {vl : List V} {cc : List Str} (fh : Same F H)
    (e2 : σ[2]? = some (some (.ref l))) (e3 : σ[3]? = some (some (.ref c))) (e4 : σ[4]? = some (some (.int f))) (e5 : σ[5]? = some (some (.int t)))
    (ol : Own F H l (.lst vl)) (oc : H c = some (.lst (cc.map V.str))) (hcc : ∀ q ∈ cc, q.length = 1) (hn : cc.length ≤ 100000) (hl : vl.length ≤ 1000000)
    (k : ∀ F' H1 H' v, Gr F H F' H1 → Chg H1 l (.lst (vl ++ [v])) H' → kP.p F' v (Txt.join (Str.ofString "") cc, f, t) → D.nx σ H') :
    tDrop (tBM K "list" rAppend (tVar 2) (tCons (tTup (tCons (tM1 (fun x xs H_1 Q => ∃ a p ys, x = V.str a ∧ xs = [V.ref p] ∧ (SqL K H_1 p (List.map V.str ys) ∨ SqT K H_1 p (List.map V.str ys)) ∧
      (List.map (fun x => x.length) ys).sum + ys.length * a.length ≤ 16777216 ∧ Q (V.str (Txt.join a ys)) H_1) (tC (V.str (Str.ofString ""))) (tVar 3)) (tCons (tVar 4) (tCons (tVar 5) tNil)))) tNil)) D σ H := by
  refine r_drop ?_
  refine r_BM ?_
  refine r_var e2 ?_
  refine ⟨x_tyL ol.h, ?_⟩
  refine r_cons ?_
  refine r_tup ?_
  refine r_cons ?_
  refine ⟨⟨_, rfl⟩, ?_⟩
  refine r_var e3 ?_
  refine ⟨_, c, cc, rfl, rfl, Or.inl (SqL.of oc), join_fits cc hcc hn, ?_⟩
  refine r_cons ?_
  refine r_var e4 ?_
  refine r_cons ?_
  refine r_var e5 ?_
  refine r_nil ?_
  refine ⟨x_lt (Nat.le_of_ble_eq_true rfl), fun p H1 np => ?_⟩
  obtain ⟨F1, g1, e1⟩ := np.fix fh
  have o1 := ol.go g1
  refine r_nil ?_
  refine x_app o1.h (by rw [sizeLine_eq]; omega) fun H2 c2 => ?_
  exact k _ _ _ _ g1 c2 ⟨p, _, _, _, rfl, e1, rfl, rfl, rfl⟩
def sp_split_lines : Sp := SpOf (ι := V × List (Str × Int)) (fun i => [i.1]) (fun i F => (kL (k2 kS kI)).p F i.1 i.2 ∧ i.2.length ≤ 100000 ∧ ∀ p ∈ i.2, p.1.length = 1) (fun i F v => ∃ lns, (kL (kL kP)).p F v lns ∧ LinesOk i.2.length lns)
theorem ok_split_lines {P : Program} {w : World} {K : PySem.W.Frag} {mg : Str → Option Value} {base : Heap} (T : Tx K mg) : Okd P w K mg base 2 ("split_lines", none) ["changed"] [] (sp_split_lines) := by
  have O_is_blank := ok_is_blank (P := P) (w := w) (base := base) T
  obtain ⟨fd, F⟩ : ∃ fd, FunD K "split_lines" "split_lines" (defArgs s_split_lines) (defBody s_split_lines) (defScope s_split_lines) [] [] (He.fAd K ("split_lines", none)) fd := T.says.d.def_ 17 rfl
  refine ⟨fd, [], F.ok sc_split_lines (fun vs H Q E h => ?_) (fun cdv A outer s H vs Q E hr h => ?_), .nil, F.bindsN (fun _ _ _ _ _ _ us hl => match us, hl with | [_], _ => rfl), F.kp⟩
  · obtain ⟨_, _, rfl, _⟩ := h; rfl
  · refine ⟨_, PSs.nox (pss_cons (ps_set (i := 1) sc_split_lines.nd rfl (by first | exact Or.inl rfl | exact Or.inr rfl) (pe_lst pa_nil))
    (pss_cons (ps_set (i := 2) sc_split_lines.nd rfl (by first | exact Or.inl rfl | exact Or.inr rfl) (pe_lst pa_nil))
    (pss_cons (ps_set (i := 3) sc_split_lines.nd rfl (by first | exact Or.inl rfl | exact Or.inr rfl) (pe_lst pa_nil))
    (pss_cons (ps_set (i := 4) sc_split_lines.nd rfl (by first | exact Or.inl rfl | exact Or.inr rfl) pe_int)
    (pss_cons (ps_set (i := 5) sc_split_lines.nd rfl (by first | exact Or.inl rfl | exact Or.inr rfl) pe_int)
    (pss_cons (ps_for PassesOwn.never rfl (pi_listK K (pv 0)) (pg_tupK K rfl (pgs_cons (pg_name (i := 6) sc_split_lines.nd rfl (by first | exact Or.inl rfl | exact Or.inr rfl)) (pgs_cons (pg_name (i := 7) sc_split_lines.nd rfl (by first | exact Or.inl rfl | exact Or.inr rfl)) pgs_nil))) (pss_one (ps_if (pt_not (pt_val (pe_ok O_is_blank T.n_is_blank hr (by decide) (by rfl) (pa_cons (pv 6) pa_nil)))) (pss_cons (ps_if (pt_cmpR op_eq (pe_callB (call_lenK K) (by rfl) T.f_len (by decide +kernel) (pa_cons (pv 3) pa_nil)) pe_int (nomark _)) (pss_one (ps_set (i := 4) sc_split_lines.nd rfl (by first | exact Or.inl rfl | exact Or.inr rfl) (pv 7))) pss_nil)
    (pss_cons (ps_expr (pe_bmK K PySem.F.plainAttrs_list PySem.F.slot_list_append PySem.F.type_list_append mt_append (pv 3) (pa_cons (pv 6) pa_nil)))
    (pss_one (ps_set (i := 5) sc_split_lines.nd rfl (by first | exact Or.inl rfl | exact Or.inr rfl) (pv 7))))) (pss_cons (ps_if (pt_cmpR op_gt (pe_callB (call_lenK K) (by rfl) T.f_len (by decide +kernel) (pa_cons (pv 3) pa_nil)) pe_int (nomark _)) (pss_cons (ps_expr (pe_bmK K PySem.F.plainAttrs_list PySem.F.slot_list_append PySem.F.type_list_append mt_append (pv 2) (pa_cons (pe_tup (pa_cons (pe_join pe_str (pv 3)) (pa_cons (pv 4) (pa_cons (pv 5) pa_nil)))) pa_nil)))
    (pss_one (ps_set (i := 3) sc_split_lines.nd rfl (by first | exact Or.inl rfl | exact Or.inr rfl) (pe_lst pa_nil)))) pss_nil)
    (pss_one (ps_if (pt_cmpR op_eq (pv 6) pe_str (nomark _)) (pss_cons (ps_expr (pe_bmK K PySem.F.plainAttrs_list PySem.F.slot_list_append PySem.F.type_list_append mt_append (pv 1) (pa_cons (pv 2) pa_nil)))
    (pss_one (ps_set (i := 2) sc_split_lines.nd rfl (by first | exact Or.inl rfl | exact Or.inr rfl) (pe_lst pa_nil)))) pss_nil))))))
    (pss_cons (ps_if (pt_cmpR op_gt (pe_callB (call_lenK K) (by rfl) T.f_len (by decide +kernel) (pa_cons (pv 3) pa_nil)) pe_int (nomark _)) (pss_one (ps_expr (pe_bmK K PySem.F.plainAttrs_list PySem.F.slot_list_append PySem.F.type_list_append mt_append (pv 2) (pa_cons (pe_tup (pa_cons (pe_join pe_str (pv 3)) (pa_cons (pv 4) (pa_cons (pv 5) pa_nil)))) pa_nil)))) pss_nil)
    (pss_cons (ps_expr (pe_bmK K PySem.F.plainAttrs_list PySem.F.slot_list_append PySem.F.type_list_append mt_append (pv 1) (pa_cons (pv 2) pa_nil)))
    (pss_one (ps_ret (pv 1))))))))))), ?_⟩
    obtain ⟨⟨v1, cs⟩, F0, rfl, fh, ⟨h1, hn, hc1⟩, k⟩ := h
    dsimp only at h1 hn hc1 k ⊢
    obtain ⟨a1, vs1, rfl, ha1, hp1⟩ := h1
    walk_at "s"
    refine ⟨x_lt (by decide), fun L H1 nL => ?_⟩
    obtain ⟨g1, oL⟩ := nL.own fh
    walk_at "s"
    refine ⟨x_lt (by decide), fun l H2 nl => ?_⟩
    obtain ⟨g2, ol⟩ := nl.own g1.fh
    walk_at "s"
    refine ⟨x_lt (by decide), fun c H3 nc => ?_⟩
    obtain ⟨g3, oc⟩ := nc.own g2.fh
    have z1 : H L = none := nL.fr
    have z2 : H l = none := g1.hh.free nl.fr
    have z3 : H c = none := (g1.trans g2).hh.free nc.fr
    have n12 : L ≠ l := ne_of_none oL.h nl.fr
    have oL := oL.go g2
    have n13 : L ≠ c := ne_of_none oL.h nc.fr
    have n23 : l ≠ c := ne_of_none ol.h nc.fr
    have oL := oL.go g3
    have ol := ol.go g3
    have G3 := (g1.trans g2).trans g3
    walk_at "s"
    refine ⟨a1, rfl, ⟨_, SqL.of (G3.hh _ _ (fh _ _ ha1))⟩, ?_⟩
    refine for_kL (r := k2 kS kI) (xs := cs) G3 ha1 hp1 (fun i σ F H1' => ∃ (l c : Addr) (vL vl : List V) (lns : List (List (Str × Int × Int))) (ln : List (Str × Int × Int)) (cc : List Str) (f t : Int) (x y : Option V),
        σ = [some (.ref a1), some (.ref L), some (.ref l), some (.ref c), some (.int f), some (.int t), x, y] ∧ Own F H1' L (.lst vL) ∧ Own F H1' l (.lst vl) ∧ Own F H1' c (.lst (cc.map V.str)) ∧ H l = none ∧ H c = none ∧ L ≠ l ∧ L ≠ c ∧ l ≠ c ∧
        Paired ((kL kP).p F) vL lns ∧ Paired (kP.p F) vl ln ∧ (lns.map List.length).sum + ln.length + cc.length ≤ i ∧ lns.length ≤ i ∧ (∀ q ∈ lns, ∀ w ∈ q, w.1.length ≤ cs.length) ∧ (∀ w ∈ ln, w.1.length ≤ cs.length) ∧ ∀ q ∈ cc, q.length = 1)
      ⟨l, c, [], [], [], [], [], 0, 0, none, none, rfl, oL, ol, oc, z2, z3, n12, n13, n23, .nil, .nil, Nat.le_refl _, Nat.le_refl _, fun _ h => by simp at h, fun _ h => by simp at h, fun _ h => by simp at h⟩ ?_ ?_
    · rintro i ⟨ch, ix⟩ v σ1 F1 H4 N hx hi hv G1 s1 ⟨l, c, vL, vl, lns, ln, cc, f, t, x, y, rfl, oL, ol, oc, zl, zc, n12, n13, n23, pL, pl, hsz, hln, hw1, hw2, hcc⟩ kN
      obtain ⟨av, rfl, hav⟩ := k2S hv
      dsimp only at hav
      walk_at "s"
      refine x_gT (G1.fh _ _ hav) rfl ?_
      walk_at "s"
      refine ⟨ch, F1, rfl, G1.fh, trivial, fun v F2 H5 g2 hb => ?_⟩
      dsimp only at hb
      subst hb
      refine ⟨_, rfl, ?_⟩
      have G2 := G1.trans g2
      have oL := oL.go g2
      have ol := ol.go g2
      have oc := oc.go g2
      have pL := L2.Paired.mapP pL fun _ _ h => (kL kP).mono g2.ff h
      have pl := L2.Paired.mapP pl fun _ _ h => kP.mono g2.ff h
      have hch := hc1 _ (List.mem_of_getElem? hx)
      have lcc : cc.length ≤ 100000 := by omega
      have lvl : vl.length ≤ 1000000 := by have := pl.length; omega
      have jl := join_len cc hcc
      have nl1 : ∀ D : Ends, (∀ σ' F' H' (l : Addr) (vL vl : List V) (lns : List (List (Str × Int × Int))) (ln : List (Str × Int × Int)) (c : Addr) (cc : List Str) (f t : Int), σ' = [some (.ref a1), some (.ref L), some (.ref l), some (.ref c), some (.int f), some (.int t), some (.str ch), some (.int ix)] → Gr F0 H F' H' → Same F2 F' → Own F' H' L (.lst vL) → Own F' H' l (.lst vl) → Own F' H' c (.lst (cc.map V.str)) → H l = none → H c = none → L ≠ l → L ≠ c → l ≠ c →
        Paired ((kL kP).p F') vL lns → Paired (kP.p F') vl ln → (lns.map List.length).sum + ln.length + cc.length ≤ i + 1 → lns.length ≤ i + 1 → (∀ q ∈ lns, ∀ w ∈ q, w.1.length ≤ cs.length) → (∀ w ∈ ln, w.1.length ≤ cs.length) → (∀ q ∈ cc, q.length = 1) → D.nx σ' H') →
          ∀ (l : Addr) (vl : List V) (ln : List (Str × Int × Int)) (c : Addr) (cc : List Str) F' H', Gr F0 H F' H' → Same F2 F' → Own F' H' L (.lst vL) → Own F' H' l (.lst vl) → Own F' H' c (.lst (cc.map V.str)) → H l = none → H c = none → L ≠ l → L ≠ c → l ≠ c →
        Paired ((kL kP).p F') vL lns → Paired (kP.p F') vl ln → (lns.map List.length).sum + ln.length + cc.length ≤ i → (∀ w ∈ ln, w.1.length ≤ cs.length) → (∀ q ∈ cc, q.length = 1) →
        tIfS (tTest (tOp rEq (tVar 6) (tC (V.str (Str.ofString "\n"))))) (tSeq (tDrop (tBM K "list" rAppend (tVar 1) (tCons (tVar 2) tNil))) (tAsg (tLst tNil) (gName 2))) tNext D
          [some (.ref a1), some (.ref L), some (.ref l), some (.ref c), some (.int f), some (.int t), some (.str ch), some (.int ix)] H' := by
        intro D kD l vl ln c cc F3 H6 G3 s3 oL ol oc zl zc n12 n13 n23 pL pl hs hw2 hcc
        walk_at "s"
        refine x_d (fun hcd => ?_) (fun hcd => ?_)
        · walk_at "s"
          refine ⟨x_tyL oL.h, ?_⟩
          walk_at "s"
          have := pL.length
          refine x_app oL.h (by rw [sizeLine_eq]; omega) fun H7 c7 => ?_
          have G7 := c7.gr G3 oL.f z1
          have ol := c7.ne ol n12.symm
          have oc := c7.ne oc n13.symm
          have oL := c7.own oL
          have G8 := G7.fix ol.h zl ol.f
          walk_at "s"
          refine ⟨x_lt (by decide), fun l2 H8 n2 => ?_⟩
          have h8 : Same H7 H8 := (n2.own (Same.refl _)).1.hh
          obtain ⟨g9, o9⟩ := n2.own G8.fh
          have oL8 : Own (upd F3 l (.lst vl)) H7 L (.lst (vL ++ [.ref l])) := ⟨oL.h, by rw [upd_ne n12]; exact oL.f⟩
          have oc8 : Own (upd F3 l (.lst vl)) H7 c (.lst (cc.map V.str)) := ⟨oc.h, by rw [upd_ne n23.symm]; exact oc.f⟩
          have zl2 : H l2 = none := G8.hh.free n2.fr
          walk_at "s"
          refine kD _ _ _ l2 _ [] (lns ++ [ln]) [] c cc f t rfl (G8.trans g9) (s3.trans (same_new ol.f)) (oL8.go g9) o9 (oc8.go g9) zl2 zc (ne_of_none oL.h n2.fr) n13 (ne_of_none oc.h n2.fr).symm ?_ .nil ?_ ?_ ?_ (fun _ h => by simp at h) hcc
          · exact (L2.Paired.mapP pL fun _ _ h => (kL kP).mono (same_new ol.f) h).snoc ⟨l, vl, rfl, upd_same, L2.Paired.mapP pl fun _ _ h => kP.mono (same_new ol.f) h⟩
          · simp only [List.map_append, List.map_cons, List.map_nil, List.sum_append, List.sum_cons, List.sum_nil, List.length_nil]; omega
          · rw [List.length_append, List.length_singleton]; omega
          · intro q hq
            rcases List.mem_append.mp hq with h | h
            · exact hw1 q h
            · rw [List.mem_singleton.mp h]; exact hw2
        · walk_at "s"
          exact kD _ _ _ l _ vl lns ln c cc f t rfl G3 s3 oL ol oc zl zc n12 n13 n23 pL pl (by omega) (by omega) hw1 hw2 hcc
      cases isBlk ch
      · refine x_t ?_
        walk_at "s"
        refine x_lenK oc.h ?_
        rw [List.length_map]
        walk_at "s"
        refine x_d (fun hcd => ?_) (fun hcd => ?_)
        all_goals
          walk_at "s"
          refine ⟨x_tyL oc.h, ?_⟩
          walk_at "s"
          refine x_app oc.h (by rw [List.length_map, sizeLine_eq]; omega) fun H6 c6 => ?_
          walk_at "s"
          refine kN _ _ _ (c6.gr G2 oc.f zc) g2.ff ⟨l, c, vL, vl, lns, ln, cc ++ [ch], _, _, _, _, rfl, c6.ne oL n13, c6.ne ol n23, by rw [List.map_append]; exact c6.own oc, zl, zc, n12, n13, n23, pL, pl, by rw [List.length_append, List.length_singleton]; omega, by omega, hw1, hw2, fun q hq => ?_⟩
          rcases List.mem_append.mp hq with h | h
          · exact hcc q h
          · rw [List.mem_singleton.mp h]; exact hch
      · refine x_f ?_
        walk_at "s"
        refine x_lenK oc.h ?_
        rw [List.length_map]
        walk_at "s"
        refine x_d (fun hcd => ?_) (fun hcd => ?_)
        · walk_at "s1"
          refine word_put (f := f) (t := t) g2.fh rfl rfl rfl rfl ol oc.h hcc lcc lvl fun F3 H6 H7 v g3 c7 hv => ?_
          have G3 := G2.trans g3
          have G4 := c7.gr G3 (ol.go g3).f zl
          have oL := c7.ne (oL.go g3) n12
          have ol := c7.own (ol.go g3)
          walk_at "s"
          refine ⟨x_lt (by decide), fun c2 H8 n2 => ?_⟩
          obtain ⟨g8, o8⟩ := n2.own G4.fh
          have zc2 : H c2 = none := G4.hh.free n2.fr
          refine nl1 _ (fun σ' F' H' l vL vl lns ln c cc f t e G s oL ol oc zl zc n12 n13 n23 pL pl hs hl h1 h2 h3 => by exact kN σ' F' H' G (g2.ff.trans s) ⟨l, c, vL, vl, lns, ln, cc, f, t, _, _, e, oL, ol, oc, zl, zc, n12, n13, n23, pL, pl, hs, hl, h1, h2, h3⟩)
            l _ (ln ++ [(Txt.join (Str.ofString "") cc, f, t)]) c2 [] _ _ (G4.trans g8) (g3.ff.trans g8.ff) (oL.go g8) (ol.go g8) o8 zl zc2 n12 (ne_of_none oL.h n2.fr) (ne_of_none ol.h n2.fr) (L2.Paired.mapP pL fun _ _ h => (kL kP).mono (g3.ff.trans g8.ff) h) ?_ ?_ ?_ (fun _ h => by simp at h)
          · exact L2.Paired.mapP ((L2.Paired.mapP pl fun _ _ h => kP.mono g3.ff h).snoc hv) fun _ _ h => kP.mono g8.ff h
          · rw [List.length_append, List.length_singleton, List.length_nil]; omega
          · intro w hw
            rcases List.mem_append.mp hw with h | h
            · exact hw2 w h
            · rw [List.mem_singleton.mp h]
              show (Txt.join (Str.ofString "") cc).length ≤ _
              omega
        · walk_at "s1"
          refine nl1 _ (fun σ' F' H' l vL vl lns ln c cc f t e G s oL ol oc zl zc n12 n13 n23 pL pl hs hl h1 h2 h3 => by exact kN σ' F' H' G (g2.ff.trans s) ⟨l, c, vL, vl, lns, ln, cc, f, t, _, _, e, oL, ol, oc, zl, zc, n12, n13, n23, pL, pl, hs, hl, h1, h2, h3⟩)
            l _ ln c cc _ _ G2 (Same.refl _) oL ol oc zl zc n12 n13 n23 pL pl hsz hw2 hcc
    · rintro σ1 F1 H4 G1 s1 ⟨l, c, vL, vl, lns, ln, cc, f, t, x, y, rfl, oL, ol, oc, zl, zc, n12, n13, n23, pL, pl, hsz, hln, hw1, hw2, hcc⟩
      have jl := join_len cc hcc
      have e1 := pl.length
      have e2 := pL.length
      have fin : ∀ (vl : List V) (ln : List (Str × Int × Int)) F' H' (D : Ends), D.rt = Q → Gr F0 H F' H' → Own F' H' L (.lst vL) → Own F' H' l (.lst vl) → Paired ((kL kP).p F') vL lns → Paired (kP.p F') vl ln → (lns.map List.length).sum + ln.length ≤ cs.length → (∀ w ∈ ln, w.1.length ≤ cs.length) →
          tSeq (tDrop (tBM K "list" rAppend (tVar 1) (tCons (tVar 2) tNil))) (tRet (tVar 1)) D [some (.ref a1), some (.ref L), some (.ref l), some (.ref c), some (.int f), some (.int t), x, y] H' := by
        intro vl ln F' H' D hD G oL ol pL pl hs hw2
        walk_at "s"
        refine ⟨x_tyL oL.h, ?_⟩
        walk_at "s"
        refine x_app oL.h (by rw [sizeLine_eq]; omega) fun H7 c7 => ?_
        have G7 := c7.gr G oL.f z1
        have ol := c7.ne ol n12.symm
        have oL := c7.own oL
        have G8 := G7.fix ol.h zl ol.f
        have oL8 : Own (upd F' l (.lst vl)) H7 L (.lst (vL ++ [.ref l])) := ⟨oL.h, by rw [upd_ne n12]; exact oL.f⟩
        walk_at "s"
        rw [hD]
        refine k _ _ _ (G8.fix oL8.h z1 oL8.f) ⟨lns ++ [ln], ⟨L, _, rfl, upd_same, ?_⟩, ?_, ?_, ?_⟩
        · have q := (L2.Paired.mapP pL fun _ _ h => (kL kP).mono (same_new ol.f) h).snoc ⟨l, vl, rfl, upd_same, L2.Paired.mapP pl fun _ _ h => kP.mono (same_new ol.f) h⟩
          exact L2.Paired.mapP q fun _ _ h => (kL kP).mono (same_new oL8.f) h
        · simp only [List.map_append, List.map_cons, List.map_nil, List.sum_append, List.sum_cons, List.sum_nil]; omega
        · rw [List.length_append, List.length_singleton]; omega
        · intro q hq
          rcases List.mem_append.mp hq with h | h
          · exact hw1 q h
          · rw [List.mem_singleton.mp h]; exact hw2
      walk_at "s"
      refine x_lenK oc.h ?_
      rw [List.length_map]
      walk_at "s"
      refine x_d (fun hcd => ?_) (fun hcd => ?_)
      · refine word_put (f := f) (t := t) G1.fh rfl rfl rfl rfl ol oc.h hcc (by omega) (by omega) fun F3 H6 H7 v g3 c7 hv => ?_
        have G4 := c7.gr (G1.trans g3) (ol.go g3).f zl
        have oL := c7.ne (oL.go g3) n12
        have ol := c7.own (ol.go g3)
        refine fin _ (ln ++ [(Txt.join (Str.ofString "") cc, f, t)]) _ _ _ rfl G4 oL ol (L2.Paired.mapP pL fun _ _ h => (kL kP).mono g3.ff h) ((L2.Paired.mapP pl fun _ _ h => kP.mono g3.ff h).snoc hv) (by rw [List.length_append, List.length_singleton]; omega) ?_
        intro w hw
        rcases List.mem_append.mp hw with h | h
        · exact hw2 w h
        · rw [List.mem_singleton.mp h]
          show (Txt.join (Str.ofString "") cc).length ≤ _
          omega
      · walk_at "s1"
        exact fin _ ln _ _ _ rfl G1 oL ol pL pl (by omega) hw2
/-! D_lines3.src -/
structure RU where
  src : List (Str × Int)
  mark : Str
  dw : Int
  al : Int
  ao : Int
  rw : Int
  pw : Int
  pi : Int
  jo : Int
  pc : Int
/-- the fields of the rules -/
structure RuF (F : Hp) (fs : List (Str × V)) (r : RU) : Prop where
  sources : ∃ x, fs.lookup ("sources" : Str) = some x ∧ (kL (k2 kS kI)).p F x r.src
  changes : ∃ x, fs.lookup ("changes" : Str) = some x ∧ (kL kX).p F x []
  banned : ∃ x, fs.lookup ("banned" : Str) = some x ∧ (kL kX).p F x []
  hidden : ∃ x, fs.lookup ("hidden" : Str) = some x ∧ (kL kX).p F x []
  shares : ∃ x, fs.lookup ("shares" : Str) = some x ∧ (kL kX).p F x []
  line_words : fs.lookup ("line_words" : Str) = some (.int 0)
  line_documents : fs.lookup ("line_documents" : Str) = some (.int 0)
  mark : fs.lookup ("mark" : Str) = some (.str r.mark)
  document_words : fs.lookup ("document_words" : Str) = some (.int r.dw)
  alike_least : fs.lookup ("alike_least" : Str) = some (.int r.al)
  alike_of : fs.lookup ("alike_of" : Str) = some (.int r.ao)
  run_words : fs.lookup ("run_words" : Str) = some (.int r.rw)
  phrase_words : fs.lookup ("phrase_words" : Str) = some (.int r.pw)
  piece_words : fs.lookup ("piece_words" : Str) = some (.int r.pi)
  join_limit : fs.lookup ("join_limit" : Str) = some (.int r.jo)
  page_codes : fs.lookup ("page_codes" : Str) = some (.int r.pc)
theorem RuF.up {F F' : Hp} {fs : List (Str × V)} {r : RU} (e : Same F F') (h : RuF F fs r) : RuF F' fs r :=
  ⟨h.sources.imp fun _ q => ⟨q.1, (kL (k2 kS kI)).mono e q.2⟩, h.changes.imp fun _ q => ⟨q.1, (kL kX).mono e q.2⟩, h.banned.imp fun _ q => ⟨q.1, (kL kX).mono e q.2⟩, h.hidden.imp fun _ q => ⟨q.1, (kL kX).mono e q.2⟩, h.shares.imp fun _ q => ⟨q.1, (kL kX).mono e q.2⟩,
    h.line_words, h.line_documents, h.mark, h.document_words, h.alike_least, h.alike_of, h.run_words, h.phrase_words, h.piece_words, h.join_limit, h.page_codes⟩
def kRu (K : PySem.W.Frag) : R RU := ⟨fun F v r => ∃ a dx fs, v = .ref a ∧ F a = some (.ins (He.ga K "Rules") dx fs) ∧ RuF F fs r, fun e ⟨a, dx, fs, h1, h2, h3⟩ => ⟨a, dx, fs, h1, e _ _ h2, h3.up e⟩⟩
def sp_shown : Sp := SpOf (ι := Str × V × V) (fun i => [.str i.1, i.2.1, i.2.2]) (fun i F => (kL kX).p F i.2.1 []) (fun i _ v => v = .str i.1)
theorem ok_shown {P : Program} {w : World} {K : PySem.W.Frag} {mg : Str → Option Value} {base : Heap} (T : Tx K mg) : Okd P w K mg base 2 ("_shown", none) ["word", "hidden", "mark"] [] (sp_shown) := by
  have O_has_any_shape := ok_has_any_shape (P := P) (w := w) (base := base) T
  obtain ⟨fd, F⟩ : ∃ fd, FunD K "_shown" "_shown" (defArgs s_shown) (defBody s_shown) (defScope s_shown) [] [] (He.fAd K ("_shown", none)) fd := T.says.d.def_ 18 rfl
  refine ⟨fd, [], F.ok sc_shown (fun vs H Q E h => ?_) (fun cdv A outer s H vs Q E hr h => ?_), .nil, F.bindsN (fun _ _ _ _ _ _ us hl => match us, hl with | [_, _, _], _ => rfl), F.kp⟩
  · obtain ⟨_, _, rfl, _⟩ := h; rfl
  · refine ⟨_, PSs.nox (pss_cons (ps_if (pt_val (pe_ok O_has_any_shape T.n_has_any_shape hr (by decide) (by rfl) (pa_cons (pv 0) (pa_cons (pv 1) pa_nil)))) (pss_one ps_never) pss_nil)
    (pss_one (ps_ret (pv 0)))), ?_⟩
    obtain ⟨⟨z, v2, v3⟩, F0, rfl, fh, h2, k⟩ := h
    dsimp only at h2 k ⊢
    walk_at "s"
    refine ⟨(z, v2), F0, rfl, fh, h2, fun v F1 H1 g1 hv => ?_⟩
    dsimp only at hv
    subst hv
    refine ⟨_, rfl, x_f ?_⟩
    walk_at "s"
    exact k _ _ _ g1 rfl
def sp_hide_words : Sp := SpOf (ι := V × V × V × List (List (Str × Int × Int))) (fun i => [i.1, i.2.1, i.2.2.1]) (fun i F => (kL (kL kP)).p F i.1 i.2.2.2 ∧ (kL kX).p F i.2.1 [] ∧ (i.2.2.2.map List.length).sum ≤ 1000000 ∧ i.2.2.2.length ≤ 1000000) (fun i F v => (kL (kL kP)).p F v i.2.2.2)
theorem ok_hide_words {P : Program} {w : World} {K : PySem.W.Frag} {mg : Str → Option Value} {base : Heap} (T : Tx K mg) : Okd P w K mg base 3 ("hide_words", none) ["lines", "hidden", "mark"] [] (sp_hide_words) := by
  have O_shown := ok_shown (P := P) (w := w) (base := base) T
  obtain ⟨fd, F⟩ : ∃ fd, FunD K "hide_words" "hide_words" (defArgs s_hide_words) (defBody s_hide_words) (defScope s_hide_words) [] [] (He.fAd K ("hide_words", none)) fd := T.says.d.def_ 19 rfl
  refine ⟨fd, [], F.ok sc_hide_words (fun vs H Q E h => ?_) (fun cdv A outer s H vs Q E hr h => ?_), .nil, F.bindsN (fun _ _ _ _ _ _ us hl => match us, hl with | [_, _, _], _ => rfl), F.kp⟩
  · obtain ⟨_, _, rfl, _⟩ := h; rfl
  · refine ⟨_, PSs.nox (pss_cons (ps_set (i := 3) sc_hide_words.nd rfl (by first | exact Or.inl rfl | exact Or.inr rfl) (pe_lst pa_nil))
    (pss_cons (ps_for PassesOwn.never rfl (pi_listK K (pv 0)) (pg_name (i := 4) sc_hide_words.nd rfl (by first | exact Or.inl rfl | exact Or.inr rfl)) (pss_one (ps_expr (pe_bmK K PySem.F.plainAttrs_list PySem.F.slot_list_append PySem.F.type_list_append mt_append (pv 3) (pa_cons (pe_lc (own := [("word", 5), ("first", 6), ("last", 7)]) (g := (gTup K 3 (gCons (gName 5) (gCons (gName 6) (gCons (gName 7) gNil))))) (tt := tYes) rfl sc_hide_words.nd (pi_listK K (pv 4)) (blkOk_by (own := [("word", 5), ("first", 6), ("last", 7)]) (N := N_hide_words) (sc := defScope s_hide_words) (by decide +kernel)) (fun _ _ _ _ _ => (pg_tupK K rfl (pgs_cons (pg_name (i := 5) sc_hide_words.nd rfl (by first | exact Or.inl rfl | exact Or.inr rfl)) (pgs_cons (pg_name (i := 6) sc_hide_words.nd rfl (by first | exact Or.inl rfl | exact Or.inr rfl)) (pgs_cons (pg_name (i := 7) sc_hide_words.nd rfl (by first | exact Or.inl rfl | exact Or.inr rfl)) pgs_nil))))) (fun _ _ _ _ _ => pts_nil) (fun _ _ _ _ _ => (pe_tup (pa_cons (pe_ok O_shown T.n_shown hr (by decide) (by rfl) (pa_cons (pv 5) (pa_cons (pv 1) (pa_cons (pv 2) pa_nil)))) (pa_cons (pv 6) (pa_cons (pv 7) pa_nil)))))) pa_nil)))))
    (pss_one (ps_ret (pv 3))))), ?_⟩
    obtain ⟨⟨v1, v2, v3, lns⟩, F0, rfl, fh, ⟨h1, h2, hn, hn2⟩, k⟩ := h
    dsimp only at h1 h2 hn hn2 k ⊢
    obtain ⟨a1, vs1, rfl, ha1, hp1⟩ := h1
    walk_at "s"
    refine ⟨x_lt (by decide), fun r H1 nr => ?_⟩
    obtain ⟨g1, o1⟩ := nr.own fh
    walk_at "s"
    refine ⟨a1, rfl, ⟨_, SqL.of (g1.hh _ _ (fh _ _ ha1))⟩, ?_⟩
    refine for_kL (r := kL kP) (xs := lns) g1 ha1 hp1 (fun i σ F H => ∃ (vs : List V) (x : Option V), σ = [some (.ref a1), some v2, some v3, some (.ref r), x, none, none, none] ∧ Own F H r (.lst vs) ∧ Paired ((kL kP).p F) vs (lns.take i)) ⟨[], none, rfl, o1, by rw [List.take_zero]; exact .nil⟩ ?_ ?_
    · rintro i ln v σ1 F1 H2 N hx hi hv G1 s1 ⟨vs, x, rfl, o1, hp⟩ kN
      have hl : ln.length ≤ 1000000 := Nat.le_trans (sum_mem (f := List.length) (List.mem_of_getElem? hx)) hn
      obtain ⟨a2, vs2, rfl, ha2, hp2⟩ := hv
      walk_at "s"
      refine ⟨x_tyL o1.h, ?_⟩
      walk_at "s"
      refine ⟨a2, rfl, ⟨_, SqL.of (G1.fh _ _ ha2)⟩, lc_kL (r := kP) (s := kP) G1.fh ha2 hp2 (by rw [sizeLine_eq]; omega) (fun x y => y = x) ?_ ?_⟩
      · intro j w v F3 H3 N3 hw hv g3 kN3
        obtain ⟨b, rfl, hb⟩ := k3W hv
        walk_at "s"
        refine x_gT (g3.at hb) rfl ?_
        walk_at "s"
        refine ⟨rfl, ?_⟩
        walk_at "s"
        refine ⟨(w.1, v2, v3), F3, rfl, g3.fh, (kL kX).mono (s1.trans g3.ff) h2, fun v F4 H4 g4 hv => ?_⟩
        dsimp only at hv
        subst hv
        walk_at "s"
        refine ⟨x_lt (Nat.le_of_ble_eq_true rfl), fun t H5 nt => ?_⟩
        obtain ⟨F5, g5, e5⟩ := nt.fix g4.fh
        exact kN3 _ _ _ w (g4.trans g5) ⟨t, _, _, _, rfl, e5, rfl, rfl, rfl⟩ rfl
      intro p F3 H3 ys np g3 hk pp
      have e := paired_fun (f := fun x => x) pp
      rw [List.map_id'] at e
      subst e
      have o3 := o1.go g3
      have hvl := hp.length
      rw [List.length_take] at hvl
      walk_at "s"
      refine x_app o3.h (by rw [sizeLine_eq]; omega) fun H4 c4 => ?_
      walk_at "s"
      refine kN _ _ _ (c4.gr (G1.trans g3) o3.f nr.fr) g3.ff ⟨_, _, rfl, c4.own o3, ?_⟩
      obtain ⟨hi2, e1⟩ := List.getElem?_eq_some_iff.mp hx
      rw [List.take_succ_eq_append_getElem hi2, e1]
      exact (L2.Paired.mapP hp fun _ _ h => (kL kP).mono g3.ff h).snoc hk
    · rintro σ1 F1 H2 G1 s1 ⟨vs, x, rfl, o1, hp⟩
      rw [List.take_length] at hp
      walk_at "s"
      exact k _ _ _ (G1.fix o1.h nr.fr o1.f) ⟨r, vs, rfl, upd_same, L2.Paired.mapP hp fun _ _ h => (kL kP).mono (same_new o1.f) h⟩
/-! D_lines4.src -/
def sp_text_lines (K : PySem.W.Frag) : Sp := SpOf (ι := Str × V × RU) (fun i => [.str i.1, i.2.1]) (fun i F => (kRu K).p F i.2.1 i.2.2 ∧ i.1.length ≤ 100000) (fun i F v => ∃ lns, (kL (kL kP)).p F v lns ∧ LinesOk i.1.length lns)
theorem ok_text_lines {P : Program} {w : World} {K : PySem.W.Frag} {mg : Str → Option Value} {base : Heap} (T : Tx K mg) : Okd P w K mg base 4 ("text_lines", none) ["text", "rules"] [] (sp_text_lines K) := by
  have O_hide_words := ok_hide_words (P := P) (w := w) (base := base) T
  have O_split_lines := ok_split_lines (P := P) (w := w) (base := base) T
  have O_change_text := ok_change_text (P := P) (w := w) (base := base) T
  obtain ⟨fd, F⟩ : ∃ fd, FunD K "text_lines" "text_lines" (defArgs s_text_lines) (defBody s_text_lines) (defScope s_text_lines) [] [] (He.fAd K ("text_lines", none)) fd := T.says.d.def_ 20 rfl
  refine ⟨fd, [], F.ok sc_text_lines (fun vs H Q E h => ?_) (fun cdv A outer s H vs Q E hr h => ?_), .nil, F.bindsN (fun _ _ _ _ _ _ us hl => match us, hl with | [_, _], _ => rfl), F.kp⟩
  · obtain ⟨_, _, rfl, _⟩ := h; rfl
  · refine ⟨_, PSs.nox (pss_one (ps_ret (pe_ok O_hide_words T.n_hide_words hr (by decide) (by rfl) (pa_cons (pe_ok O_split_lines T.n_split_lines hr (by decide) (by rfl) (pa_cons (pe_ok O_change_text T.n_change_text hr (by decide) (by rfl) (pa_cons (pv 0) (pa_cons (pe_fldK K (pv 1)) pa_nil))) pa_nil)) (pa_cons (pe_fldK K (pv 1)) (pa_cons (pe_fldK K (pv 1)) pa_nil)))))), ?_⟩
    obtain ⟨⟨z, v2, ru⟩, F0, rfl, fh, ⟨h2, hz⟩, k⟩ := h
    dsimp only at h2 hz k ⊢
    obtain ⟨a2, dx, fs, rfl, ha2, hf⟩ := h2
    obtain ⟨x1, lc, kc⟩ := hf.changes
    obtain ⟨x2, lh, kh⟩ := hf.hidden
    walk_at "s"
    refine ⟨_, _, _, _, _, rfl, fh _ _ ha2, T.c_Rules, T.a_Rules_changes, lc, ?_⟩
    walk_at "s"
    refine ⟨(z, x1), F0, rfl, fh, ⟨kc, hz⟩, fun v F1 H1 g1 hv => ?_⟩
    obtain ⟨cs, hk, hl, h1⟩ := hv
    dsimp only at hl
    walk_at "s"
    refine ⟨(v, cs), F1, rfl, g1.fh, ⟨hk, by dsimp only; omega, h1⟩, fun v2 F2 H2 g2 hv2 => ?_⟩
    obtain ⟨lns, hk2, hok⟩ := hv2
    have G2 := g1.trans g2
    dsimp only at hok
    rw [hl] at hok
    walk_at "s"
    refine ⟨_, _, _, _, _, rfl, G2.hh _ _ (fh _ _ ha2), T.c_Rules, T.a_Rules_hidden, lh, ?_⟩
    walk_at "s"
    refine ⟨_, _, _, _, _, rfl, G2.hh _ _ (fh _ _ ha2), T.c_Rules, T.a_Rules_mark, hf.mark, ?_⟩
    walk_at "s"
    refine ⟨(v2, x2, .str ru.mark, lns), F2, rfl, G2.fh, ⟨hk2, (kL kX).mono G2.ff kh, ?_, ?_⟩, fun v3 F3 H3 g3 hv3 => ?_⟩
    · have := hok.1
      dsimp only
      omega
    · have := hok.2.1
      dsimp only
      omega
    exact k _ _ _ (G2.trans g3) ⟨lns, hv3, hok⟩
def sp_exam_words (K : PySem.W.Frag) : Sp := SpOf (ι := Str × V × RU) (fun i => [.str i.1, i.2.1]) (fun i F => (kRu K).p F i.2.1 i.2.2 ∧ i.1.length ≤ 100000) (fun i F v => ∃ ws, (kL kS).p F v ws ∧ ws.length ≤ i.1.length ∧ ∀ w ∈ ws, w.length ≤ i.1.length)
theorem ok_exam_words {P : Program} {w : World} {K : PySem.W.Frag} {mg : Str → Option Value} {base : Heap} (T : Tx K mg) : Okd P w K mg base 5 ("exam_words", none) ["text", "rules"] [] (sp_exam_words K) := by
  have O_text_lines := ok_text_lines (P := P) (w := w) (base := base) T
  obtain ⟨fd, F⟩ : ∃ fd, FunD K "exam_words" "exam_words" (defArgs s_exam_words) (defBody s_exam_words) (defScope s_exam_words) [] [] (He.fAd K ("exam_words", none)) fd := T.says.d.def_ 21 rfl
  refine ⟨fd, [], F.ok sc_exam_words (fun vs H Q E h => ?_) (fun cdv A outer s H vs Q E hr h => ?_), .nil, F.bindsN (fun _ _ _ _ _ _ us hl => match us, hl with | [_, _], _ => rfl), F.kp⟩
  · obtain ⟨_, _, rfl, _⟩ := h; rfl
  · refine ⟨_, PSs.nox (pss_cons (ps_set (i := 2) sc_exam_words.nd rfl (by first | exact Or.inl rfl | exact Or.inr rfl) (pe_lst pa_nil))
    (pss_cons (ps_for PassesOwn.never rfl (pi_listK K (pe_ok O_text_lines T.n_text_lines hr (by decide) (by rfl) (pa_cons (pv 0) (pa_cons (pv 1) pa_nil)))) (pg_name (i := 3) sc_exam_words.nd rfl (by first | exact Or.inl rfl | exact Or.inr rfl)) (pss_one (ps_for PassesOwn.never rfl (pi_listK K (pv 3)) (pg_tupK K rfl (pgs_cons (pg_name (i := 4) sc_exam_words.nd rfl (by first | exact Or.inl rfl | exact Or.inr rfl)) (pgs_cons (pg_name (i := 5) sc_exam_words.nd rfl (by first | exact Or.inl rfl | exact Or.inr rfl)) (pgs_cons (pg_name (i := 6) sc_exam_words.nd rfl (by first | exact Or.inl rfl | exact Or.inr rfl)) pgs_nil)))) (pss_one (ps_expr (pe_bmK K PySem.F.plainAttrs_list PySem.F.slot_list_append PySem.F.type_list_append mt_append (pv 2) (pa_cons (pv 4) pa_nil)))))))
    (pss_one (ps_ret (pv 2))))), ?_⟩
    obtain ⟨⟨z, v2, ru⟩, F0, rfl, fh, ⟨h2, hz⟩, k⟩ := h
    dsimp only at h2 hz k ⊢
    walk_at "s"
    refine ⟨x_lt (by decide), fun r H1 nr => ?_⟩
    obtain ⟨g1, o1⟩ := nr.own fh
    walk_at "s"
    refine ⟨(z, v2, ru), F0, rfl, g1.fh, ⟨h2, hz⟩, fun v F2 H2 g2 hv => ?_⟩
    obtain ⟨lns, ⟨a3, vs3, rfl, ha3, hp3⟩, ok1, ok2, ok3⟩ := hv
    dsimp only at ok1 ok2 ok3
    have G2 := g1.trans g2
    have o1 := o1.go g2
    refine ⟨a3, rfl, ⟨_, SqL.of (g2.at ha3)⟩, ?_⟩
    refine for_kL (r := kL kP) (xs := lns) G2 ha3 hp3 (fun i σ F H => ∃ (ws : List Str) (x1 x2 x3 x4 : Option V), σ = [some (.str z), some v2, some (.ref r), x1, x2, x3, x4] ∧ Own F H r (.lst (ws.map V.str)) ∧ ws.length + ((lns.drop i).map List.length).sum ≤ z.length ∧ ∀ w ∈ ws, w.length ≤ z.length) ⟨[], _, _, _, _, rfl, o1, by simpa using ok1, fun _ h => by simp at h⟩ ?_ ?_
    · rintro i ln v σ1 F3 H3 N hx hi hv G3 s3 ⟨ws, x1, x2, x3, x4, rfl, o1, hl, hw⟩ kN
      obtain ⟨a4, vs4, rfl, ha4, hp4⟩ := hv
      have ed : lns.drop i = ln :: lns.drop (i + 1) := by
        obtain ⟨hi2, e⟩ := List.getElem?_eq_some_iff.mp hx
        rw [← e, List.getElem_cons_drop]
      rw [ed, List.map_cons, List.sum_cons] at hl
      have hln := ok3 ln (List.mem_of_getElem? hx)
      walk_at "s"
      refine ⟨a4, rfl, ⟨_, SqL.of (G3.fh _ _ ha4)⟩, ?_⟩
      refine for_kL (r := kP) (xs := ln) G3 ha4 hp4 (fun j σ F H => ∃ (ws : List Str) (x2 x3 x4 : Option V), σ = [some (.str z), some v2, some (.ref r), some (.ref a4), x2, x3, x4] ∧ Own F H r (.lst (ws.map V.str)) ∧ ws.length + (ln.length - j) + ((lns.drop (i + 1)).map List.length).sum ≤ z.length ∧ ∀ w ∈ ws, w.length ≤ z.length) ⟨ws, _, _, _, rfl, o1, by omega, hw⟩ ?_ ?_
      · rintro j w v σ2 F4 H4 N4 hx4 hj hv G4 s4 ⟨ws, x2, x3, x4, rfl, o1, hl, hw⟩ kN4
        obtain ⟨b, rfl, hb⟩ := k3W hv
        walk_at "s"
        refine x_gT (G4.fh _ _ hb) rfl ?_
        walk_at "s"
        refine ⟨x_tyL o1.h, ?_⟩
        walk_at "s"
        refine x_app o1.h (by rw [List.length_map, sizeLine_eq]; omega) fun H5 c5 => ?_
        walk_at "s"
        refine kN4 _ _ _ (c5.gr G4 o1.f nr.fr) (Same.refl _) ⟨ws ++ [w.1], _, _, _, rfl, ?_, by rw [List.length_append, List.length_singleton]; omega, fun q hq => ?_⟩
        · rw [List.map_append]
          exact c5.own o1
        · rcases List.mem_append.mp hq with h | h
          · exact hw q h
          · rw [List.mem_singleton.mp h]; exact hln w (List.mem_of_getElem? hx4)
      · rintro σ2 F4 H4 G4 s4 ⟨ws, x2, x3, x4, rfl, o1, hl, hw⟩
        exact kN _ _ _ G4 s4 ⟨ws, _, _, _, _, rfl, o1, by omega, hw⟩
    · rintro σ1 F3 H3 G3 s3 ⟨ws, x1, x2, x3, x4, rfl, o1, hl, hw⟩
      walk_at "s"
      exact k _ _ _ (G3.fix o1.h nr.fr o1.f) ⟨ws, kLS' upd_same, by omega, hw⟩
/-! D_clean1.src -/
def keyS (ws : List Str) : List L2.Key := ws.map Sum.inr
theorem keyS_kV (ws : List Str) : (keyS ws).map kV = ws.map V.str := by
  unfold keyS
  rw [List.map_map]
  rfl
def IntsK (kv : List (List L2.Key × V)) : Prop := ∀ p ∈ kv, ∃ n : Int, p.2 = .int n
def HasK (kv : List (List L2.Key × V)) (ws : List Str) : Prop := ∃ v, valV kv (keyS ws) = some v
theorem HasK.put {kv : List (List L2.Key × V)} {ws us : List Str} {v : V} (h : HasK kv ws) : HasK (putK kv (keyS us) v) ws := by
  unfold HasK
  rw [valV_put]
  by_cases e : keyS ws = keyS us
  · rw [if_pos e]; exact ⟨_, rfl⟩
  · rw [if_neg e]; exact h
theorem HasK.new {kv : List (List L2.Key × V)} {ws : List Str} {v : V} : HasK (putK kv (keyS ws) v) ws := by
  unfold HasK
  rw [valV_put, if_pos rfl]; exact ⟨_, rfl⟩
theorem IntsK.put {kv : List (List L2.Key × V)} {k : List L2.Key} {n : Int} (h : IntsK kv) : IntsK (putK kv k (.int n)) := fun p hp => by
  rcases putK_mem hp with q | q
  · exact h p q
  · rw [q]; exact ⟨n, rfl⟩
def kDt : R (List (List L2.Key × V)) := ⟨fun F v kv => ∃ d, v = .ref d ∧ F d = some (.dT kv), fun e ⟨d, h1, h2⟩ => ⟨d, h1, e _ _ h2⟩⟩
abbrev Docs := List (List (List Str))
def sp_count_lines : Sp := SpOf (ι := V × Docs) (fun i => [i.1]) (fun i F => (kL (kL (kL kS))).p F i.1 i.2 ∧ (i.2.map List.length).sum ≤ 1000000 ∧ i.2.length ≤ 1000000)
  (fun i F v => ∃ kv, kDt.p F v kv ∧ IntsK kv ∧ ∀ d ∈ i.2, ∀ ws ∈ d, HasK kv ws)
theorem ok_count_lines {P : Program} {w : World} {K : PySem.W.Frag} {mg : Str → Option Value} {base : Heap} (T : Tx K mg) : Okd P w K mg base 1 ("count_lines", none) ["documents"] [] (sp_count_lines) := by
  obtain ⟨fd, F⟩ : ∃ fd, FunD K "count_lines" "count_lines" (defArgs s_count_lines) (defBody s_count_lines) (defScope s_count_lines) [] [] (He.fAd K ("count_lines", none)) fd := T.says.d.def_ 22 rfl
  refine ⟨fd, [], F.ok sc_count_lines (fun vs H Q E h => ?_) (fun cdv A outer s H vs Q E hr h => ?_), .nil, F.bindsN (fun _ _ _ _ _ _ us hl => match us, hl with | [_], _ => rfl), F.kp⟩
  · obtain ⟨_, _, rfl, _⟩ := h; rfl
  · have hu := hu_of hr; refine ⟨_, PSs.nox (pss_cons (ps_set (i := 1) sc_count_lines.nd rfl (by first | exact Or.inl rfl | exact Or.inr rfl) pe_dnewT)
    (pss_cons (ps_for PassesOwn.never rfl (pi_listK K (pv 0)) (pg_name (i := 2) sc_count_lines.nd rfl (by first | exact Or.inl rfl | exact Or.inr rfl)) (pss_cons (ps_set (i := 3) sc_count_lines.nd rfl (by first | exact Or.inl rfl | exact Or.inr rfl) pe_dnewT)
    (pss_one (ps_for PassesOwn.never rfl (pi_listK K (pv 2)) (pg_name (i := 4) sc_count_lines.nd rfl (by first | exact Or.inl rfl | exact Or.inr rfl)) (pss_cons (ps_set (i := 5) sc_count_lines.nd rfl (by first | exact Or.inl rfl | exact Or.inr rfl) (pe_callTy (call_tupofK K) (by rfl) T.f_tuple (by decide +kernel) (pa_cons (pv 4) pa_nil)))
    (pss_one (ps_if (pt_cmp (pc_dnotin hu (pv 5) (pv 3)) (by first | exact nobehind _ (by decide) (by decide) | rfl)) (pss_cons (ps_dput hu (pv 3) (pv 5) pe_bl rfl)
    (pss_one (ps_dput hu (pv 1) (pv 5) (pe_op op_add (pe_dget2 hu (pv 1) (pv 5) pe_int ⟨rfl, rfl, rfl, rfl⟩) pe_int) rfl))) pss_nil)))))))
    (pss_one (ps_ret (pv 1))))), ?_⟩
    obtain ⟨⟨v1, ds⟩, F0, rfl, fh, ⟨h1, hn, hn2⟩, k⟩ := h
    dsimp only at h1 hn hn2 k ⊢
    obtain ⟨a1, vs1, rfl, ha1, hp1⟩ := h1
    walk_at "s"
    intro d H1 nd
    obtain ⟨g1, o1⟩ := nd.own fh
    walk_at "s"
    refine ⟨a1, rfl, ⟨_, SqL.of (g1.hh _ _ (fh _ _ ha1))⟩, ?_⟩
    refine for_kL (r := kL (kL kS)) (xs := ds) g1 ha1 hp1 (fun i σ F H => ∃ (kv : List (List L2.Key × V)) (x1 x2 x3 x4 : Option V), σ = [some (.ref a1), some (.ref d), x1, x2, x3, x4] ∧ Own F H d (.dT kv) ∧ IntsK kv ∧ kv.length + ((ds.drop i).map List.length).sum ≤ 1000000 ∧ ∀ c ∈ ds.take i, ∀ ws ∈ c, HasK kv ws) ⟨[], _, _, _, _, rfl, o1, fun _ h => by simp at h, by simpa using hn, fun _ h => by simp at h⟩ ?_ ?_
    · rintro i c v σ1 F1 H2 N hx hi hv G1 s1 ⟨kv, x1, x2, x3, x4, rfl, o1, hI, hl, hh⟩ kN
      obtain ⟨hi2, ei⟩ := List.getElem?_eq_some_iff.mp hx
      have ed : ds.drop i = c :: ds.drop (i + 1) := by rw [← ei, List.getElem_cons_drop]
      rw [ed, List.map_cons, List.sum_cons] at hl
      obtain ⟨a2, vs2, rfl, ha2, hp2⟩ := hv
      walk_at "s"
      intro e H3 ne
      obtain ⟨g3, o3⟩ := ne.own G1.fh
      have ze : H e = none := G1.hh.free ne.fr
      have nde : d ≠ e := ne_of_none o1.h ne.fr
      have o1 := o1.go g3
      walk_at "s"
      refine ⟨a2, rfl, ⟨_, SqL.of (g3.hh _ _ (G1.fh _ _ ha2))⟩, ?_⟩
      refine for_kL (r := kL kS) (xs := c) (G1.trans g3) ha2 hp2 (fun j σ F H => ∃ (kv se : List (List L2.Key × V)) (x3 x4 : Option V), σ = [some (.ref a1), some (.ref d), some (.ref a2), some (.ref e), x3, x4] ∧ Own F H d (.dT kv) ∧ Own F H e (.dT se) ∧ IntsK kv ∧ se.length ≤ j ∧ kv.length + (c.length - j) + ((ds.drop (i + 1)).map List.length).sum ≤ 1000000 ∧
        (∀ q, (valV se q).isSome = true → (valV kv q).isSome = true) ∧ (∀ c ∈ ds.take i, ∀ ws ∈ c, HasK kv ws) ∧ ∀ ws ∈ c.take j, HasK kv ws) ⟨kv, [], _, _, rfl, o1, o3, hI, Nat.le_refl _, by omega, fun q h => by simp [valV] at h, hh, fun _ h => by simp at h⟩ ?_ ?_
      · rintro j ws v σ2 F4 H4 N4 hx4 hj hv G4 s4 ⟨kv, se, x3, x4, rfl, o1, o3, hI, hsl, hl, hsk, hh, hc⟩ kN4
        obtain ⟨hj2, ej⟩ := List.getElem?_eq_some_iff.mp hx4
        obtain ⟨a5, rfl, ha5⟩ := kLS hv
        have hcl : c.length ≤ 1000000 := by omega
        walk_at "s"
        refine x_tupof (G4.fh _ _ ha5) fun t H5 nt => ?_
        obtain ⟨F5, g5, e5⟩ := nt.fix G4.fh
        have o1 := o1.go g5
        have o3 := o3.go g5
        have G5 := G4.trans g5
        have et : H5 t = some (.tup ((keyS ws).map kV)) := by rw [keyS_kV]; exact g5.at e5
        walk_at "s"
        refine ⟨e, _, rfl, DGet.t o3.h et, ?_⟩
        walk_at "s"
        cases hs : valV se (keyS ws) with
        | none =>
          refine x_t ?_
          walk_at "s"
          have hlp := length_putK se (keyS ws) (.bl true)
          refine ⟨e, _, rfl, DPut.t o3.h et (by rw [sizeLine_eq]; omega), ?_⟩
          have c6 : Chg H5 e (.dT (putK se (keyS ws) (.bl true))) (upd H5 e (.dT (putK se (keyS ws) (.bl true)))) := rfl
          have G6 := c6.gr G5 o3.f ze
          have o1 := c6.ne o1 nde
          have o3 := c6.own o3
          have et6 : (upd H5 e (.dT (putK se (keyS ws) (.bl true)))) t = some (.tup ((keyS ws).map kV)) := by rw [keyS_kV]; exact G6.fh _ _ e5
          walk_at "s"
          refine ⟨d, rfl, Or.inr ⟨_, Or.inl o1.h⟩, ?_⟩
          walk_at "s"
          refine ⟨_, DGet.t o1.h et6, ?_⟩
          obtain ⟨n, en⟩ : ∃ n : Int, (valV kv (keyS ws)).getD (.int 0) = .int n := by
            cases h : valV kv (keyS ws) with
            | none => exact ⟨0, rfl⟩
            | some v =>
              obtain ⟨n, en⟩ := hI _ (valV_mem h)
              exact ⟨n, en⟩
          rw [en]
          walk_at "s"
          have hlp2 := length_putK kv (keyS ws) (.int (n + 1))
          refine ⟨d, _, rfl, DPut.t o1.h et6 (by rw [sizeLine_eq]; omega), ?_⟩
          have c7 : Chg (upd H5 e (.dT (putK se (keyS ws) (.bl true)))) d (.dT (putK kv (keyS ws) (.int (n + 1)))) (upd (upd H5 e (.dT (putK se (keyS ws) (.bl true)))) d (.dT (putK kv (keyS ws) (.int (n + 1))))) := rfl
          walk_at "s"
          refine kN4 _ _ _ (c7.gr G6 o1.f nd.fr) g5.ff ⟨_, _, _, _, rfl, c7.own o1, c7.ne o3 nde.symm, hI.put, by omega, by omega, fun q hq => ?_, fun c hc ws' hw => (hh c hc ws' hw).put, fun ws' hw => ?_⟩
          · rw [valV_put] at hq ⊢
            by_cases e : q = keyS ws
            · rw [if_pos e]; rfl
            · rw [if_neg e] at hq ⊢; exact hsk q hq
          · rw [List.take_succ_eq_append_getElem hj2, ej] at hw
            rcases List.mem_append.mp hw with h | h
            · exact (hc ws' h).put
            · rw [List.mem_singleton.mp h]; exact HasK.new
        | some v =>
          refine x_f ?_
          walk_at "s"
          refine kN4 _ _ _ G5 g5.ff ⟨kv, se, _, _, rfl, o1, o3, hI, by omega, by omega, hsk, hh, fun ws' hw => ?_⟩
          rw [List.take_succ_eq_append_getElem hj2, ej] at hw
          rcases List.mem_append.mp hw with h | h
          · exact hc ws' h
          · rw [List.mem_singleton.mp h]
            exact Option.isSome_iff_exists.mp (hsk _ (by rw [hs]; rfl))
      · rintro σ2 F4 H4 G4 s4 ⟨kv, se, x3, x4, rfl, o1, o3, hI, hsl, hl, hsk, hh, hc⟩
        rw [List.take_length] at hc
        refine kN _ _ _ G4 s4 ⟨kv, _, _, _, _, rfl, o1, hI, by omega, fun c' hc' => ?_⟩
        rw [List.take_succ_eq_append_getElem hi2, ei] at hc'
        rcases List.mem_append.mp hc' with h | h
        · exact hh c' h
        · rw [List.mem_singleton.mp h]; exact hc
    · rintro σ1 F1 H2 G1 s1 ⟨kv, x1, x2, x3, x4, rfl, o1, hI, hl, hh⟩
      rw [List.take_length] at hh
      walk_at "s"
      exact k _ _ _ (G1.fix o1.h nd.fr o1.f) ⟨kv, ⟨d, rfl, upd_same⟩, hI, hh⟩
/-! D_clean2.src -/
theorem x_inS {K : PySem.W.Frag} {neg : Bool} {z : Str} {a : Addr} {xs : List Str} {H : Hp} {Q : VK} (h : H a = some (.lst (xs.map V.str))) (q : Q (.bl (if neg then !inV (.str z) (xs.map V.str) else inV (.str z) (xs.map V.str))) H) : rIn K neg (.str z) (.ref a) H Q :=
  ⟨a, _, rfl, Or.inl (SqL.of h), rfl, by rw [List.all_map]; exact List.all_eq_true.mpr fun _ _ => rfl, q⟩
theorem x_ext {l b : Addr} {xs zs : List V} {H : Hp} {Q : VK} (h1 : H l = some (.lst xs)) (h2 : H b = some (.lst zs)) (z : xs.length + zs.length ≤ sizeLine) (q : ∀ H', Chg H l (.lst (xs ++ zs)) H' → Q .non H') : rExtend (.ref l) [.ref b] H Q := ⟨l, b, xs, zs, rfl, rfl, h1, h2, z, q _ rfl⟩
theorem kX_nil {F : Hp} {v : V} (h : (kL kX).p F v []) : ∃ a, v = .ref a ∧ F a = some (.lst []) := by
  obtain ⟨a, vs, e, ha, hp⟩ := h
  cases hp
  exact ⟨a, e, ha⟩
def sp_first_banned : Sp := SpOf (ι := V × V × List Str) (fun i => [i.1, i.2.1]) (fun i F => (kL kS).p F i.1 i.2.2 ∧ (kL kX).p F i.2.1 []) (fun _ _ v => v = .non)
theorem ok_first_banned {P : Program} {w : World} {K : PySem.W.Frag} {mg : Str → Option Value} {base : Heap} (T : Tx K mg) : Okd P w K mg base 1 ("_first_banned", none) ["line", "banned"] [] (sp_first_banned) := by
  obtain ⟨fd, F⟩ : ∃ fd, FunD K "_first_banned" "_first_banned" (defArgs s_first_banned) (defBody s_first_banned) (defScope s_first_banned) [] [] (He.fAd K ("_first_banned", none)) fd := T.says.d.def_ 23 rfl
  refine ⟨fd, [], F.ok sc_first_banned (fun vs H Q E h => ?_) (fun cdv A outer s H vs Q E hr h => ?_), .nil, F.bindsN (fun _ _ _ _ _ _ us hl => match us, hl with | [_, _], _ => rfl), F.kp⟩
  · obtain ⟨_, _, rfl, _⟩ := h; rfl
  · refine ⟨_, PSs.nox (pss_cons (ps_for PassesOwn.never rfl (pi_listK K (pv 0)) (pg_name (i := 2) sc_first_banned.nd rfl (by first | exact Or.inl rfl | exact Or.inr rfl)) (pss_one (ps_if (pt_cmpR (op_in_seqK K) (pv 2) (pv 1) rfl) (pss_one ps_never) pss_nil)))
    (pss_one (ps_ret pe_non))), ?_⟩
    obtain ⟨⟨v1, v2, ws⟩, F0, rfl, fh, ⟨h1, h2⟩, k⟩ := h
    dsimp only at h1 h2 k ⊢
    obtain ⟨a1, rfl, ha1⟩ := kLS h1
    obtain ⟨a2, rfl, ha2⟩ := kX_nil h2
    walk_at "s"
    refine ⟨a1, rfl, ⟨_, SqL.of (fh _ _ ha1)⟩, ?_⟩
    refine for_kL (r := kS) (xs := ws) (Gr.refl fh) ha1 (kS_all ws) (fun i σ F H => ∃ x, σ = [some (.ref a1), some (.ref a2), x]) ⟨_, rfl⟩ ?_ ?_
    · rintro i z v σ1 F1 H1 N hx hi hv G1 s1 ⟨x, rfl⟩ kN
      obtain rfl : v = .str z := hv
      walk_at "s"
      refine x_inS (xs := []) (G1.hh _ _ (fh _ _ ha2)) ?_
      refine ⟨_, rfl, x_f ?_⟩
      walk_at "s"
      exact kN _ _ _ G1 (Same.refl _) ⟨_, rfl⟩
    · rintro σ1 F1 H1 G1 s1 ⟨x, rfl⟩
      walk_at "s"
      exact k _ _ _ G1 rfl
def kKept : Str := "kept"
def sp_line_fate (K : PySem.W.Frag) : Sp := SpOf (ι := V × V × V × List Str × RU × List (List L2.Key × V)) (fun i => [i.1, i.2.1, i.2.2.1]) (fun ⟨v1, v2, v3, ws, ru, kv⟩ F => (kL kS).p F v1 ws ∧ (kRu K).p F v2 ru ∧ kDt.p F v3 kv ∧ IntsK kv ∧ HasK kv ws) (fun _ F v => (k1 kS).p F v kKept)
theorem ok_line_fate {P : Program} {w : World} {K : PySem.W.Frag} {mg : Str → Option Value} {base : Heap} (T : Tx K mg) : Okd P w K mg base 2 ("_line_fate", none) ["line", "rules", "counts"] [] (sp_line_fate K) := by
  have O_first_banned := ok_first_banned (P := P) (w := w) (base := base) T
  obtain ⟨fd, F⟩ : ∃ fd, FunD K "_line_fate" "_line_fate" (defArgs s_line_fate) (defBody s_line_fate) (defScope s_line_fate) [] [] (He.fAd K ("_line_fate", none)) fd := T.says.d.def_ 24 rfl
  refine ⟨fd, [], F.ok sc_line_fate (fun vs H Q E h => ?_) (fun cdv A outer s H vs Q E hr h => ?_), .nil, F.bindsN (fun _ _ _ _ _ _ us hl => match us, hl with | [_, _, _], _ => rfl), F.kp⟩
  · obtain ⟨_, _, rfl, _⟩ := h; rfl
  · have hu := hu_of hr; refine ⟨_, PSs.nox (pss_cons (ps_if (pt_cmpR op_lt (pe_callB (call_lenK K) (by rfl) T.f_len (by decide +kernel) (pa_cons (pv 0) pa_nil)) (pe_fldK K (pv 1)) (nomark _)) (pss_one (ps_ret (pe_tup (pa_cons pe_str pa_nil)))) pss_nil)
    (pss_cons (ps_set (i := 3) sc_line_fate.nd rfl (by first | exact Or.inl rfl | exact Or.inr rfl) (pe_ok O_first_banned T.n_first_banned hr (by decide) (by rfl) (pa_cons (pv 0) (pa_cons (pe_fldK K (pv 1)) pa_nil))))
    (pss_cons (ps_if (pt_cmpR op_notN (pv 3) pe_non (nomark _)) (pss_one ps_never) pss_nil)
    (pss_cons (ps_set (i := 4) sc_line_fate.nd rfl (by first | exact Or.inl rfl | exact Or.inr rfl) (pe_dget hu (pv 2) (pe_callTy (call_tupofK K) (by rfl) T.f_tuple (by decide +kernel) (pa_cons (pv 0) pa_nil)) (fun _ _ => rfl)))
    (pss_cons (ps_if (PW.pt (pw_and (pt_cmpR op_gt (pe_fldK K (pv 1)) pe_int (nomark _)) (pw_and1 (pt_cmpR op_ge (pv 4) (pe_fldK K (pv 1)) (nomark _))))) (pss_one ps_never) pss_nil)
    (pss_one (ps_ret (pe_tup (pa_cons pe_str pa_nil))))))))), ?_⟩
    obtain ⟨⟨v1, v2, v3, ws, ru, kv⟩, F0, rfl, fh, ⟨h1, h2, h3, hI, hk⟩, k⟩ := h
    dsimp only at h1 h2 h3 hI hk k ⊢
    obtain ⟨a1, rfl, ha1⟩ := kLS h1
    obtain ⟨a2, dx, fs, rfl, ha2, hf⟩ := h2
    obtain ⟨d, rfl, hd⟩ := h3
    obtain ⟨xb, lb, kb⟩ := hf.banned
    walk_at "s"
    refine x_lenK (fh _ _ ha1) ?_
    walk_at "s"
    refine ⟨_, _, _, _, _, rfl, fh _ _ ha2, T.c_Rules, T.a_Rules_line_words, hf.line_words, ?_⟩
    walk_at "s"
    refine x_d (fun hc => absurd hc (by omega)) (fun _ => ?_)
    walk_at "s"
    refine ⟨_, _, _, _, _, rfl, fh _ _ ha2, T.c_Rules, T.a_Rules_banned, lb, ?_⟩
    walk_at "s"
    refine ⟨(.ref a1, xb, ws), F0, rfl, fh, ⟨h1, kb⟩, fun v F1 H1 g1 hv => ?_⟩
    obtain rfl : v = .non := hv
    walk_at "s"
    refine x_nd (fun _ => ?_) (fun hc => absurd rfl hc)
    walk_at "s"
    refine x_tupof (g1.hh _ _ (fh _ _ ha1)) fun t H2 nt => ?_
    obtain ⟨F2, g2, e2⟩ := nt.fix g1.fh
    have G2 := g1.trans g2
    obtain ⟨w, hw⟩ := hk
    obtain ⟨n, en⟩ := hI _ (valV_mem hw)
    dsimp only at en
    subst en
    refine ⟨d, _, rfl, hw ▸ DGet.t (G2.hh _ _ (fh _ _ hd)) (by rw [keyS_kV]; exact g2.at e2), ?_⟩
    walk_at "s"
    refine ⟨_, _, _, _, _, rfl, G2.hh _ _ (fh _ _ ha2), T.c_Rules, T.a_Rules_line_documents, hf.line_documents, ?_⟩
    walk_at "s"
    refine x_d (fun hc => absurd hc (by omega)) (fun _ => ?_)
    walk_at "s"
    refine ⟨x_lt (by decide), fun p H3 np => ?_⟩
    obtain ⟨F3, g3, e3⟩ := np.fix g2.fh
    exact k _ _ _ (G2.trans g3) ⟨p, _, rfl, e3, rfl⟩
def sp_line_fates (K : PySem.W.Frag) : Sp := SpOf (ι := V × V × V × List (List Str) × RU × List (List L2.Key × V)) (fun i => [i.1, i.2.1, i.2.2.1]) (fun ⟨v1, v2, v3, ds, ru, kv⟩ F => (kL (kL kS)).p F v1 ds ∧ (kRu K).p F v2 ru ∧ kDt.p F v3 kv ∧ IntsK kv ∧ (∀ ws ∈ ds, HasK kv ws) ∧ ds.length ≤ 1000000) (fun ⟨_, _, _, ds, _, _⟩ F v => (kL (k1 kS)).p F v (ds.map fun _ => kKept))
theorem ok_line_fates {P : Program} {w : World} {K : PySem.W.Frag} {mg : Str → Option Value} {base : Heap} (T : Tx K mg) : Okd P w K mg base 3 ("line_fates", none) ["lines", "rules", "counts"] [] (sp_line_fates K) := by
  have O_line_fate := ok_line_fate (P := P) (w := w) (base := base) T
  obtain ⟨fd, F⟩ : ∃ fd, FunD K "line_fates" "line_fates" (defArgs s_line_fates) (defBody s_line_fates) (defScope s_line_fates) [] [] (He.fAd K ("line_fates", none)) fd := T.says.d.def_ 25 rfl
  refine ⟨fd, [], F.ok sc_line_fates (fun vs H Q E h => ?_) (fun cdv A outer s H vs Q E hr h => ?_), .nil, F.bindsN (fun _ _ _ _ _ _ us hl => match us, hl with | [_, _, _], _ => rfl), F.kp⟩
  · obtain ⟨_, _, rfl, _⟩ := h; rfl
  · refine ⟨_, PSs.nox (pss_one (ps_ret (pe_lc (own := [("line", 3)]) (g := (gName 3)) (tt := tYes) rfl sc_line_fates.nd (pi_listK K (pv 0)) (blkOk_by (own := [("line", 3)]) (N := N_line_fates) (sc := defScope s_line_fates) (by decide +kernel)) (fun _ _ _ _ _ => (pg_name (i := 3) sc_line_fates.nd rfl (by first | exact Or.inl rfl | exact Or.inr rfl))) (fun _ _ _ _ _ => pts_nil) (fun _ _ _ _ _ => (pe_ok O_line_fate T.n_line_fate hr (by decide) (by rfl) (pa_cons (pv 3) (pa_cons (pv 1) (pa_cons (pv 2) pa_nil)))))))), ?_⟩
    obtain ⟨⟨v1, v2, v3, ds, ru, kv⟩, F0, rfl, fh, ⟨h1, h2, h3, hI, hk, hn⟩, k⟩ := h
    dsimp only at h1 h2 h3 hI hk hn k ⊢
    obtain ⟨a1, vs1, rfl, ha1, hp1⟩ := h1
    walk_at "s"
    refine ⟨a1, rfl, ⟨_, SqL.of (fh _ _ ha1)⟩, lc_kL (r := kL kS) (s := k1 kS) fh ha1 hp1 (by rw [sizeLine_eq]; omega) (fun _ y => y = kKept) ?_ ?_⟩
    · intro j ws v F3 H3 N3 hw hv g3 kN3
      walk_at "s"
      refine ⟨rfl, ?_⟩
      walk_at "s"
      exact ⟨(v, v2, v3, ws, ru, kv), F3, rfl, g3.fh, ⟨hv, (kRu K).mono g3.ff h2, kDt.mono g3.ff h3, hI, hk _ (List.mem_of_getElem? hw)⟩, fun v F4 H4 g4 hv => kN3 _ _ _ _ g4 hv rfl⟩
    intro p F3 H3 ys np g3 hk pp
    have e := paired_fun (f := fun _ => kKept) pp
    subst e
    exact k _ _ _ g3 hk
/-! D_clean3.src -/
abbrev kRe : R (Option Str) := kO (k1 kS)
def sp_left_words : Sp := SpOf (ι := V × V × List (List (Str × Int × Int))) (fun i => [i.1, i.2.1]) (fun ⟨v1, v2, lns⟩ F => (kL (kL kP)).p F v1 lns ∧ (kL (k1 kS)).p F v2 (lns.map fun _ => kKept) ∧ (lns.map List.length).sum ≤ 1000000 ∧ lns.length ≤ 1000000) (fun ⟨_, _, lns⟩ F v => (kL kP).p F v lns.flatten)
theorem ok_left_words {P : Program} {w : World} {K : PySem.W.Frag} {mg : Str → Option Value} {base : Heap} (T : Tx K mg) : Okd P w K mg base 1 ("left_words", none) ["lines", "fates"] [] (sp_left_words) := by
  obtain ⟨fd, F⟩ : ∃ fd, FunD K "left_words" "left_words" (defArgs s_left_words) (defBody s_left_words) (defScope s_left_words) [] [] (He.fAd K ("left_words", none)) fd := T.says.d.def_ 26 rfl
  refine ⟨fd, [], F.ok sc_left_words (fun vs H Q E h => ?_) (fun cdv A outer s H vs Q E hr h => ?_), .nil, F.bindsN (fun _ _ _ _ _ _ us hl => match us, hl with | [_, _], _ => rfl), F.kp⟩
  · obtain ⟨_, _, rfl, _⟩ := h; rfl
  · refine ⟨_, PSs.nox (pss_cons (ps_set (i := 2) sc_left_words.nd rfl (by first | exact Or.inl rfl | exact Or.inr rfl) (pe_lst pa_nil))
    (pss_cons (ps_for PassesOwn.never rfl (pi_range1 rfl T.f_range (pa_cons (pe_callB (call_lenK K) (by rfl) T.f_len (by decide +kernel) (pa_cons (pv 0) pa_nil)) pa_nil)) (pg_name (i := 3) sc_left_words.nd rfl (by first | exact Or.inl rfl | exact Or.inr rfl)) (pss_one (ps_if (pt_cmpR op_eq (pe_ix (ix_tupK K) (pe_ix (ix_listK K) (pv 1) (pv 3) (fun _ _ => rfl)) pe_int (fun _ _ => rfl)) pe_str (nomark _)) (pss_one (ps_expr (pe_bmK K PySem.F.plainAttrs_list PySem.F.slot_list_extend PySem.F.type_list_extend mt_extend (pv 2) (pa_cons (pe_ix (ix_listK K) (pv 0) (pv 3) (fun _ _ => rfl)) pa_nil)))) pss_nil)))
    (pss_one (ps_ret (pv 2))))), ?_⟩
    obtain ⟨⟨v1, v2, lns⟩, F0, rfl, fh, ⟨h1, h2, hn, hn2⟩, k⟩ := h
    dsimp only at h1 h2 hn hn2 k ⊢
    obtain ⟨a1, vs1, rfl, ha1, hp1⟩ := h1
    obtain ⟨a2, vs2, rfl, ha2, hp2⟩ := h2
    walk_at "s"
    refine ⟨x_lt (by decide), fun r H1 nr => ?_⟩
    obtain ⟨g1, o1⟩ := nr.own fh
    have hl1 := hp1.length
    walk_at "s"
    refine x_lenK (g1.hh _ _ (fh _ _ ha1)) ?_
    walk_at "s"
    refine ⟨by omega, by omega, ?_⟩
    rw [Int.toNat_natCast, hl1]
    refine for_rg0 g1 (fun i σ F H => ∃ (vs : List V) (ws : List (Str × Int × Int)) (x : Option V), σ = [some (.ref a1), some (.ref a2), some (.ref r), x] ∧ Own F H r (.lst vs) ∧ Paired (kP.p F) vs ws ∧ ws = (lns.take i).flatten) ⟨[], [], _, rfl, o1, .nil, by simp⟩ ?_ ?_
    · rintro i σ1 F1 H2 N hi G1 s1 ⟨vs, ws, x, rfl, o1, hp, hw⟩ kN
      obtain ⟨w1, hw1, t1, y1, rfl, ht1, hy1⟩ := at_p (k := i) (x := kKept) hp2 (by rw [List.getElem?_map, List.getElem?_eq_getElem hi]; rfl)
      obtain rfl : y1 = .str kKept := hy1
      obtain ⟨w2, hw2, t2, vs3, rfl, ht2, hp3⟩ := at_p (k := i) hp1 (List.getElem?_eq_getElem hi)
      have el : lns.take (i + 1) = lns.take i ++ [lns[i]] := List.take_succ_eq_append_getElem hi
      have hlen : ws.length + lns[i].length ≤ 1000000 := by
        have e1 : ((lns.take (i + 1)).map List.length).sum ≤ (lns.map List.length).sum := by
          conv => rhs; rw [← List.take_append_drop (i + 1) lns, List.map_append, List.sum_append]
          omega
        rw [el, List.map_append, List.sum_append] at e1
        rw [hw, List.length_flatten]
        simp only [List.map_cons, List.map_nil, List.sum_cons, List.sum_nil] at e1
        omega
      have l3 := hp3.length
      have l4 := hp.length
      walk_at "s"
      refine x_ixL (G1.hh _ _ (fh _ _ ha2)) hw1 ?_
      walk_at "s"
      refine x_ixT (G1.hh _ _ (fh _ _ ht1)) rfl ?_
      walk_at "s"
      refine x_d (fun _ => ?_) (fun hc => absurd rfl hc)
      walk_at "s"
      refine ⟨x_tyL o1.h, ?_⟩
      walk_at "s"
      refine x_ixL (G1.hh _ _ (fh _ _ ha1)) hw2 ?_
      walk_at "s"
      refine x_ext o1.h (G1.hh _ _ (fh _ _ ht2)) (by rw [sizeLine_eq]; omega) fun H3 c3 => ?_
      walk_at "s"
      refine kN _ _ _ (c3.gr G1 o1.f nr.fr) (Same.refl _) ⟨_, _, _, rfl, c3.own o1, paired_app hp (L2.Paired.mapP hp3 fun _ _ h => kP.mono (g1.ff.trans s1) h), ?_⟩
      rw [hw, el, List.flatten_append]
      simp
    · rintro σ1 F1 H2 G1 s1 ⟨vs, ws, x, rfl, o1, hp, hw⟩
      rw [List.take_length] at hw
      subst hw
      walk_at "s"
      exact k _ _ _ (G1.fix o1.h nr.fr o1.f) ⟨r, vs, rfl, upd_same, L2.Paired.mapP hp fun _ _ h => kP.mono (same_new o1.f) h⟩
def sp_drop_reason (K : PySem.W.Frag) : Sp := SpOf (ι := V × V × List Str × RU) (fun i => [i.1, i.2.1]) (fun ⟨v1, v2, ws, ru⟩ F => (kL kS).p F v1 ws ∧ (kRu K).p F v2 ru) (fun _ F v => ∃ o, kRe.p F v o)
theorem ok_drop_reason {P : Program} {w : World} {K : PySem.W.Frag} {mg : Str → Option Value} {base : Heap} (T : Tx K mg) : Okd P w K mg base 1 ("drop_reason", none) ["words", "rules"] [] (sp_drop_reason K) := by
  obtain ⟨fd, F⟩ : ∃ fd, FunD K "drop_reason" "drop_reason" (defArgs s_drop_reason) (defBody s_drop_reason) (defScope s_drop_reason) [] [] (He.fAd K ("drop_reason", none)) fd := T.says.d.def_ 27 rfl
  refine ⟨fd, [], F.ok sc_drop_reason (fun vs H Q E h => ?_) (fun cdv A outer s H vs Q E hr h => ?_), .nil, F.bindsN (fun _ _ _ _ _ _ us hl => match us, hl with | [_, _], _ => rfl), F.kp⟩
  · obtain ⟨_, _, rfl, _⟩ := h; rfl
  · refine ⟨_, PSs.nox (pss_cons (ps_if (pt_cmpR op_lt (pe_callB (call_lenK K) (by rfl) T.f_len (by decide +kernel) (pa_cons (pv 0) pa_nil)) (pe_fldK K (pv 1)) (nomark _)) (pss_one (ps_ret (pe_tup (pa_cons pe_str pa_nil)))) pss_nil)
    (pss_cons (ps_for PassesOwn.never rfl (pi_range1 rfl T.f_range (pa_cons (pe_callB (call_lenK K) (by rfl) T.f_len (by decide +kernel) (pa_cons (pe_fldK K (pv 1)) pa_nil)) pa_nil)) (pg_name (i := 2) sc_drop_reason.nd rfl (by first | exact Or.inl rfl | exact Or.inr rfl)) (pss_cons ps_never
    (pss_cons ps_never
    (pss_one ps_never))))
    (pss_one (ps_ret pe_non)))), ?_⟩
    obtain ⟨⟨v1, v2, ws, ru⟩, F0, rfl, fh, ⟨h1, h2⟩, k⟩ := h
    dsimp only at h1 h2 k ⊢
    obtain ⟨a1, rfl, ha1⟩ := kLS h1
    obtain ⟨a2, dx, fs, rfl, ha2, hf⟩ := h2
    obtain ⟨xs, ls, ks⟩ := hf.shares
    obtain ⟨as, rfl, has⟩ := kX_nil ks
    walk_at "s"
    refine x_lenK (fh _ _ ha1) ?_
    walk_at "s"
    refine ⟨_, _, _, _, _, rfl, fh _ _ ha2, T.c_Rules, T.a_Rules_document_words, hf.document_words, ?_⟩
    walk_at "s"
    refine x_d (fun _ => ?_) (fun _ => ?_)
    · walk_at "s"
      refine ⟨x_lt (by decide), fun p H3 np => ?_⟩
      obtain ⟨F3, g3, e3⟩ := np.fix fh
      exact k _ _ _ g3 ⟨some "short", Or.inr ⟨_, rfl, p, _, rfl, e3, rfl⟩⟩
    · walk_at "s"
      refine ⟨_, _, _, _, _, rfl, fh _ _ ha2, T.c_Rules, T.a_Rules_shares, ls, ?_⟩
      walk_at "s"
      refine x_lenK (fh _ _ has) ?_
      walk_at "s"
      refine ⟨by decide, by decide, ?_⟩
      refine for_rg0 (n := 0) (Gr.refl fh) (fun i σ F H => True) trivial (fun i σ1 F1 H1 N hi => absurd hi (Nat.not_lt_zero _)) ?_
      intro σ1 F1 H1 G1 s1 _
      walk_at "s"
      exact k _ _ _ G1 ⟨none, Or.inl ⟨rfl, rfl⟩⟩
def sp_plain_lines : Sp := SpOf (ι := V × List (List (Str × Int × Int))) (fun i => [i.1]) (fun ⟨v1, lns⟩ F => (kL (kL kP)).p F v1 lns ∧ (lns.map List.length).sum ≤ 1000000 ∧ lns.length ≤ 1000000) (fun ⟨_, lns⟩ F v => (kL (kL kS)).p F v (lns.map fun l => l.map (·.1)))
theorem ok_plain_lines {P : Program} {w : World} {K : PySem.W.Frag} {mg : Str → Option Value} {base : Heap} (T : Tx K mg) : Okd P w K mg base 1 ("_plain_lines", none) ["lines"] [] (sp_plain_lines) := by
  obtain ⟨fd, F⟩ : ∃ fd, FunD K "_plain_lines" "_plain_lines" (defArgs s_plain_lines) (defBody s_plain_lines) (defScope s_plain_lines) [] [] (He.fAd K ("_plain_lines", none)) fd := T.says.d.def_ 28 rfl
  refine ⟨fd, [], F.ok sc_plain_lines (fun vs H Q E h => ?_) (fun cdv A outer s H vs Q E hr h => ?_), .nil, F.bindsN (fun _ _ _ _ _ _ us hl => match us, hl with | [_], _ => rfl), F.kp⟩
  · obtain ⟨_, _, rfl, _⟩ := h; rfl
  · refine ⟨_, PSs.nox (pss_one (ps_ret (pe_lc (own := [("line", 1)]) (g := (gName 1)) (tt := tYes) rfl sc_plain_lines.nd (pi_listK K (pv 0)) (blkOk_by (own := [("line", 1)]) (N := N_plain_lines) (sc := defScope s_plain_lines) (by decide +kernel)) (fun _ _ _ _ _ => (pg_name (i := 1) sc_plain_lines.nd rfl (by first | exact Or.inl rfl | exact Or.inr rfl))) (fun _ _ _ _ _ => pts_nil) (fun _ _ _ _ _ => (pe_lc (own := [("word", 2), ("first", 3), ("last", 4)]) (g := (gTup K 3 (gCons (gName 2) (gCons (gName 3) (gCons (gName 4) gNil))))) (tt := tYes) rfl sc_plain_lines.nd (pi_listK K (pv 1)) (blkOk_by (own := [("word", 2), ("first", 3), ("last", 4)]) (N := N_plain_lines) (sc := ({ kind := .function, names := [(".0", .local), ("line", .local)], isGenerator := false, isCoroutine := false } : PySem.Scope)) (by decide +kernel)) (fun _ _ _ _ _ => (pg_tupK K rfl (pgs_cons (pg_name (i := 2) sc_plain_lines.nd rfl (by first | exact Or.inl rfl | exact Or.inr rfl)) (pgs_cons (pg_name (i := 3) sc_plain_lines.nd rfl (by first | exact Or.inl rfl | exact Or.inr rfl)) (pgs_cons (pg_name (i := 4) sc_plain_lines.nd rfl (by first | exact Or.inl rfl | exact Or.inr rfl)) pgs_nil))))) (fun _ _ _ _ _ => pts_nil) (fun _ _ _ _ _ => (pv 2))))))), ?_⟩
    obtain ⟨⟨v1, lns⟩, F0, rfl, fh, ⟨h1, hn, hn2⟩, k⟩ := h
    dsimp only at h1 hn hn2 k ⊢
    obtain ⟨a1, vs1, rfl, ha1, hp1⟩ := h1
    walk_at "s"
    refine ⟨a1, rfl, ⟨_, SqL.of (fh _ _ ha1)⟩, lc_kL (r := kL kP) (s := kL kS) fh ha1 hp1 (by rw [sizeLine_eq]; omega) (fun x y => y = x.map (·.1)) ?_ ?_⟩
    · intro j ln v F3 H3 N3 hx hv g3 kN3
      have hl : ln.length ≤ 1000000 := Nat.le_trans (sum_mem (f := List.length) (List.mem_of_getElem? hx)) hn
      obtain ⟨a4, vs4, rfl, ha4, hp4⟩ := hv
      walk_at "s"
      refine ⟨rfl, ?_⟩
      walk_at "s"
      refine ⟨a4, rfl, ⟨_, SqL.of (g3.at ha4)⟩, lc_kL (r := kP) (s := kS) g3.fh ha4 hp4 (by rw [sizeLine_eq]; omega) (fun x y => y = x.1) ?_ ?_⟩
      · intro i w v F5 H5 N5 hx5 hv g5 kN5
        obtain ⟨b, rfl, hb⟩ := k3W hv
        walk_at "s"
        refine x_gT (g5.at hb) rfl ?_
        walk_at "s"
        refine ⟨rfl, ?_⟩
        walk_at "s"
        exact kN5 _ _ _ _ (Gr.refl g5.fh) rfl rfl
      intro p F5 H5 ys np g5 hk pp
      have e := paired_fun (f := fun x : Str × Int × Int => x.1) pp
      subst e
      exact kN3 _ _ _ _ g5 hk rfl
    intro p F3 H3 ys np g3 hk pp
    have e := paired_fun (f := fun x : List (Str × Int × Int) => x.map (·.1)) pp
    subst e
    exact k _ _ _ g3 hk
/-! D_clean4.src -/
abbrev kRow : R (Option Str × List Str × List (Str × Int × Int)) := k3 kRe (kL (k1 kS)) (kL kP)
def RowOk (r : Option Str × List Str × List (Str × Int × Int)) : Prop := r.2.2.length ≤ 400 ∧ ∀ w ∈ r.2.2, w.1.length ≤ 400
theorem flat_le {lns : List (List (Str × Int × Int))} {n : Nat} (h : LinesOk n lns) : lns.flatten.length ≤ n ∧ ∀ w ∈ lns.flatten, w.1.length ≤ n := by
  refine ⟨by rw [List.length_flatten]; exact h.1, fun w hw => ?_⟩
  obtain ⟨l, hl, hw⟩ := List.mem_flatten.mp hw
  exact h.2.2 l hl w hw
theorem linesOk_mono {lns : List (List (Str × Int × Int))} {n m : Nat} (h : LinesOk n lns) (l : n ≤ m) : LinesOk m lns :=
  ⟨Nat.le_trans h.1 l, Nat.le_trans h.2.1 (by omega), fun a b c d => Nat.le_trans (h.2.2 a b c d) l⟩
theorem paired_mem {α β : Type} {Q : α → β → Prop} : ∀ {xs : List α} {ys : List β}, Paired Q xs ys → ∀ y ∈ ys, ∃ x ∈ xs, Q x y
  | _, _, .nil, y, h => by simp at h
  | _, _, .cons r t, y, h => by
    rcases List.mem_cons.mp h with e | e
    · rw [e]; exact ⟨_, List.mem_cons_self, r⟩
    · obtain ⟨x, hx, hq⟩ := paired_mem t y e
      exact ⟨x, List.mem_cons_of_mem _ hx, hq⟩
def sp_clean_documents (K : PySem.W.Frag) : Sp := SpOf (ι := V × V × List Str × RU) (fun i => [i.1, i.2.1]) (fun ⟨v1, v2, ts, ru⟩ F => (kL kS).p F v1 ts ∧ (kRu K).p F v2 ru ∧ ts.length ≤ 100 ∧ ∀ t ∈ ts, t.length ≤ 400)
  (fun ⟨_, _, ts, _⟩ F v => ∃ rows, (kL kRow).p F v rows ∧ rows.length = ts.length ∧ ∀ r ∈ rows, RowOk r)
theorem ok_clean_documents {P : Program} {w : World} {K : PySem.W.Frag} {mg : Str → Option Value} {base : Heap} (T : Tx K mg) : Okd P w K mg base 5 ("clean_documents", none) ["texts", "rules"] [] (sp_clean_documents K) := by
  have O_text_lines := ok_text_lines (P := P) (w := w) (base := base) T
  have O_plain_lines := ok_plain_lines (P := P) (w := w) (base := base) T
  have O_count_lines := ok_count_lines (P := P) (w := w) (base := base) T
  have O_line_fates := ok_line_fates (P := P) (w := w) (base := base) T
  have O_left_words := ok_left_words (P := P) (w := w) (base := base) T
  have O_drop_reason := ok_drop_reason (P := P) (w := w) (base := base) T
  obtain ⟨fd, F⟩ : ∃ fd, FunD K "clean_documents" "clean_documents" (defArgs s_clean_documents) (defBody s_clean_documents) (defScope s_clean_documents) [] [] (He.fAd K ("clean_documents", none)) fd := T.says.d.def_ 29 rfl
  refine ⟨fd, [], F.ok sc_clean_documents (fun vs H Q E h => ?_) (fun cdv A outer s H vs Q E hr h => ?_), .nil, F.bindsN (fun _ _ _ _ _ _ us hl => match us, hl with | [_, _], _ => rfl), F.kp⟩
  · obtain ⟨_, _, rfl, _⟩ := h; rfl
  · refine ⟨_, PSs.nox (pss_cons (ps_setLc (i := 2) (own := [("text", 9)]) (g := (gName 9)) (tt := tYes) rfl sc_clean_documents.nd rfl rfl (sw_true rfl rfl rfl (by decide +kernel)) (pi_listK K (pv 0)) (blkOk_by (own := [("text", 9)]) (N := N_clean_documents) (sc := defScope s_clean_documents) (by decide +kernel)) (fun _ _ _ _ _ => (pg_name (i := 9) sc_clean_documents.nd rfl (by first | exact Or.inl rfl | exact Or.inr rfl))) (fun _ _ _ _ _ => pts_nil) (fun _ _ _ _ _ => (pe_ok O_text_lines T.n_text_lines hr (by decide) (by rfl) (pa_cons (pv 9) (pa_cons (pv 1) pa_nil)))))
    (pss_cons (ps_setLc (i := 3) (own := [("lines", 10)]) (g := (gName 10)) (tt := tYes) rfl sc_clean_documents.nd rfl rfl (sw_true rfl rfl rfl (by decide +kernel)) (pi_listK K (pv 2)) (blkOk_by (own := [("lines", 10)]) (N := N_clean_documents) (sc := defScope s_clean_documents) (by decide +kernel)) (fun _ _ _ _ _ => (pg_name (i := 10) sc_clean_documents.nd rfl (by first | exact Or.inl rfl | exact Or.inr rfl))) (fun _ _ _ _ _ => pts_nil) (fun _ _ _ _ _ => (pe_ok O_plain_lines T.n_plain_lines hr (by decide) (by rfl) (pa_cons (pv 10) pa_nil))))
    (pss_cons (ps_set (i := 4) sc_clean_documents.nd rfl (by first | exact Or.inl rfl | exact Or.inr rfl) (pe_ok O_count_lines T.n_count_lines hr (by decide) (by rfl) (pa_cons (pv 3) pa_nil)))
    (pss_cons (ps_set (i := 5) sc_clean_documents.nd rfl (by first | exact Or.inl rfl | exact Or.inr rfl) (pe_lst pa_nil))
    (pss_cons (ps_for PassesOwn.never rfl (pi_range1 rfl T.f_range (pa_cons (pe_callB (call_lenK K) (by rfl) T.f_len (by decide +kernel) (pa_cons (pv 0) pa_nil)) pa_nil)) (pg_name (i := 6) sc_clean_documents.nd rfl (by first | exact Or.inl rfl | exact Or.inr rfl)) (pss_cons (ps_set (i := 7) sc_clean_documents.nd rfl (by first | exact Or.inl rfl | exact Or.inr rfl) (pe_ok O_line_fates T.n_line_fates hr (by decide) (by rfl) (pa_cons (pe_ix (ix_listK K) (pv 3) (pv 6) (fun _ _ => rfl)) (pa_cons (pv 1) (pa_cons (pv 4) pa_nil)))))
    (pss_cons (ps_set (i := 8) sc_clean_documents.nd rfl (by first | exact Or.inl rfl | exact Or.inr rfl) (pe_ok O_left_words T.n_left_words hr (by decide) (by rfl) (pa_cons (pe_ix (ix_listK K) (pv 2) (pv 6) (fun _ _ => rfl)) (pa_cons (pv 7) pa_nil))))
    (pss_one (ps_expr (pe_bmK K PySem.F.plainAttrs_list PySem.F.slot_list_append PySem.F.type_list_append mt_append (pv 5) (pa_cons (pe_tup (pa_cons (pe_ok O_drop_reason T.n_drop_reason hr (by decide) (by rfl) (pa_cons (pe_lc (own := [("word", 11), ("first", 12), ("last", 13)]) (g := (gTup K 3 (gCons (gName 11) (gCons (gName 12) (gCons (gName 13) gNil))))) (tt := tYes) rfl sc_clean_documents.nd (pi_listK K (pv 8)) (blkOk_by (own := [("word", 11), ("first", 12), ("last", 13)]) (N := N_clean_documents) (sc := defScope s_clean_documents) (by decide +kernel)) (fun _ _ _ _ _ => (pg_tupK K rfl (pgs_cons (pg_name (i := 11) sc_clean_documents.nd rfl (by first | exact Or.inl rfl | exact Or.inr rfl)) (pgs_cons (pg_name (i := 12) sc_clean_documents.nd rfl (by first | exact Or.inl rfl | exact Or.inr rfl)) (pgs_cons (pg_name (i := 13) sc_clean_documents.nd rfl (by first | exact Or.inl rfl | exact Or.inr rfl)) pgs_nil))))) (fun _ _ _ _ _ => pts_nil) (fun _ _ _ _ _ => (pv 11))) (pa_cons (pv 1) pa_nil))) (pa_cons (pv 7) (pa_cons (pv 8) pa_nil)))) pa_nil)))))))
    (pss_one (ps_ret (pv 5)))))))), ?_⟩
    obtain ⟨⟨v1, v2, ts, ru⟩, F0, rfl, fh, ⟨h1, h2, hn, hz⟩, k⟩ := h
    dsimp only at h1 h2 hn hz k ⊢
    obtain ⟨a1, rfl, ha1⟩ := kLS h1
    walk_at "s"
    refine ⟨a1, rfl, ⟨_, SqL.of (fh _ _ ha1)⟩, lc_kL (r := kS) (s := kL (kL kP)) fh ha1 (kS_all ts) (by rw [sizeLine_eq]; omega) (fun _ y => LinesOk 400 y) ?_ ?_⟩
    · intro j t v F3 H3 N3 hx hv g3 kN3
      obtain rfl : v = .str t := hv
      have ht := hz t (List.mem_of_getElem? hx)
      walk_at "s"
      refine ⟨rfl, ?_⟩
      walk_at "s"
      refine ⟨(t, v2, ru), F3, rfl, g3.fh, ⟨(kRu K).mono g3.ff h2, by dsimp only; omega⟩, fun v F4 H4 g4 hv => ?_⟩
      obtain ⟨lns, hk, ho⟩ := hv
      exact kN3 _ _ _ lns g4 hk (linesOk_mono ho ht)
    intro p1 F1 H1 lls np1 g1 hk1 pp1
    have hok := paired_mem pp1
    have hll : lls.length = ts.length := pp1.length.symm
    obtain ⟨_, vs1, er, hp1, hq1⟩ := hk1
    cases er
    walk_at "s"
    refine ⟨p1, rfl, ⟨_, SqL.of (g1.at hp1)⟩, lc_kL (r := kL (kL kP)) (s := kL (kL kS)) g1.fh hp1 hq1 (by rw [sizeLine_eq]; omega) (fun x y => y = x.map fun l => l.map (·.1)) ?_ ?_⟩
    · intro j lns v F3 H3 N3 hx hv g3 kN3
      obtain ⟨_, _, ho⟩ := hok lns (List.mem_of_getElem? hx)
      walk_at "s"
      refine ⟨rfl, ?_⟩
      walk_at "s"
      exact ⟨(v, lns), F3, rfl, g3.fh, ⟨hv, Nat.le_trans ho.1 (by omega), Nat.le_trans ho.2.1 (by omega)⟩, fun v F4 H4 g4 hv => kN3 _ _ _ _ g4 hv rfl⟩
    intro p2 F2 H2 ys np2 g2 hk2 pp2
    have ey := paired_fun (f := fun x : List (List (Str × Int × Int)) => x.map fun l => l.map (·.1)) pp2
    subst ey
    have G2 := g1.trans g2
    have hs : ((lls.map fun x => x.map fun l => l.map (·.1)).map List.length).sum ≤ 1000000 := by
      have q : ∀ (l : List (List (List (Str × Int × Int)))), (∀ y ∈ l, y.length ≤ 401) → ((l.map fun x => x.map fun l => l.map (·.1)).map List.length).sum ≤ 401 * l.length := by
        intro l
        induction l with
        | nil => intro _; simp
        | cons a r ih =>
          intro h
          have h1 := h a List.mem_cons_self
          have h2 := ih fun y hy => h y (List.mem_cons_of_mem _ hy)
          rw [List.map_cons, List.map_cons, List.sum_cons, List.length_map, List.length_cons]
          omega
      have := q lls fun y hy => (hok y hy).elim fun _ h => h.2.2.1
      omega
    walk_at "s"
    refine ⟨(.ref p2, _), F2, rfl, g2.fh, ⟨hk2, hs, by dsimp only; rw [List.length_map]; omega⟩, fun v3 F3 H3 g3 hv3 => ?_⟩
    obtain ⟨kv, kkv, hI, hK⟩ := hv3
    dsimp only at hK
    obtain ⟨_, vs2, er, hp2, hq2⟩ := hk2
    cases er
    have G3 := G2.trans g3
    walk_at "s"
    refine ⟨x_lt (by decide), fun r H4 nr => ?_⟩
    obtain ⟨g4, o4⟩ := nr.own g3.fh
    have zr : H r = none := G3.hh.free nr.fr
    have G4 := G3.trans g4
    walk_at "s"
    refine x_lenK (G4.hh _ _ (fh _ _ ha1)) ?_
    rw [List.length_map]
    walk_at "s"
    refine ⟨by omega, by omega, ?_⟩
    rw [Int.toNat_natCast]
    refine for_rg0 G4 (fun i σ F H => ∃ (vs : List V) (rows : List (Option Str × List Str × List (Str × Int × Int))) (x1 x2 x3 x4 x5 x6 x7 x8 : Option V), σ = [some (.ref a1), some v2, some (.ref p1), some (.ref p2), some v3, some (.ref r), x1, x2, x3, x4, x5, x6, x7, x8] ∧ Own F H r (.lst vs) ∧ Paired (kRow.p F) vs rows ∧ rows.length = i ∧ ∀ r ∈ rows, RowOk r) ⟨[], [], _, _, _, _, _, _, _, _, rfl, o4, .nil, rfl, fun _ h => by simp at h⟩ ?_ ?_
    · rintro i σ1 F5 H5 N hi G5 s5 ⟨vs, rows, x1, x2, x3, x4, x5, x6, x7, x8, rfl, o5, hp5, hr5, hro⟩ kN
      have hi2 : i < lls.length := by omega
      obtain ⟨w1, hw1, hkl⟩ := at_p (k := i) hq1 (List.getElem?_eq_getElem hi2)
      obtain ⟨w2, hw2, hkp⟩ := at_p (k := i) (x := lls[i].map fun l => l.map (·.1)) hq2 (by rw [List.getElem?_map, List.getElem?_eq_getElem hi2]; rfl)
      obtain ⟨_, _, ho⟩ := hok lls[i] (List.getElem_mem _)
      have hmem : (lls[i].map fun l => l.map (·.1)) ∈ lls.map fun x => x.map fun l => l.map (·.1) := List.mem_map_of_mem (List.getElem_mem _)
      have s25 := g3.ff.trans s5
      have s15 := g2.ff.trans s25
      have s05 := g1.ff.trans s15
      have hn1 : lls[i].length ≤ 1000000 := Nat.le_trans ho.2.1 (by omega)
      have hn2 : (lls[i].map List.length).sum ≤ 1000000 := Nat.le_trans ho.1 (by omega)
      walk_at "s"
      refine x_ixL (G5.fh _ _ (s25 _ _ hp2)) hw2 ?_
      walk_at "s"
      refine ⟨(w2, v2, v3, _, ru, kv), F5, rfl, G5.fh, ⟨(kL (kL kS)).mono s25 hkp, (kRu K).mono s05 h2, kDt.mono s5 kkv, hI, hK _ hmem, by rw [List.length_map]; exact hn1⟩, fun v6 F6 H6 g6 hv6 => ?_⟩
      have hf : ((lls[i].map fun l => l.map (·.1)).map fun _ => kKept) = lls[i].map fun _ => kKept := by rw [List.map_map]; rfl
      have hv6 : (kL (k1 kS)).p F6 v6 (lls[i].map fun _ => kKept) := hf ▸ hv6
      have G6 := G5.trans g6
      walk_at "s"
      refine x_ixL (G6.fh _ _ ((s15.trans g6.ff) _ _ hp1)) hw1 ?_
      walk_at "s"
      refine ⟨(w1, v6, lls[i]), F6, rfl, G6.fh, ⟨(kL (kL kP)).mono (s15.trans g6.ff) hkl, hv6, hn2, hn1⟩, fun v7 F7 H7 g7 hv7 => ?_⟩
      have G7 := G6.trans g7
      obtain ⟨fl1, fl2⟩ := flat_le ho
      obtain ⟨a7, vs7, rfl, ha7, hp7⟩ := hv7
      have o7 := (o5.go g6).go g7
      have l5 := hp5.length
      walk_at "s"
      refine ⟨x_tyL o7.h, ?_⟩
      walk_at "s"
      refine ⟨a7, rfl, ⟨_, SqL.of (G7.fh _ _ ha7)⟩, lc_kL (r := kP) (s := kS) G7.fh ha7 hp7 (by rw [sizeLine_eq]; omega) (fun _ _ => True) ?_ ?_⟩
      · intro j w v F8 H8 N8 hx8 hv g8 kN8
        obtain ⟨b, rfl, hb⟩ := k3W hv
        walk_at "s"
        refine x_gT (g8.at hb) rfl ?_
        walk_at "s"
        refine ⟨rfl, ?_⟩
        walk_at "s"
        exact kN8 _ _ _ _ (Gr.refl g8.fh) rfl trivial
      intro p8 F8 H8 ys8 np8 g8 hk8 _
      have s8 := ((s05.trans g6.ff).trans g7.ff).trans g8.ff
      walk_at "s"
      refine ⟨(.ref p8, v2, ys8, ru), F8, rfl, g8.fh, ⟨hk8, (kRu K).mono s8 h2⟩, fun v9 F9 H9 g9 hv9 => ?_⟩
      obtain ⟨o, hv9⟩ := hv9
      have g79 := g8.trans g9
      have o9 := o7.go g79
      walk_at "s"
      refine ⟨x_lt (Nat.le_of_ble_eq_true rfl), fun t H10 nt => ?_⟩
      obtain ⟨F10, g10, e10⟩ := nt.fix g9.fh
      have o10 := o9.go g10
      have s7 := g79.ff.trans g10.ff
      walk_at "s"
      refine x_app o10.h (by rw [sizeLine_eq]; omega) fun H11 c11 => ?_
      walk_at "s"
      refine kN _ _ _ (c11.gr ((G7.trans g79).trans g10) o10.f zr) ((g6.ff.trans g7.ff).trans s7) ⟨_, rows ++ [(o, lls[i].map fun _ => kKept, lls[i].flatten)], _, _, _, _, _, _, _, _, rfl, c11.own o10, ?_, by rw [List.length_append, List.length_singleton, hr5], fun r hr => ?_⟩
      · refine (L2.Paired.mapP hp5 fun _ _ h => kRow.mono ((g6.ff.trans g7.ff).trans s7) h).snoc ⟨t, _, _, _, rfl, e10, kRe.mono g10.ff hv9, (kL (k1 kS)).mono (g7.ff.trans s7) hv6, (kL kP).mono s7 ⟨a7, vs7, rfl, ha7, hp7⟩⟩
      · rcases List.mem_append.mp hr with h | h
        · exact hro r h
        · rw [List.mem_singleton.mp h]; exact ⟨fl1, fl2⟩
    · rintro σ1 F5 H5 G5 s5 ⟨vs, rows, x1, x2, x3, x4, x5, x6, x7, x8, rfl, o5, hp5, hr5, hro⟩
      walk_at "s"
      exact k _ _ _ (G5.fix o5.h zr o5.f) ⟨rows, ⟨r, vs, rfl, upd_same, L2.Paired.mapP hp5 fun _ _ h => kRow.mono (same_new o5.f) h⟩, hr5, hro⟩
/-! D_corp1.src -/
structure CO where
  ru : RU
  docs : List (Int × Int × Str)
  exs : List Str
abbrev kDoc : R (Int × Int × Str) := k3 kI kI kS
structure CoF (K : PySem.W.Frag) (F : Hp) (fs : List (Str × V)) (c : CO) : Prop where
  rules : ∃ x, fs.lookup ("rules" : Str) = some x ∧ (kRu K).p F x c.ru
  documents : ∃ x, fs.lookup ("documents" : Str) = some x ∧ (kL kDoc).p F x c.docs
  exams : ∃ x, fs.lookup ("exams" : Str) = some x ∧ (kL kS).p F x c.exs
theorem CoF.up {K : PySem.W.Frag} {F F' : Hp} {fs : List (Str × V)} {c : CO} (e : Same F F') (h : CoF K F fs c) : CoF K F' fs c :=
  ⟨h.rules.imp fun _ q => ⟨q.1, (kRu K).mono e q.2⟩, h.documents.imp fun _ q => ⟨q.1, (kL kDoc).mono e q.2⟩, h.exams.imp fun _ q => ⟨q.1, (kL kS).mono e q.2⟩⟩
def kCo (K : PySem.W.Frag) : R CO := ⟨fun F v r => ∃ a dx fs, v = .ref a ∧ F a = some (.ins (He.ga K "Contents") dx fs) ∧ CoF K F fs r, fun e ⟨a, dx, fs, h1, h2, h3⟩ => ⟨a, dx, fs, h1, e _ _ h2, h3.up e⟩⟩
structure CoOk (c : CO) : Prop where
  nd : c.docs.length ≤ 20
  td : ∀ d ∈ c.docs, d.2.2.length ≤ 400
  ne : c.exs.length ≤ 100
  te : ∀ t ∈ c.exs, t.length ≤ 400
def sp_exam_lists (K : PySem.W.Frag) : Sp := SpOf (ι := V × CO) (fun i => [i.1]) (fun ⟨v1, c⟩ F => (kCo K).p F v1 c ∧ CoOk c) (fun ⟨_, _⟩ F v => ∃ tss, (kL (kL kS)).p F v tss ∧ tss.length ≤ 100 ∧ ∀ ws ∈ tss, ws.length ≤ 400)
theorem ok_exam_lists {P : Program} {w : World} {K : PySem.W.Frag} {mg : Str → Option Value} {base : Heap} (T : Tx K mg) : Okd P w K mg base 6 ("exam_lists", none) ["contents"] [] (sp_exam_lists K) := by
  have O_exam_words := ok_exam_words (P := P) (w := w) (base := base) T
  obtain ⟨fd, F⟩ : ∃ fd, FunD K "exam_lists" "exam_lists" (defArgs s_exam_lists) (defBody s_exam_lists) (defScope s_exam_lists) [] [] (He.fAd K ("exam_lists", none)) fd := T.says.d.def_ 68 rfl
  refine ⟨fd, [], F.ok sc_exam_lists (fun vs H Q E h => ?_) (fun cdv A outer s H vs Q E hr h => ?_), .nil, F.bindsN (fun _ _ _ _ _ _ us hl => match us, hl with | [_], _ => rfl), F.kp⟩
  · obtain ⟨_, _, rfl, _⟩ := h; rfl
  · refine ⟨_, PSs.nox (pss_one (ps_ret (pe_lc (own := [("text", 1)]) (g := (gName 1)) (tt := tYes) rfl sc_exam_lists.nd (pi_listK K (pe_fldK K (pv 0))) (blkOk_by (own := [("text", 1)]) (N := N_exam_lists) (sc := defScope s_exam_lists) (by decide +kernel)) (fun _ _ _ _ _ => (pg_name (i := 1) sc_exam_lists.nd rfl (by first | exact Or.inl rfl | exact Or.inr rfl))) (fun _ _ _ _ _ => pts_nil) (fun _ _ _ _ _ => (pe_ok O_exam_words T.n_exam_words hr (by decide) (by rfl) (pa_cons (pv 1) (pa_cons (pe_fldK K (pv 0)) pa_nil))))))), ?_⟩
    obtain ⟨⟨v1, c⟩, F0, rfl, fh, ⟨h1, hc⟩, k⟩ := h
    dsimp only at h1 hc k ⊢
    obtain ⟨a1, dx, fs, rfl, ha1, hf⟩ := h1
    obtain ⟨xr, lr, kr⟩ := hf.rules
    obtain ⟨xe, le, ke⟩ := hf.exams
    obtain ⟨ae, rfl, hae⟩ := kLS ke
    have hne := hc.ne
    walk_at "s"
    refine ⟨_, _, _, _, _, rfl, fh _ _ ha1, T.c_Contents, T.a_Contents_exams, le, ?_⟩
    refine ⟨ae, rfl, ⟨_, SqL.of (fh _ _ hae)⟩, lc_kL (r := kS) (s := kL kS) fh hae (kS_all c.exs) (by rw [sizeLine_eq]; omega) (fun _ y => y.length ≤ 400) ?_ ?_⟩
    · intro j t v F3 H3 N3 hx hv g3 kN3
      obtain rfl : v = .str t := hv
      have ht := hc.te t (List.mem_of_getElem? hx)
      walk_at "s"
      refine ⟨rfl, ?_⟩
      walk_at "s"
      refine ⟨_, _, _, _, _, rfl, g3.hh _ _ (fh _ _ ha1), T.c_Contents, T.a_Contents_rules, lr, ?_⟩
      walk_at "s"
      refine ⟨(t, xr, c.ru), F3, rfl, g3.fh, ⟨(kRu K).mono g3.ff kr, by dsimp only; omega⟩, fun v F4 H4 g4 hv => ?_⟩
      obtain ⟨ws, hk, hl, _⟩ := hv
      exact kN3 _ _ _ ws g4 hk (Nat.le_trans hl ht)
    intro p1 F1 H1 tss np1 g1 hk1 pp1
    refine k _ _ _ g1 ⟨tss, hk1, by rw [← pp1.length]; exact hc.ne, fun ws hw => ?_⟩
    obtain ⟨_, _, h⟩ := paired_mem pp1 ws hw
    exact h
abbrev kCl : R (Int × Option Str × List Str) := k3 kI kRe (kL kS)
def ClOk (r : Int × Option Str × List Str) : Prop := r.2.2.length ≤ 400 ∧ ∀ w ∈ r.2.2, w.length ≤ 400
def sp_cleaned_rows (K : PySem.W.Frag) : Sp := SpOf (ι := V × CO) (fun i => [i.1]) (fun ⟨v1, c⟩ F => (kCo K).p F v1 c ∧ CoOk c) (fun ⟨_, c⟩ F v => ∃ rows, (kL kCl).p F v rows ∧ rows.map (·.1) = c.docs.map (·.1) ∧ ∀ r ∈ rows, ClOk r)
theorem ok_cleaned_rows {P : Program} {w : World} {K : PySem.W.Frag} {mg : Str → Option Value} {base : Heap} (T : Tx K mg) : Okd P w K mg base 6 ("cleaned_rows", none) ["contents"] [] (sp_cleaned_rows K) := by
  have O_clean_documents := ok_clean_documents (P := P) (w := w) (base := base) T
  obtain ⟨fd, F⟩ : ∃ fd, FunD K "cleaned_rows" "cleaned_rows" (defArgs s_cleaned_rows) (defBody s_cleaned_rows) (defScope s_cleaned_rows) [] [] (He.fAd K ("cleaned_rows", none)) fd := T.says.d.def_ 70 rfl
  refine ⟨fd, [], F.ok sc_cleaned_rows (fun vs H Q E h => ?_) (fun cdv A outer s H vs Q E hr h => ?_), .nil, F.bindsN (fun _ _ _ _ _ _ us hl => match us, hl with | [_], _ => rfl), F.kp⟩
  · obtain ⟨_, _, rfl, _⟩ := h; rfl
  · refine ⟨_, PSs.nox (pss_cons (ps_setLc (i := 1) (own := [("_", 6), ("text", 9)]) (g := (gTup K 3 (gCons (gName 6) (gCons (gName 6) (gCons (gName 9) gNil))))) (tt := tYes) rfl sc_cleaned_rows.nd rfl rfl (sw_true rfl rfl rfl (by decide +kernel)) (pi_listK K (pe_fldK K (pv 0))) (blkOk_by (own := [("_", 6), ("text", 9)]) (N := N_cleaned_rows) (sc := defScope s_cleaned_rows) (by decide +kernel)) (fun _ _ _ _ _ => (pg_tupK K rfl (pgs_cons (pg_name (i := 6) sc_cleaned_rows.nd rfl (by first | exact Or.inl rfl | exact Or.inr rfl)) (pgs_cons (pg_name (i := 6) sc_cleaned_rows.nd rfl (by first | exact Or.inl rfl | exact Or.inr rfl)) (pgs_cons (pg_name (i := 9) sc_cleaned_rows.nd rfl (by first | exact Or.inl rfl | exact Or.inr rfl)) pgs_nil))))) (fun _ _ _ _ _ => pts_nil) (fun _ _ _ _ _ => (pv 9)))
    (pss_cons (ps_set (i := 2) sc_cleaned_rows.nd rfl (by first | exact Or.inl rfl | exact Or.inr rfl) (pe_lst pa_nil))
    (pss_cons (ps_set (i := 3) sc_cleaned_rows.nd rfl (by first | exact Or.inl rfl | exact Or.inr rfl) (pe_ok O_clean_documents T.n_clean_documents hr (by decide) (by rfl) (pa_cons (pv 1) (pa_cons (pe_fldK K (pv 0)) pa_nil))))
    (pss_cons (ps_for PassesOwn.never rfl (pi_range1 rfl T.f_range (pa_cons (pe_callB (call_lenK K) (by rfl) T.f_len (by decide +kernel) (pa_cons (pv 3) pa_nil)) pa_nil)) (pg_name (i := 4) sc_cleaned_rows.nd rfl (by first | exact Or.inl rfl | exact Or.inr rfl)) (pss_cons (ps_asg (pe_ix (ix_listK K) (pv 3) (pv 4) (fun _ _ => rfl)) (pg_tupK K rfl (pgs_cons (pg_name (i := 5) sc_cleaned_rows.nd rfl (by first | exact Or.inl rfl | exact Or.inr rfl)) (pgs_cons (pg_name (i := 6) sc_cleaned_rows.nd rfl (by first | exact Or.inl rfl | exact Or.inr rfl)) (pgs_cons (pg_name (i := 7) sc_cleaned_rows.nd rfl (by first | exact Or.inl rfl | exact Or.inr rfl)) pgs_nil)))))
    (pss_cons (ps_setLc (i := 8) (own := [("word", 10), ("_", 6)]) (g := (gTup K 3 (gCons (gName 10) (gCons (gName 6) (gCons (gName 6) gNil))))) (tt := tYes) rfl sc_cleaned_rows.nd rfl rfl (sw_true rfl rfl rfl (by decide +kernel)) (pi_listK K (pv 7)) (blkOk_by (own := [("word", 10), ("_", 6)]) (N := N_cleaned_rows) (sc := defScope s_cleaned_rows) (by decide +kernel)) (fun _ _ _ _ _ => (pg_tupK K rfl (pgs_cons (pg_name (i := 10) sc_cleaned_rows.nd rfl (by first | exact Or.inl rfl | exact Or.inr rfl)) (pgs_cons (pg_name (i := 6) sc_cleaned_rows.nd rfl (by first | exact Or.inl rfl | exact Or.inr rfl)) (pgs_cons (pg_name (i := 6) sc_cleaned_rows.nd rfl (by first | exact Or.inl rfl | exact Or.inr rfl)) pgs_nil))))) (fun _ _ _ _ _ => pts_nil) (fun _ _ _ _ _ => (pv 10)))
    (pss_one (ps_expr (pe_bmK K PySem.F.plainAttrs_list PySem.F.slot_list_append PySem.F.type_list_append mt_append (pv 2) (pa_cons (pe_tup (pa_cons (pe_ix (ix_tupK K) (pe_ix (ix_listK K) (pe_fldK K (pv 0)) (pv 4) (fun _ _ => rfl)) pe_int (fun _ _ => rfl)) (pa_cons (pv 5) (pa_cons (pv 8) pa_nil)))) pa_nil)))))))
    (pss_one (ps_ret (pv 2))))))), ?_⟩
    obtain ⟨⟨v1, c⟩, F0, rfl, fh, ⟨h1, hc⟩, k⟩ := h
    dsimp only at h1 hc k ⊢
    obtain ⟨a1, dx, fs, rfl, ha1, hf⟩ := h1
    obtain ⟨xr, lr, kr⟩ := hf.rules
    obtain ⟨xd, ld, kd⟩ := hf.documents
    obtain ⟨ad, vd, rfl, had, hpd⟩ := kd
    have hnd := hc.nd
    walk_at "s"
    refine ⟨_, _, _, _, _, rfl, fh _ _ ha1, T.c_Contents, T.a_Contents_documents, ld, ?_⟩
    refine ⟨ad, rfl, ⟨_, SqL.of (fh _ _ had)⟩, lc_kL (r := kDoc) (s := kS) fh had hpd (by rw [sizeLine_eq]; omega) (fun x y => y = x.2.2) ?_ ?_⟩
    · intro j d v F3 H3 N3 hx hv g3 kN3
      obtain ⟨b, y1, y2, y3, rfl, hb, hy1, hy2, hy3⟩ := hv
      walk_at "s"
      refine x_gT (g3.at hb) rfl ?_
      walk_at "s"
      refine ⟨rfl, ?_⟩
      walk_at "s"
      exact kN3 _ _ _ _ (Gr.refl g3.fh) hy3 rfl
    intro p1 F1 H1 ts np1 g1 hk1 pp1
    have et := paired_fun (f := fun x : Int × Int × Str => x.2.2) pp1
    subst et
    walk_at "s"
    refine ⟨x_lt (by decide), fun r H2 nr => ?_⟩
    obtain ⟨g2, o2⟩ := nr.own g1.fh
    have zr : H r = none := g1.hh.free nr.fr
    have G2 := g1.trans g2
    walk_at "s"
    refine ⟨_, _, _, _, _, rfl, G2.hh _ _ (fh _ _ ha1), T.c_Contents, T.a_Contents_rules, lr, ?_⟩
    walk_at "s"
    refine ⟨(.ref p1, xr, _, c.ru), F1, rfl, g2.fh, ⟨hk1, (kRu K).mono g1.ff kr, by rw [List.length_map]; omega, fun t ht => ?_⟩, fun v3 F3 H3 g3 hv3 => ?_⟩
    · obtain ⟨d, hd, rfl⟩ := List.mem_map.mp ht
      exact hc.td d hd
    obtain ⟨rows, ⟨a3, vs3, rfl, ha3, hp3⟩, hl3, hr3⟩ := hv3
    rw [List.length_map] at hl3
    have G3 := G2.trans g3
    have o3 := o2.go g3
    have hv3l := hp3.length
    walk_at "s"
    refine x_lenK (G3.fh _ _ ha3) ?_
    walk_at "s"
    refine ⟨by omega, by omega, ?_⟩
    rw [Int.toNat_natCast, hv3l]
    refine for_rg0 G3 (fun i σ F H => ∃ (vs : List V) (cl : List (Int × Option Str × List Str)) (x1 x2 x3 x4 x5 x6 x7 : Option V), σ = [some (.ref a1), some (.ref p1), some (.ref r), some (.ref a3), x1, x2, x3, x4, x5, x6, x7] ∧ Own F H r (.lst vs) ∧ Paired (kCl.p F) vs cl ∧ cl.map (·.1) = (c.docs.take i).map (·.1) ∧ ∀ r ∈ cl, ClOk r) ⟨[], [], _, _, _, _, _, _, _, rfl, o3, .nil, by simp, fun _ h => by simp at h⟩ ?_ ?_
    · rintro i σ1 F5 H5 N hi G5 s5 ⟨vs, cl, x1, x2, x3, x4, x5, x6, x7, rfl, o5, hp5, hr5, hro⟩ kN
      have hid : i < c.docs.length := by omega
      obtain ⟨w1, hw1, t1, y1, y2, y3, rfl, ht1, hy1, hy2, hy3⟩ := at_p (k := i) hp3 (List.getElem?_eq_getElem hi)
      obtain ⟨w2, hw2, t2, z1, z2, z3, rfl, ht2, hz1, hz2, hz3⟩ := at_p (k := i) hpd (List.getElem?_eq_getElem hid)
      obtain ⟨ok1, ok2⟩ := hr3 rows[i] (List.getElem_mem _)
      obtain ⟨a6, vs6, rfl, ha6, hp6⟩ := hy3
      have l5 := hp5.length
      have l5' : cl.length = i := by
        have := congrArg List.length hr5
        rw [List.length_map, List.length_map, List.length_take] at this
        omega
      walk_at "s"
      refine x_ixL (G5.fh _ _ (s5 _ _ ha3)) hw1 ?_
      refine x_gT (G5.fh _ _ (s5 _ _ ht1)) rfl ?_
      walk_at "s"
      refine ⟨a6, rfl, ⟨_, SqL.of (G5.fh _ _ (s5 _ _ ha6))⟩, lc_kL (r := kP) (s := kS) G5.fh (s5 _ _ ha6) (L2.Paired.mapP hp6 fun _ _ h => kP.mono s5 h) (by rw [sizeLine_eq]; omega) (fun x y => y = x.1) ?_ ?_⟩
      · intro j w v F8 H8 N8 hx8 hv g8 kN8
        obtain ⟨b, rfl, hb⟩ := k3W hv
        walk_at "s"
        refine x_gT (g8.at hb) rfl ?_
        walk_at "s"
        refine ⟨rfl, ?_⟩
        walk_at "s"
        exact kN8 _ _ _ _ (Gr.refl g8.fh) rfl rfl
      intro p8 F8 H8 ys8 np8 g8 hk8 pp8
      have e8 := paired_fun (f := fun x : Str × Int × Int => x.1) pp8
      subst e8
      have o8 := o5.go g8
      have G8 := G5.trans g8
      have s08 : Same F0 F8 := (((g1.ff.trans g2.ff).trans g3.ff).trans s5).trans g8.ff
      walk_at "s"
      refine ⟨x_tyL o8.h, ?_⟩
      walk_at "s"
      refine ⟨_, _, _, _, _, rfl, G8.hh _ _ (fh _ _ ha1), T.c_Contents, T.a_Contents_documents, ld, ?_⟩
      walk_at "s"
      refine x_ixL (G8.hh _ _ (fh _ _ had)) hw2 ?_
      walk_at "s"
      refine x_ixT (G8.hh _ _ (fh _ _ ht2)) rfl ?_
      walk_at "s"
      refine ⟨x_lt (Nat.le_of_ble_eq_true rfl), fun t H10 nt => ?_⟩
      obtain ⟨F10, g10, e10⟩ := nt.fix G8.fh
      have o10 := o8.go g10
      walk_at "s"
      refine x_app o10.h (by rw [sizeLine_eq]; omega) fun H11 c11 => ?_
      walk_at "s"
      refine kN _ _ _ (c11.gr (G8.trans g10) o10.f zr) (g8.ff.trans g10.ff) ⟨_, cl ++ [(c.docs[i].1, rows[i].1, rows[i].2.2.map (·.1))], _, _, _, _, _, _, _, rfl, c11.own o10, ?_, ?_, fun r hr => ?_⟩
      · exact (L2.Paired.mapP hp5 fun _ _ h => kCl.mono (g8.ff.trans g10.ff) h).snoc ⟨t, _, _, _, rfl, e10, hz1, kRe.mono ((s5.trans g8.ff).trans g10.ff) hy1, (kL kS).mono g10.ff hk8⟩
      · rw [List.take_succ_eq_append_getElem hid, List.map_append, List.map_append, hr5]; rfl
      · rcases List.mem_append.mp hr with h | h
        · exact hro r h
        · rw [List.mem_singleton.mp h]
          refine ⟨by dsimp only; rw [List.length_map]; exact ok1, fun w hw => ?_⟩
          obtain ⟨q, hq, rfl⟩ := List.mem_map.mp hw
          exact ok2 q hq
    · rintro σ1 F5 H5 G5 s5 ⟨vs, cl, x1, x2, x3, x4, x5, x6, x7, rfl, o5, hp5, hr5, hro⟩
      have e5 : c.docs.take rows.length = c.docs := by rw [List.take_of_length_le (by omega)]
      rw [e5] at hr5
      walk_at "s"
      exact k _ _ _ (G5.fix o5.h zr o5.f) ⟨cl, ⟨r, vs, rfl, upd_same, L2.Paired.mapP hp5 fun _ _ h => kCl.mono (same_new o5.f) h⟩, hr5, hro⟩
/-! D_corp2.src -/
abbrev kPc : R (Int × List Str) := k2 kI (kL kS)
abbrev Pcs := List (Int × List Str)
def PcsOk (ps : Pcs) : Prop := ps.length ≤ 401 ∧ (ps.map fun p => p.2.length).sum ≤ 400 ∧ ∀ p ∈ ps, ∀ w ∈ p.2, w.length ≤ 400
def sp_all_phrases : Sp := SpOf (ι := V × Int × List (List Str)) (fun i => [.int i.2.1, i.1]) (fun ⟨v1, n, tss⟩ F => (kL (kL kS)).p F v1 tss ∧ 1 ≤ n ∧ n ≤ 1000 ∧ tss.length ≤ 100 ∧ ∀ ws ∈ tss, ws.length ≤ 400) (fun _ _ _ => True)
theorem ok_all_phrases {P : Program} {w : World} {K : PySem.W.Frag} {mg : Str → Option Value} {base : Heap} (T : Tx K mg) : Okd P w K mg base 1 ("all_phrases", none) ["length", "texts"] [] (sp_all_phrases) := by
  obtain ⟨fd, F⟩ : ∃ fd, FunD K "all_phrases" "all_phrases" (defArgs s_all_phrases) (defBody s_all_phrases) (defScope s_all_phrases) [] [] (He.fAd K ("all_phrases", none)) fd := T.says.d.def_ 69 rfl
  refine ⟨fd, [], F.ok sc_all_phrases (fun vs H Q E h => ?_) (fun cdv A outer s H vs Q E hr h => ?_), .nil, F.bindsN (fun _ _ _ _ _ _ us hl => match us, hl with | [_, _], _ => rfl), F.kp⟩
  · obtain ⟨_, _, rfl, _⟩ := h; rfl
  · refine ⟨_, PSs.nox (pss_cons (ps_set (i := 2) sc_all_phrases.nd rfl (by first | exact Or.inl rfl | exact Or.inr rfl) (pe_lst pa_nil))
    (pss_cons (ps_for PassesOwn.never rfl (pi_listK K (pv 1)) (pg_name (i := 3) sc_all_phrases.nd rfl (by first | exact Or.inl rfl | exact Or.inr rfl)) (pss_one (ps_for PassesOwn.never rfl (pi_range1 rfl T.f_range (pa_cons (pe_op op_add (pe_op op_sub (pe_callB (call_lenK K) (by rfl) T.f_len (by decide +kernel) (pa_cons (pv 3) pa_nil)) (pv 0)) pe_int) pa_nil)) (pg_name (i := 4) sc_all_phrases.nd rfl (by first | exact Or.inl rfl | exact Or.inr rfl)) (pss_one (ps_expr (pe_bmK K PySem.F.plainAttrs_list PySem.F.slot_list_append PySem.F.type_list_append mt_append (pv 2) (pa_cons (pe_slice (sl_listK K) (pv 3) (po_some (pv 4)) (po_some (pe_op op_add (pv 4) (pv 0)))) pa_nil)))))))
    (pss_one (ps_ret (pv 2))))), ?_⟩
    obtain ⟨⟨v1, n, tss⟩, F0, rfl, fh, ⟨h1, hn1, hn2, ht1, ht2⟩, k⟩ := h
    dsimp only at h1 hn1 hn2 ht1 ht2 k ⊢
    obtain ⟨a1, vs1, rfl, ha1, hp1⟩ := h1
    walk_at "s"
    refine ⟨x_lt (by decide), fun r H1 nr => ?_⟩
    obtain ⟨g1, o1⟩ := nr.own fh
    walk_at "s"
    refine ⟨a1, rfl, ⟨_, SqL.of (g1.hh _ _ (fh _ _ ha1))⟩, ?_⟩
    refine for_kL (r := kL kS) (xs := tss) g1 ha1 hp1 (fun i σ F H => ∃ (vs : List V) (x1 x2 : Option V), σ = [some (.int n), some (.ref a1), some (.ref r), x1, x2] ∧ Own F H r (.lst vs) ∧ vs.length ≤ i * 400) ⟨[], _, _, rfl, o1, Nat.zero_le _⟩ ?_ ?_
    · rintro i ws v σ1 F3 H3 N hx hi hv G3 s3 ⟨vs, x1, x2, rfl, o1, hl⟩ kN
      have hw := ht2 ws (List.mem_of_getElem? hx)
      obtain ⟨a4, rfl, ha4⟩ := kLS hv
      walk_at "s"
      refine x_lenK (G3.fh _ _ ha4) ?_
      rw [List.length_map]
      walk_at "s"
      refine ⟨by omega, by omega, ?_⟩
      refine for_rg0 G3 (fun j σ F H => ∃ (vs : List V) (x2 : Option V), σ = [some (.int n), some (.ref a1), some (.ref r), some (.ref a4), x2] ∧ Own F H r (.lst vs) ∧ vs.length ≤ i * 400 + j) ⟨vs, _, rfl, o1, hl⟩ ?_ ?_
      · rintro j σ2 F4 H4 N4 hj G4 s4 ⟨vs, x2, rfl, o1, hl⟩ kN4
        walk_at "s"
        refine ⟨x_tyL o1.h, ?_⟩
        walk_at "s"
        refine x_slL (G4.fh _ _ (s4 _ _ ha4)) fun p H5 np => ?_
        obtain ⟨g5, _⟩ := np.own G4.fh
        have o5 := o1.go g5
        walk_at "s"
        refine x_app o5.h (by rw [sizeLine_eq]; omega) fun H6 c6 => ?_
        walk_at "s"
        exact kN4 _ _ _ (c6.gr (G4.trans g5) o5.f nr.fr) (Same.refl _) ⟨_, _, rfl, c6.own o5, by rw [List.length_append, List.length_singleton]; omega⟩
      · rintro σ2 F4 H4 G4 s4 ⟨vs, x2, rfl, o1, hl⟩
        exact kN _ _ _ G4 s4 ⟨vs, _, _, rfl, o1, by rw [Nat.add_mul]; omega⟩
    · rintro σ1 F3 H3 G3 s3 ⟨vs, x1, x2, rfl, o1, hl⟩
      walk_at "s"
      exact k _ _ _ G3 trivial
def sp_long_pieces : Sp := SpOf (ι := V × Int × Pcs) (fun i => [i.1, .int i.2.1]) (fun ⟨v1, n, ps⟩ F => (kL kPc).p F v1 ps ∧ ps.length ≤ 1000000) (fun ⟨_, _, ps⟩ F v => ∃ qs, (kL kPc).p F v qs ∧ qs.Sublist ps)
theorem paired_id {α : Type} {xs ys : List α} (h : Paired (fun x y => y = x) xs ys) : ys = xs := by
  have e := paired_fun (f := fun x => x) h
  rw [List.map_id'] at e
  exact e
theorem ok_long_pieces {P : Program} {w : World} {K : PySem.W.Frag} {mg : Str → Option Value} {base : Heap} (T : Tx K mg) : Okd P w K mg base 1 ("long_pieces", none) ["pieces", "least"] [] (sp_long_pieces) := by
  obtain ⟨fd, F⟩ : ∃ fd, FunD K "long_pieces" "long_pieces" (defArgs s_long_pieces) (defBody s_long_pieces) (defScope s_long_pieces) [] [] (He.fAd K ("long_pieces", none)) fd := T.says.d.def_ 71 rfl
  refine ⟨fd, [], F.ok sc_long_pieces (fun vs H Q E h => ?_) (fun cdv A outer s H vs Q E hr h => ?_), .nil, F.bindsN (fun _ _ _ _ _ _ us hl => match us, hl with | [_, _], _ => rfl), F.kp⟩
  · obtain ⟨_, _, rfl, _⟩ := h; rfl
  · refine ⟨_, PSs.nox (pss_one (ps_ret (pe_lc (own := [("place", 2), ("words", 3)]) (g := (gTup K 2 (gCons (gName 2) (gCons (gName 3) gNil)))) rfl sc_long_pieces.nd (pi_listK K (pv 0)) (blkOk_by (own := [("place", 2), ("words", 3)]) (N := N_long_pieces) (sc := defScope s_long_pieces) (by decide +kernel)) (fun _ _ _ _ _ => (pg_tupK K rfl (pgs_cons (pg_name (i := 2) sc_long_pieces.nd rfl (by first | exact Or.inl rfl | exact Or.inr rfl)) (pgs_cons (pg_name (i := 3) sc_long_pieces.nd rfl (by first | exact Or.inl rfl | exact Or.inr rfl)) pgs_nil)))) (fun _ _ _ _ _ => (pts_one (pt_cmpR op_ge (pe_callB (call_lenK K) (by rfl) T.f_len (by decide +kernel) (pa_cons (pv 3) pa_nil)) (pv 1) (nomark _)))) (fun _ _ _ _ _ => (pe_tup (pa_cons (pv 2) (pa_cons (pv 3) pa_nil))))))), ?_⟩
    obtain ⟨⟨v1, n, ps⟩, F0, rfl, fh, ⟨h1, hn⟩, k⟩ := h
    dsimp only at h1 hn k ⊢
    obtain ⟨a1, vs1, rfl, ha1, hp1⟩ := h1
    walk_at "s"
    refine ⟨a1, rfl, ⟨_, SqL.of (fh _ _ ha1)⟩, lc_kLf (r := kPc) (s := kPc) fh ha1 hp1 (by rw [sizeLine_eq]; omega) (fun x y => y = x) ?_ ?_⟩
    · intro j d v F3 H3 NY NN hx hv g3 kY kN
      obtain ⟨b, y1, y2, rfl, hb, hy1, hy2⟩ := hv
      obtain ⟨a4, e4, ha4⟩ := kLS hy2
      have hy1' : y1 = .int d.1 := hy1
      subst e4 hy1'
      walk_at "s"
      refine x_gT (g3.at hb) rfl ?_
      walk_at "s"
      refine ⟨rfl, ?_⟩
      walk_at "s"
      refine x_lenK (g3.at ha4) ?_
      walk_at "s"
      refine x_any ?_ ?_
      · walk_at "s"
        refine ⟨x_lt (Nat.le_of_ble_eq_true rfl), fun t H5 nt => ?_⟩
        obtain ⟨F5, g5, e5⟩ := nt.fix g3.fh
        exact kY _ _ _ d g5 ⟨t, _, _, rfl, e5, rfl, (kL kS).mono g5.ff hy2⟩ rfl
      · exact kN _ _ (Gr.refl g3.fh)
    intro p1 F1 H1 xs ys np1 g1 hk1 sl pp1
    have e := paired_id pp1
    subst e
    exact k _ _ _ g1 ⟨_, hk1, sl⟩
abbrev kPs : R (Int × Pcs) := k2 kI (kL kPc)
abbrev kLo : R (Int × List (List Str)) := k2 kI (kL (kL kS))
def LoOk (r : Int × List (List Str)) : Prop := r.2.length ≤ 401 ∧ ∀ ws ∈ r.2, ws.length ≤ 400
def sp_left_over : Sp := SpOf (ι := V × Int × List (Int × Pcs)) (fun i => [i.1, .int i.2.1]) (fun ⟨v1, n, ps⟩ F => (kL kPs).p F v1 ps ∧ ps.length ≤ 100 ∧ ∀ p ∈ ps, PcsOk p.2) (fun ⟨_, _, ps⟩ F v => ∃ rs, (kL kLo).p F v rs ∧ rs.length ≤ ps.length ∧ (rs.map (·.1)).Sublist (ps.map (·.1)) ∧ ∀ r ∈ rs, LoOk r)
theorem ok_left_over {P : Program} {w : World} {K : PySem.W.Frag} {mg : Str → Option Value} {base : Heap} (T : Tx K mg) : Okd P w K mg base 2 ("left_over", none) ["pieces", "least"] [] (sp_left_over) := by
  have O_long_pieces := ok_long_pieces (P := P) (w := w) (base := base) T
  obtain ⟨fd, F⟩ : ∃ fd, FunD K "left_over" "left_over" (defArgs s_left_over) (defBody s_left_over) (defScope s_left_over) [] [] (He.fAd K ("left_over", none)) fd := T.says.d.def_ 72 rfl
  refine ⟨fd, [], F.ok sc_left_over (fun vs H Q E h => ?_) (fun cdv A outer s H vs Q E hr h => ?_), .nil, F.bindsN (fun _ _ _ _ _ _ us hl => match us, hl with | [_, _], _ => rfl), F.kp⟩
  · obtain ⟨_, _, rfl, _⟩ := h; rfl
  · refine ⟨_, PSs.nox (pss_cons (ps_set (i := 2) sc_left_over.nd rfl (by first | exact Or.inl rfl | exact Or.inr rfl) (pe_lst pa_nil))
    (pss_cons (ps_for PassesOwn.never rfl (pi_listK K (pv 0)) (pg_tupK K rfl (pgs_cons (pg_name (i := 3) sc_left_over.nd rfl (by first | exact Or.inl rfl | exact Or.inr rfl)) (pgs_cons (pg_name (i := 4) sc_left_over.nd rfl (by first | exact Or.inl rfl | exact Or.inr rfl)) pgs_nil))) (pss_cons (ps_setLc (i := 5) (own := [("_", 6), ("words", 7)]) (g := (gTup K 2 (gCons (gName 6) (gCons (gName 7) gNil)))) (tt := tYes) rfl sc_left_over.nd rfl rfl (sw_true rfl rfl rfl (by decide +kernel)) (pi_listK K (pe_ok O_long_pieces T.n_long_pieces hr (by decide) (by rfl) (pa_cons (pv 4) (pa_cons (pv 1) pa_nil)))) (blkOk_by (own := [("_", 6), ("words", 7)]) (N := N_left_over) (sc := defScope s_left_over) (by decide +kernel)) (fun _ _ _ _ _ => (pg_tupK K rfl (pgs_cons (pg_name (i := 6) sc_left_over.nd rfl (by first | exact Or.inl rfl | exact Or.inr rfl)) (pgs_cons (pg_name (i := 7) sc_left_over.nd rfl (by first | exact Or.inl rfl | exact Or.inr rfl)) pgs_nil)))) (fun _ _ _ _ _ => pts_nil) (fun _ _ _ _ _ => (pe_callTy (call_listofK K) (by rfl) T.f_list (by decide +kernel) (pa_cons (pv 7) pa_nil))))
    (pss_one (ps_if (pt_truthK K (pv 5) (by intro _; rfl)) (pss_one (ps_expr (pe_bmK K PySem.F.plainAttrs_list PySem.F.slot_list_append PySem.F.type_list_append mt_append (pv 2) (pa_cons (pe_tup (pa_cons (pv 3) (pa_cons (pv 5) pa_nil))) pa_nil)))) pss_nil))))
    (pss_one (ps_ret (pv 2))))), ?_⟩
    obtain ⟨⟨v1, n, ps⟩, F0, rfl, fh, ⟨h1, hn, hpo⟩, k⟩ := h
    dsimp only at h1 hn hpo k ⊢
    obtain ⟨a1, vs1, rfl, ha1, hp1⟩ := h1
    walk_at "s"
    refine ⟨x_lt (by decide), fun r H1 nr => ?_⟩
    obtain ⟨g1, o1⟩ := nr.own fh
    walk_at "s"
    refine ⟨a1, rfl, ⟨_, SqL.of (g1.hh _ _ (fh _ _ ha1))⟩, ?_⟩
    refine for_kL (r := kPs) (xs := ps) g1 ha1 hp1 (fun i σ F H => ∃ (vs : List V) (rs : List (Int × List (List Str))) (x1 x2 x3 x4 x5 : Option V), σ = [some (.ref a1), some (.int n), some (.ref r), x1, x2, x3, x4, x5] ∧ Own F H r (.lst vs) ∧ Paired (kLo.p F) vs rs ∧ rs.length ≤ i ∧ (rs.map (·.1)).Sublist ((ps.take i).map (·.1)) ∧ ∀ r ∈ rs, LoOk r) ⟨[], [], _, _, _, _, _, rfl, o1, .nil, Nat.zero_le _, by simp, fun _ h => by simp at h⟩ ?_ ?_
    · rintro i p v σ1 F3 H3 N hx hi hv G3 s3 ⟨vs, rs, x1, x2, x3, x4, x5, rfl, o1, hp, hl, hsub, hok⟩ kN
      obtain ⟨po1, po2, _⟩ := hpo p (List.mem_of_getElem? hx)
      obtain ⟨hi2, ei⟩ := List.getElem?_eq_some_iff.mp hx
      obtain ⟨b, y1, y2, rfl, hb, hy1, hy2⟩ := hv
      have hy1' : y1 = .int p.1 := hy1
      subst hy1'
      walk_at "s"
      refine x_gT (G3.fh _ _ hb) rfl ?_
      walk_at "s"
      refine ⟨(y2, n, p.2), F3, rfl, G3.fh, ⟨hy2, by omega⟩, fun v4 F4 H4 g4 hv4 => ?_⟩
      obtain ⟨qs, ⟨a5, vs5, rfl, ha5, hp5⟩, hsl⟩ := hv4
      have hql := hsl.length_le
      have G4 := G3.trans g4
      refine ⟨a5, rfl, ⟨_, SqL.of (G4.fh _ _ ha5)⟩, lc_kL (r := kPc) (s := kL kS) G4.fh ha5 hp5 (by rw [sizeLine_eq]; omega) (fun x y => y = x.2) ?_ ?_⟩
      · intro j d v F6 H6 N6 hx6 hv g6 kN6
        obtain ⟨b6, z1, z2, rfl, hb6, hz1, hz2⟩ := hv
        obtain ⟨a7, rfl, ha7⟩ := kLS hz2
        walk_at "s"
        refine x_gT (g6.at hb6) rfl ?_
        walk_at "s"
        refine ⟨rfl, ?_⟩
        walk_at "s"
        refine x_listof (g6.at ha7) fun t H7 nt => ?_
        obtain ⟨F7, g7, e7⟩ := nt.fix g6.fh
        exact kN6 _ _ _ d.2 g7 (kLS' e7) rfl
      intro p8 F8 H8 ys8 np8 g8 hk8 pp8
      have e8 := paired_fun (f := fun x : Int × List Str => x.2) pp8
      subst e8
      obtain ⟨_, vs8, er, ha8, hp8⟩ := hk8
      cases er
      have G8 := G4.trans g8
      have o8 := (o1.go g4).go g8
      have s8 := g4.ff.trans g8.ff
      have hvl := hp.length
      have hi100 : i < 100 := by omega
      walk_at "s"
      refine ⟨_, Or.inl ⟨vs8, SqL.of (G8.fh _ _ ha8), rfl⟩, ?_⟩
      refine x_any ?_ ?_
      · walk_at "s"
        refine ⟨x_tyL o8.h, ?_⟩
        walk_at "s"
        refine ⟨x_lt (Nat.le_of_ble_eq_true rfl), fun t H10 nt => ?_⟩
        obtain ⟨F10, g10, e10⟩ := nt.fix G8.fh
        have o10 := o8.go g10
        walk_at "s"
        refine x_app o10.h (by rw [sizeLine_eq]; omega) fun H11 c11 => ?_
        walk_at "s"
        refine kN _ _ _ (c11.gr (G8.trans g10) o10.f nr.fr) (s8.trans g10.ff) ⟨_, rs ++ [(p.1, qs.map (·.2))], _, _, _, _, _, rfl, c11.own o10, ?_, by rw [List.length_append, List.length_singleton]; omega, ?_, fun r hr => ?_⟩
        · exact (L2.Paired.mapP hp fun _ _ h => kLo.mono (s8.trans g10.ff) h).snoc ⟨t, _, _, rfl, e10, rfl, (kL (kL kS)).mono g10.ff ⟨p8, vs8, rfl, ha8, hp8⟩⟩
        · rw [List.take_succ_eq_append_getElem hi2, ei, List.map_append, List.map_append]
          exact hsub.append (List.Sublist.refl _)
        · rcases List.mem_append.mp hr with h | h
          · exact hok r h
          · rw [List.mem_singleton.mp h]
            refine ⟨by dsimp only; rw [List.length_map]; omega, fun w hw => ?_⟩
            obtain ⟨q, hq, rfl⟩ := List.mem_map.mp hw
            exact Nat.le_trans (sum_mem (f := fun p : Int × List Str => p.2.length) (hsl.subset hq)) po2
      · walk_at "s"
        refine kN _ _ _ G8 s8 ⟨_, rs, _, _, _, _, _, rfl, o8, L2.Paired.mapP hp fun _ _ h => kLo.mono s8 h, by omega, ?_, hok⟩
        rw [List.take_succ_eq_append_getElem hi2, List.map_append]
        exact hsub.trans (List.sublist_append_left _ _)
    · rintro σ1 F3 H3 G3 s3 ⟨vs, rs, x1, x2, x3, x4, x5, rfl, o1, hp, hl, hsub, hok⟩
      rw [List.take_length] at hsub
      walk_at "s"
      exact k _ _ _ (G3.fix o1.h nr.fr o1.f) ⟨rs, ⟨r, vs, rfl, upd_same, L2.Paired.mapP hp fun _ _ h => kLo.mono (same_new o1.f) h⟩, hl, hsub, hok⟩
end Ck
namespace Ck
open PySem PySem.Spec L2 PyProof.Rows
/-! dict comprehensions with keys of either kind, to a name -/
section
variable {X : Cx} {pins : List (Addr × Obj)} {σ : L2.St} {H : Hp} {s : Shared}
theorem dset_put {H' : Hp} {E : Value → Shared → Prop} {D : Addr} {y v : V} {u r : Value} {Q : Unit → Shared → Prop} (hu : X.A.units + 1 < cLine) (I : Inv X pins σ H s) (g : DPut H D y v H') (ry : RelV y u) (rv : RelV v r)
    (h : ∀ s', Inv X pins σ H' s' → Q () s') : wpAny (model X.prog X.w) X.A (dictSet D u r) Q E s := by
  rcases g with ⟨kvs, k, e, ey, l, eH⟩ | ⟨kvs, k, b, e, ey, eb, l, eH⟩ <;> subst ey eH
  · exact d_dictSet I e l ry rv h
  · cases (show u = Value.ref b from ry)
    obtain ⟨z, hd, ps, rel, dd⟩ := dt_of I.hok e
    have z2 : ps.length ≤ sizeLine := by rw [← Paired.length rel]; exact z
    have z3 : (putK kvs k v).length ≤ sizeLine := by have := length_putK kvs k v; omega
    refine wpAny_dictSet_heap (hsz := z2) (Nat.lt_of_succ_lt hu) (key_of I.hok eb) dd fun h' dd' same => h _ ?_
    obtain ⟨q, es, ep, c1, c2, c3, c4, _, c5⟩ := dd'
    refine d_write I (by rw [e]; exact True.intro) same ⟨q, c1⟩ ⟨z3, hd, _, (rel.put k eb rv).keeps fun c ys ec => ?_, q, es, ep, c1, c2, c3, c4, c5⟩
    rw [upd_ne (ne_of ec e (fun z => nomatch z))]; exact ec
/-- {k: v for target in iter}: D the new dict -/
def tDcP (o : HO) (wi : TI) (g : TG) (tk tv : TE) (vs : List Nat) : TE := fun σ H Q => wi σ H fun J H1 => ∀ D, H1 D = none → ∃ W : Nat → Nat → Hp → Prop, (∃ m, W 0 m (upd H1 D o)) ∧ ∀ i m H, W i m H → (J.stop i H ∧ Q (.ref D) H) ∨
  (J.go i H ∧ ∃ Nx : Hp → Prop, (∀ H', Nx H' → ∃ m', m' < m ∧ W (i + 1) m' H') ∧ ∀ x H', J.yld i H x H' → g x (wipe σ vs) H' fun σ2 H2 => wipe σ2 vs = wipe σ vs ∧ tk σ2 H2 fun y H4 => tv σ2 H4 fun z H5 => ∃ H6, DPut H5 D y z H6 ∧ Nx H6)
def EmptyD (o : HO) : Prop := ∀ (P : Program) (w : World) (H : Hp) (h : Heap), sysModules < h.objs.size → ObjOk P w H (h.push { cls := .type "dict", data := .dict #[] }) h.objs.size o
theorem emptyK : EmptyD (.dK []) := fun _ _ _ h q => dk_empty h q
theorem emptyT : EmptyD (.dT []) := fun _ _ _ h q => dt_empty h q
/-- in every block of the comprehension -/
abbrev InBlk (X : Cx) (scope : Scope) (φ : Cx → Prop) : Prop := ∀ (s : Shared) (H : Hp) (C : Addr) (cl : List (Str × Addr)) (fp : List Addr), φ (X.blk s H scope (compEnvC scope cl C X.env) fp)
theorem dcp_core {o : HO} {Q : VK} {kx vx tg iter : Expr} {scope : Scope} {own : List (Str × Nat)} {pos pos' : Pos} {wi : TI} {g : TG} {tk tv : TE} {use : Option (Value → Sem Unit)} {Qf : Value → Shared → Prop}
    (ho : EmptyD o) (hu : X.A.units + 1 < cLine) (hc : X.calm = true) (hN : X.N.Nodup) (I : Inv X pins σ H s) (hi : PI X tg iter wi) (ok : BlkOk X.N X.env.scope scope own)
    (hg : InBlk X scope fun Z => PG Z tg g) (hk : InBlk X scope fun Z => PE Z kx tk) (he : InBlk X scope fun Z => PE Z vx tv) (hs : ∀ x, foldedSetIterable iter X.env x = pure x) (h : tDcP o wi g tk tv (own.map (·.2)) σ H Q)
    (hRR : ∀ D C s' m H', Inv X pins σ H' s' → Q (.ref D) H' → s'.heap.Ns C m → FpOk X pins H' C → compPost (model X.prog X.w) X.A X.xe use Qf (.ref D) C (.ok .next) s') :
    wpAny (model X.prog X.w) X.A (comprehension (.DictComp kx vx [⟨tg, iter, [], 0⟩] scope pos) scope X.env pos' newDict false (eval iter X.env) use) Qf X.xe s := by
  refine wpAny_comprehension_free (use := use) rfl hs (closure_ok fun y hy e => ?_) ok.kind (fun y hy e => by rw [ok.uniq y hy, e]) (thn (hi.run pins s σ H _ I h) fun _ _ hx => thn hx fun _ t0 h2 => ?_)
  · exact (ok.free y hy e).elim (fun k => I.ok.has _ (.inl k)) fun k => I.ok.has _ (.inr k)
  obtain ⟨it, fp, tn, J, Ha, e, I2, T, st2, f2, q⟩ := h2
  subst e
  refine wpAny_newObj_type (newEnv_comp ?_)
  generalize hD : t0.heap.objs.size = D
  obtain ⟨W, ⟨m0, w0⟩, turn⟩ := q D (I2.hok.fresh (Nat.le_of_eq hD))
  generalize ht : ({ t0 with heap := t0.heap.push { cls := .type "dict", data := .dict #[] } } : Shared) = t1
  have I3 : Inv X pins σ (upd Ha D o) t1 := by
    subst ht
    exact I2.laid (t' := t0.toks) (fun b o e => Heap.get?_push_of_some _ e) (Nat.le_of_eq hD) (hD ▸ ho _ _ _ t0.heap I2.big)
  have h3 : t1.heap = t0.heap.push { cls := .type "dict", data := .dict #[] } := by rw [← ht]
  have f3 : ∀ b ∈ fp, FpOk X pins (upd Ha D o) b ∧ b < t1.heap.objs.size := fun b hb => by
    obtain ⟨_, e, _⟩ := T.obj _ _ st2 b hb
    have lt := Heap.lt_size e
    exact ⟨⟨by rw [upd_ne (by rw [← hD]; exact Nat.ne_of_lt lt)]; exact (f2 b hb).1, (f2 b hb).2⟩, by rw [h3, Heap.size_push]; exact Nat.lt_succ_of_lt lt⟩
  have st3 : tn 0 t1.heap := T.keep _ _ _ st2 fun b _ o e => by rw [h3]; exact Heap.get?_push_of_some _ e
  have I4 := block_start I3 ok hN f3
  generalize hcl : cellsFrom (t1.heap.objs.size + 1) scope.names (cloFrom X.env.cells scope.names []) = cl at I4
  have pg := hg t1 (upd Ha D o) t1.heap.objs.size cl fp
  have pk := hk t1 (upd Ha D o) t1.heap.objs.size cl fp
  have pe := he t1 (upd Ha D o) t1.heap.objs.size cl fp
  show codeAny _ _ (.compStart (.DictComp kx vx [⟨tg, iter, [], 0⟩] scope pos) 0 (.ref it) (.ref D) (compEnvC scope cl t1.heap.objs.size X.env))
    (compPost (model X.prog X.w) X.A X.xe use Qf (.ref D) t1.heap.objs.size) { t1 with heap := pushCells (t1.heap.push { cls := .type "dict", data := .dict #[] }) scope.names }
  have nfp : ∀ b ∈ fp, (upd Ha D o) b = none := fun b hb => (f3 b hb).1.1
  generalize hce : compEnvC scope cl t1.heap.objs.size X.env = ce at I4 pg pk pe ⊢
  have cL : ce.locals = t1.heap.objs.size := by subst hce; rfl
  generalize hHb : upd Ha D o = Hb at I3 I4 pg pk pe w0 nfp f3
  generalize ht2 : ({ t1 with heap := pushCells (t1.heap.push { cls := .type "dict", data := .dict #[] }) scope.names } : Shared) = t2 at I4 ⊢
  have st4 : tn 0 t2.heap := T.keep _ _ _ st3 fun b _ o e => by rw [← ht2]; exact pushCells_keeps _ _ _ _ (Heap.get?_push_of_some _ e)
  have stat : ∀ {τ : L2.St} {Hz : Hp} {z : Shared}, Inv (X.blk t1 Hb scope ce fp) [] τ Hz z → (∀ b ∈ fp, Hz b = none) → ∀ b ∈ fp, FpOk (X.blk t1 Hb scope ce fp) [] Hz b := fun I' hn b hb =>
    ⟨hn b hb, (I'.ok.exf b hb).1, I'.ok.exfs b hb, .inl hb, fun x c e => (I'.ok.exf b hb).2 x c e, fun p hp => absurd (show p ∈ ([] : List (Addr × Obj)) ++ [] from hp) (by simp)⟩
  have loop : codeAny (model X.prog X.w) X.A (.compLoop (.DictComp kx vx [⟨tg, iter, [], 0⟩] scope pos) 0 (.ref it) (.ref D) ce) (compPost (model X.prog X.w) X.A X.xe use Qf (.ref D) t1.heap.objs.size) t2 := by
    refine compLoop_anyD (fun n z => ∃ i Hz, Inv (X.blk t1 Hb scope ce fp) [] (wipe σ (own.map (·.2))) Hz z ∧ tn i z.heap ∧ (∀ b ∈ fp, Hz b = none) ∧ W i n Hz) ?_ m0 ⟨0, Hb, I4, st4, nfp, w0⟩
    rintro n t5 ⟨i, H5, I5, st5, n5, w5⟩
    rcases turn i n H5 w5 with ⟨stop, qq⟩ | ⟨go, Nx, hNx, step⟩
    · refine thnF (T.done (X.blk t1 Hb scope ce fp) rfl rfl rfl hc i [] t5 _ H5 (fun _ _ => False) I5 (stat I5 n5) st5 stop) fun r t6 ⟨hr, I6⟩ => ?_
      subst hr
      have I7 : Inv X pins σ H5 t6 := I3.call' (ch := fp) I6.os I6.base I6.hok I6.bare fun b hb => ⟨(f3 b hb).1.2.2.2.1, (f3 b hb).1.2.1, (f3 b hb).1.2.2.2.2.1, (f3 b hb).1.2.2.2.2.2⟩
      have nC : H5 t1.heap.objs.size = none := cL ▸ (show H5 ce.locals = none from I6.free)
      obtain ⟨m, hn, _⟩ := I6.loc
      exact hRR D t1.heap.objs.size t6 m H5 I7 qq (cL ▸ (show t6.heap.Ns ce.locals m from hn)) (I3.fpOk (Nat.le_refl _) nC)
    · refine thnF (T.item (X.blk t1 Hb scope ce fp) rfl rfl rfl hc i [] t5 _ H5 (fun _ _ => False) I5 (stat I5 n5) st5 go) fun r t6 ⟨u, hr, h6⟩ => ?_
      subst hr
      refine thnF h6 fun _ t7 ⟨x, H7, I7, r7, y7, st7, n7⟩ => thnF (pg.run _ t7 _ H7 x u _ (I7.pinned (stat I7 n7) (T.obj _ _ st7)) r7 (step x H7 y7)) fun _ t8 ⟨τ, H8, I8, hw8, q8⟩ => ?_
      refine thnF ((pts_nil (X := X.blk t1 Hb scope ce fp)).run _ t8 τ H8 (fun b H9 => b = true ∧ H9 = H8) I8 ⟨rfl, rfl⟩) fun b t9 ⟨H9, I9, eb, e9⟩ => ?_
      subst eb e9
      simp only [if_true]
      refine thnF (pk.run _ t9 τ H9 _ I9 q8) fun z ta ⟨yk, Hk, Ik, rk, qk⟩ => thnF (pe.run _ ta τ Hk _ Ik qk) fun z2 tb ⟨yv, Hv, Iv, rv, Hw, put, nx⟩ => ?_
      refine dset_put (X := X.blk t1 Hb scope ce fp) hu Iv put rk rv fun tc Ic => ?_
      obtain ⟨m', hm, w'⟩ := hNx Hw nx
      have pin' : ∀ b ∈ fp, ∀ o, t7.heap.get? b = some o → tc.heap.get? b = some o ∧ Hw b = none := fun b hb o e =>
        let z := Ic.pin (b, o) (List.mem_append_right _ (List.mem_append_right _ (mem_pinsAt hb e))); ⟨z.1, z.2.1⟩
      refine ⟨m', hm, i + 1, Hw, (Ic.unpinned (pins := [])).weak (by rw [← hw8, wipe_length]) (fun j v e => ?_), T.keep _ _ _ st7 fun b hb o e => (pin' b hb o e).1, fun b hb => ?_, w'⟩
      · exact (wipe_some (hw8 ▸ e)).1
      · exact (T.obj _ _ st7 b hb).elim fun o e => (pin' b hb o e.1).2
  exact codeAny_compStart_dict loop (T.self X.A 0 _ _ _ st4 loop)
/-- name = {..} on one line -/
theorem ps_setDcP {o : HO} {i : Nat} {y : Str} {py : Pos} {kx vx tg iter : Expr} {scope : Scope} {own : List (Str × Nat)} {pos spos : Pos} {wi : TI} {g : TG} {tk tv : TE} (ho : EmptyD o) (hu : X.A.units + 1 < cLine) (hc : X.calm = true) (hN : X.N.Nodup) (hy : X.N[i]? = some y)
    (hyl : X.env.scope.names.lookup y = some .local) (hsw : swapsWith (.DictComp kx vx [⟨tg, iter, [], 0⟩] scope pos) (some (.Name y py)) spos.line X.env = pure true) (hi : PI X tg iter wi) (ok : BlkOk X.N X.env.scope scope own)
    (hg : InBlk X scope fun Z => PG Z tg g) (hk : InBlk X scope fun Z => PE Z kx tk) (he : InBlk X scope fun Z => PE Z vx tv) (hs : ∀ x, foldedSetIterable iter X.env x = pure x := by intro _; rfl) :
    PS X (.Assign [.Name y py] (.DictComp kx vx [⟨tg, iter, [], 0⟩] scope pos) spos) (tAsg (tDcP o wi g tk tv (own.map (·.2))) (gName i)) := by
  refine ⟨fun pins s σ H D I h => ?_⟩
  rw [exec_Assign_Name_used _ _ _ _ hsw]
  refine wpAny_bind (wpAny_standAt (wpAny_bind ?_))
  show wpAny _ X.A (do let _ ← comprehension (.DictComp kx vx [⟨tg, iter, [], 0⟩] scope pos) scope X.env (firstIterPos [⟨tg, iter, [], 0⟩] pos) newDict false (eval iter X.env) (some (assign (.Name y py) X.env))) _ _ s
  refine wpAny_bind (thn (dcp_core (Qf := fun _ s' => SP X pins D .next s') ho hu hc hN I hi ok hg hk he hs (show tDcP o wi g tk tv (own.map (·.2)) σ H (fun x H1 => gName i x σ H1 D.nx) from h) fun L C s' m H' I' q hn f => ?_) fun _ _ hq => wpAny_pure (wpAny_pure hq))
  show wpAny _ _ (assign (.Name y py) X.env (.ref L)) _ _ _
  refine wpAny_assign_Name (store_ok2 (v := V.ref L) I' hN hy (.inl hyl) rfl (fun z I2 ⟨a, sb, ha⟩ => ?_) (.inr hyl))
  obtain ⟨f0, f1, f2, f3, f4, f5⟩ := f
  refine ⟨m, hn.sameBut sb ?_, fun h3 sb3 => ⟨_, H', I2.turned (t' := z.toks) (fun b o hb e => (sb3.2 b hb).trans e) f0 f1 f3 f4 f5, q⟩⟩
  exact ha.elim (fun e => e ▸ f1) fun e q => f4 y a e q.symm
/-- as a value -/
theorem pe_dcP {o : HO} {kx vx tg iter : Expr} {scope : Scope} {own : List (Str × Nat)} {pos : Pos} {wi : TI} {g : TG} {tk tv : TE} (ho : EmptyD o) (hu : X.A.units + 1 < cLine) (hc : X.calm = true) (hN : X.N.Nodup) (hi : PI X tg iter wi) (ok : BlkOk X.N X.env.scope scope own)
    (hg : InBlk X scope fun Z => PG Z tg g) (hk : InBlk X scope fun Z => PE Z kx tk) (he : InBlk X scope fun Z => PE Z vx tv) (hs : ∀ x, foldedSetIterable iter X.env x = pure x := by intro _; rfl) : PE X (.DictComp kx vx [⟨tg, iter, [], 0⟩] scope pos) (tDcP o wi g tk tv (own.map (·.2))) := by
  refine ⟨fun pins s σ H Q I h => ?_⟩
  rw [arm_eval_DictComp]
  refine dcp_core ho hu hc hN I hi ok hg hk he hs h fun D C t m Hx It q hn f => ⟨m, hn, fun _ sb => ?_⟩
  obtain ⟨f0, f1, f2, f3, f4, f5⟩ := f; exact ⟨.ref D, Hx, It.turned (t' := t.toks) (fun b o hb e => (sb.2 b hb).trans e) f0 f1 f3 f4 f5, rfl, q⟩
theorem swD_true {kx vx : Expr} {gs : List Comprehension} {scope : Scope} {pos py : Pos} {y : Str} {l : Nat} {env : Env} (hk : env.scope.kind = .function) (hy : env.scope.names.lookup y = some .local) (hl : (py.line == pos.line) = true)
    (ha : (scope.names.any fun (n, k) => n == y && (k == .local || k == .cell)) = false) : swapsWith (.DictComp kx vx gs scope pos) (some (.Name y py)) l env = pure true := by
  have e1 : env.kindOf y = some .local := hy
  have e2 : env.blockKind = .function := by unfold Env.blockKind; rw [hk]; rfl
  unfold swapsWith; simp only [e2, e1, ha, Expr.pos, hl]; rfl
theorem r_dcp {o : HO} {wi : TI} {g : TG} {tk tv : TE} {vs : List Nat} {Q : VK} (h : wi σ H fun J H1 => ∀ D, H1 D = none → ∃ W : Nat → Nat → Hp → Prop, (∃ m, W 0 m (upd H1 D o)) ∧ ∀ i m H, W i m H → (J.stop i H ∧ Q (.ref D) H) ∨
  (J.go i H ∧ ∃ Nx : Hp → Prop, (∀ H', Nx H' → ∃ m', m' < m ∧ W (i + 1) m' H') ∧ ∀ x H', J.yld i H x H' → g x (wipe σ vs) H' fun σ2 H2 => wipe σ2 vs = wipe σ vs ∧ tk σ2 H2 fun y H4 => tv σ2 H4 fun z H5 => ∃ H6, DPut H5 D y z H6 ∧ Nx H6)) : tDcP o wi g tk tv vs σ H Q := h
end
end Ck

namespace Ck
open PySem PySem.Spec L2 CkM
local macro_rules | `(tactic| walk_at "s1") => `(tactic| first
  | (with_reducible refine r_seq ?_) | (with_reducible refine r_var (by with_unfolding_all rfl) ?_) | (with_reducible refine r_c ?_) | (with_reducible refine r_op ?_)
  | (with_reducible refine r_I0 ?_) | (with_reducible refine r_asgN ?_) | (with_reducible refine r_asg ?_) | (with_reducible refine r_ret ?_) | (with_reducible refine r_drop ?_)
  | (with_reducible refine r_cons ?_) | (with_reducible refine r_nil ?_) | (with_reducible refine r_CB ?_) | (with_reducible refine r_call ?_) | (with_reducible refine r_BM ?_)
  | (with_reducible refine r_if ?_) | (with_reducible refine r_test ?_) | (with_reducible refine r_tB ?_) | (with_reducible refine r_and ?_) | (with_reducible refine r_or ?_) | (with_reducible refine r_not ?_)
  | (with_reducible refine r_andV ?_) | (with_reducible refine r_orV ?_) | (with_reducible refine r_eqI ?_) | (with_reducible refine r_neI ?_) | (with_reducible refine r_eqS ?_) | (with_reducible refine r_neS ?_) | (with_reducible refine r_neB ?_)
  | (with_reducible refine x_b ?_) | (with_reducible refine x_ii ?_) | (with_reducible refine x_ss ?_) | (with_reducible refine x_i ?_) | (with_reducible refine x_s ?_) | (with_reducible refine x_li ?_) | (with_reducible refine x_ls ?_) | (with_reducible refine x_lii ?_)
  | (with_reducible refine r_un ?_) | (with_reducible refine r_U ?_) | (with_reducible refine r_gN ?_) | (with_reducible refine r_aug (by with_unfolding_all rfl) ?_) | (with_reducible refine r_ip ?_) | (with_reducible refine r_tup ?_) | (with_reducible refine r_lst ?_)
  | (with_reducible refine r_fld ?_) | (with_reducible refine r_for ?_) | (with_reducible refine r_iL ?_) | (with_reducible refine r_iR1 ?_) | (with_reducible refine r_iR2 ?_) | (with_reducible refine r_iS ?_) | (with_reducible refine r_sl ?_) | (with_reducible refine r_po0 ?_) | (with_reducible refine r_po1 ?_)
  | (with_reducible refine r_tru ?_) | (with_reducible refine r_augS ?_) | (with_reducible refine r_iR3 ?_) | (with_reducible refine r_lc ?_) | (with_reducible refine r_gC ?_) | (with_reducible refine r_gNil ?_) | (with_reducible refine r_mk ?_) | (with_reducible refine r_mt ?_) | (with_reducible refine r_sfld ?_) | (with_reducible refine r_sfa ?_) | (with_reducible refine r_add ?_)
  | (with_reducible refine r_dput ?_) | (with_reducible refine r_gFld ?_) | (with_reducible refine r_dcp ?_) | (with_reducible refine r_dsetT ?_) | (with_reducible refine r_BM0 ?_) | (with_reducible refine r_dget ?_) | (with_reducible refine r_dget2 ?_) | (with_reducible refine r_din ?_) | (with_reducible refine r_dnin ?_) | (with_reducible refine r_dnK ?_) | (with_reducible refine r_dnT ?_) | (with_reducible refine x_isN ?_) | (with_reducible refine r_next ?_) | (with_reducible refine r_retN ?_) | (with_reducible refine r_yes ?_) | (with_reducible refine x_t ?_) | (with_reducible refine x_f ?_))
local macro_rules | `(tactic| walk_at "s") => `(tactic| repeat walk_at "s1")

/-! D_corp3.src -/
/-- what a dict made by a comprehension holds -/
structure DkP {β : Type} (s : R β) (F : Hp) (kvs : List (L2.Key × V)) (xs : List (L2.Key × β)) : Prop where
  mem : ∀ p ∈ kvs, ∃ x ∈ xs, p.1 = x.1 ∧ s.p F p.2 x.2
  has : ∀ x ∈ xs, ∃ v, valV kvs x.1 = some v
  len : kvs.length ≤ xs.length
theorem DkP.up {β : Type} {s : R β} {F F' : Hp} {kvs : List (L2.Key × V)} {xs : List (L2.Key × β)} (h : DkP s F kvs xs) (e : Same F F') : DkP s F' kvs xs :=
  ⟨fun p hp => (h.mem p hp).imp fun _ q => ⟨q.1, q.2.1, s.mono e q.2.2⟩, h.has, h.len⟩
theorem DkP.at {β : Type} {s : R β} {F : Hp} {kvs : List (L2.Key × V)} {xs : List (L2.Key × β)} (h : DkP s F kvs xs) {x : L2.Key × β} (hx : x ∈ xs) : ∃ v y, valV kvs x.1 = some v ∧ y ∈ xs ∧ s.p F v y.2 := by
  obtain ⟨v, e⟩ := h.has x hx
  obtain ⟨y, hy, _, h3⟩ := h.mem _ (valV_mem e)
  exact ⟨v, y, e, hy, h3⟩
theorem DkP.put {β : Type} {s : R β} {F : Hp} {kvs : List (L2.Key × V)} {xs : List (L2.Key × β)} {x : L2.Key × β} {v : V} (h : DkP s F kvs xs) (hv : s.p F v x.2) : DkP s F (putK kvs x.1 v) (xs ++ [x]) := by
  refine ⟨fun p hp => ?_, fun y hy => ?_, ?_⟩
  · rcases putK_mem hp with q | q
    · obtain ⟨y, h1, h2⟩ := h.mem p q
      exact ⟨y, by simp [h1], h2⟩
    · rw [q]
      exact ⟨x, by simp, rfl, hv⟩
  · rw [valV_put]
    by_cases e : y.1 = x.1
    · rw [if_pos e]; exact ⟨_, rfl⟩
    · rw [if_neg e]
      rcases List.mem_append.mp hy with q | q
      · exact h.has y q
      · rw [List.mem_singleton.mp q] at e; exact absurd rfl e
  · have := length_putK kvs x.1 v
    have := h.len
    rw [List.length_append, List.length_singleton]
    omega
theorem dcp_kL {α β : Type} {K : PySem.W.Frag} {F H : Hp} {σ : L2.St} {a : Addr} {g : TG} {tk tv : TE} {vs : List Nat} {Qd : Addr → Hp → Prop} {r : R α} {s : R β} {kb : α → L2.Key × β} {xs : List α} {ws : List V}
    (fh : Same F H) (ha : F a = some (.lst ws)) (hp : Paired (r.p F) ws xs) (hn : xs.length ≤ 1000000)
    (hs : ∀ (i : Nat) x v F1 H1 (N : V → V → Hp → Prop), xs[i]? = some x → r.p F1 v x → Gr F H F1 H1 → (∀ z F' H', Gr F1 H1 F' H' → s.p F' z (kb x).2 → N (kV (kb x).1) z H') →
      g v (wipe σ vs) H1 fun σ2 H2 => wipe σ2 vs = wipe σ vs ∧ tk σ2 H2 fun y H4 => tv σ2 H4 fun z H5 => N y z H5)
    (hd : ∀ p kvs F' H', H p = none → Gr F H F' H' → Own F' H' p (.dK kvs) → DkP s F' kvs (xs.map kb) → Qd p H') :
    ∀ D, H D = none → ∃ W : Nat → Nat → Hp → Prop, (∃ m, W 0 m (upd H D (.dK []))) ∧ ∀ i m H, W i m H → ((Itl K a).stop i H ∧ Qd D H) ∨ ((Itl K a).go i H ∧ ∃ Nx : Hp → Prop, (∀ H', Nx H' → ∃ m', m' < m ∧ W (i + 1) m' H') ∧
      ∀ x H', (Itl K a).yld i H x H' → g x (wipe σ vs) H' fun σ2 H2 => wipe σ2 vs = wipe σ vs ∧ tk σ2 H2 fun y H4 => tv σ2 H4 fun z H5 => ∃ H6, DPut H5 D y z H6 ∧ Nx H6) := by
  intro D hD
  have hl := hp.length
  let Pv : Nat → Hp → Prop := fun i H1 => ∃ F1 kvs, Gr F H F1 H1 ∧ Own F1 H1 D (.dK kvs) ∧ DkP s F1 kvs ((xs.take i).map kb)
  refine ⟨fun i m H => m = xs.length - i ∧ i ≤ xs.length ∧ Pv i H, ⟨xs.length, by simp, Nat.zero_le _, F, [], Gr.newM fh hD, ⟨upd_same, fh.free hD⟩, ⟨fun _ h => by simp at h, fun _ h => by simp at h, by simp⟩⟩, ?_⟩
  rintro i m H1 ⟨rfl, hi, F1, kvs, g1, ow, dk⟩
  have qa : SqL K H1 a ws := SqL.of (g1.fh _ _ (g1.ff _ _ ha))
  by_cases lt : i < xs.length
  · refine .inr ⟨⟨ws, ws[i]'(by omega), qa, by simp⟩, Pv (i + 1), fun H' p' => ⟨xs.length - (i + 1), by omega, rfl, lt, p'⟩, fun v H' y => ?_⟩
    obtain ⟨eH, hv⟩ := y
    rw [eH]
    have hv := hv ws qa
    obtain ⟨x, hx, hr⟩ := paired_get hp hv
    obtain ⟨hi2, ex⟩ := List.getElem?_eq_some_iff.mp hx
    refine hs i x v F1 H1 (fun y z H5 => ∃ H6, DPut H5 D y z H6 ∧ Pv (i + 1) H6) hx (r.mono g1.ff hr) g1 fun z F' H' g' hz => ?_
    have ow' := ow.go g'
    have len := dk.len
    rw [List.length_map, List.length_take] at len
    have c : Chg H' D (.dK (putK kvs (kb x).1 z)) (upd H' D (.dK (putK kvs (kb x).1 z))) := rfl
    refine ⟨_, DPut.k ow'.h (by rw [sizeLine_eq]; omega), F', _, c.gr (g1.trans g') ow'.f hD, c.own ow', ?_⟩
    rw [List.take_succ_eq_append_getElem hi2, ex, List.map_append]
    exact (dk.up g'.ff).put hz
  · have e : i = xs.length := by omega
    subst e
    rw [List.take_length] at dk
    exact .inl ⟨⟨ws, qa, by omega⟩, hd D kvs F1 H1 hD g1 ow dk⟩
/-- tuples of words -/
def kTS : R (List Str) := ⟨fun F v ws => ∃ a, v = .ref a ∧ F a = some (.tup (ws.map V.str)), fun e ⟨a, h1, h2⟩ => ⟨a, h1, e _ _ h2⟩⟩
theorem dcp_tS {K : PySem.W.Frag} {F H : Hp} {σ : L2.St} {a : Addr} {g : TG} {tk tv : TE} {vs : List Nat} {Qd : Addr → Hp → Prop} {xs : List (List Str)} {ws : List V}
    (fh : Same F H) (ha : F a = some (.lst ws)) (hp : Paired (kTS.p F) ws xs) (hn : xs.length ≤ 1000000)
    (hs : ∀ (i : Nat) x v F1 H1 (N : V → V → Hp → Prop), xs[i]? = some x → kTS.p F1 v x → Gr F H F1 H1 → (∀ z F' H', Gr F1 H1 F' H' → N v z H') →
      g v (wipe σ vs) H1 fun σ2 H2 => wipe σ2 vs = wipe σ vs ∧ tk σ2 H2 fun y H4 => tv σ2 H4 fun z H5 => N y z H5)
    (hd : ∀ p kvs F' H', H p = none → Gr F H F' H' → Own F' H' p (.dT kvs) → Qd p H') :
    ∀ D, H D = none → ∃ W : Nat → Nat → Hp → Prop, (∃ m, W 0 m (upd H D (.dT []))) ∧ ∀ i m H, W i m H → ((Itl K a).stop i H ∧ Qd D H) ∨ ((Itl K a).go i H ∧ ∃ Nx : Hp → Prop, (∀ H', Nx H' → ∃ m', m' < m ∧ W (i + 1) m' H') ∧
      ∀ x H', (Itl K a).yld i H x H' → g x (wipe σ vs) H' fun σ2 H2 => wipe σ2 vs = wipe σ vs ∧ tk σ2 H2 fun y H4 => tv σ2 H4 fun z H5 => ∃ H6, DPut H5 D y z H6 ∧ Nx H6) := by
  intro D hD
  have hl := hp.length
  let Pv : Nat → Hp → Prop := fun i H1 => ∃ F1 kvs, Gr F H F1 H1 ∧ Own F1 H1 D (.dT kvs) ∧ kvs.length ≤ i
  refine ⟨fun i m H => m = xs.length - i ∧ i ≤ xs.length ∧ Pv i H, ⟨xs.length, by simp, Nat.zero_le _, F, [], Gr.newM fh hD, ⟨upd_same, fh.free hD⟩, Nat.le_refl _⟩, ?_⟩
  rintro i m H1 ⟨rfl, hi, F1, kvs, g1, ow, len⟩
  have qa : SqL K H1 a ws := SqL.of (g1.fh _ _ (g1.ff _ _ ha))
  by_cases lt : i < xs.length
  · refine .inr ⟨⟨ws, ws[i]'(by omega), qa, by simp⟩, Pv (i + 1), fun H' p' => ⟨xs.length - (i + 1), by omega, rfl, lt, p'⟩, fun v H' y => ?_⟩
    obtain ⟨eH, hv⟩ := y
    rw [eH]
    have hv := hv ws qa
    obtain ⟨x, hx, b, rfl, hb⟩ := paired_get hp hv
    have hb1 := g1.ff _ _ hb
    refine hs i x _ F1 H1 (fun y z H5 => ∃ H6, DPut H5 D y z H6 ∧ Pv (i + 1) H6) hx ⟨b, rfl, hb1⟩ g1 fun z F' H' g' => ?_
    have ow' := ow.go g'
    have c : Chg H' D (.dT (putK kvs (keyS x) z)) (upd H' D (.dT (putK kvs (keyS x) z))) := rfl
    have hlp := length_putK kvs (keyS x) z
    exact ⟨_, DPut.t (k := keyS x) ow'.h (by rw [keyS_kV]; exact g'.at (g'.up hb1)) (by rw [sizeLine_eq]; omega), F', _, c.gr (g1.trans g') ow'.f hD, c.own ow', by omega⟩
  · have e : i = xs.length := by omega
    subst e
    exact .inl ⟨⟨ws, qa, by omega⟩, hd D kvs F1 H1 hD g1 ow⟩
/-! D_corp4.src -/
abbrev kPub : R (Int × Int × Int × List Str) := k4 kI kI kI (kL kS)
abbrev Pub := List (Int × Int × Int × List Str)
def PubOk (n : Nat) (rs : Pub) : Prop := rs.length ≤ n * 401 ∧ (rs.map fun r => r.2.2.2.length).sum ≤ n * 400 ∧ ∀ r ∈ rs, ∀ w ∈ r.2.2.2, w.length ≤ 400
theorem sub_sum {α : Type} {f : α → Nat} {xs ys : List α} (h : xs.Sublist ys) : (xs.map f).sum ≤ (ys.map f).sum := by
  induction h with
  | slnil => exact Nat.le_refl _
  | cons a _ ih => rw [List.map_cons, List.sum_cons]; omega
  | cons_cons a _ ih => rw [List.map_cons, List.map_cons, List.sum_cons, List.sum_cons]; omega
/-- a dict from ints to ints -/
def kDi : R (List (L2.Key × V)) := ⟨fun F v kvs => ∃ d, v = .ref d ∧ F d = some (.dK kvs) ∧ ∀ p ∈ kvs, ∃ n : Int, p.2 = .int n, fun e ⟨d, h1, h2, h3⟩ => ⟨d, h1, e _ _ h2, h3⟩⟩
def sp_published_rows (K : PySem.W.Frag) : Sp := SpOf (ι := V × V × V × CO × List (Int × Pcs) × List (L2.Key × V)) (fun i => [i.1, i.2.1, i.2.2.1]) (fun ⟨v1, v2, v3, c, ps, kvs⟩ F => (kCo K).p F v1 c ∧ (kL kPs).p F v2 ps ∧ kDi.p F v3 kvs ∧ ps.length ≤ 20 ∧ (∀ p ∈ ps, PcsOk p.2) ∧ (∀ p ∈ ps, p.1 ∈ c.docs.map (·.1)) ∧ c.docs.length ≤ 20)
  (fun ⟨_, _, _, _, ps, _⟩ F v => ∃ rs, (kL kPub).p F v rs ∧ PubOk 20 rs)
theorem ok_published_rows {P : Program} {w : World} {K : PySem.W.Frag} {mg : Str → Option Value} {base : Heap} (T : Tx K mg) : Okd P w K mg base 2 ("published_rows", none) ["contents", "pieces", "kept"] [] (sp_published_rows K) := by
  have O_long_pieces := ok_long_pieces (P := P) (w := w) (base := base) T
  obtain ⟨fd, F⟩ : ∃ fd, FunD K "published_rows" "published_rows" (defArgs s_published_rows) (defBody s_published_rows) (defScope s_published_rows) [] [] (He.fAd K ("published_rows", none)) fd := T.says.d.def_ 73 rfl
  refine ⟨fd, [], F.ok sc_published_rows (fun vs H Q E h => ?_) (fun cdv A outer s H vs Q E hr h => ?_), .nil, F.bindsN (fun _ _ _ _ _ _ us hl => match us, hl with | [_, _, _], _ => rfl), F.kp⟩
  · obtain ⟨_, _, rfl, _⟩ := h; rfl
  · have hu := hu_of hr; refine ⟨_, PSs.nox (pss_cons (ps_setDcP (i := 3) (own := [("number", 5), ("source", 9), ("_", 10)]) (g := (gTup K 3 (gCons (gName 5) (gCons (gName 9) (gCons (gName 10) gNil))))) emptyK hu rfl sc_published_rows.nd rfl rfl (swD_true rfl rfl rfl (by decide +kernel)) (pi_listK K (pe_fldK K (pv 0))) (blkOk_by (own := [("number", 5), ("source", 9), ("_", 10)]) (N := N_published_rows) (sc := defScope s_published_rows) (by decide +kernel)) (fun _ _ _ _ _ => (pg_tupK K rfl (pgs_cons (pg_name (i := 5) sc_published_rows.nd rfl (by first | exact Or.inl rfl | exact Or.inr rfl)) (pgs_cons (pg_name (i := 9) sc_published_rows.nd rfl (by first | exact Or.inl rfl | exact Or.inr rfl)) (pgs_cons (pg_name (i := 10) sc_published_rows.nd rfl (by first | exact Or.inl rfl | exact Or.inr rfl)) pgs_nil))))) (fun _ _ _ _ _ => (pv 5)) (fun _ _ _ _ _ => (pv 9)))
    (pss_cons (ps_set (i := 4) sc_published_rows.nd rfl (by first | exact Or.inl rfl | exact Or.inr rfl) (pe_lst pa_nil))
    (pss_cons (ps_for PassesOwn.never rfl (pi_listK K (pv 1)) (pg_tupK K rfl (pgs_cons (pg_name (i := 5) sc_published_rows.nd rfl (by first | exact Or.inl rfl | exact Or.inr rfl)) (pgs_cons (pg_name (i := 6) sc_published_rows.nd rfl (by first | exact Or.inl rfl | exact Or.inr rfl)) pgs_nil))) (pss_one (ps_if (pt_cmpR op_eq (pe_dget2 hu (pv 2) (pv 5) (pe_un un_neg pe_int) ⟨rfl, rfl, rfl, rfl⟩) (pv 5) (nomark _)) (pss_one (ps_for PassesOwn.never rfl (pi_listK K (pe_ok O_long_pieces T.n_long_pieces hr (by decide) (by rfl) (pa_cons (pv 6) (pa_cons (pe_fldK K (pe_fldK K (pv 0))) pa_nil)))) (pg_tupK K rfl (pgs_cons (pg_name (i := 7) sc_published_rows.nd rfl (by first | exact Or.inl rfl | exact Or.inr rfl)) (pgs_cons (pg_name (i := 8) sc_published_rows.nd rfl (by first | exact Or.inl rfl | exact Or.inr rfl)) pgs_nil))) (pss_one (ps_expr (pe_bmK K PySem.F.plainAttrs_list PySem.F.slot_list_append PySem.F.type_list_append mt_append (pv 4) (pa_cons (pe_tup (pa_cons (pv 5) (pa_cons (pe_dget hu (pv 3) (pv 5) (fun _ _ => rfl)) (pa_cons (pv 7) (pa_cons (pe_callTy (call_listofK K) (by rfl) T.f_list (by decide +kernel) (pa_cons (pv 8) pa_nil)) pa_nil))))) pa_nil)))))) pss_nil)))
    (pss_one (ps_ret (pv 4)))))), ?_⟩
    obtain ⟨⟨v1, v2, v3, c, ps, kvs⟩, F0, rfl, fh, ⟨h1, h2, h3, hn, hpo, hin, hnd⟩, k⟩ := h
    dsimp only at h1 h2 h3 hn hpo hin hnd k ⊢
    obtain ⟨a1, dx, fs, rfl, ha1, hf⟩ := h1
    obtain ⟨a2, vs2, rfl, ha2, hp2⟩ := h2
    obtain ⟨a3, rfl, ha3, hk3⟩ := h3
    obtain ⟨xd, ld, ad, vd, rfl, had, hpd⟩ := hf.documents
    obtain ⟨xr, lr, ar, dxr, fsr, rfl, har, hfr⟩ := hf.rules
    walk_at "s"
    refine ⟨_, _, _, _, _, rfl, fh _ _ ha1, T.c_Contents, T.a_Contents_documents, ld, ?_⟩
    refine ⟨ad, rfl, ⟨_, SqL.of (fh _ _ had)⟩, dcp_kL (r := kDoc) (s := kI) (kb := fun d => (Sum.inl d.1, d.2.1)) fh had hpd (by omega) ?_ ?_⟩
    · intro i d v F1 H1 N hx hv g1 kN
      obtain ⟨b, y1, y2, y3, rfl, hb, hy1, hy2, hy3⟩ := hv
      have hy1' : y1 = .int d.1 := hy1
      subst hy1'
      walk_at "s"
      refine x_gT (g1.at hb) rfl ?_
      walk_at "s"
      refine ⟨rfl, ?_⟩
      walk_at "s"
      exact kN _ _ _ (Gr.refl g1.fh) hy2
    intro p1 kv1 F1 H1 np1 g1 o1 dk1
    have G1x := g1.fix o1.h np1 o1.f
    generalize hF1 : upd F1 p1 (.dK kv1) = F1x at G1x
    have hd1 : F1x p1 = some (.dK kv1) := by rw [← hF1]; exact upd_same
    clear g1 o1
    walk_at "s"
    refine ⟨x_lt (by decide), fun r H2 nr => ?_⟩
    obtain ⟨g2, o2⟩ := nr.own G1x.fh
    have G2 := G1x.trans g2
    have zr : H r = none := G1x.hh.free nr.fr
    walk_at "s"
    refine ⟨a2, rfl, ⟨_, SqL.of (G2.hh _ _ (fh _ _ ha2))⟩, ?_⟩
    refine for_kL (r := kPs) (xs := ps) G2 (G2.ff _ _ ha2) (L2.Paired.mapP hp2 fun _ _ h => kPs.mono G2.ff h) (fun i σ F H => ∃ (vs : List V) (rs : Pub) (x1 x2 x3 x4 x5 x6 : Option V), σ = [some (.ref a1), some (.ref a2), some (.ref a3), some (.ref p1), some (.ref r), x1, x2, x3, x4, x5, x6] ∧ Own F H r (.lst vs) ∧ Paired (kPub.p F) vs rs ∧ PubOk i rs) ⟨[], [], _, _, _, _, _, _, rfl, o2, .nil, by simp [PubOk]⟩ ?_ ?_
    · rintro i p v σ1 F3 H3 N hx hi hv G3 s3 ⟨vs, rs, x1, x2, x3, x4, x5, x6, rfl, o3, hp3, po1, po2, po3⟩ kN
      obtain ⟨b, y1, y2, rfl, hb, hy1, hy2⟩ := hv
      have hy1' : y1 = .int p.1 := hy1
      subst hy1'
      have hpm := List.mem_of_getElem? hx
      obtain ⟨pq1, pq2, pq3⟩ := hpo p hpm
      have hi20 : i < 20 := by omega
      have e3 : H3 a3 = some (.dK kvs) := G3.hh _ _ (fh _ _ ha3)
      obtain ⟨n, en⟩ : ∃ n : Int, (valV kvs (Sum.inl p.1)).getD (.int (-1)) = .int n := by
        cases h : valV kvs (Sum.inl p.1) with
        | none => exact ⟨-1, rfl⟩
        | some v =>
          obtain ⟨n, en⟩ := hk3 _ (valV_mem h)
          exact ⟨n, en⟩
      walk_at "s"
      refine x_gT (G3.fh _ _ hb) rfl ?_
      walk_at "s"
      refine ⟨a3, rfl, Or.inl ⟨_, Or.inl e3⟩, ?_⟩
      walk_at "s"
      refine ⟨_, DGet.k (k := Sum.inl p.1) e3, ?_⟩
      rw [en]
      walk_at "s"
      refine x_d (fun _ => ?_) (fun _ => ?_)
      · walk_at "s"
        refine ⟨_, _, _, _, _, rfl, G3.hh _ _ (fh _ _ ha1), T.c_Contents, T.a_Contents_rules, lr, ?_⟩
        refine ⟨_, _, _, _, _, rfl, G3.hh _ _ (fh _ _ har), T.c_Rules, T.a_Rules_piece_words, hfr.piece_words, ?_⟩
        walk_at "s"
        refine ⟨(y2, c.ru.pi, p.2), F3, rfl, G3.fh, ⟨hy2, by omega⟩, fun v4 F4 H4 g4 hv4 => ?_⟩
        obtain ⟨qs, ⟨a5, vs5, rfl, ha5, hp5⟩, hsl⟩ := hv4
        have hql := hsl.length_le
        have hqs : (qs.map fun q => q.2.length).sum ≤ 400 := Nat.le_trans (sub_sum hsl) pq2
        have G4 := G3.trans g4
        walk_at "s"
        refine ⟨a5, rfl, ⟨_, SqL.of (G4.fh _ _ ha5)⟩, ?_⟩
        refine for_kL (r := kPc) (xs := qs) G4 ha5 hp5 (fun j σ F H => ∃ (vs : List V) (rs : Pub) (x3 x4 x5 x6 : Option V), σ = [some (.ref a1), some (.ref a2), some (.ref a3), some (.ref p1), some (.ref r), some (.int p.1), some y2, x3, x4, x5, x6] ∧ Own F H r (.lst vs) ∧ Paired (kPub.p F) vs rs ∧ rs.length ≤ i * 401 + j ∧ (rs.map fun r => r.2.2.2.length).sum + ((qs.drop j).map fun q => q.2.length).sum ≤ (i + 1) * 400 ∧ ∀ r ∈ rs, ∀ w ∈ r.2.2.2, w.length ≤ 400)
          ⟨vs, rs, _, _, _, _, rfl, o3.go g4, L2.Paired.mapP hp3 fun _ _ h => kPub.mono g4.ff h, po1, by rw [List.drop_zero]; omega, po3⟩ ?_ ?_
        · rintro j d v σ2 F6 H6 N6 hx6 hj hv G6 s6 ⟨vs, rs, x3, x4, x5, x6, rfl, o6, hp6, q1, q2, q3⟩ kN6
          obtain ⟨b6, z1, z2, rfl, hb6, hz1, hz2⟩ := hv
          have hz1' : z1 = .int d.1 := hz1
          subst hz1'
          obtain ⟨a7, rfl, ha7⟩ := kLS hz2
          obtain ⟨d0, hd0, ed0⟩ := List.mem_map.mp (hin p hpm)
          obtain ⟨w8, y8, hw8, _, hk8⟩ := dk1.at (x := (Sum.inl d0.1, d0.2.1)) (List.mem_map.mpr ⟨d0, hd0, rfl⟩)
          have hk8' : w8 = .int y8.2 := hk8
          subst hk8'
          dsimp only at hw8
          rw [ed0] at hw8
          have e6 : H6 p1 = some (.dK kv1) := G6.fh _ _ ((((g2.ff.trans s3).trans g4.ff).trans s6) _ _ hd1)
          walk_at "s"
          refine x_gT (G6.fh _ _ hb6) rfl ?_
          walk_at "s"
          refine ⟨x_tyL o6.h, ?_⟩
          walk_at "s"
          refine ⟨p1, _, rfl, hw8 ▸ DGet.k (k := Sum.inl p.1) e6, ?_⟩
          walk_at "s"
          refine x_listof (G6.fh _ _ ha7) fun t H7 nt => ?_
          obtain ⟨F7, g7, e7⟩ := nt.fix G6.fh
          refine ⟨x_lt (Nat.le_of_ble_eq_true rfl), fun t8 H8 n8 => ?_⟩
          obtain ⟨F8, g8, e8⟩ := n8.fix g7.fh
          have o8 := (o6.go g7).go g8
          have s68 := g7.ff.trans g8.ff
          have l6 := hp6.length
          have ed : qs.drop j = d :: qs.drop (j + 1) := by
            obtain ⟨hi2, e⟩ := List.getElem?_eq_some_iff.mp hx6
            rw [← e, List.getElem_cons_drop]
          rw [ed, List.map_cons, List.sum_cons] at q2
          have hdm := hsl.subset (List.mem_of_getElem? hx6)
          walk_at "s"
          refine x_app o8.h (by rw [sizeLine_eq]; omega) fun H9 c9 => ?_
          walk_at "s"
          refine kN6 _ _ _ (c9.gr ((G6.trans g7).trans g8) o8.f zr) s68 ⟨_, rs ++ [(p.1, y8.2, d.1, d.2)], _, _, _, _, rfl, c9.own o8, ?_, by rw [List.length_append, List.length_singleton]; omega, ?_, fun q hq => ?_⟩
          · exact (L2.Paired.mapP hp6 fun _ _ h => kPub.mono s68 h).snoc ⟨t8, _, _, _, _, rfl, e8, rfl, rfl, rfl, kLS' (g8.up e7)⟩
          · rw [List.map_append, List.sum_append]
            simp only [List.map_cons, List.map_nil, List.sum_cons, List.sum_nil]
            omega
          · rcases List.mem_append.mp hq with h | h
            · exact q3 q h
            · rw [List.mem_singleton.mp h]; exact pq3 d hdm
        · rintro σ2 F6 H6 G6 s6 ⟨vs, rs, x3, x4, x5, x6, rfl, o6, hp6, q1, q2, q3⟩
          exact kN _ _ _ G6 (g4.ff.trans s6) ⟨vs, rs, _, _, _, _, _, _, rfl, o6, hp6, by rw [Nat.add_mul]; omega, by omega, q3⟩
      · walk_at "s"
        exact kN _ _ _ G3 (Same.refl _) ⟨vs, rs, _, _, _, _, _, _, rfl, o3, hp3, by rw [Nat.add_mul]; omega, by rw [Nat.add_mul]; omega, po3⟩
    · rintro σ1 F3 H3 G3 s3 ⟨vs, rs, x1, x2, x3, x4, x5, x6, rfl, o3, hp3, po1, po2, po3⟩
      walk_at "s"
      exact k _ _ _ (G3.fix o3.h zr o3.f) ⟨rs, ⟨r, vs, rfl, upd_same, L2.Paired.mapP hp3 fun _ _ h => kPub.mono (same_new o3.f) h⟩, by omega, by omega, po3⟩
/-! D_corp5.src -/
/-- as SpOf, and something is known of the heap itself -/
def SpOfH {ι : Type} (args : ι → List V) (pre : ι → Hp → Hp → Prop) (post : ι → Hp → V → Prop) : Sp := fun vs H Q _ =>
  ∃ (i : ι) (F : Hp), vs = args i ∧ Same F H ∧ pre i F H ∧ ∀ v F' H', Gr F H F' H' → post i F' v → Q v H'
def sp_published_words (K : PySem.W.Frag) : Sp := SpOfH (ι := Addr × Addr × List (Str × V) × V × Pub) (fun i => [.ref i.1]) (fun ⟨a, dx, fs, x, rs⟩ F H => H a = some (.ins (He.ga K "Corpus") dx fs) ∧ fs.lookup ("published" : Str) = some x ∧ (kL kPub).p F x rs ∧ PubOk 20 rs) (fun _ F v => ∃ ws, (kL kS).p F v ws ∧ ws.length ≤ 8000 ∧ ∀ w ∈ ws, w.length ≤ 400)
theorem ok_published_words {P : Program} {w : World} {K : PySem.W.Frag} {mg : Str → Option Value} {base : Heap} (T : Tx K mg) : Okd P w K mg base 1 ("published_words", none) ["corpus"] [] (sp_published_words K) := by
  obtain ⟨fd, F⟩ : ∃ fd, FunD K "published_words" "published_words" (defArgs s_published_words) (defBody s_published_words) (defScope s_published_words) [] [] (He.fAd K ("published_words", none)) fd := T.says.d.def_ 75 rfl
  refine ⟨fd, [], F.ok sc_published_words (fun vs H Q E h => ?_) (fun cdv A outer s H vs Q E hr h => ?_), .nil, F.bindsN (fun _ _ _ _ _ _ us hl => match us, hl with | [_], _ => rfl), F.kp⟩
  · obtain ⟨_, _, rfl, _⟩ := h; rfl
  · refine ⟨_, PSs.nox (pss_one (ps_ret (pe_lc2 (own := [("row", 1), ("word", 2)]) (vs1 := [2]) (g := (gName 1)) (g1 := (gName 2)) (tt := tYes) (tt1 := tYes) rfl sc_published_words.nd (pi_listK K (pe_fldK K (pv 0))) (blkOk_by (own := [("row", 1), ("word", 2)]) (N := N_published_words) (sc := defScope s_published_words) (by decide +kernel)) (by decide) (fun _ _ _ _ _ => (pg_name (i := 1) sc_published_words.nd rfl (by first | exact Or.inl rfl | exact Or.inr rfl))) (fun _ _ _ _ _ => pts_nil) (fun _ _ _ _ _ => (pi_listK K (pe_ix (ix_tupK K) (pv 1) pe_int (fun _ _ => rfl)))) (fun _ _ _ _ _ => (pg_name (i := 2) sc_published_words.nd rfl (by first | exact Or.inl rfl | exact Or.inr rfl))) (fun _ _ _ _ _ => pts_nil) (fun _ _ _ _ _ => (pv 2))))), ?_⟩
    obtain ⟨⟨a, dx, fs, x, rs⟩, F0, rfl, fh, ⟨ha, lx, h1, po1, po2, po3⟩, k⟩ := h
    dsimp only at ha lx h1 po1 po2 po3 k ⊢
    obtain ⟨a1, vs1, rfl, ha1, hp1⟩ := h1
    have hl1 := hp1.length
    walk_at "s"
    show iList K (tFld K (tVar 0) (Str.ofString "published")) _ _ _
    refine r_iL ?_
    walk_at "s"
    refine ⟨_, _, _, _, _, rfl, ha, T.c_Corpus, T.a_Corpus_published, lx, ?_⟩
    refine ⟨a1, rfl, ⟨_, SqL.of (fh _ _ ha1)⟩, fun D hD => ?_⟩
    let Pv : Nat → Hp → Prop := fun i H1 => ∃ (F1 : Hp) (acc : List Str), Gr F0 H F1 H1 ∧ Own F1 H1 D (.lst (acc.map V.str)) ∧ acc.length + ((rs.drop i).map fun r => r.2.2.2.length).sum ≤ 8000 ∧ ∀ w ∈ acc, w.length ≤ 400
    refine ⟨fun i m H => m = rs.length - i ∧ i ≤ rs.length ∧ Pv i H, ⟨rs.length, by simp, Nat.zero_le _, F0, [], Gr.newM fh hD, ⟨upd_same, fh.free hD⟩, by rw [List.drop_zero]; show 0 + _ ≤ _; omega, fun _ h => by simp at h⟩, ?_⟩
    rintro i m H1 ⟨rfl, hi, F1, acc, g1, ow, q1, q2⟩
    have qa : SqL K H1 a1 vs1 := SqL.of (g1.hh _ _ (fh _ _ ha1))
    by_cases lt : i < rs.length
    · refine .inr ⟨⟨vs1, vs1[i]'(by omega), qa, by simp⟩, Pv (i + 1), fun H' p' => ⟨rs.length - (i + 1), by omega, rfl, lt, p'⟩, fun v H' y => ?_⟩
      obtain ⟨eH, hv⟩ := y
      rw [eH]
      obtain ⟨r, hr, hkr⟩ := paired_get hp1 (hv vs1 qa)
      obtain ⟨b, y1, y2, y3, y4, rfl, hb, hy1, hy2, hy3, hy4⟩ := hkr
      obtain ⟨a4, rfl, ha4⟩ := kLS hy4
      have ed : rs.drop i = r :: rs.drop (i + 1) := by
        obtain ⟨hi2, e⟩ := List.getElem?_eq_some_iff.mp hr
        rw [← e, List.getElem_cons_drop]
      rw [ed, List.map_cons, List.sum_cons] at q1
      have hr3 := po3 r (List.mem_of_getElem? hr)
      walk_at "s"
      refine ⟨rfl, ?_⟩
      walk_at "s"
      refine x_ixT (g1.hh _ _ (fh _ _ hb)) rfl ?_
      have qb : ∀ F2 H2, Gr F0 H F2 H2 → SqL K H2 a4 (r.2.2.2.map V.str) := fun F2 H2 g2 => SqL.of (g2.hh _ _ (fh _ _ ha4))
      refine ⟨a4, rfl, ⟨_, qb F1 H1 g1⟩, ?_⟩
      refine ⟨fun j k H2 => k = r.2.2.2.length - j ∧ j ≤ r.2.2.2.length ∧ ∃ (F2 : Hp) (acc : List Str), Gr F0 H F2 H2 ∧ Own F2 H2 D (.lst (acc.map V.str)) ∧ acc.length + (r.2.2.2.length - j) + ((rs.drop (i + 1)).map fun r => r.2.2.2.length).sum ≤ 8000 ∧ ∀ w ∈ acc, w.length ≤ 400, ⟨_, rfl, Nat.zero_le _, F1, acc, g1, ow, by omega, q2⟩, ?_⟩
      rintro j k2 H2 ⟨rfl, hj, F2, acc, g2, ow, q1, q2⟩
      have qb2 := qb F2 H2 g2
      by_cases lt2 : j < r.2.2.2.length
      · refine .inr ⟨⟨_, (r.2.2.2.map V.str)[j]'(by rw [List.length_map]; exact lt2), qb2, by simp⟩, fun H3 => ∃ (F2 : Hp) (acc : List Str), Gr F0 H F2 H3 ∧ Own F2 H3 D (.lst (acc.map V.str)) ∧ acc.length + (r.2.2.2.length - (j + 1)) + ((rs.drop (i + 1)).map fun r => r.2.2.2.length).sum ≤ 8000 ∧ ∀ w ∈ acc, w.length ≤ 400, fun H' p' => ⟨_, ?_, rfl, lt2, p'⟩, fun v H' y => ?_⟩
        · omega
        obtain ⟨eH2, hv2⟩ := y
        rw [eH2]
        have hv2 := hv2 _ qb2
        rw [List.getElem?_map, List.getElem?_eq_getElem lt2] at hv2
        obtain rfl : V.str r.2.2.2[j] = v := Option.some.inj hv2
        walk_at "s"
        refine ⟨rfl, ?_⟩
        walk_at "s"
        have c : Chg H2 D (.lst (acc.map V.str ++ [.str r.2.2.2[j]])) (upd H2 D (.lst (acc.map V.str ++ [.str r.2.2.2[j]]))) := rfl
        refine ⟨_, ow.h, by rw [List.length_map, sizeLine_eq]; omega, F2, acc ++ [r.2.2.2[j]], c.gr g2 ow.f hD, by rw [List.map_append]; exact c.own ow, by rw [List.length_append, List.length_singleton]; omega, fun w hw => ?_⟩
        rcases List.mem_append.mp hw with h | h
        · exact q2 w h
        · rw [List.mem_singleton.mp h]; exact hr3 _ (List.getElem_mem _)
      · exact .inl ⟨⟨_, qb2, by rw [List.length_map]; omega⟩, F2, acc, g2, ow, by omega, q2⟩
    · have e : i = rs.length := by omega
      subst e
      exact .inl ⟨⟨vs1, qa, by omega⟩, k _ _ _ (g1.fix ow.h hD ow.f) ⟨acc, kLS' upd_same, by omega, q2⟩⟩
def sp_stream (K : PySem.W.Frag) : Sp := SpOfH (ι := Addr × Addr × List (Str × V) × V × Pub × V × List (Int × Int) × Int) (fun i => [.ref i.1, .int i.2.2.2.2.2.2.2]) (fun ⟨a, dx, fs, x, rs, y, js, _⟩ F H => H a = some (.ins (He.ga K "Corpus") dx fs) ∧ fs.lookup ("published" : Str) = some x ∧ (kL kPub).p F x rs ∧ PubOk 20 rs ∧ fs.lookup ("joins" : Str) = some y ∧ (kL (k2 kI kI)).p F y js ∧ js.length ≤ 1000) (fun _ F v => ∃ ns, (kL kI).p F v ns ∧ ns.length ≤ 3300000)
theorem ok_stream {P : Program} {w : World} {K : PySem.W.Frag} {mg : Str → Option Value} {base : Heap} (T : Tx K mg) : Okd P w K mg base 3 ("stream", none) ["corpus", "source"] [] (sp_stream K) := by
  have O_word_codes := ok_word_codes (P := P) (w := w) (base := base) T
  obtain ⟨fd, F⟩ : ∃ fd, FunD K "stream" "stream" (defArgs s_stream) (defBody s_stream) (defScope s_stream) [] [] (He.fAd K ("stream", none)) fd := T.says.d.def_ 74 rfl
  refine ⟨fd, [], F.ok sc_stream (fun vs H Q E h => ?_) (fun cdv A outer s H vs Q E hr h => ?_), .nil, F.bindsN (fun _ _ _ _ _ _ us hl => match us, hl with | [_, _], _ => rfl), F.kp⟩
  · obtain ⟨_, _, rfl, _⟩ := h; rfl
  · refine ⟨_, PSs.nox (pss_cons (ps_set (i := 2) sc_stream.nd rfl (by first | exact Or.inl rfl | exact Or.inr rfl) (pe_lst pa_nil))
    (pss_cons (ps_for PassesOwn.never rfl (pi_listK K (pe_fldK K (pv 0))) (pg_tupK K rfl (pgs_cons (pg_name (i := 3) sc_stream.nd rfl (by first | exact Or.inl rfl | exact Or.inr rfl)) (pgs_cons (pg_name (i := 4) sc_stream.nd rfl (by first | exact Or.inl rfl | exact Or.inr rfl)) (pgs_cons (pg_name (i := 3) sc_stream.nd rfl (by first | exact Or.inl rfl | exact Or.inr rfl)) (pgs_cons (pg_name (i := 5) sc_stream.nd rfl (by first | exact Or.inl rfl | exact Or.inr rfl)) pgs_nil))))) (pss_one (ps_if (pt_cmpR op_eq (pv 4) (pv 1) (nomark _)) (pss_cons (ps_for PassesOwn.never rfl (pi_listK K (pv 5)) (pg_name (i := 6) sc_stream.nd rfl (by first | exact Or.inl rfl | exact Or.inr rfl)) (pss_one (ps_expr (pe_bmK K PySem.F.plainAttrs_list PySem.F.slot_list_extend PySem.F.type_list_extend mt_extend (pv 2) (pa_cons (pe_ok O_word_codes T.n_word_codes hr (by decide) (by rfl) (pa_cons (pe_fldK K (pv 0)) (pa_cons (pv 6) pa_nil))) pa_nil)))))
    (pss_one (ps_expr (pe_bmK K PySem.F.plainAttrs_list PySem.F.slot_list_append PySem.F.type_list_append mt_append (pv 2) (pa_cons T.e_END pa_nil))))) pss_nil)))
    (pss_one (ps_ret (pv 2))))), ?_⟩
    obtain ⟨⟨a, dx, fs, x, rs, y, js, src⟩, F0, rfl, fh, ⟨ha, lx, h1, ⟨po1, po2, po3⟩, ly, hj, hjl⟩, k⟩ := h
    dsimp only at ha lx h1 po1 po2 po3 ly hj hjl k ⊢
    obtain ⟨a1, vs1, rfl, ha1, hp1⟩ := h1
    have hl1 := hp1.length
    walk_at "s"
    refine ⟨x_lt (by decide), fun r H1 nr => ?_⟩
    obtain ⟨g1, o1⟩ := nr.own fh
    walk_at "s"
    refine ⟨_, _, _, _, _, rfl, g1.hh _ _ ha, T.c_Corpus, T.a_Corpus_published, lx, ?_⟩
    refine ⟨a1, rfl, ⟨_, SqL.of (g1.hh _ _ (fh _ _ ha1))⟩, ?_⟩
    refine for_kL (r := kPub) (xs := rs) g1 ha1 hp1 (fun i σ F H => ∃ (ns : List Int) (x1 x2 x3 x4 : Option V), σ = [some (.ref a), some (.int src), some (.ref r), x1, x2, x3, x4] ∧ Own F H r (.lst (ns.map V.int)) ∧ ns.length + ((rs.drop i).map fun r => r.2.2.2.length).sum * 401 + (rs.length - i) ≤ 3300000) ⟨[], _, _, _, _, rfl, o1, by rw [List.drop_zero]; show 0 + _ + _ ≤ _; omega⟩ ?_ ?_
    · rintro i p v σ1 F3 H3 N hx hi hv G3 s3 ⟨ns, x1, x2, x3, x4, rfl, o3, hn⟩ kN
      obtain ⟨b, y1, y2, y3, y4, rfl, hb, hy1, hy2, hy3, hy4⟩ := hv
      have hy2' : y2 = .int p.2.1 := hy2
      subst hy2'
      obtain ⟨a4, rfl, ha4⟩ := kLS hy4
      have ed : rs.drop i = p :: rs.drop (i + 1) := by
        obtain ⟨hi2, e⟩ := List.getElem?_eq_some_iff.mp hx
        rw [← e, List.getElem_cons_drop]
      rw [ed, List.map_cons, List.sum_cons, Nat.add_mul] at hn
      have hw := po3 p (List.mem_of_getElem? hx)
      walk_at "s"
      refine x_gT (G3.fh _ _ hb) rfl ?_
      walk_at "s"
      refine x_d (fun _ => ?_) (fun _ => ?_)
      · walk_at "s"
        refine ⟨a4, rfl, ⟨_, SqL.of (G3.fh _ _ ha4)⟩, ?_⟩
        refine for_kL (r := kS) (xs := p.2.2.2) G3 ha4 (kS_all _) (fun j σ F H => ∃ (ns : List Int) (x4 : Option V), σ = [some (.ref a), some (.int src), some (.ref r), some y3, some (.int p.2.1), some (.ref a4), x4] ∧ Own F H r (.lst (ns.map V.int)) ∧ ns.length + (p.2.2.2.length - j) * 401 + ((rs.drop (i + 1)).map fun r => r.2.2.2.length).sum * 401 + (rs.length - i) ≤ 3300000) ⟨ns, _, rfl, o3, by rw [Nat.sub_zero]; omega⟩ ?_ ?_
        · rintro j z v σ2 F4 H4 N4 hx4 hj4 hv G4 s4 ⟨ns, x4, rfl, o4, hn⟩ kN4
          obtain rfl : v = .str z := hv
          have hz := hw z (List.mem_of_getElem? hx4)
          walk_at "s"
          refine ⟨x_tyL o4.h, ?_⟩
          walk_at "s"
          refine ⟨_, _, _, _, _, rfl, G4.hh _ _ ha, T.c_Corpus, T.a_Corpus_joins, ly, ?_⟩
          walk_at "s"
          refine ⟨(y, z, js), F4, rfl, G4.fh, ⟨(kL (k2 kI kI)).mono (s3.trans s4) ((kL (k2 kI kI)).mono g1.ff hj), hjl, by omega⟩, fun p5 ys5 H5 sh np5 hp5 hy5 => ?_⟩
          obtain ⟨ms, rfl, hm⟩ := hy5
          obtain ⟨g5, e5⟩ := fl_gr G4.fh sh np5 hp5
          have o5 := o4.go g5
          have hsub : (p.2.2.2.length - j) * 401 = (p.2.2.2.length - (j + 1)) * 401 + 401 := by
            rw [show p.2.2.2.length - j = (p.2.2.2.length - (j + 1)) + 1 by omega, Nat.add_mul]
          walk_at "s"
          refine x_ext o5.h (g5.at e5) (by rw [List.length_map, List.length_map, sizeLine_eq]; omega) fun H6 c6 => ?_
          walk_at "s"
          refine kN4 _ _ _ (c6.gr (G4.trans g5) o5.f nr.fr) g5.ff ⟨ns ++ ms, _, rfl, by rw [List.map_append]; exact c6.own o5, by rw [List.length_append]; omega⟩
        · rintro σ2 F4 H4 G4 s4 ⟨ns, x4, rfl, o4, hn⟩
          walk_at "s"
          refine ⟨x_tyL o4.h, ?_⟩
          walk_at "s"
          refine x_app o4.h (by rw [List.length_map, sizeLine_eq]; omega) fun H6 c6 => ?_
          walk_at "s"
          refine kN _ _ _ (c6.gr G4 o4.f nr.fr) s4 ⟨ns ++ [1], _, _, _, _, rfl, by rw [List.map_append]; exact c6.own o4, by rw [List.length_append, List.length_singleton]; omega⟩
      · walk_at "s"
        exact kN _ _ _ G3 (Same.refl _) ⟨ns, _, _, _, _, rfl, o3, by omega⟩
    · rintro σ1 F3 H3 G3 s3 ⟨ns, x1, x2, x3, x4, rfl, o3, hn⟩
      walk_at "s"
      exact k _ _ _ (G3.fix o3.h nr.fr o3.f) ⟨ns, kLI' upd_same, by omega⟩
end Ck
namespace Ck
open PySem PySem.Spec L2 PyProof.Rows
/-! d.keys(), list(d.keys()), d.setdefault(k, v) -/
section
variable {prog : Program} {w : World} {A : Around} {E : Value → Shared → Prop} {s : Shared}
theorem keys_meets {d : Addr} (hd : (d == sysModules) = false) : MeetsIn prog w (Builtin.«dict.keys» ⟨[.ref d], []⟩)
    (fun _ R s => s.TypeIs (.ref d) "dict" ∧ R (.ok (.ret (.ref s.heap.objs.size))) { s with heap := s.heap.push { cls := .type "dict_keys", data := .fields #[.ref d] } }) := .of_wp fun A R s ⟨ty, h⟩ => by
  unfold Builtin.«dict.keys»; refine wpAny_bind ?_; unfold Builtin.Dict.noArgs; refine wpAny_bind (wpAny_notOrdered_dict ty ?_)
  show wpAny _ _ (pure d) _ _ s
  refine wpAny_pure ?_; show wpAny _ _ (Builtin.Dict.showsAll d >>= _) _ _ s; unfold Builtin.Dict.showsAll; rw [if_neg (by rw [hd]; exact Bool.false_ne_true)]
  refine wpAny_bind (wpAny_pure ?_); exact wpAny_bind (wpAny_newObj_type (wpAny_pure ⟨_, rfl, h⟩))
end
def keysO (p d : Addr) : HO := .ext fun h => PySem.W.KdlKeysView h p d
section
variable {X : Cx}
def rKeysV : V → List V → Hp → VK → Prop := fun x xs H Q => ∃ a : Addr, x = .ref a ∧ xs = [] ∧ ((∃ kvs, H a = some (.dK kvs)) ∨ ∃ kvs, H a = some (.dT kvs)) ∧ ∀ p, H p = none → Q (.ref p) (upd H p (keysO p a))
theorem mt_keysV : MtR X "dict.keys" rKeysV := by
  intro pins s σ H x xs v us Q I rx rxs h
  obtain ⟨a, rfl, rfl, ha, q⟩ := h
  cases rx
  cases rxs
  obtain ⟨hd, ty⟩ : (a == sysModules) = false ∧ s.TypeIs (.ref a) "dict" := by
    rcases ha with ⟨kvs, ha⟩ | ⟨kvs, ha⟩
    · obtain ⟨_, hd, _, _, dd⟩ := dk_of I.hok ha
      exact ⟨hd, dd.typeIs⟩
    · obtain ⟨_, hd, _, _, dd⟩ := dt_of I.hok ha
      exact ⟨hd, dd.typeIs⟩
  refine call_meetsIn PySem.F.slot_dict_keys ty PySem.F.entry_dict_keys (PySem.F.args_dict_keys_1 _) (keys_meets hd) ⟨ty, ?_⟩
  refine ⟨.ref s.heap.objs.size, upd H s.heap.objs.size (keysO s.heap.objs.size a), I.laid (t' := s.toks) (fun b u e => Heap.get?_push_of_some _ e) (Nat.le_refl _) ?_, rfl, q _ (I.hok.fresh (Nat.le_refl _))⟩
  have e : (s.heap.push { cls := .type "dict_keys", data := .fields #[.ref a] }).get? s.heap.objs.size = some { cls := .type "dict_keys", data := .fields #[.ref a] } := Heap.get?_push_size _ rfl
  exact ⟨⟨_, e, rfl, rfl⟩, ⟨_, e⟩, fun h1 h2 x k => let ⟨o, ho, r⟩ := x; ⟨o, k o ho, r⟩⟩
theorem call_listKeysK (hc : X.calm = true) : CallR X (.type "list") (fun xs H Q => ∃ p d kvs, xs = [V.ref p] ∧ H p = some (keysO p d) ∧ H d = some (.dK kvs) ∧ ∀ q, H q = none → Q (.ref q) (upd H q (.lst (kvs.map fun kv => kV kv.1)))) := by
  intro pins s σ H xs us Q I r h
  obtain ⟨p, d, kvs, e, hp, hk, q⟩ := h
  subst e
  obtain ⟨u, eu, rx⟩ := vals1 r
  subst eu
  obtain rfl : u = Value.ref p := rx
  have view : PySem.W.KdlKeysView s.heap p d := (show ObjOk X.prog X.w H s.heap p (keysO p d) from I.hok p _ hp).1
  obtain ⟨z, hd, vs, rel, dd⟩ := dk_of I.hok hk
  obtain ⟨es, ep, raw, sz, get⟩ := dd.raw
  have hl : kvs.length = vs.length := rel.length
  refine PySem.W.kdl_call (KdlSrc.rawKeys (es := es) (ep := ep)) (I.ok.hd hc) ⟨view, raw⟩ (by omega) fun h' tk acc c' hkeep hS hacc => ?_
  refine ⟨.ref s.heap.objs.size, upd H s.heap.objs.size (.lst (kvs.map fun kv => kV kv.1)), I.laid hkeep (Nat.le_refl _) (show ObjOk X.prog X.w _ _ _ (.lst (kvs.map fun kv => kV kv.1)) from ⟨by rw [List.length_map]; exact z, acc.toList, c', ?_, by rw [Array.toArray_toList]; exact hS⟩), rfl, q _ (I.hok.fresh (Nat.le_refl _))⟩
  have la : acc.toList.length = acc.size := Array.length_toList
  have lb := hacc.1
  refine vals_of_at (by rw [List.length_map, la]; omega) fun j x w h1 h2 => ?_
  obtain ⟨hi, hw⟩ := hacc.2 j w (by rw [← Array.getElem?_toList]; exact h2)
  have hj : j < vs.length := by omega
  obtain ⟨g1, _⟩ := get j hi vs[j].1 vs[j].2 (List.getElem?_eq_getElem hj)
  have ek : (kvs.map (·.1))[j]? = some vs[j].1 := by rw [KV.keys rel, List.getElem?_map, List.getElem?_eq_getElem hj]; rfl
  have e3 : (kvs.map fun kv => kV kv.1) = (kvs.map (·.1)).map kV := by rw [List.map_map]; rfl
  rw [e3, List.getElem?_map, ek] at h1
  cases h1
  rw [hw]
  exact keyIs_rel g1
theorem call_listKeysT (hc : X.calm = true) : CallR X (.type "list") (fun xs H Q => ∃ p d kvs, xs = [V.ref p] ∧ H p = some (keysO p d) ∧ H d = some (.dT kvs) ∧ ∀ q bs, H q = none → IsKeys H kvs bs → Q (.ref q) (upd H q (.lst (bs.map V.ref)))) := by
  intro pins s σ H xs us Q I r h
  obtain ⟨p, d, kvs, e, hp, hk, q⟩ := h
  subst e
  obtain ⟨u, eu, rx⟩ := vals1 r
  subst eu
  obtain rfl : u = Value.ref p := rx
  have view : PySem.W.KdlKeysView s.heap p d := (show ObjOk X.prog X.w H s.heap p (keysO p d) from I.hok p _ hp).1
  obtain ⟨z, hd, ps, rel, dd⟩ := dt_of I.hok hk
  obtain ⟨es, ep, raw, sz, get⟩ := dd.raw
  have hl : kvs.length = ps.length := Paired.length rel
  refine PySem.W.kdl_call (KdlSrc.rawKeys (es := es) (ep := ep)) (I.ok.hd hc) ⟨view, raw⟩ (by omega) fun h' tk acc c' hkeep hS hacc => ?_
  have ea : acc.toList = (ps.map fun x => x.2.1).map Value.ref := by
    have la : acc.toList.length = acc.size := Array.length_toList
    have hl2 : acc.toList.length = ps.length := by have := hacc.1; omega
    refine List.ext_getElem (by rw [List.length_map, List.length_map, hl2]) fun j h1 h2 => ?_
    obtain ⟨hi, hw⟩ := hacc.2 j acc.toList[j] (by rw [← Array.getElem?_toList]; exact List.getElem?_eq_getElem h1)
    obtain ⟨y, hy, hy2, _⟩ := get j hi
    have hj : j < ps.length := by omega
    rw [List.getElem?_eq_getElem hj] at hy
    have hy := Option.some.inj hy
    rw [hw, hy2, ← hy, List.getElem_map, List.getElem_map]
  refine ⟨.ref s.heap.objs.size, _, I.laid (t' := tk) (o := .lst ((ps.map fun x => x.2.1).map V.ref)) hkeep (Nat.le_refl _) ?_, rfl, q _ _ (I.hok.fresh (Nat.le_refl _)) (isKeys_of rel)⟩
  exact ⟨by rw [List.length_map, List.length_map]; omega, acc.toList, c', by rw [ea]; exact vals_refs _, by rw [Array.toArray_toList]; exact hS⟩
/-- d.setdefault(y, z), tuple keys -/
def tDSetT (td ty tx : TE) : TE := fun σ H Q => td σ H fun x H1 => ∃ a, x = .ref a ∧ IsD H1 a ∧ ty σ H1 fun y H2 => tx σ H2 fun z H3 => ∃ (kvs : List (List L2.Key × V)) (k : List L2.Key) (b : Addr), H3 a = some (.dT kvs) ∧ y = .ref b ∧ H3 b = some (.tup (k.map kV)) ∧ kvs.length < sizeLine ∧
  (∀ v, valV kvs k = some v → Q v H3) ∧ (valV kvs k = none → Q z (upd H3 a (.dT (putK kvs k z))))
theorem pe_dsetdT {o e f : Expr} {td ty tx : TE} {apos cpos : Pos} (hu : X.A.units + 1 < cLine) (ho : PE X o td) (he : PE X e ty) (hf : PE X f tx) (m : M2 X o "setdefault" apos e f cpos) : PE X (.Call (.Attribute o "setdefault" apos) [e, f] [] cpos) (tDSetT td ty tx) := by
  refine ⟨fun pins s σ H Q I h => ?_⟩
  refine wpAny_Call_method m.base m.few m.line PySem.F.plainAttrs_dict PySem.F.slot_dict_setdefault PySem.F.type_dict_setdefault (thn (ho.run pins s σ H _ I h) fun u sa ⟨x, Ha, Ia, rx, a, ex, d, q1⟩ => ?_)
  subst ex
  obtain rfl : u = Value.ref a := rx
  obtain ⟨t1, t2, _⟩ := isD_at Ia d
  refine ⟨t1, t2, ?_⟩
  rw [m.trees]
  refine Calls.callWith_builtin rfl (Calls.evalArgs_plain (Calls.spliced_cons (thn (he.run pins sa σ Ha _ Ia q1) fun iv sb ⟨y, Hb, Ib, ry, q2⟩ => Calls.spliced_cons (thn (hf.run pins sb σ Hb _ Ib q2) fun fv sc ⟨z, Hc, Ic, rz, kvs, k, b, ea, ey, eb, hl, q3, q4⟩ => Calls.spliced_nil ?_))))
  subst ey
  obtain rfl : iv = Value.ref b := ry
  obtain ⟨zz, hd, ps, rel, dd⟩ := dt_of Ic.hok ea
  have z2 : ps.length ≤ sizeLine := by rw [← Paired.length rel]; exact zz
  have val := rel.val k
  refine call_setdefault_heap (hsz := z2) (tupleKind_room_in1 hu) (key_of Ic.hok eb) hd dd (fun p hp => ?_) fun hn h' dd' same => ?_
  · rw [hp] at val
    cases q0 : valV kvs k with
    | none => rw [q0] at val; exact (show False from val).elim
    | some v0 =>
      rw [q0] at val
      exact ⟨v0, _, Ic.tok _, val, q3 v0 q0⟩
  · rw [hn] at val
    cases q0 : valV kvs k with
    | some v0 => rw [q0] at val; exact (show False from val).elim
    | none =>
      have z3 : (putK kvs k z).length ≤ sizeLine := by have := length_putK kvs k z; omega
      obtain ⟨q, es, ep, c1, c2, c3, c4, _, c5⟩ := dd'
      refine ⟨z, _, d_write (ob := .dT (putK kvs k z)) Ic (by rw [ea]; exact True.intro) same ⟨q, c1⟩ ⟨z3, hd, _, (rel.put k eb rz).keeps fun c ys ec => ?_, q, es, ep, c1, c2, c3, c4, c5⟩, rz, q4 q0⟩
      rw [upd_ne (ne_of ec ea (fun z => nomatch z))]; exact ec
theorem r_dsetT {td ty tx : TE} {σ : L2.St} {H : Hp} {Q : VK} (h : td σ H fun x H1 => ∃ a, x = .ref a ∧ IsD H1 a ∧ ty σ H1 fun y H2 => tx σ H2 fun z H3 => ∃ (kvs : List (List L2.Key × V)) (k : List L2.Key) (b : Addr), H3 a = some (.dT kvs) ∧ y = .ref b ∧ H3 b = some (.tup (k.map kV)) ∧ kvs.length < sizeLine ∧
  (∀ v, valV kvs k = some v → Q v H3) ∧ (valV kvs k = none → Q z (upd H3 a (.dT (putK kvs k z))))) : tDSetT td ty tx σ H Q := h
end
end Ck

namespace Ck
open PySem PySem.Spec L2 CkM
local macro_rules | `(tactic| walk_at "s1") => `(tactic| first
  | (with_reducible refine r_seq ?_) | (with_reducible refine r_var (by with_unfolding_all rfl) ?_) | (with_reducible refine r_c ?_) | (with_reducible refine r_op ?_)
  | (with_reducible refine r_I0 ?_) | (with_reducible refine r_asgN ?_) | (with_reducible refine r_asg ?_) | (with_reducible refine r_ret ?_) | (with_reducible refine r_drop ?_)
  | (with_reducible refine r_cons ?_) | (with_reducible refine r_nil ?_) | (with_reducible refine r_CB ?_) | (with_reducible refine r_call ?_) | (with_reducible refine r_BM ?_)
  | (with_reducible refine r_if ?_) | (with_reducible refine r_test ?_) | (with_reducible refine r_tB ?_) | (with_reducible refine r_and ?_) | (with_reducible refine r_or ?_) | (with_reducible refine r_not ?_)
  | (with_reducible refine r_andV ?_) | (with_reducible refine r_orV ?_) | (with_reducible refine r_eqI ?_) | (with_reducible refine r_neI ?_) | (with_reducible refine r_eqS ?_) | (with_reducible refine r_neS ?_) | (with_reducible refine r_neB ?_)
  | (with_reducible refine x_b ?_) | (with_reducible refine x_ii ?_) | (with_reducible refine x_ss ?_) | (with_reducible refine x_i ?_) | (with_reducible refine x_s ?_) | (with_reducible refine x_li ?_) | (with_reducible refine x_ls ?_) | (with_reducible refine x_lii ?_)
  | (with_reducible refine r_un ?_) | (with_reducible refine r_U ?_) | (with_reducible refine r_gN ?_) | (with_reducible refine r_aug (by with_unfolding_all rfl) ?_) | (with_reducible refine r_ip ?_) | (with_reducible refine r_tup ?_) | (with_reducible refine r_lst ?_)
  | (with_reducible refine r_fld ?_) | (with_reducible refine r_for ?_) | (with_reducible refine r_iL ?_) | (with_reducible refine r_iR1 ?_) | (with_reducible refine r_iR2 ?_) | (with_reducible refine r_iS ?_) | (with_reducible refine r_sl ?_) | (with_reducible refine r_po0 ?_) | (with_reducible refine r_po1 ?_)
  | (with_reducible refine r_tru ?_) | (with_reducible refine r_augS ?_) | (with_reducible refine r_iR3 ?_) | (with_reducible refine r_lc ?_) | (with_reducible refine r_gC ?_) | (with_reducible refine r_gNil ?_) | (with_reducible refine r_mk ?_) | (with_reducible refine r_mt ?_) | (with_reducible refine r_sfld ?_) | (with_reducible refine r_sfa ?_) | (with_reducible refine r_add ?_)
  | (with_reducible refine r_dput ?_) | (with_reducible refine r_gFld ?_) | (with_reducible refine r_dcp ?_) | (with_reducible refine r_dsetT ?_) | (with_reducible refine r_BM0 ?_) | (with_reducible refine r_dget ?_) | (with_reducible refine r_dget2 ?_) | (with_reducible refine r_din ?_) | (with_reducible refine r_dnin ?_) | (with_reducible refine r_dnK ?_) | (with_reducible refine r_dnT ?_) | (with_reducible refine x_isN ?_) | (with_reducible refine r_next ?_) | (with_reducible refine r_retN ?_) | (with_reducible refine r_yes ?_) | (with_reducible refine x_t ?_) | (with_reducible refine x_f ?_))
local macro_rules | `(tactic| walk_at "s") => `(tactic| repeat walk_at "s1")

/-! D_alike1.src -/
theorem r_BM0 {K : PySem.W.Frag} {σ : L2.St} {H : Hp} {Q : VK} {ta : TE} {T : String} {r : V → List V → Hp → VK → Prop} (h : ta σ H fun x H1 => tyV K T x H1 ∧ r x [] H1 Q) : tBM0 K T r ta σ H Q := h
def sp_shingles : Sp := SpOf (ι := V × List (List Str) × Nat) (fun i => [i.1, .int (i.2.2 : Int)]) (fun ⟨v1, ps, n⟩ F => (kL (kL kS)).p F v1 ps ∧ 1 ≤ n ∧ n ≤ 1000 ∧ ps.length ≤ 401 ∧ ∀ p ∈ ps, p.length ≤ 400) (fun _ F v => ∃ rs, (kL kTS).p F v rs ∧ rs.length ≤ 160801)
theorem ok_shingles {P : Program} {w : World} {K : PySem.W.Frag} {mg : Str → Option Value} {base : Heap} (T : Tx K mg) : Okd P w K mg base 1 ("shingles", none) ["pieces", "length"] [] (sp_shingles) := by
  obtain ⟨fd, F⟩ : ∃ fd, FunD K "shingles" "shingles" (defArgs s_shingles) (defBody s_shingles) (defScope s_shingles) [] [] (He.fAd K ("shingles", none)) fd := T.says.d.def_ 0 rfl
  refine ⟨fd, [], F.ok sc_shingles (fun vs H Q E h => ?_) (fun cdv A outer s H vs Q E hr h => ?_), .nil, F.bindsN (fun _ _ _ _ _ _ us hl => match us, hl with | [_, _], _ => rfl), F.kp⟩
  · obtain ⟨_, _, rfl, _⟩ := h; rfl
  · have hu := hu_of hr; refine ⟨_, PSs.nox (pss_cons (ps_set (i := 2) sc_shingles.nd rfl (by first | exact Or.inl rfl | exact Or.inr rfl) pe_dnewT)
    (pss_cons (ps_set (i := 3) sc_shingles.nd rfl (by first | exact Or.inl rfl | exact Or.inr rfl) (pe_lst pa_nil))
    (pss_cons (ps_for PassesOwn.never rfl (pi_listK K (pv 0)) (pg_name (i := 4) sc_shingles.nd rfl (by first | exact Or.inl rfl | exact Or.inr rfl)) (pss_one (ps_for PassesOwn.never rfl (pi_range1 rfl T.f_range (pa_cons (pe_callB (call_max2 rfl) (by rfl) T.f_max (by decide +kernel) (pa_cons pe_int (pa_cons (pe_op op_add (pe_op op_sub (pe_callB (call_lenK K) (by rfl) T.f_len (by decide +kernel) (pa_cons (pv 4) pa_nil)) (pv 1)) pe_int) pa_nil))) pa_nil)) (pg_name (i := 5) sc_shingles.nd rfl (by first | exact Or.inl rfl | exact Or.inr rfl)) (pss_cons (ps_set (i := 6) sc_shingles.nd rfl (by first | exact Or.inl rfl | exact Or.inr rfl) (pe_callTy (call_tupofK K) (by rfl) T.f_tuple (by decide +kernel) (pa_cons (pe_slice (sl_listK K) (pv 4) (po_some (pv 5)) (po_some (pe_op op_add (pv 5) (pv 1)))) pa_nil)))
    (pss_one (ps_if (pt_cmp (pc_dnotin hu (pv 6) (pv 2)) (by first | exact nobehind _ (by decide) (by decide) | rfl)) (pss_cons (ps_dput hu (pv 2) (pv 6) pe_bl rfl)
    (pss_one (ps_expr (pe_bmK K PySem.F.plainAttrs_list PySem.F.slot_list_append PySem.F.type_list_append mt_append (pv 3) (pa_cons (pv 6) pa_nil))))) pss_nil))))))
    (pss_one (ps_ret (pv 3)))))), ?_⟩
    obtain ⟨⟨v1, ps, n⟩, F0, rfl, fh, ⟨h1, hn1, hn2, hp1, hp2⟩, k⟩ := h
    dsimp only at h1 hn1 hn2 hp1 hp2 k ⊢
    obtain ⟨a1, vs1, rfl, ha1, hq1⟩ := h1
    walk_at "s"
    intro d H1 nd
    obtain ⟨g1, od⟩ := nd.own fh
    walk_at "s"
    refine ⟨x_lt (by decide), fun r H2 nr => ?_⟩
    obtain ⟨g2, orr⟩ := nr.own g1.fh
    have ndr : d ≠ r := ne_of_none od.h nr.fr
    have od := od.go g2
    have zr : H r = none := g1.hh.free nr.fr
    have G2 := g1.trans g2
    walk_at "s"
    refine ⟨a1, rfl, ⟨_, SqL.of (G2.hh _ _ (fh _ _ ha1))⟩, ?_⟩
    refine for_kL (r := kL kS) (xs := ps) G2 ha1 hq1 (fun i σ F H => ∃ (kv : List (List L2.Key × V)) (vs : List V) (rs : List (List Str)) (x1 x2 x3 : Option V), σ = [some (.ref a1), some (.int (n : Int)), some (.ref d), some (.ref r), x1, x2, x3] ∧ Own F H d (.dT kv) ∧ Own F H r (.lst vs) ∧ Paired (kTS.p F) vs rs ∧ kv.length ≤ i * 401 ∧ rs.length ≤ i * 401) ⟨[], [], [], _, _, _, rfl, od, orr, .nil, Nat.zero_le _, Nat.zero_le _⟩ ?_ ?_
    · rintro i ws v σ1 F3 H3 N hx hi hv G3 s3 ⟨kv, vs, rs, x1, x2, x3, rfl, od, orr, hp, hk, hr⟩ kN
      have hw := hp2 ws (List.mem_of_getElem? hx)
      have hi401 : i < 401 := by omega
      obtain ⟨a4, rfl, ha4⟩ := kLS hv
      walk_at "s"
      refine x_lenK (G3.fh _ _ ha4) ?_
      rw [List.length_map]
      walk_at "s"
      refine ⟨by split <;> omega, by split <;> omega, ?_⟩
      have hm : (if (ws.length : Int) - n + 1 > 1 then (ws.length : Int) - n + 1 else 1).toNat ≤ 401 := by split <;> omega
      generalize (if (ws.length : Int) - n + 1 > 1 then (ws.length : Int) - n + 1 else 1).toNat = m at hm ⊢
      refine for_rg0 G3 (fun j σ F H => ∃ (kv : List (List L2.Key × V)) (vs : List V) (rs : List (List Str)) (x2 x3 : Option V), σ = [some (.ref a1), some (.int (n : Int)), some (.ref d), some (.ref r), some (.ref a4), x2, x3] ∧ Own F H d (.dT kv) ∧ Own F H r (.lst vs) ∧ Paired (kTS.p F) vs rs ∧ kv.length ≤ i * 401 + j ∧ rs.length ≤ i * 401 + j) ⟨kv, vs, rs, _, _, rfl, od, orr, hp, hk, hr⟩ ?_ ?_
      · rintro j σ2 F4 H4 N4 hj G4 s4 ⟨kv, vs, rs, x2, x3, rfl, od, orr, hp, hk, hr⟩ kN4
        walk_at "s"
        rw [show (j : Int) + (n : Int) = ((j + n : Nat) : Int) from rfl]
        refine x_slL (G4.fh _ _ (s4 _ _ ha4)) fun p H5 np => ?_
        rw [cut_map _ (by omega)] at np
        obtain ⟨F5, g5, e5⟩ := np.fix G4.fh
        generalize (List.take (j + n - j) (List.drop j ws)) = us at np e5
        walk_at "s"
        refine x_tupof (g5.at e5) fun t H6 nt => ?_
        obtain ⟨F6, g6, e6⟩ := nt.fix g5.fh
        have g56 := g5.trans g6
        have G6 := G4.trans g56
        have od := od.go g56
        have orr := orr.go g56
        have et : H6 t = some (.tup ((keyS us).map kV)) := by rw [keyS_kV]; exact g6.at e6
        have hp6 := L2.Paired.mapP hp fun _ _ h => kTS.mono g56.ff h
        walk_at "s"
        refine ⟨d, _, rfl, DGet.t od.h et, ?_⟩
        walk_at "s"
        refine x_any ?_ ?_
        · walk_at "s"
          have hlp := length_putK kv (keyS us) (.bl true)
          refine ⟨d, _, rfl, DPut.t od.h et (by rw [sizeLine_eq]; omega), ?_⟩
          have c7 : Chg H6 d (.dT (putK kv (keyS us) (.bl true))) (upd H6 d (.dT (putK kv (keyS us) (.bl true)))) := rfl
          have G7 := c7.gr G6 od.f nd.fr
          have orr := c7.ne orr ndr.symm
          have od := c7.own od
          have lv := hp6.length
          walk_at "s"
          refine ⟨x_tyL orr.h, ?_⟩
          walk_at "s"
          refine x_app orr.h (by rw [sizeLine_eq]; omega) fun H8 c8 => ?_
          walk_at "s"
          refine kN4 _ _ _ (c8.gr G7 orr.f zr) g56.ff ⟨_, _, rs ++ [us], _, _, rfl, c8.ne od ndr, c8.own orr, hp6.snoc ⟨t, rfl, e6⟩, by omega, by rw [List.length_append, List.length_singleton]; omega⟩
        · walk_at "s"
          exact kN4 _ _ _ G6 g56.ff ⟨kv, vs, rs, _, _, rfl, od, orr, hp6, by omega, by omega⟩
      · rintro σ2 F4 H4 G4 s4 ⟨kv, vs, rs, x2, x3, rfl, od, orr, hp, hk, hr⟩
        exact kN _ _ _ G4 s4 ⟨kv, vs, rs, _, _, _, rfl, od, orr, hp, by rw [Nat.add_mul]; omega, by rw [Nat.add_mul]; omega⟩
    · rintro σ1 F3 H3 G3 s3 ⟨kv, vs, rs, x1, x2, x3, rfl, od, orr, hp, hk, hr⟩
      walk_at "s"
      exact k _ _ _ (G3.fix orr.h zr orr.f) ⟨rs, ⟨r, vs, rfl, upd_same, L2.Paired.mapP hp fun _ _ h => kTS.mono (same_new orr.f) h⟩, by omega⟩
end Ck
namespace Ck
open PySem PySem.Spec L2 CkM
local macro_rules | `(tactic| walk_at "s1") => `(tactic| first
  | (with_reducible refine r_seq ?_) | (with_reducible refine r_var (by with_unfolding_all rfl) ?_) | (with_reducible refine r_c ?_) | (with_reducible refine r_op ?_)
  | (with_reducible refine r_I0 ?_) | (with_reducible refine r_asgN ?_) | (with_reducible refine r_asg ?_) | (with_reducible refine r_ret ?_) | (with_reducible refine r_drop ?_)
  | (with_reducible refine r_cons ?_) | (with_reducible refine r_nil ?_) | (with_reducible refine r_CB ?_) | (with_reducible refine r_call ?_) | (with_reducible refine r_BM ?_)
  | (with_reducible refine r_if ?_) | (with_reducible refine r_test ?_) | (with_reducible refine r_tB ?_) | (with_reducible refine r_and ?_) | (with_reducible refine r_or ?_) | (with_reducible refine r_not ?_)
  | (with_reducible refine r_andV ?_) | (with_reducible refine r_orV ?_) | (with_reducible refine r_eqI ?_) | (with_reducible refine r_neI ?_) | (with_reducible refine r_eqS ?_) | (with_reducible refine r_neS ?_) | (with_reducible refine r_neB ?_)
  | (with_reducible refine x_b ?_) | (with_reducible refine x_ii ?_) | (with_reducible refine x_ss ?_) | (with_reducible refine x_i ?_) | (with_reducible refine x_s ?_) | (with_reducible refine x_li ?_) | (with_reducible refine x_ls ?_) | (with_reducible refine x_lii ?_)
  | (with_reducible refine r_un ?_) | (with_reducible refine r_U ?_) | (with_reducible refine r_gN ?_) | (with_reducible refine r_aug (by with_unfolding_all rfl) ?_) | (with_reducible refine r_ip ?_) | (with_reducible refine r_tup ?_) | (with_reducible refine r_lst ?_)
  | (with_reducible refine r_fld ?_) | (with_reducible refine r_for ?_) | (with_reducible refine r_iL ?_) | (with_reducible refine r_iR1 ?_) | (with_reducible refine r_iR2 ?_) | (with_reducible refine r_iS ?_) | (with_reducible refine r_sl ?_) | (with_reducible refine r_po0 ?_) | (with_reducible refine r_po1 ?_)
  | (with_reducible refine r_tru ?_) | (with_reducible refine r_augS ?_) | (with_reducible refine r_iR3 ?_) | (with_reducible refine r_lc ?_) | (with_reducible refine r_gC ?_) | (with_reducible refine r_gNil ?_) | (with_reducible refine r_mk ?_) | (with_reducible refine r_mt ?_) | (with_reducible refine r_sfld ?_) | (with_reducible refine r_sfa ?_) | (with_reducible refine r_add ?_)
  | (with_reducible refine r_dput ?_) | (with_reducible refine r_gFld ?_) | (with_reducible refine r_dcp ?_) | (with_reducible refine r_dsetT ?_) | (with_reducible refine r_BM0 ?_) | (with_reducible refine r_dget ?_) | (with_reducible refine r_dget2 ?_) | (with_reducible refine r_din ?_) | (with_reducible refine r_dnin ?_) | (with_reducible refine r_dnK ?_) | (with_reducible refine r_dnT ?_) | (with_reducible refine x_isN ?_) | (with_reducible refine r_next ?_) | (with_reducible refine r_retN ?_) | (with_reducible refine r_yes ?_) | (with_reducible refine x_t ?_) | (with_reducible refine x_f ?_))
local macro_rules | `(tactic| walk_at "s") => `(tactic| repeat walk_at "s1")

/-! D_alike2.src -/
abbrev kCmp : R (Bool × Int × Int) := k3 kB kI kI
abbrev Shs := List (List Str)
def ShOk (ps : Shs) : Prop := ps.length ≤ 401 ∧ ∀ p ∈ ps, p.length ≤ 400
def sp_compare : Sp := SpOf (ι := V × V × Nat × Int × Int × Shs × Shs) (fun i => [i.1, i.2.1, .int (i.2.2.1 : Int), .int i.2.2.2.1, .int i.2.2.2.2.1]) (fun ⟨v1, v2, n, ov, un, ps, qs⟩ F => (kL (kL kS)).p F v1 ps ∧ (kL (kL kS)).p F v2 qs ∧ 1 ≤ n ∧ n ≤ 1000 ∧ ShOk ps ∧ ShOk qs ∧ (0 ≤ ov ∧ ov ≤ 1000) ∧ 0 ≤ un ∧ un ≤ 1000) (fun _ F v => ∃ c, kCmp.p F v c)
theorem ok_compare {P : Program} {w : World} {K : PySem.W.Frag} {mg : Str → Option Value} {base : Heap} (T : Tx K mg) : Okd P w K mg base 2 ("compare", none) ["first", "second", "length", "over", "under"] [] (sp_compare) := by
  have O_shingles := ok_shingles (P := P) (w := w) (base := base) T
  obtain ⟨fd, F⟩ : ∃ fd, FunD K "compare" "compare" (defArgs s_compare) (defBody s_compare) (defScope s_compare) [] [] (He.fAd K ("compare", none)) fd := T.says.d.def_ 1 rfl
  refine ⟨fd, [], F.ok sc_compare (fun vs H Q E h => ?_) (fun cdv A outer s H vs Q E hr h => ?_), .nil, F.bindsN (fun _ _ _ _ _ _ us hl => match us, hl with | [_, _, _, _, _], _ => rfl), F.kp⟩
  · obtain ⟨_, _, rfl, _⟩ := h; rfl
  · have hu := hu_of hr; refine ⟨_, PSs.nox (pss_cons (ps_set (i := 5) sc_compare.nd rfl (by first | exact Or.inl rfl | exact Or.inr rfl) (pe_ok O_shingles T.n_shingles hr (by decide) (by rfl) (pa_cons (pv 0) (pa_cons (pv 2) pa_nil))))
    (pss_cons (ps_set (i := 6) sc_compare.nd rfl (by first | exact Or.inl rfl | exact Or.inr rfl) (pe_dcP (own := [("shingle", 10)]) (g := (gName 10)) emptyT hu rfl sc_compare.nd (pi_listK K (pv 5)) (blkOk_by (own := [("shingle", 10)]) (N := N_compare) (sc := defScope s_compare) (by decide +kernel)) (fun _ _ _ _ _ => (pg_name (i := 10) sc_compare.nd rfl (by first | exact Or.inl rfl | exact Or.inr rfl))) (fun _ _ _ _ _ => (pv 10)) (fun _ _ _ _ _ => pe_bl)))
    (pss_cons (ps_set (i := 7) sc_compare.nd rfl (by first | exact Or.inl rfl | exact Or.inr rfl) (pe_ok O_shingles T.n_shingles hr (by decide) (by rfl) (pa_cons (pv 1) (pa_cons (pv 2) pa_nil))))
    (pss_cons (ps_set (i := 8) sc_compare.nd rfl (by first | exact Or.inl rfl | exact Or.inr rfl) (pe_callB (call_lenK K) (by rfl) T.f_len (by decide +kernel) (pa_cons (pe_lc (own := [("shingle", 10)]) (g := (gName 10)) rfl sc_compare.nd (pi_listK K (pv 7)) (blkOk_by (own := [("shingle", 10)]) (N := N_compare) (sc := defScope s_compare) (by decide +kernel)) (fun _ _ _ _ _ => (pg_name (i := 10) sc_compare.nd rfl (by first | exact Or.inl rfl | exact Or.inr rfl))) (fun _ _ _ _ _ => (pts_one (pt_cmp (pc_din hu (pv 10) (pv 6)) (by first | exact nobehind _ (by decide) (by decide) | rfl)))) (fun _ _ _ _ _ => (pv 10))) pa_nil)))
    (pss_cons (ps_set (i := 9) sc_compare.nd rfl (by first | exact Or.inl rfl | exact Or.inr rfl) (pe_op op_sub (pe_op op_add (pe_callB (call_lenK K) (by rfl) T.f_len (by decide +kernel) (pa_cons (pv 5) pa_nil)) (pe_callB (call_lenK K) (by rfl) T.f_len (by decide +kernel) (pa_cons (pv 7) pa_nil))) (pv 8)))
    (pss_one (ps_ret (pe_tup (pa_cons (pe_cmpR op_le (pe_op op_mul (pv 3) (pv 9)) (pe_op op_mul (pv 4) (pv 8)) (nomark _)) (pa_cons (pv 8) (pa_cons (pv 9) pa_nil))))))))))), ?_⟩
    obtain ⟨⟨v1, v2, n, ov, un, ps, qs⟩, F0, rfl, fh, ⟨h1, h2, hn1, hn2, ⟨hp1, hp2⟩, ⟨hq1, hq2⟩, ⟨ho1, ho2⟩, hu1, hu2⟩, k⟩ := h
    dsimp only at h1 h2 hn1 hn2 ho1 ho2 hu1 hu2 k ⊢
    walk_at "s"
    refine ⟨(v1, ps, n), F0, rfl, fh, ⟨h1, hn1, hn2, hp1, hp2⟩, fun v3 F1 H1 g1 hv => ?_⟩
    obtain ⟨rs, ⟨a3, vs3, rfl, ha3, hr3⟩, hl⟩ := hv
    walk_at "s"
    refine ⟨a3, rfl, ⟨_, SqL.of (g1.at ha3)⟩, dcp_tS g1.fh ha3 hr3 (by omega) ?_ ?_⟩
    · intro i x v F2 H2 N hx hv g2 kN
      walk_at "s"
      refine ⟨rfl, ?_⟩
      walk_at "s"
      exact kN _ _ _ (Gr.refl g2.fh)
    intro d kvs F2 H2 nd g2 od
    have G2 := (g1.trans g2).fix od.h (g1.hh.free nd) od.f
    generalize hF : upd F2 d (.dT kvs) = Fd at G2
    have hd : Fd d = some (.dT kvs) := by rw [← hF]; exact upd_same
    have s1d : Same F1 Fd := by rw [← hF]; exact g2.ff.trans (same_new od.f)
    clear g2 od hF
    walk_at "s"
    refine ⟨(v2, qs, n), Fd, rfl, G2.fh, ⟨(kL (kL kS)).mono G2.ff h2, hn1, hn2, hq1, hq2⟩, fun v4 F4 H4 g4 hv => ?_⟩
    obtain ⟨ts, ⟨a4, vs4, rfl, ha4, hr4⟩, hl4⟩ := hv
    have G4 := G2.trans g4
    walk_at "s"
    refine ⟨a4, rfl, ⟨_, SqL.of (g4.at ha4)⟩, lc_kLf (r := kTS) (s := kTS) G4.fh ha4 hr4 (by rw [sizeLine_eq]; omega) (fun _ _ => True) ?_ ?_⟩
    · intro i x v F5 H5 NY NN hx hv g5 kY kN
      obtain ⟨b, rfl, hb⟩ := id hv
      walk_at "s"
      refine ⟨rfl, ?_⟩
      walk_at "s"
      refine ⟨d, _, rfl, DGet.t (k := keyS x) (g5.fh _ _ (g5.ff _ _ (g4.ff _ _ hd))) (by rw [keyS_kV]; exact g5.at hb), ?_⟩
      walk_at "s"
      refine x_any ?_ ?_
      · walk_at "s"
        exact kY _ _ _ x (Gr.refl g5.fh) hv trivial
      · exact kN _ _ (Gr.refl g5.fh)
    intro p F5 H5 xs' ys np g5 hk sl pp
    obtain ⟨_, vs5, er, hp5, hr5⟩ := hk
    cases er
    have G5 := G4.trans g5
    walk_at "s"
    refine x_lenK (g5.at hp5) ?_
    walk_at "s"
    refine x_lenK (G5.fh _ _ (g5.ff _ _ (g4.ff _ _ (s1d _ _ ha3)))) ?_
    walk_at "s"
    refine x_lenK (G5.fh _ _ (g5.ff _ _ ha4)) ?_
    walk_at "s"
    have l3 := hr3.length
    have l4 := hr4.length
    have l5 := hr5.length
    have l6 := sl.length_le
    have l7 := pp.length
    refine r_I ?_ ?_
    · exact Or.inl ⟨by omega, by omega⟩
    walk_at "s"
    refine r_I ?_ ?_
    · exact Or.inl ⟨by omega, by omega⟩
    walk_at "s"
    refine ⟨x_lt (Nat.le_of_ble_eq_true rfl), fun t H6 nt => ?_⟩
    obtain ⟨F6, g6, e6⟩ := nt.fix G5.fh
    exact k _ _ _ (G5.trans g6) ⟨(_, _, _), t, _, _, _, rfl, e6, rfl, rfl, rfl⟩
/-- all tuples fixed -/
def tupF (F H : Hp) : Hp := fun b => match H b with
  | some (.tup xs) => some (.tup xs)
  | _ => F b
theorem tupF_at {F H : Hp} {b : Addr} {xs : List V} (h : H b = some (.tup xs)) : tupF F H b = some (.tup xs) := by
  unfold tupF; rw [h]
theorem tupF_ne {F H : Hp} {b : Addr} (h : ∀ xs, H b ≠ some (.tup xs)) : tupF F H b = F b := by
  unfold tupF
  split
  · next xs e => exact absurd e (h xs)
  · rfl
theorem Gr.fixAll {F0 H0 F H : Hp} (g : Gr F0 H0 F H) : Gr F0 H0 (tupF F H) H ∧ Same F (tupF F H) := by
  have sf : Same F (tupF F H) := fun b u e => by
    by_cases h : ∃ xs, H b = some (.tup xs)
    · obtain ⟨xs, h⟩ := h
      have := g.fh b u e
      rw [h] at this
      cases this
      exact tupF_at h
    · rw [tupF_ne fun xs e => h ⟨xs, e⟩]; exact e
  refine ⟨⟨g.ff.trans sf, fun b u e => ?_, g.hh, fun b h1 h2 => ?_⟩, sf⟩
  · by_cases h : ∃ xs, H b = some (.tup xs)
    · obtain ⟨xs, h⟩ := h
      rw [tupF_at h] at e
      rw [h]; exact e
    · rw [tupF_ne fun xs e => h ⟨xs, e⟩] at e; exact g.fh b u e
  · rw [tupF_ne fun xs e => ?_]
    · exact g.nw b h1 h2
    · cases q : H0 b with
      | none => rw [q] at h1; exact h1
      | some u =>
        have := g.hh b u q
        rw [e] at this
        cases this
        rw [q] at h1
        exact h1
/-- for over a list of one's own that the loop leaves -/
theorem for_own {K : PySem.W.Frag} {F H F0 H0 : Hp} {σ : L2.St} {a : Addr} {D : Ends} {g : TG} {tb : TS} {ns : List Int} (G : Gr F0 H0 F H) (J : Nat → L2.St → Hp → Hp → Prop) (h0 : J 0 σ F H)
    (hl : ∀ i σ F H, J i σ F H → H a = some (.lst (ns.map V.int)))
    (hs : ∀ i n σ1 F1 H1 (N : L2.St → Hp → Prop), ns[i]? = some n → Gr F0 H0 F1 H1 → Same F F1 → J i σ1 F1 H1 → (∀ σ' F' H', Gr F0 H0 F' H' → Same F1 F' → J (i + 1) σ' F' H' → N σ' H') → g (.int n) σ1 H1 fun σ2 H2 => tb { D with nx := N, ct := N, bk := D.nx } σ2 H2)
    (hd : ∀ σ1 F1 H1, Gr F0 H0 F1 H1 → Same F F1 → J ns.length σ1 F1 H1 → D.nx σ1 H1) :
    ∃ W : Nat → Nat → L2.St → Hp → Prop, (∃ m, W 0 m σ H) ∧ ∀ i m σ H, W i m σ H →
      ((Itl K a).stop i H ∧ D.nx σ H) ∨ ((Itl K a).go i H ∧ ∃ N : L2.St → Hp → Prop, (∀ σ' H', N σ' H' → ∃ m', m' < m ∧ W (i + 1) m' σ' H') ∧ ∀ x H', (Itl K a).yld i H x H' → g x σ H' fun σ2 H2 => tb { D with nx := N, ct := N, bk := D.nx } σ2 H2) := by
  refine for_list (K := K) (a := a) (xs := ns.map V.int) (fun i σ1 H1 => ∃ F1, Gr F0 H0 F1 H1 ∧ Same F F1 ∧ J i σ1 F1 H1) ⟨F, G, Same.refl _, h0⟩ (fun i σ1 H1 _ ⟨F1, g1, s1, j1⟩ => SqL.of (hl _ _ _ _ j1)) ?_ ?_
  · rintro i v σ1 H1 hv ⟨F1, g1, s1, j1⟩
    rw [List.getElem?_map] at hv
    obtain ⟨n, hn, rfl⟩ := Option.map_eq_some_iff.mp hv
    exact hs i n σ1 F1 H1 _ hn g1 s1 j1 fun σ' F' H' g' s' j' => ⟨F', g', s1.trans s', j'⟩
  · rintro σ1 H1 ⟨F1, g1, s1, j1⟩
    rw [List.length_map] at j1
    exact hd σ1 F1 H1 g1 s1 j1
/-! D_alike3.src -/
def PairI (nums : List Int) (kv : List (List L2.Key × V)) : Prop := (kv.map (·.1)).Nodup ∧ ∀ p ∈ kv, ∃ a b, a ∈ nums ∧ b ∈ nums ∧ p.1 = [Sum.inl a, Sum.inl b]
theorem putK_keys {κ : Type} [DecidableEq κ] {kvs : List (κ × V)} {k : κ} {v : V} (h : (kvs.map (·.1)).Nodup) : ((putK kvs k v).map (·.1)).Nodup := by
  unfold putK
  split
  · next e =>
    have e2 : (kvs.map fun kv => if kv.1 = k then (kv.1, v) else kv).map (·.1) = kvs.map (·.1) := by
      rw [List.map_map]
      refine List.map_congr_left fun p _ => ?_
      show (if p.1 = k then (p.1, v) else p).1 = p.1
      split <;> rfl
    rw [e2]; exact h
  · next e =>
    rw [List.map_append]
    refine List.nodup_append.mpr ⟨h, by simp, fun a ha b hb hab => ?_⟩
    have hb : b = k := by simpa using hb
    obtain ⟨p, hp, e3⟩ := List.mem_map.mp ha
    exact e (List.any_eq_true.mpr ⟨p, hp, by simp [e3, hab, hb]⟩)
theorem PairI.put {nums : List Int} {kv : List (List L2.Key × V)} {a b : Int} {v : V} (h : PairI nums kv) (ha : a ∈ nums) (hb : b ∈ nums) : PairI nums (putK kv [Sum.inl a, Sum.inl b] v) := by
  refine ⟨putK_keys h.1, fun p hp => ?_⟩
  rcases putK_mem hp with q | q
  · exact h.2 p q
  · rw [q]; exact ⟨a, b, ha, hb, rfl⟩
theorem PairI.len {nums : List Int} {kv : List (List L2.Key × V)} (h : PairI nums kv) : kv.length ≤ nums.length * nums.length := by
  have q : (kv.map (·.1)).length ≤ (nums.flatMap fun a => nums.map fun b => [Sum.inl a, Sum.inl b] : List (List L2.Key)).length := by
    refine h.1.length_le_of_subset fun k hk => ?_
    obtain ⟨p, hp, rfl⟩ := List.mem_map.mp hk
    obtain ⟨a, b, ha, hb, e⟩ := h.2 p hp
    rw [e]
    exact List.mem_flatMap.mpr ⟨a, ha, List.mem_map.mpr ⟨b, hb, rfl⟩⟩
  rw [List.length_map, List.length_flatMap] at q
  simp only [List.length_map] at q
  have e : ∀ l : List Int, (l.map fun _ => nums.length).sum = l.length * nums.length := by
    intro l
    induction l with
    | nil => simp
    | cons a r ih => rw [List.map_cons, List.sum_cons, ih, List.length_cons, Nat.add_mul]; omega
  rw [e] at q
  exact q
/-- a table whose values are lists of one's own -/
def TabI (F H H0 : Hp) (d e : Addr) (nums : List Int) (c : Nat) (kv : List (List L2.Key × V)) : Prop :=
  ∀ p ∈ kv, ∃ (b : Addr) (ns : List Int), p.2 = .ref b ∧ Own F H b (.lst (ns.map V.int)) ∧ H0 b = none ∧ b ≠ d ∧ b ≠ e ∧ ns.length ≤ c ∧ ∀ n ∈ ns, n ∈ nums
theorem TabI.go {F H H0 F1 H1 : Hp} {d e : Addr} {nums : List Int} {c : Nat} {kv : List (List L2.Key × V)} (h : TabI F H H0 d e nums c kv) (g : Gr F H F1 H1) : TabI F1 H1 H0 d e nums c kv := fun p hp =>
  let ⟨b, ns, h1, h2, h3⟩ := h p hp; ⟨b, ns, h1, h2.go g, h3⟩
theorem TabI.chd {F H H0 H1 : Hp} {d e : Addr} {o : HO} {nums : List Int} {c : Nat} {kv : List (List L2.Key × V)} (h : TabI F H H0 d e nums c kv) (g : Chg H d o H1) : TabI F H1 H0 d e nums c kv := fun p hp =>
  let ⟨b, ns, h1, h2, h3, h4, h5⟩ := h p hp; ⟨b, ns, h1, g.ne h2 h4, h3, h4, h5⟩
theorem TabI.che {F H H0 H1 : Hp} {d e : Addr} {o : HO} {nums : List Int} {c : Nat} {kv : List (List L2.Key × V)} (h : TabI F H H0 d e nums c kv) (g : Chg H e o H1) : TabI F H1 H0 d e nums c kv := fun p hp =>
  let ⟨b, ns, h1, h2, h3, h4, h5, h6⟩ := h p hp; ⟨b, ns, h1, g.ne h2 h5, h3, h4, h5, h6⟩
theorem TabI.chb {F H H0 H1 : Hp} {d e b : Addr} {nums : List Int} {c : Nat} {kv : List (List L2.Key × V)} {ms : List Int} {o : HO} (h : TabI F H H0 d e nums c kv) (g : Chg H b (.lst (ms.map V.int)) H1) (ow : Own F H b o) (hb : H0 b = none) (nd : b ≠ d) (ne : b ≠ e) (hl : ms.length ≤ c + 1) (hm : ∀ n ∈ ms, n ∈ nums) : TabI F H1 H0 d e nums (c + 1) kv := fun p hp => by
  obtain ⟨b', ns, h1, h2, h3, h4, h5, h6, h7⟩ := h p hp
  by_cases q : b' = b
  · subst q
    exact ⟨b', ms, h1, g.own ow, hb, nd, ne, hl, hm⟩
  · exact ⟨b', ns, h1, g.ne h2 q, h3, h4, h5, by omega, h7⟩
theorem TabI.put {F H H0 : Hp} {d e b : Addr} {nums : List Int} {c : Nat} {kv : List (List L2.Key × V)} {k : List L2.Key} (h : TabI F H H0 d e nums c kv) (ow : Own F H b (.lst [])) (hb : H0 b = none) (nd : b ≠ d) (ne : b ≠ e) : TabI F H H0 d e nums c (putK kv k (.ref b)) := fun p hp => by
  rcases putK_mem hp with q | q
  · exact h p q
  · rw [q]; exact ⟨b, [], rfl, ow, hb, nd, ne, Nat.zero_le _, fun _ h => by simp at h⟩
abbrev kPr : R (Int × Int) := k2 kI kI
theorem keys_typed {H : Hp} {nums : List Int} : ∀ {kv : List (List L2.Key × V)} {bs : List Addr}, IsKeys H kv bs → (∀ p ∈ kv, ∃ a b, a ∈ nums ∧ b ∈ nums ∧ p.1 = [Sum.inl a, Sum.inl b]) →
    (∀ b ∈ bs, ∃ i j, H b = some (.tup [.int i, .int j]) ∧ i ∈ nums ∧ j ∈ nums) ∧ bs.length = kv.length
  | _, _, .nil, _ => ⟨fun _ h => by simp at h, rfl⟩
  | _, _, .cons h t, q => by
    obtain ⟨i1, i2⟩ := keys_typed (nums := nums) t fun p hp => q p (List.mem_cons_of_mem _ hp)
    refine ⟨fun b hb => ?_, by rw [List.length_cons, List.length_cons, i2]⟩
    rcases List.mem_cons.mp hb with e | e
    · obtain ⟨x, y, hx, hy, e2⟩ := q _ List.mem_cons_self
      rw [e2] at h
      rw [e]; exact ⟨x, y, h, hx, hy⟩
    · exact i1 b e
def sp_meeting_pairs : Sp := SpOf (ι := V × List (Int × Shs) × Nat) (fun i => [i.1, .int (i.2.2 : Int)]) (fun ⟨v1, ds, n⟩ F => (kL kLo).p F v1 ds ∧ 1 ≤ n ∧ n ≤ 1000 ∧ ds.length ≤ 20 ∧ ∀ d ∈ ds, LoOk d) (fun ⟨_, ds, _⟩ F v => ∃ ps, (kL kPr).p F v ps ∧ ps.length ≤ 400 ∧ ∀ p ∈ ps, p.1 ∈ ds.map (·.1) ∧ p.2 ∈ ds.map (·.1))
theorem ok_meeting_pairs {P : Program} {w : World} {K : PySem.W.Frag} {mg : Str → Option Value} {base : Heap} (T : Tx K mg) : Okd P w K mg base 2 ("meeting_pairs", none) ["documents", "length"] [] (sp_meeting_pairs) := by
  have O_shingles := ok_shingles (P := P) (w := w) (base := base) T
  obtain ⟨fd, F⟩ : ∃ fd, FunD K "meeting_pairs" "meeting_pairs" (defArgs s_meeting_pairs) (defBody s_meeting_pairs) (defScope s_meeting_pairs) [] [] (He.fAd K ("meeting_pairs", none)) fd := T.says.d.def_ 2 rfl
  refine ⟨fd, [], F.ok sc_meeting_pairs (fun vs H Q E h => ?_) (fun cdv A outer s H vs Q E hr h => ?_), .nil, F.bindsN (fun _ _ _ _ _ _ us hl => match us, hl with | [_, _], _ => rfl), F.kp⟩
  · obtain ⟨_, _, rfl, _⟩ := h; rfl
  · have hu := hu_of hr; refine ⟨_, PSs.nox (pss_cons (ps_set (i := 2) sc_meeting_pairs.nd rfl (by first | exact Or.inl rfl | exact Or.inr rfl) pe_dnewT)
    (pss_cons (ps_set (i := 3) sc_meeting_pairs.nd rfl (by first | exact Or.inl rfl | exact Or.inr rfl) pe_dnewT)
    (pss_cons (ps_for PassesOwn.never rfl (pi_listK K (pv 0)) (pg_tupK K rfl (pgs_cons (pg_name (i := 4) sc_meeting_pairs.nd rfl (by first | exact Or.inl rfl | exact Or.inr rfl)) (pgs_cons (pg_name (i := 5) sc_meeting_pairs.nd rfl (by first | exact Or.inl rfl | exact Or.inr rfl)) pgs_nil))) (pss_one (ps_for PassesOwn.never rfl (pi_listK K (pe_ok O_shingles T.n_shingles hr (by decide) (by rfl) (pa_cons (pv 5) (pa_cons (pv 1) pa_nil)))) (pg_name (i := 6) sc_meeting_pairs.nd rfl (by first | exact Or.inl rfl | exact Or.inr rfl)) (pss_cons (ps_set (i := 7) sc_meeting_pairs.nd rfl (by first | exact Or.inl rfl | exact Or.inr rfl) (pe_dsetdT hu (pv 2) (pv 6) (pe_lst pa_nil) ⟨rfl, rfl, rfl, rfl⟩))
    (pss_cons (ps_for PassesOwn.never rfl (pi_listK K (pv 7)) (pg_name (i := 8) sc_meeting_pairs.nd rfl (by first | exact Or.inl rfl | exact Or.inr rfl)) (pss_one (ps_dput hu (pv 3) (pe_tup (pa_cons (pv 8) (pa_cons (pv 4) pa_nil))) pe_bl rfl)))
    (pss_one (ps_expr (pe_bmK K PySem.F.plainAttrs_list PySem.F.slot_list_append PySem.F.type_list_append mt_append (pv 7) (pa_cons (pv 4) pa_nil)))))))))
    (pss_one (ps_ret (pe_callB (cr_sortedPK K) (by rfl) T.f_sorted (by decide +kernel) (pa_cons (pe_callTy (call_listKeysT rfl) (by rfl) T.f_list (by decide +kernel) (pa_cons (pe_bm0K K PySem.F.plainAttrs_dict PySem.F.slot_dict_keys PySem.F.type_dict_keys mt_keysV (pv 3)) pa_nil)) pa_nil))))))), ?_⟩
    obtain ⟨⟨v1, ds, n⟩, F0, rfl, fh, ⟨h1, hn1, hn2, hd1, hd2⟩, k⟩ := h
    dsimp only at h1 hn1 hn2 hd1 hd2 k ⊢
    obtain ⟨a1, vs1, rfl, ha1, hq1⟩ := h1
    walk_at "s"
    intro d H1 nd
    obtain ⟨g1, od⟩ := nd.own fh
    walk_at "s"
    intro e H2 ne
    obtain ⟨g2, oe⟩ := ne.own g1.fh
    have nde : d ≠ e := ne_of_none od.h ne.fr
    have od := od.go g2
    have ze : H e = none := g1.hh.free ne.fr
    have G2 := g1.trans g2
    walk_at "s"
    refine ⟨a1, rfl, ⟨_, SqL.of (G2.hh _ _ (fh _ _ ha1))⟩, ?_⟩
    refine for_kL (r := kLo) (xs := ds) G2 ha1 hq1 (fun i σ F H' => ∃ (kv pv : List (List L2.Key × V)) (x1 x2 x3 x4 x5 : Option V), σ = [some (.ref a1), some (.int (n : Int)), some (.ref d), some (.ref e), x1, x2, x3, x4, x5] ∧ Own F H' d (.dT kv) ∧ Own F H' e (.dT pv) ∧ TabI F H' H d e (ds.map (·.1)) (160801 * i) kv ∧ PairI (ds.map (·.1)) pv ∧ kv.length ≤ 160801 * i) ⟨[], [], _, _, _, _, _, rfl, od, oe, fun _ h => by simp at h, ⟨by simp, fun _ h => by simp at h⟩, by simp⟩ ?_ ?_
    · rintro i p v σ1 F3 H3 N hx hi hv G3 s3 ⟨kv, pv, x1, x2, x3, x4, x5, rfl, od, oe, hT, hP, hk⟩ kN
      have hpm := List.mem_of_getElem? hx
      obtain ⟨lo1, lo2⟩ := hd2 p hpm
      have hnum : p.1 ∈ ds.map (·.1) := List.mem_map.mpr ⟨p, hpm, rfl⟩
      have hi20 : i < 20 := by omega
      obtain ⟨b, y1, y2, rfl, hb, hy1, hy2⟩ := hv
      have hy1' : y1 = .int p.1 := hy1
      subst hy1'
      walk_at "s"
      refine x_gT (G3.fh _ _ hb) rfl ?_
      walk_at "s"
      refine ⟨(y2, p.2, n), F3, rfl, G3.fh, ⟨hy2, hn1, hn2, lo1, lo2⟩, fun v4 F4 H4 g4 hv4 => ?_⟩
      obtain ⟨rs, ⟨a5, vs5, rfl, ha5, hp5⟩, hrl⟩ := hv4
      have G4 := G3.trans g4
      refine ⟨a5, rfl, ⟨_, SqL.of (g4.at ha5)⟩, ?_⟩
      refine for_kL (r := kTS) (xs := rs) G4 ha5 hp5 (fun j σ F H' => ∃ (kv pv : List (List L2.Key × V)) (x3 x4 x5 : Option V), σ = [some (.ref a1), some (.int (n : Int)), some (.ref d), some (.ref e), some (.int p.1), some y2, x3, x4, x5] ∧ Own F H' d (.dT kv) ∧ Own F H' e (.dT pv) ∧ TabI F H' H d e (ds.map (·.1)) (160801 * i + j) kv ∧ PairI (ds.map (·.1)) pv ∧ kv.length ≤ 160801 * i + j) ⟨kv, pv, _, _, _, rfl, od.go g4, oe.go g4, hT.go g4, hP, hk⟩ ?_ ?_
      · rintro j w v σ2 F5 H5 N5 hx5 hj hv G5 s5 ⟨kv, pv, x3, x4, x5, rfl, od, oe, hT, hP, hk⟩ kN5
        obtain ⟨t, rfl, ht⟩ := hv
        walk_at "s"
        refine ⟨d, rfl, Or.inr ⟨_, Or.inl od.h⟩, ?_⟩
        walk_at "s"
        refine ⟨x_lt (by decide), fun l H6 nl => ?_⟩
        obtain ⟨g6, ol⟩ := nl.own G5.fh
        have ndl : l ≠ d := (ne_of_none od.h nl.fr).symm
        have nel : l ≠ e := (ne_of_none oe.h nl.fr).symm
        have od := od.go g6
        have oe := oe.go g6
        have hT := hT.go g6
        have zl : H l = none := G5.hh.free nl.fr
        have G6 := G5.trans g6
        have et : H6 t = some (.tup ((keyS w).map kV)) := by rw [keyS_kV]; exact G6.fh _ _ ht
        have hlp := length_putK kv (keyS w) (.ref l)
        refine ⟨kv, keyS w, t, od.h, rfl, et, by rw [sizeLine_eq]; omega, ?_⟩
        have fin : ∀ (kv' : List (List L2.Key × V)) (b : Addr) (ns : List Int) (F7 H7 : Hp) (x5 : Option V) (D : Ends), D.nx = N5 → Gr F0 H F7 H7 → Same F5 F7 → Own F7 H7 d (.dT kv') → Own F7 H7 e (.dT pv) → TabI F7 H7 H d e (ds.map (·.1)) (160801 * i + j) kv' → kv'.length ≤ 160801 * i + (j + 1) → Own F7 H7 b (.lst (ns.map V.int)) → H b = none → b ≠ d → b ≠ e → ns.length ≤ 160801 * i + j → (∀ n ∈ ns, n ∈ ds.map (·.1)) →
            tSeq (tFor (iList K (tVar 7)) (gName 8) (sDPut (tVar 3) (tTup (tCons (tVar 8) (tCons (tVar 4) tNil))) (tC (V.bl true)))) (tDrop (tBM K "list" rAppend (tVar 7) (tCons (tVar 4) tNil))) D
              [some (.ref a1), some (.int (n : Int)), some (.ref d), some (.ref e), some (.int p.1), some y2, some (.ref t), some (.ref b), x5] H7 := by
          intro kv' b ns F7 H7 x5 D hD G7 s7 od oe hT hk ob zb nbd nbe hnl hnm
          walk_at "s"
          refine ⟨b, rfl, ⟨_, SqL.of ob.h⟩, ?_⟩
          refine for_own (ns := ns) G7 (fun m σ F H' => ∃ (pv : List (List L2.Key × V)) (x5 : Option V), σ = [some (.ref a1), some (.int (n : Int)), some (.ref d), some (.ref e), some (.int p.1), some y2, some (.ref t), some (.ref b), x5] ∧ Own F H' d (.dT kv') ∧ Own F H' e (.dT pv) ∧ TabI F H' H d e (ds.map (·.1)) (160801 * i + j) kv' ∧ PairI (ds.map (·.1)) pv ∧ Own F H' b (.lst (ns.map V.int)))
            ⟨pv, _, rfl, od, oe, hT, hP, ob⟩ (fun _ _ _ _ ⟨_, _, _, _, _, _, _, h⟩ => h.h) ?_ ?_
          · rintro m n' σ3 F8 H8 N8 hn' G8 s8 ⟨pv, x5, rfl, od, oe, hT, hP, ob⟩ kN8
            have hmem := hnm n' (List.mem_of_getElem? hn')
            have hpl := hP.len
            rw [List.length_map] at hpl
            have hsq : ds.length * ds.length ≤ 20 * 20 := Nat.mul_le_mul hd1 hd1
            walk_at "s"
            refine ⟨x_lt (Nat.le_of_ble_eq_true rfl), fun q H9 nq => ?_⟩
            obtain ⟨F9, g9, e9⟩ := nq.fix G8.fh
            have od := od.go g9
            have oe := oe.go g9
            have ob := ob.go g9
            have hT := hT.go g9
            refine ⟨e, _, rfl, DPut.t (k := [Sum.inl n', Sum.inl p.1]) oe.h (g9.at e9) (by rw [sizeLine_eq]; omega), ?_⟩
            have c : Chg H9 e (.dT (putK pv [Sum.inl n', Sum.inl p.1] (.bl true))) (upd H9 e (.dT (putK pv [Sum.inl n', Sum.inl p.1] (.bl true)))) := rfl
            walk_at "s"
            exact kN8 _ _ _ (c.gr (G8.trans g9) oe.f ze) g9.ff ⟨_, _, rfl, c.ne od nde, c.own oe, hT.che c, hP.put hmem hnum, c.ne ob nbe⟩
          · rintro σ3 F8 H8 G8 s8 ⟨pv, x5, rfl, od, oe, hT, hP, ob⟩
            walk_at "s"
            refine ⟨x_tyL ob.h, ?_⟩
            walk_at "s"
            refine x_app ob.h (by rw [List.length_map, sizeLine_eq]; omega) fun H9 c => ?_
            have e9 : ns.map V.int ++ [V.int p.1] = (ns ++ [p.1]).map V.int := by rw [List.map_append]; rfl
            rw [e9] at c
            walk_at "s"
            rw [hD]
            refine kN5 _ _ _ (c.gr G8 ob.f zb) (s7.trans s8) ⟨kv', pv, _, _, _, rfl, c.ne od nbd.symm, c.ne oe nbe.symm, hT.chb c ob zb nbd nbe (by rw [List.length_append, List.length_singleton]; omega) fun n hn => ?_, hP, hk⟩
            rcases List.mem_append.mp hn with h | h
            · exact hnm n h
            · rw [List.mem_singleton.mp h]; exact hnum
        refine ⟨fun v hv => ?_, fun hv => ?_⟩
        · obtain ⟨b, ns, q1, q2, q3, q4, q5, q6, q7⟩ := hT _ (valV_mem hv)
          dsimp only at q1
          subst q1
          exact fin kv b ns F5 H6 _ _ rfl G6 g6.ff od oe hT (by omega) q2 q3 q4 q5 q6 q7
        · have c : Chg H6 d (.dT (putK kv (keyS w) (.ref l))) (upd H6 d (.dT (putK kv (keyS w) (.ref l)))) := rfl
          exact fin _ l [] F5 _ _ _ rfl (c.gr G6 od.f nd.fr) g6.ff (c.own od) (c.ne oe nde.symm) ((hT.chd c).put (c.ne ol ndl) zl ndl nel) (by omega) (c.ne ol ndl) zl ndl nel (Nat.zero_le _) fun _ h => by simp at h
      · rintro σ2 F5 H5 G5 s5 ⟨kv, pv, x3, x4, x5, rfl, od, oe, hT, hP, hk⟩
        refine kN _ _ _ G5 (g4.ff.trans s5) ⟨kv, pv, _, _, _, _, _, rfl, od, oe, fun p hp => ?_, hP, by omega⟩
        obtain ⟨b, ns, q1, q2, q3, q4, q5, q6, q7⟩ := hT p hp
        exact ⟨b, ns, q1, q2, q3, q4, q5, by omega, q7⟩
    · rintro σ1 F3 H3 G3 s3 ⟨kv, pv, x1, x2, x3, x4, x5, rfl, od, oe, hT, hP, hk⟩
      have hpl := hP.len
      rw [List.length_map] at hpl
      have hsq : ds.length * ds.length ≤ 20 * 20 := Nat.mul_le_mul hd1 hd1
      walk_at "s"
      refine ⟨Or.inr (Or.inr (Or.inl ⟨rfl, Or.inr ⟨_, oe.h⟩⟩)), e, rfl, rfl, Or.inr ⟨_, oe.h⟩, fun p np => ?_⟩
      walk_at "s"
      have nep : e ≠ p := ne_of_none oe.h np
      refine ⟨p, e, pv, rfl, upd_same, by rw [upd_ne nep]; exact oe.h, fun q bs nq hkeys => ?_⟩
      walk_at "s"
      obtain ⟨ht1, ht2⟩ := keys_typed (nums := ds.map (·.1)) hkeys hP.2
      generalize hH5 : upd H3 p (keysO p e) = H5 at nq hkeys ht1
      have G5 : Gr F0 H F3 H5 := by rw [← hH5]; exact G3.trans (Gr.newM G3.fh np)
      have G6 : Gr F0 H F3 (upd H5 q (.lst (bs.map V.ref))) := G5.trans (Gr.newM G5.fh nq)
      have ht3 : ∀ b ∈ bs, ∃ i j, (upd H5 q (.lst (bs.map V.ref))) b = some (.tup [.int i, .int j]) ∧ i ∈ ds.map (·.1) ∧ j ∈ ds.map (·.1) := fun b hb => by
        obtain ⟨i, j, q1, q2⟩ := ht1 b hb
        exact ⟨i, j, by rw [upd_ne (ne_of_none q1 nq)]; exact q1, q2⟩
      refine ⟨q, bs.map V.ref, rfl, SqL.of upd_same, fun x hx => ?_, fun ys r2 perm nr2 => ?_⟩
      · obtain ⟨b, hb, rfl⟩ := List.mem_map.mp hx
        obtain ⟨i, j, h, _⟩ := ht3 b hb
        exact ⟨b, i, j, rfl, h⟩
      · have G7 := G6.trans (Gr.newM (p := r2) (o := .lst ys) G6.fh nr2)
        obtain ⟨G8, s8⟩ := G7.fixAll
        have G9 := G8.fix upd_same ((G6.hh.free nr2)) (by rw [tupF_ne fun xs e => by rw [upd_same] at e; cases e]; exact G6.fh.free nr2)
        have key : ∀ (l : List V), (∀ x ∈ l, x ∈ bs.map V.ref) → ∃ ps : List (Int × Int), Paired (kPr.p (upd (tupF F3 (upd (upd H5 q (.lst (bs.map V.ref))) r2 (.lst ys))) r2 (.lst ys))) l ps ∧ ∀ p ∈ ps, p.1 ∈ ds.map (·.1) ∧ p.2 ∈ ds.map (·.1) := by
          intro l
          induction l with
          | nil => intro _; exact ⟨[], .nil, fun _ h => by simp at h⟩
          | cons x l ih =>
            intro h
            obtain ⟨ps, i1, i2⟩ := ih fun y hy => h y (List.mem_cons_of_mem _ hy)
            obtain ⟨b, hb, rfl⟩ := List.mem_map.mp (h x List.mem_cons_self)
            obtain ⟨i, j, q1, q2, q3⟩ := ht3 b hb
            have hbr : b ≠ r2 := ne_of_none q1 nr2
            refine ⟨(i, j) :: ps, .cons ⟨b, _, _, rfl, by rw [upd_ne hbr]; exact tupF_at (by rw [upd_ne hbr]; exact q1), rfl, rfl⟩ i1, fun p hp => ?_⟩
            rcases List.mem_cons.mp hp with e | e
            · rw [e]; exact ⟨q2, q3⟩
            · exact i2 p e
        obtain ⟨ps, i1, i2⟩ := key ys fun x hx => perm.subset hx
        have hlen := i1.length
        have hpl2 := perm.length_eq
        rw [List.length_map] at hpl2
        exact k _ _ _ G9 ⟨ps, ⟨r2, ys, rfl, upd_same, i1⟩, by omega, i2⟩
/-! D_alike4.src -/
abbrev kAl : R (Int × Int × Int × Int) := k4 kI kI kI kI
abbrev Los := List (Int × Shs)
def sp_alike_pairs : Sp := SpOf (ι := V × Los × Nat × Int × Int) (fun i => [i.1, .int (i.2.2.1 : Int), .int i.2.2.2.1, .int i.2.2.2.2]) (fun ⟨v1, ds, n, ov, un⟩ F => (kL kLo).p F v1 ds ∧ 1 ≤ n ∧ n ≤ 1000 ∧ ds.length ≤ 20 ∧ (∀ d ∈ ds, LoOk d) ∧ (0 ≤ ov ∧ ov ≤ 1000) ∧ 0 ≤ un ∧ un ≤ 1000)
  (fun ⟨_, ds, _, _, _⟩ F v => ∃ rs, (kL kAl).p F v rs ∧ ∀ r ∈ rs, r.1 ∈ ds.map (·.1) ∧ r.2.1 ∈ ds.map (·.1))
theorem ok_alike_pairs {P : Program} {w : World} {K : PySem.W.Frag} {mg : Str → Option Value} {base : Heap} (T : Tx K mg) : Okd P w K mg base 3 ("alike_pairs", none) ["documents", "length", "over", "under"] [] (sp_alike_pairs) := by
  have O_meeting_pairs := ok_meeting_pairs (P := P) (w := w) (base := base) T
  have O_compare := ok_compare (P := P) (w := w) (base := base) T
  obtain ⟨fd, F⟩ : ∃ fd, FunD K "alike_pairs" "alike_pairs" (defArgs s_alike_pairs) (defBody s_alike_pairs) (defScope s_alike_pairs) [] [] (He.fAd K ("alike_pairs", none)) fd := T.says.d.def_ 3 rfl
  refine ⟨fd, [], F.ok sc_alike_pairs (fun vs H Q E h => ?_) (fun cdv A outer s H vs Q E hr h => ?_), .nil, F.bindsN (fun _ _ _ _ _ _ us hl => match us, hl with | [_, _, _, _], _ => rfl), F.kp⟩
  · obtain ⟨_, _, rfl, _⟩ := h; rfl
  · have hu := hu_of hr; refine ⟨_, PSs.nox (pss_cons (ps_setDcP (i := 4) (own := [("number", 11), ("pieces", 12)]) (g := (gTup K 2 (gCons (gName 11) (gCons (gName 12) gNil)))) emptyK hu rfl sc_alike_pairs.nd rfl rfl (swD_true rfl rfl rfl (by decide +kernel)) (pi_listK K (pv 0)) (blkOk_by (own := [("number", 11), ("pieces", 12)]) (N := N_alike_pairs) (sc := defScope s_alike_pairs) (by decide +kernel)) (fun _ _ _ _ _ => (pg_tupK K rfl (pgs_cons (pg_name (i := 11) sc_alike_pairs.nd rfl (by first | exact Or.inl rfl | exact Or.inr rfl)) (pgs_cons (pg_name (i := 12) sc_alike_pairs.nd rfl (by first | exact Or.inl rfl | exact Or.inr rfl)) pgs_nil)))) (fun _ _ _ _ _ => (pv 11)) (fun _ _ _ _ _ => (pv 12)))
    (pss_cons (ps_set (i := 5) sc_alike_pairs.nd rfl (by first | exact Or.inl rfl | exact Or.inr rfl) (pe_lst pa_nil))
    (pss_cons (ps_for PassesOwn.never rfl (pi_listK K (pe_ok O_meeting_pairs T.n_meeting_pairs hr (by decide) (by rfl) (pa_cons (pv 0) (pa_cons (pv 1) pa_nil)))) (pg_tupK K rfl (pgs_cons (pg_name (i := 6) sc_alike_pairs.nd rfl (by first | exact Or.inl rfl | exact Or.inr rfl)) (pgs_cons (pg_name (i := 7) sc_alike_pairs.nd rfl (by first | exact Or.inl rfl | exact Or.inr rfl)) pgs_nil))) (pss_cons (ps_asg (pe_ok O_compare T.n_compare hr (by decide) (by rfl) (pa_cons (pe_dget hu (pv 4) (pv 6) (fun _ _ => rfl)) (pa_cons (pe_dget hu (pv 4) (pv 7) (fun _ _ => rfl)) (pa_cons (pv 1) (pa_cons (pv 2) (pa_cons (pv 3) pa_nil)))))) (pg_tupK K rfl (pgs_cons (pg_name (i := 8) sc_alike_pairs.nd rfl (by first | exact Or.inl rfl | exact Or.inr rfl)) (pgs_cons (pg_name (i := 9) sc_alike_pairs.nd rfl (by first | exact Or.inl rfl | exact Or.inr rfl)) (pgs_cons (pg_name (i := 10) sc_alike_pairs.nd rfl (by first | exact Or.inl rfl | exact Or.inr rfl)) pgs_nil)))))
    (pss_one (ps_if (pt_val (pv 8)) (pss_one (ps_expr (pe_bmK K PySem.F.plainAttrs_list PySem.F.slot_list_append PySem.F.type_list_append mt_append (pv 5) (pa_cons (pe_tup (pa_cons (pv 6) (pa_cons (pv 7) (pa_cons (pv 9) (pa_cons (pv 10) pa_nil))))) pa_nil)))) pss_nil))))
    (pss_one (ps_ret (pv 5)))))), ?_⟩
    obtain ⟨⟨v1, ds, n, ov, un⟩, F0, rfl, fh, ⟨h1, hn1, hn2, hd1, hd2, ho, hu1⟩, k⟩ := h
    dsimp only at h1 hn1 hn2 hd1 hd2 ho hu1 k ⊢
    obtain ⟨a1, vs1, rfl, ha1, hq1⟩ := id h1
    walk_at "s"
    refine ⟨a1, rfl, ⟨_, SqL.of (fh _ _ ha1)⟩, dcp_kL (r := kLo) (s := kL (kL kS)) (kb := fun d => (Sum.inl d.1, d.2)) fh ha1 hq1 (by omega) ?_ ?_⟩
    · intro i d v F1 H1 N hx hv g1 kN
      obtain ⟨b, y1, y2, rfl, hb, hy1, hy2⟩ := hv
      have hy1' : y1 = .int d.1 := hy1
      subst hy1'
      walk_at "s"
      refine x_gT (g1.at hb) rfl ?_
      walk_at "s"
      refine ⟨rfl, ?_⟩
      walk_at "s"
      exact kN _ _ _ (Gr.refl g1.fh) hy2
    intro p1 kv1 F1 H1 np1 g1 o1 dk1
    have G1x := g1.fix o1.h np1 o1.f
    generalize hF1 : upd F1 p1 (.dK kv1) = F1x at G1x
    have hd1' : F1x p1 = some (.dK kv1) := by rw [← hF1]; exact upd_same
    have dk1 := dk1.up (show Same F1 F1x by rw [← hF1]; exact same_new o1.f)
    clear g1 o1
    walk_at "s"
    refine ⟨x_lt (by decide), fun r H2 nr => ?_⟩
    obtain ⟨g2, o2⟩ := nr.own G1x.fh
    have G2 := G1x.trans g2
    have zr : H r = none := G1x.hh.free nr.fr
    walk_at "s"
    refine ⟨(.ref a1, ds, n), F1x, rfl, G2.fh, ⟨(kL kLo).mono G2.ff h1, hn1, hn2, hd1, hd2⟩, fun v3 F3 H3 g3 hv3 => ?_⟩
    obtain ⟨ps, ⟨a3, vs3, rfl, ha3, hp3⟩, hpl, hpm⟩ := hv3
    have G3 := G2.trans g3
    refine ⟨a3, rfl, ⟨_, SqL.of (g3.at ha3)⟩, ?_⟩
    refine for_kL (r := kPr) (xs := ps) G3 ha3 hp3 (fun i σ F H' => ∃ (vs : List V) (rs : List (Int × Int × Int × Int)) (x1 x2 x3 x4 x5 x6 x7 x8 : Option V), σ = [some (.ref a1), some (.int (n : Int)), some (.int ov), some (.int un), some (.ref p1), some (.ref r), x1, x2, x3, x4, x5, x6, x7] ∧ Own F H' r (.lst vs) ∧ Paired (kAl.p F) vs rs ∧ rs.length ≤ i ∧ ∀ r ∈ rs, r.1 ∈ ds.map (·.1) ∧ r.2.1 ∈ ds.map (·.1)) ⟨[], [], _, _, _, _, _, _, _, none, rfl, o2.go g3, .nil, Nat.zero_le _, fun _ h => by simp at h⟩ ?_ ?_
    · rintro i p v σ1 F4 H4 N hx hi hv G4 s4 ⟨vs, rs, x1, x2, x3, x4, x5, x6, x7, x8, rfl, o4, hp4, hrl, hrm⟩ kN
      obtain ⟨b, rfl, hb⟩ := k2I hv
      obtain ⟨hm1, hm2⟩ := hpm p (List.mem_of_getElem? hx)
      obtain ⟨d1, hd1m, ed1⟩ := List.mem_map.mp hm1
      obtain ⟨d2, hd2m, ed2⟩ := List.mem_map.mp hm2
      obtain ⟨w1, y1, hw1, hy1, hk1⟩ := dk1.at (x := (Sum.inl d1.1, d1.2)) (List.mem_map.mpr ⟨d1, hd1m, rfl⟩)
      obtain ⟨w2, y2, hw2, hy2, hk2⟩ := dk1.at (x := (Sum.inl d2.1, d2.2)) (List.mem_map.mpr ⟨d2, hd2m, rfl⟩)
      obtain ⟨z1, hz1, rfl⟩ := List.mem_map.mp hy1
      obtain ⟨z2, hz2, rfl⟩ := List.mem_map.mp hy2
      dsimp only at hw1 hw2 hk1 hk2
      rw [ed1] at hw1
      rw [ed2] at hw2
      have s14 := (g2.ff.trans g3.ff).trans s4
      have e4 : H4 p1 = some (.dK kv1) := G4.fh _ _ (s14 _ _ hd1')
      walk_at "s"
      refine x_gT (G4.fh _ _ hb) rfl ?_
      walk_at "s"
      refine ⟨p1, _, rfl, hw1 ▸ DGet.k (k := Sum.inl p.1) e4, ?_⟩
      walk_at "s"
      refine ⟨p1, _, rfl, hw2 ▸ DGet.k (k := Sum.inl p.2) e4, ?_⟩
      walk_at "s"
      refine ⟨(w1, w2, n, ov, un, z1.2, z2.2), F4, rfl, G4.fh, ⟨(kL (kL kS)).mono s14 hk1, (kL (kL kS)).mono s14 hk2, hn1, hn2, hd2 _ hz1, hd2 _ hz2, ho, hu1⟩, fun v5 F5 H5 g5 hv5 => ?_⟩
      obtain ⟨⟨cb, c1, c2⟩, t5, u1, u2, u3, rfl, ht5, hu1', hu2', hu3'⟩ := hv5
      have hu1e : u1 = .bl cb := hu1'
      have hu2e : u2 = .int c1 := hu2'
      have hu3e : u3 = .int c2 := hu3'
      subst hu1e hu2e hu3e
      have G5 := G4.trans g5
      have o5 := o4.go g5
      refine x_gT (g5.at ht5) rfl ?_
      walk_at "s"
      refine x_any ?_ ?_
      · walk_at "s"
        refine ⟨x_tyL o5.h, ?_⟩
        walk_at "s"
        refine ⟨x_lt (Nat.le_of_ble_eq_true rfl), fun q H6 nq => ?_⟩
        obtain ⟨F6, g6, e6⟩ := nq.fix G5.fh
        have o6 := o5.go g6
        have l4 := hp4.length
        have s46 := g5.ff.trans g6.ff
        walk_at "s"
        refine x_app o6.h (by rw [sizeLine_eq]; omega) fun H7 c7 => ?_
        walk_at "s"
        refine kN _ _ _ (c7.gr (G5.trans g6) o6.f zr) s46 ⟨_, rs ++ [(p.1, p.2, c1, c2)], _, _, _, _, _, _, _, none, rfl, c7.own o6, (L2.Paired.mapP hp4 fun _ _ h => kAl.mono s46 h).snoc ⟨q, _, _, _, _, rfl, e6, rfl, rfl, rfl, rfl⟩, by rw [List.length_append, List.length_singleton]; omega, fun r hr => ?_⟩
        rcases List.mem_append.mp hr with h | h
        · exact hrm r h
        · rw [List.mem_singleton.mp h]; exact ⟨hm1, hm2⟩
      · walk_at "s"
        exact kN _ _ _ G5 g5.ff ⟨_, rs, _, _, _, _, _, _, _, none, rfl, o5, L2.Paired.mapP hp4 fun _ _ h => kAl.mono g5.ff h, by omega, hrm⟩
    · rintro σ1 F4 H4 G4 s4 ⟨vs, rs, x1, x2, x3, x4, x5, x6, x7, x8, rfl, o4, hp4, hrl, hrm⟩
      walk_at "s"
      exact k _ _ _ (G4.fix o4.h zr o4.f) ⟨rs, ⟨r, vs, rfl, upd_same, L2.Paired.mapP hp4 fun _ _ h => kAl.mono (same_new o4.f) h⟩, hrm⟩
theorem putK_len {κ : Type} [DecidableEq κ] {kvs : List (κ × V)} {k : κ} {v w : V} (h : valV kvs k = some w) : (putK kvs k v).length = kvs.length := by
  unfold putK
  rw [if_pos (by rw [valV_any, h]; rfl), List.length_map]
theorem putK_keysEq {κ : Type} [DecidableEq κ] {kvs : List (κ × V)} {k : κ} {v w : V} (h : valV kvs k = some w) : (putK kvs k v).map (·.1) = kvs.map (·.1) := by
  unfold putK
  rw [if_pos (by rw [valV_any, h]; rfl), List.map_map]
  refine List.map_congr_left fun p _ => ?_
  show (if p.1 = k then (p.1, v) else p).1 = p.1
  split <;> rfl
/-- numbers to numbers -/
def KeptI (ks : List L2.Key) (kvs : List (L2.Key × V)) : Prop := kvs.length ≤ 20 ∧ (∀ p ∈ kvs, ∃ n : Int, p.2 = .int n) ∧ ∀ k ∈ ks, ∃ v, valV kvs k = some v
theorem KeptI.at {ks : List L2.Key} {kvs : List (L2.Key × V)} (h : KeptI ks kvs) {k : L2.Key} (hk : k ∈ ks) : ∃ n : Int, valV kvs k = some (.int n) := by
  obtain ⟨v, e⟩ := h.2.2 k hk
  obtain ⟨n, en⟩ := h.2.1 _ (valV_mem e)
  dsimp only at en
  subst en
  exact ⟨n, e⟩
theorem KeptI.put {ks : List L2.Key} {kvs : List (L2.Key × V)} (h : KeptI ks kvs) {k : L2.Key} (hk : k ∈ ks) {n : Int} : KeptI ks (putK kvs k (.int n)) := by
  obtain ⟨v, e⟩ := h.2.2 k hk
  refine ⟨by rw [putK_len e]; exact h.1, fun p hp => ?_, fun j hj => ?_⟩
  · rcases putK_mem hp with q | q
    · exact h.2.1 p q
    · rw [q]; exact ⟨n, rfl⟩
  · rw [valV_put]
    split
    · exact ⟨_, rfl⟩
    · exact h.2.2 j hj
def sp_kept_ids : Sp := SpOf (ι := V × Los × Nat × Int × Int) (fun i => [i.1, .int (i.2.2.1 : Int), .int i.2.2.2.1, .int i.2.2.2.2]) (fun ⟨v1, ds, n, ov, un⟩ F => (kL kLo).p F v1 ds ∧ 1 ≤ n ∧ n ≤ 1000 ∧ ds.length ≤ 20 ∧ (∀ d ∈ ds, LoOk d) ∧ (0 ≤ ov ∧ ov ≤ 1000) ∧ 0 ≤ un ∧ un ≤ 1000)
  (fun ⟨_, ds, _, _, _⟩ F v => ∃ kvs, kDi.p F v kvs ∧ ∀ d ∈ ds, ∃ n : Int, valV kvs (Sum.inl d.1) = some (.int n))
theorem ok_kept_ids {P : Program} {w : World} {K : PySem.W.Frag} {mg : Str → Option Value} {base : Heap} (T : Tx K mg) : Okd P w K mg base 4 ("kept_ids", none) ["documents", "length", "over", "under"] [] (sp_kept_ids) := by
  have O_alike_pairs := ok_alike_pairs (P := P) (w := w) (base := base) T
  obtain ⟨fd, F⟩ : ∃ fd, FunD K "kept_ids" "kept_ids" (defArgs s_kept_ids) (defBody s_kept_ids) (defScope s_kept_ids) [] [] (He.fAd K ("kept_ids", none)) fd := T.says.d.def_ 4 rfl
  refine ⟨fd, [], F.ok sc_kept_ids (fun vs H Q E h => ?_) (fun cdv A outer s H vs Q E hr h => ?_), .nil, F.bindsN (fun _ _ _ _ _ _ us hl => match us, hl with | [_, _, _, _], _ => rfl), F.kp⟩
  · obtain ⟨_, _, rfl, _⟩ := h; rfl
  · have hu := hu_of hr; refine ⟨_, PSs.nox (pss_cons (ps_setDcP (i := 4) (own := [("number", 11), ("pieces", 12)]) (g := (gTup K 2 (gCons (gName 11) (gCons (gName 12) gNil)))) emptyK hu rfl sc_kept_ids.nd rfl rfl (swD_true rfl rfl rfl (by decide +kernel)) (pi_listK K (pv 0)) (blkOk_by (own := [("number", 11), ("pieces", 12)]) (N := N_kept_ids) (sc := defScope s_kept_ids) (by decide +kernel)) (fun _ _ _ _ _ => (pg_tupK K rfl (pgs_cons (pg_name (i := 11) sc_kept_ids.nd rfl (by first | exact Or.inl rfl | exact Or.inr rfl)) (pgs_cons (pg_name (i := 12) sc_kept_ids.nd rfl (by first | exact Or.inl rfl | exact Or.inr rfl)) pgs_nil)))) (fun _ _ _ _ _ => (pv 11)) (fun _ _ _ _ _ => (pv 11)))
    (pss_cons (ps_for PassesOwn.never rfl (pi_listK K (pe_ok O_alike_pairs T.n_alike_pairs hr (by decide) (by rfl) (pa_cons (pv 0) (pa_cons (pv 1) (pa_cons (pv 2) (pa_cons (pv 3) pa_nil)))))) (pg_tupK K rfl (pgs_cons (pg_name (i := 5) sc_kept_ids.nd rfl (by first | exact Or.inl rfl | exact Or.inr rfl)) (pgs_cons (pg_name (i := 6) sc_kept_ids.nd rfl (by first | exact Or.inl rfl | exact Or.inr rfl)) (pgs_cons (pg_name (i := 7) sc_kept_ids.nd rfl (by first | exact Or.inl rfl | exact Or.inr rfl)) (pgs_cons (pg_name (i := 8) sc_kept_ids.nd rfl (by first | exact Or.inl rfl | exact Or.inr rfl)) pgs_nil))))) (pss_cons (ps_set (i := 9) sc_kept_ids.nd rfl (by first | exact Or.inl rfl | exact Or.inr rfl) (pe_callB (call_min2 rfl) (by rfl) T.f_min (by decide +kernel) (pa_cons (pe_dget hu (pv 4) (pv 5) (fun _ _ => rfl)) (pa_cons (pe_dget hu (pv 4) (pv 6) (fun _ _ => rfl)) pa_nil))))
    (pss_cons (ps_set (i := 10) sc_kept_ids.nd rfl (by first | exact Or.inl rfl | exact Or.inr rfl) (pe_callB (call_max2 rfl) (by rfl) T.f_max (by decide +kernel) (pa_cons (pe_dget hu (pv 4) (pv 5) (fun _ _ => rfl)) (pa_cons (pe_dget hu (pv 4) (pv 6) (fun _ _ => rfl)) pa_nil))))
    (pss_one (ps_for PassesOwn.never rfl (pi_listK K (pe_callTy (call_listKeysK rfl) (by rfl) T.f_list (by decide +kernel) (pa_cons (pe_bm0K K PySem.F.plainAttrs_dict PySem.F.slot_dict_keys PySem.F.type_dict_keys mt_keysV (pv 4)) pa_nil))) (pg_name (i := 11) sc_kept_ids.nd rfl (by first | exact Or.inl rfl | exact Or.inr rfl)) (pss_one (ps_if (pt_cmpR op_eq (pe_dget hu (pv 4) (pv 11) (fun _ _ => rfl)) (pv 10) (nomark _)) (pss_one (ps_dput hu (pv 4) (pv 11) (pv 9) rfl)) pss_nil)))))))
    (pss_one (ps_ret (pv 4))))), ?_⟩
    obtain ⟨⟨v1, ds, n, ov, un⟩, F0, rfl, fh, ⟨h1, hn1, hn2, hd1, hd2, ho, hu1⟩, k⟩ := h
    dsimp only at h1 hn1 hn2 hd1 hd2 ho hu1 k ⊢
    obtain ⟨a1, vs1, rfl, ha1, hq1⟩ := id h1
    walk_at "s"
    refine ⟨a1, rfl, ⟨_, SqL.of (fh _ _ ha1)⟩, dcp_kL (r := kLo) (s := kI) (kb := fun d => (Sum.inl d.1, d.1)) fh ha1 hq1 (by omega) ?_ ?_⟩
    · intro i d v F1 H1 N hx hv g1 kN
      obtain ⟨b, y1, y2, rfl, hb, hy1, hy2⟩ := hv
      have hy1' : y1 = .int d.1 := hy1
      subst hy1'
      walk_at "s"
      refine x_gT (g1.at hb) rfl ?_
      walk_at "s"
      refine ⟨rfl, ?_⟩
      walk_at "s"
      exact kN _ _ _ (Gr.refl g1.fh) rfl
    intro e kv1 F1 H1 ne g1 o1 dk1
    have hK1 : KeptI (kv1.map (·.1)) kv1 ∧ (∀ d ∈ ds, Sum.inl d.1 ∈ kv1.map (·.1)) ∧ ∀ k ∈ kv1.map (·.1), ∃ n : Int, k = Sum.inl n := by
      refine ⟨⟨?_, fun p hp => ?_, fun q hq => ?_⟩, fun d hd => ?_, fun q hq => ?_⟩
      · have := dk1.len
        rw [List.length_map] at this
        omega
      · obtain ⟨x, _, _, h⟩ := dk1.mem p hp
        exact ⟨x.2, h⟩
      · obtain ⟨p, hp, rfl⟩ := List.mem_map.mp hq
        exact valV_of_mem (v := p.2) hp
      · obtain ⟨v, hv⟩ := dk1.has (Sum.inl d.1, d.1) (List.mem_map.mpr ⟨d, hd, rfl⟩)
        exact List.mem_map.mpr ⟨_, valV_mem hv, rfl⟩
      · obtain ⟨p, hp, rfl⟩ := List.mem_map.mp hq
        obtain ⟨x, hx, e1, _⟩ := dk1.mem p hp
        obtain ⟨d, _, rfl⟩ := List.mem_map.mp hx
        exact ⟨d.1, e1⟩
    obtain ⟨hK, hin, hint⟩ := hK1
    have hkeys : ∃ ks, ks = kv1.map (·.1) := ⟨_, rfl⟩
    obtain ⟨ks, eks⟩ := hkeys
    rw [← eks] at hK hin hint
    walk_at "s"
    refine ⟨(.ref a1, ds, n, ov, un), F1, rfl, g1.fh, ⟨(kL kLo).mono g1.ff h1, hn1, hn2, hd1, hd2, ho, hu1⟩, fun v3 F3 H3 g3 hv3 => ?_⟩
    obtain ⟨rs, ⟨a3, vs3, rfl, ha3, hp3⟩, hrm⟩ := hv3
    have G3 := g1.trans g3
    refine ⟨a3, rfl, ⟨_, SqL.of (g3.at ha3)⟩, ?_⟩
    refine for_kL (r := kAl) (xs := rs) G3 ha3 hp3 (fun i σ F H' => ∃ (kv : List (L2.Key × V)) (x1 x2 x3 x4 x5 x6 x7 x8 : Option V), σ = [some (.ref a1), some (.int (n : Int)), some (.int ov), some (.int un), some (.ref e), x1, x2, x3, x4, x5, x6, x7, x8] ∧ Own F H' e (.dK kv) ∧ KeptI ks kv ∧ kv.map (·.1) = ks) ⟨kv1, _, _, _, _, _, _, _, _, rfl, o1.go g3, hK, eks.symm⟩ ?_ ?_
    · rintro i p v σ1 F4 H4 N hx hi hv G4 s4 ⟨kv, x1, x2, x3, x4, x5, x6, x7, x8, rfl, oe, hKv, hks⟩ kN
      obtain ⟨b, y1, y2, y3, y4, rfl, hb, hy1, hy2, hy3, hy4⟩ := hv
      have hy1' : y1 = .int p.1 := hy1
      have hy2' : y2 = .int p.2.1 := hy2
      subst hy1' hy2'
      obtain ⟨hm1, hm2⟩ := hrm p (List.mem_of_getElem? hx)
      obtain ⟨d1, hd1m, ed1⟩ := List.mem_map.mp hm1
      obtain ⟨d2, hd2m, ed2⟩ := List.mem_map.mp hm2
      obtain ⟨n1, hn1⟩ := hKv.at (hin d1 hd1m)
      obtain ⟨n2, hn2⟩ := hKv.at (hin d2 hd2m)
      rw [ed1] at hn1
      rw [ed2] at hn2
      walk_at "s"
      refine x_gT (G4.fh _ _ hb) rfl ?_
      walk_at "s"
      refine ⟨e, _, rfl, hn1 ▸ DGet.k (k := Sum.inl p.1) oe.h, ?_⟩
      walk_at "s"
      refine ⟨e, _, rfl, hn2 ▸ DGet.k (k := Sum.inl p.2.1) oe.h, ?_⟩
      walk_at "s"
      refine ⟨e, _, rfl, hn1 ▸ DGet.k (k := Sum.inl p.1) oe.h, ?_⟩
      walk_at "s"
      refine ⟨e, _, rfl, hn2 ▸ DGet.k (k := Sum.inl p.2.1) oe.h, ?_⟩
      walk_at "s"
      generalize (if n2 < n1 then n2 else n1) = low
      generalize (if n2 > n1 then n2 else n1) = high
      refine ⟨Or.inr (Or.inr (Or.inl ⟨rfl, Or.inl ⟨_, oe.h⟩⟩)), e, rfl, rfl, Or.inl ⟨_, oe.h⟩, fun q nq => ?_⟩
      walk_at "s"
      have neq : e ≠ q := ne_of_none oe.h nq
      have g5 : Gr F4 H4 F4 (upd H4 q (keysO q e)) := Gr.newM G4.fh nq
      have oe5 : Own F4 (upd H4 q (keysO q e)) e (.dK kv) := oe.go g5
      refine ⟨q, e, kv, rfl, upd_same, oe5.h, fun l nl => ?_⟩
      obtain ⟨ns, ens⟩ : ∃ ns : List Int, ks = ns.map Sum.inl := by
        have key : ∀ l : List L2.Key, (∀ k ∈ l, ∃ n : Int, k = Sum.inl n) → ∃ ns : List Int, l = ns.map Sum.inl := by
          intro l
          induction l with
          | nil => intro _; exact ⟨[], rfl⟩
          | cons a r ih =>
            intro h
            obtain ⟨n, hn⟩ := h a List.mem_cons_self
            obtain ⟨ns, hns⟩ := ih fun k hk => h k (List.mem_cons_of_mem _ hk)
            exact ⟨n :: ns, by rw [hn, hns]; rfl⟩
        exact key ks hint
      have evals : (kv.map fun p => kV p.1) = ns.map V.int := by
        have e1 : (kv.map fun p => kV p.1) = (kv.map (·.1)).map kV := by rw [List.map_map]; rfl
        rw [e1, hks, ens, List.map_map]; rfl
      rw [evals]
      have nw : New (upd H4 q (keysO q e)) l (.lst (ns.map V.int)) (upd (upd H4 q (keysO q e)) l (.lst (ns.map V.int))) := ⟨nl, rfl⟩
      obtain ⟨F6, g6, e6⟩ := nw.fix g5.fh
      have oe6 := oe5.go g6
      have g46 := g5.trans g6
      have G6 := G4.trans g46
      generalize upd (upd H4 q (keysO q e)) l (.lst (ns.map V.int)) = H6 at g6 oe6 g46 G6 nw
      refine ⟨l, rfl, ⟨_, SqL.of (g6.at e6)⟩, ?_⟩
      refine for_kL (r := kI) (xs := ns) G6 e6 (kI_all ns) (fun j σ F H' => ∃ (kv : List (L2.Key × V)) (x7 x8 : Option V), σ = [some (.ref a1), some (.int (n : Int)), some (.int ov), some (.int un), some (.ref e), some (.int p.1), some (.int p.2.1), some y3, some y4, some (.int low), some (.int high), x7, x8] ∧ Own F H' e (.dK kv) ∧ KeptI ks kv ∧ kv.map (·.1) = ks) ⟨kv, _, _, rfl, oe6, hKv, hks⟩ ?_ ?_
      · rintro j m v σ2 F7 H7 N7 hx7 hj hv G7 s7 ⟨kv, x7, x8, rfl, oe, hKv, hks⟩ kN7
        obtain rfl : v = .int m := hv
        have hmk : (Sum.inl m : L2.Key) ∈ ks := by rw [ens]; exact List.mem_map.mpr ⟨m, List.mem_of_getElem? hx7, rfl⟩
        obtain ⟨n7, hn7⟩ := hKv.at hmk
        walk_at "s"
        refine ⟨e, _, rfl, hn7 ▸ DGet.k (k := Sum.inl m) oe.h, ?_⟩
        walk_at "s"
        refine x_d (fun _ => ?_) (fun _ => ?_)
        · walk_at "s"
          have hl20 := hKv.1
          refine ⟨e, _, rfl, DPut.k (k := Sum.inl m) oe.h (by rw [sizeLine_eq]; omega), ?_⟩
          have c : Chg H7 e (.dK (putK kv (Sum.inl m) (.int low))) (upd H7 e (.dK (putK kv (Sum.inl m) (.int low)))) := rfl
          walk_at "s"
          exact kN7 _ _ _ (c.gr G7 oe.f ne) (Same.refl _) ⟨_, _, _, rfl, c.own oe, hKv.put hmk, by rw [putK_keysEq hn7]; exact hks⟩
        · walk_at "s"
          exact kN7 _ _ _ G7 (Same.refl _) ⟨kv, _, _, rfl, oe, hKv, hks⟩
      · rintro σ2 F7 H7 G7 s7 ⟨kv, x7, x8, rfl, oe, hKv, hks⟩
        exact kN _ _ _ G7 (g46.ff.trans s7) ⟨kv, _, _, _, _, _, _, _, _, rfl, oe, hKv, hks⟩
    · rintro σ1 F4 H4 G4 s4 ⟨kv, x1, x2, x3, x4, x5, x6, x7, x8, rfl, oe, hKv, hks⟩
      walk_at "s"
      exact k _ _ _ (G4.fix oe.h ne oe.f) ⟨kv, ⟨e, rfl, upd_same, hKv.2.1⟩, fun d hd => hKv.at (hin d hd)⟩
/-! D_piece1.src -/
/-- a table whose values are lists of one's own -/
def TabL (F H H0 : Hp) (d : Addr) (c : Nat) (kv : List (List L2.Key × V)) : Prop := ∀ p ∈ kv, ∃ (b : Addr) (vs : List V), p.2 = .ref b ∧ Own F H b (.lst vs) ∧ H0 b = none ∧ b ≠ d ∧ vs.length ≤ c
theorem TabL.go {F H H0 F1 H1 : Hp} {d : Addr} {c : Nat} {kv : List (List L2.Key × V)} (h : TabL F H H0 d c kv) (g : Gr F H F1 H1) : TabL F1 H1 H0 d c kv := fun p hp =>
  let ⟨b, ns, h1, h2, h3⟩ := h p hp; ⟨b, ns, h1, h2.go g, h3⟩
theorem TabL.chd {F H H0 H1 : Hp} {d : Addr} {o : HO} {c : Nat} {kv : List (List L2.Key × V)} (h : TabL F H H0 d c kv) (g : Chg H d o H1) : TabL F H1 H0 d c kv := fun p hp =>
  let ⟨b, ns, h1, h2, h3, h4, h5⟩ := h p hp; ⟨b, ns, h1, g.ne h2 h4, h3, h4, h5⟩
theorem TabL.chb {F H H0 H1 : Hp} {d b : Addr} {c : Nat} {kv : List (List L2.Key × V)} {vs : List V} {o : HO} (h : TabL F H H0 d c kv) (g : Chg H b (.lst vs) H1) (ow : Own F H b o) (hb : H0 b = none) (nd : b ≠ d) (hl : vs.length ≤ c + 1) : TabL F H1 H0 d (c + 1) kv := fun p hp => by
  obtain ⟨b', ns, h1, h2, h3, h4, h6⟩ := h p hp
  by_cases q : b' = b
  · subst q
    exact ⟨b', vs, h1, g.own ow, hb, nd, hl⟩
  · exact ⟨b', ns, h1, g.ne h2 q, h3, h4, by omega⟩
theorem TabL.put {F H H0 : Hp} {d b : Addr} {c : Nat} {kv : List (List L2.Key × V)} {k : List L2.Key} (h : TabL F H H0 d c kv) (ow : Own F H b (.lst [])) (hb : H0 b = none) (nd : b ≠ d) : TabL F H H0 d c (putK kv k (.ref b)) := fun p hp => by
  rcases putK_mem hp with q | q
  · exact h p q
  · rw [q]; exact ⟨b, [], rfl, ow, hb, nd, Nat.zero_le _⟩
def TsOk (tss : List (List Str)) : Prop := tss.length ≤ 100 ∧ ∀ ws ∈ tss, ws.length ≤ 400
def sp_phrase_table : Sp := SpOf (ι := V × Nat × List (List Str)) (fun i => [.int (i.2.1 : Int), i.1]) (fun ⟨v1, n, tss⟩ F => (kL (kL kS)).p F v1 tss ∧ 1 ≤ n ∧ n ≤ 1000 ∧ TsOk tss) (fun _ F v => ∃ kv, kDt.p F v kv)
theorem ok_phrase_table {P : Program} {w : World} {K : PySem.W.Frag} {mg : Str → Option Value} {base : Heap} (T : Tx K mg) : Okd P w K mg base 1 ("_phrase_table", none) ["length", "texts"] [] (sp_phrase_table) := by
  obtain ⟨fd, F⟩ : ∃ fd, FunD K "_phrase_table" "_phrase_table" (defArgs s_phrase_table) (defBody s_phrase_table) (defScope s_phrase_table) [] [] (He.fAd K ("_phrase_table", none)) fd := T.says.d.def_ 62 rfl
  refine ⟨fd, [], F.ok sc_phrase_table (fun vs H Q E h => ?_) (fun cdv A outer s H vs Q E hr h => ?_), .nil, F.bindsN (fun _ _ _ _ _ _ us hl => match us, hl with | [_, _], _ => rfl), F.kp⟩
  · obtain ⟨_, _, rfl, _⟩ := h; rfl
  · have hu := hu_of hr; refine ⟨_, PSs.nox (pss_cons (ps_set (i := 2) sc_phrase_table.nd rfl (by first | exact Or.inl rfl | exact Or.inr rfl) pe_dnewT)
    (pss_cons (ps_for PassesOwn.never rfl (pi_range1 rfl T.f_range (pa_cons (pe_callB (call_lenK K) (by rfl) T.f_len (by decide +kernel) (pa_cons (pv 1) pa_nil)) pa_nil)) (pg_name (i := 3) sc_phrase_table.nd rfl (by first | exact Or.inl rfl | exact Or.inr rfl)) (pss_cons (ps_set (i := 4) sc_phrase_table.nd rfl (by first | exact Or.inl rfl | exact Or.inr rfl) (pe_ix (ix_listK K) (pv 1) (pv 3) (fun _ _ => rfl)))
    (pss_one (ps_for PassesOwn.never rfl (pi_range1 rfl T.f_range (pa_cons (pe_op op_add (pe_op op_sub (pe_callB (call_lenK K) (by rfl) T.f_len (by decide +kernel) (pa_cons (pv 4) pa_nil)) (pv 0)) pe_int) pa_nil)) (pg_name (i := 5) sc_phrase_table.nd rfl (by first | exact Or.inl rfl | exact Or.inr rfl)) (pss_one (ps_expr (pe_bmK K PySem.F.plainAttrs_list PySem.F.slot_list_append PySem.F.type_list_append mt_append (pe_dsetdT hu (pv 2) (pe_callTy (call_tupofK K) (by rfl) T.f_tuple (by decide +kernel) (pa_cons (pe_slice (sl_listK K) (pv 4) (po_some (pv 5)) (po_some (pe_op op_add (pv 5) (pv 0)))) pa_nil)) (pe_lst pa_nil) ⟨rfl, rfl, rfl, rfl⟩) (pa_cons (pe_tup (pa_cons (pv 3) (pa_cons (pv 5) pa_nil))) pa_nil))))))))
    (pss_one (ps_ret (pv 2))))), ?_⟩
    obtain ⟨⟨v1, n, tss⟩, F0, rfl, fh, ⟨h1, hn1, hn2, ht1, ht2⟩, k⟩ := h
    dsimp only at h1 hn1 hn2 ht1 ht2 k ⊢
    obtain ⟨a1, vs1, rfl, ha1, hp1⟩ := h1
    have hl1 := hp1.length
    walk_at "s"
    intro d H1 nd
    obtain ⟨g1, od⟩ := nd.own fh
    walk_at "s"
    refine x_lenK (g1.hh _ _ (fh _ _ ha1)) ?_
    walk_at "s"
    refine ⟨by omega, by omega, ?_⟩
    rw [Int.toNat_natCast, hl1]
    refine for_rg0 g1 (fun i σ F H' => ∃ (kv : List (List L2.Key × V)) (x1 x2 x3 : Option V), σ = [some (.int (n : Int)), some (.ref a1), some (.ref d), x1, x2, x3] ∧ Own F H' d (.dT kv) ∧ TabL F H' H d (401 * i) kv ∧ kv.length ≤ 401 * i) ⟨[], _, _, _, rfl, od, fun _ h => by simp at h, by simp⟩ ?_ ?_
    · rintro i σ1 F3 H3 N hi G3 s3 ⟨kv, x1, x2, x3, rfl, od, hT, hk⟩ kN
      have hw := ht2 tss[i] (List.getElem_mem _)
      obtain ⟨w1, hw1, hkw⟩ := at_p (k := i) hp1 (List.getElem?_eq_getElem hi)
      obtain ⟨a4, rfl, ha4⟩ := kLS hkw
      have ha4' := s3 _ _ (g1.ff _ _ ha4)
      walk_at "s"
      refine x_ixL (G3.hh _ _ (fh _ _ ha1)) hw1 ?_
      walk_at "s"
      refine x_lenK (G3.fh _ _ ha4') ?_
      rw [List.length_map]
      walk_at "s"
      refine ⟨by omega, by omega, ?_⟩
      have hm : ((tss[i].length : Int) - n + 1).toNat ≤ 401 := by omega
      generalize ((tss[i].length : Int) - n + 1).toNat = m at hm ⊢
      refine for_rg0 G3 (fun j σ F H' => ∃ (kv : List (List L2.Key × V)) (x3 : Option V), σ = [some (.int (n : Int)), some (.ref a1), some (.ref d), some (.int (i : Int)), some (.ref a4), x3] ∧ Own F H' d (.dT kv) ∧ TabL F H' H d (401 * i + j) kv ∧ kv.length ≤ 401 * i + j) ⟨kv, _, rfl, od, hT, hk⟩ ?_ ?_
      · rintro j σ2 F4 H4 N4 hj G4 s4 ⟨kv, x3, rfl, od, hT, hk⟩ kN4
        walk_at "s"
        refine ⟨d, rfl, Or.inr ⟨_, Or.inl od.h⟩, ?_⟩
        walk_at "s"
        rw [show (j : Int) + (n : Int) = ((j + n : Nat) : Int) from rfl]
        refine x_slL (G4.fh _ _ (s4 _ _ ha4')) fun p H5 np => ?_
        rw [cut_map _ (by omega)] at np
        obtain ⟨F5, g5, e5⟩ := np.fix G4.fh
        generalize (List.take (j + n - j) (List.drop j tss[i])) = us at np e5
        walk_at "s"
        refine x_tupof (g5.at e5) fun t H6 nt => ?_
        obtain ⟨F6, g6, e6⟩ := nt.fix g5.fh
        walk_at "s"
        refine ⟨x_lt (by decide), fun l H7 nl => ?_⟩
        obtain ⟨g7, ol⟩ := nl.own g6.fh
        have g57 := (g5.trans g6).trans g7
        have G7 := G4.trans g57
        have zl : H l = none := (G4.trans (g5.trans g6)).hh.free nl.fr
        have ndl : l ≠ d := (ne_of_none ((od.go g5).go g6).h nl.fr).symm
        have od := od.go g57
        have hT := hT.go g57
        have et : H7 t = some (.tup ((keyS us).map kV)) := by rw [keyS_kV]; exact g7.fh _ _ e6
        have hlp := length_putK kv (keyS us) (.ref l)
        have hi100 : i < 100 := by omega
        refine ⟨kv, keyS us, t, od.h, rfl, et, by rw [sizeLine_eq]; omega, ?_⟩
        have fin : ∀ (kv' : List (List L2.Key × V)) (b : Addr) (vs : List V) (H8 : Hp) (D : Ends), D.nx = N4 → Gr F0 H F6 H8 → Own F6 H8 d (.dT kv') → TabL F6 H8 H d (401 * i + j) kv' → kv'.length ≤ 401 * i + (j + 1) → Own F6 H8 b (.lst vs) → H b = none → b ≠ d → vs.length ≤ 401 * i + j →
            tyV K "list" (.ref b) H8 ∧ (tCons (tTup (tCons (tVar 3) (tCons (tVar 5) tNil))) tNil) [some (.int (n : Int)), some (.ref a1), some (.ref d), some (.int (i : Int)), some (.ref a4), some (.int (j : Int))] H8 fun xs H2 => rAppend (.ref b) xs H2 fun x H' => D.nx [some (.int (n : Int)), some (.ref a1), some (.ref d), some (.int (i : Int)), some (.ref a4), some (.int (j : Int))] H' := by
          intro kv' b vs H8 D hD G8 od hT hk ob zb nbd hvl
          refine ⟨x_tyL ob.h, ?_⟩
          walk_at "s"
          refine ⟨x_lt (Nat.le_of_ble_eq_true rfl), fun q H9 nq => ?_⟩
          obtain ⟨g9, _⟩ := nq.own G8.fh
          have od := od.go g9
          have ob := ob.go g9
          have hT := hT.go g9
          walk_at "s"
          refine x_app ob.h (by rw [sizeLine_eq]; omega) fun H10 c => ?_
          rw [hD]
          exact kN4 _ _ _ (c.gr (G8.trans g9) ob.f zb) g57.ff ⟨kv', _, rfl, c.ne od nbd.symm, hT.chb c ob zb nbd (by rw [List.length_append, List.length_singleton]; omega), hk⟩
        refine ⟨fun v hv => ?_, fun hv => ?_⟩
        · obtain ⟨b, vs, q1, q2, q3, q4, q5⟩ := hT _ (valV_mem hv)
          dsimp only at q1
          subst q1
          exact fin kv b vs H7 _ rfl G7 od hT (by omega) q2 q3 q4 q5
        · have c : Chg H7 d (.dT (putK kv (keyS us) (.ref l))) (upd H7 d (.dT (putK kv (keyS us) (.ref l)))) := rfl
          exact fin _ l [] _ _ rfl (c.gr G7 od.f nd.fr) (c.own od) ((hT.chd c).put (c.ne ol ndl) zl ndl) (by omega) (c.ne ol ndl) zl ndl (Nat.zero_le _)
      · rintro σ2 F4 H4 G4 s4 ⟨kv, x3, rfl, od, hT, hk⟩
        refine kN _ _ _ G4 s4 ⟨kv, _, _, _, rfl, od, fun p hp => ?_, by omega⟩
        obtain ⟨b, ns, q1, q2, q3, q4, q5⟩ := hT p hp
        exact ⟨b, ns, q1, q2, q3, q4, by omega⟩
    · rintro σ1 F3 H3 G3 s3 ⟨kv, x1, x2, x3, rfl, od, hT, hk⟩
      walk_at "s"
      exact k _ _ _ (G3.fix od.h nd.fr od.f) ⟨kv, d, rfl, upd_same⟩
/-! D_piece2.src -/
abbrev nI (c : Nat) : Int := (c : Int)
def AscTo (cs : List Nat) (e : Nat) : Prop := cs.Pairwise (· < ·) ∧ ∀ c ∈ cs, c < e
theorem AscTo.snoc {cs : List Nat} {e c : Nat} (h : AscTo cs e) (hc : e ≤ c) : AscTo (cs ++ [c]) (c + 1) := by
  refine ⟨List.pairwise_append.mpr ⟨h.1, by simp, fun a ha b hb => ?_⟩, fun a ha => ?_⟩
  · rw [List.mem_singleton.mp hb]
    have := h.2 a ha
    omega
  · rcases List.mem_append.mp ha with q | q
    · have := h.2 a q
      omega
    · rw [List.mem_singleton.mp q]; omega
theorem AscTo.up {cs : List Nat} {e f : Nat} (h : AscTo cs e) (l : e ≤ f) : AscTo cs f := ⟨h.1, fun c hc => Nat.lt_of_lt_of_le (h.2 c hc) l⟩
def sp_standing_places : Sp := SpOf (ι := V × V × Nat × List (List Str) × List Str) (fun i => [.int (i.2.2.1 : Int), i.1, i.2.1]) (fun ⟨v1, v2, n, tss, ws⟩ F => (kL (kL kS)).p F v1 tss ∧ (kL kS).p F v2 ws ∧ 1 ≤ n ∧ n ≤ 1000 ∧ TsOk tss ∧ ws.length ≤ 400)
  (fun ⟨_, _, n, _, ws⟩ F v => ∃ cs : List Nat, (kL kI).p F v (cs.map nI) ∧ cs.Pairwise (· < ·) ∧ ∀ c ∈ cs, c + n ≤ ws.length)
theorem ok_standing_places {P : Program} {w : World} {K : PySem.W.Frag} {mg : Str → Option Value} {base : Heap} (T : Tx K mg) : Okd P w K mg base 2 ("standing_places", none) ["length", "texts", "words"] [] (sp_standing_places) := by
  have O_phrase_table := ok_phrase_table (P := P) (w := w) (base := base) T
  obtain ⟨fd, F⟩ : ∃ fd, FunD K "standing_places" "standing_places" (defArgs s_standing_places) (defBody s_standing_places) (defScope s_standing_places) [] [] (He.fAd K ("standing_places", none)) fd := T.says.d.def_ 63 rfl
  refine ⟨fd, [], F.ok sc_standing_places (fun vs H Q E h => ?_) (fun cdv A outer s H vs Q E hr h => ?_), .nil, F.bindsN (fun _ _ _ _ _ _ us hl => match us, hl with | [_, _, _], _ => rfl), F.kp⟩
  · obtain ⟨_, _, rfl, _⟩ := h; rfl
  · have hu := hu_of hr; refine ⟨_, PSs.nox (pss_cons (ps_set (i := 3) sc_standing_places.nd rfl (by first | exact Or.inl rfl | exact Or.inr rfl) (pe_ok O_phrase_table T.n_phrase_table hr (by decide) (by rfl) (pa_cons (pv 0) (pa_cons (pv 1) pa_nil))))
    (pss_one (ps_ret (pe_lc (own := [("place", 4)]) (g := (gName 4)) rfl sc_standing_places.nd (pi_range1 rfl T.f_range (pa_cons (pe_op op_add (pe_op op_sub (pe_callB (call_lenK K) (by rfl) T.f_len (by decide +kernel) (pa_cons (pv 2) pa_nil)) (pv 0)) pe_int) pa_nil)) (blkOk_by (own := [("place", 4)]) (N := N_standing_places) (sc := defScope s_standing_places) (by decide +kernel)) (fun _ _ _ _ _ => (pg_name (i := 4) sc_standing_places.nd rfl (by first | exact Or.inl rfl | exact Or.inr rfl))) (fun _ _ _ _ _ => (pts_one (pt_cmp (pc_din hu (pe_callTy (call_tupofK K) (by rfl) T.f_tuple (by decide +kernel) (pa_cons (pe_slice (sl_listK K) (pv 2) (po_some (pv 4)) (po_some (pe_op op_add (pv 4) (pv 0)))) pa_nil)) (pv 3)) (by first | exact nobehind _ (by decide) (by decide) | rfl)))) (fun _ _ _ _ _ => (pv 4)))))), ?_⟩
    obtain ⟨⟨v1, v2, n, tss, ws⟩, F0, rfl, fh, ⟨h1, h2, hn1, hn2, ht, hw⟩, k⟩ := h
    dsimp only at h1 h2 hn1 hn2 ht hw k ⊢
    obtain ⟨a2, rfl, ha2⟩ := kLS h2
    walk_at "s"
    refine ⟨(v1, n, tss), F0, rfl, fh, ⟨h1, hn1, hn2, ht⟩, fun v3 F1 H1 g1 hv3 => ?_⟩
    obtain ⟨kv, d, rfl, hd⟩ := hv3
    walk_at "s"
    refine x_lenK (g1.hh _ _ (fh _ _ ha2)) ?_
    rw [List.length_map]
    walk_at "s"
    refine ⟨by omega, by omega, ?_⟩
    have hm : ∀ i, i < ((ws.length : Int) - n + 1).toNat → i + n ≤ ws.length := fun i hi => by omega
    have hm2 : ((ws.length : Int) - n + 1).toNat ≤ 401 := by omega
    generalize ((ws.length : Int) - n + 1).toNat = m at hm hm2 ⊢
    refine lc_gen (s := kI) walk_range (y0 := fun i x => x = .int (0 + (i : Int))) (fun _ _ _ _ h => h) g1.fh (by rw [sizeLine_eq]; omega) (fun _ _ _ => trivial) (fun i b => b = nI i) (fun _ => True) ?_ ?_
    · rintro i x F2 H2 NY NN hi rfl g2 kY kN
      rw [Int.zero_add]
      walk_at "s"
      refine ⟨rfl, ?_⟩
      walk_at "s"
      rw [show (i : Int) + (n : Int) = ((i + n : Nat) : Int) from rfl]
      refine x_slL (g2.hh _ _ (g1.hh _ _ (fh _ _ ha2))) fun p H5 np => ?_
      rw [cut_map _ (by omega)] at np
      obtain ⟨F5, g5, e5⟩ := np.fix g2.fh
      generalize (List.take (i + n - i) (List.drop i ws)) = us at np e5
      walk_at "s"
      refine x_tupof (g5.at e5) fun t H6 nt => ?_
      obtain ⟨F6, g6, e6⟩ := nt.fix g5.fh
      have g56 := g5.trans g6
      walk_at "s"
      refine ⟨d, _, rfl, DGet.t (k := keyS us) (g56.fh _ _ (g56.ff _ _ (g2.ff _ _ hd))) (by rw [keyS_kV]; exact g6.at e6), ?_⟩
      walk_at "s"
      refine x_any ?_ ?_
      · walk_at "s"
        exact kY _ _ _ (nI i) g56 rfl rfl
      · exact kN _ _ g56 trivial
    · intro p F2 H2 sel ys np g2 hk sl pp _
      have e := paired_fun (f := nI) pp
      subst e
      refine k _ _ _ (g1.trans g2) ⟨sel, hk, ?_, fun c hc => hm c (List.mem_range.mp (sl.subset hc))⟩
      exact List.Pairwise.sublist sl List.pairwise_lt_range
def sp_covered_places : Sp := SpOf (ι := V × V × Nat × List (List Str) × List Str) (fun i => [.int (i.2.2.1 : Int), i.1, i.2.1]) (fun ⟨v1, v2, n, tss, ws⟩ F => (kL (kL kS)).p F v1 tss ∧ (kL kS).p F v2 ws ∧ 1 ≤ n ∧ n ≤ 1000 ∧ TsOk tss ∧ ws.length ≤ 400)
  (fun ⟨_, _, _, _, ws⟩ F v => ∃ cs : List Nat, (kL kI).p F v (cs.map nI) ∧ AscTo cs ws.length)
theorem ok_covered_places {P : Program} {w : World} {K : PySem.W.Frag} {mg : Str → Option Value} {base : Heap} (T : Tx K mg) : Okd P w K mg base 3 ("covered_places", none) ["length", "texts", "words"] [] (sp_covered_places) := by
  have O_standing_places := ok_standing_places (P := P) (w := w) (base := base) T
  obtain ⟨fd, F⟩ : ∃ fd, FunD K "covered_places" "covered_places" (defArgs s_covered_places) (defBody s_covered_places) (defScope s_covered_places) [] [] (He.fAd K ("covered_places", none)) fd := T.says.d.def_ 64 rfl
  refine ⟨fd, [], F.ok sc_covered_places (fun vs H Q E h => ?_) (fun cdv A outer s H vs Q E hr h => ?_), .nil, F.bindsN (fun _ _ _ _ _ _ us hl => match us, hl with | [_, _, _], _ => rfl), F.kp⟩
  · obtain ⟨_, _, rfl, _⟩ := h; rfl
  · refine ⟨_, PSs.nox (pss_cons (ps_set (i := 3) sc_covered_places.nd rfl (by first | exact Or.inl rfl | exact Or.inr rfl) (pe_lst pa_nil))
    (pss_cons (ps_set (i := 4) sc_covered_places.nd rfl (by first | exact Or.inl rfl | exact Or.inr rfl) pe_int)
    (pss_cons (ps_for PassesOwn.never rfl (pi_listK K (pe_ok O_standing_places T.n_standing_places hr (by decide) (by rfl) (pa_cons (pv 0) (pa_cons (pv 1) (pa_cons (pv 2) pa_nil))))) (pg_name (i := 5) sc_covered_places.nd rfl (by first | exact Or.inl rfl | exact Or.inr rfl)) (pss_cons (ps_for PassesOwn.never rfl (pi_range2 rfl T.f_range (pa_cons (pe_callB (call_max2 rfl) (by rfl) T.f_max (by decide +kernel) (pa_cons (pv 5) (pa_cons (pv 4) pa_nil))) (pa_cons (pe_op op_add (pv 5) (pv 0)) pa_nil))) (pg_name (i := 6) sc_covered_places.nd rfl (by first | exact Or.inl rfl | exact Or.inr rfl)) (pss_one (ps_expr (pe_bmK K PySem.F.plainAttrs_list PySem.F.slot_list_append PySem.F.type_list_append mt_append (pv 3) (pa_cons (pv 6) pa_nil)))))
    (pss_one (ps_set (i := 4) sc_covered_places.nd rfl (by first | exact Or.inl rfl | exact Or.inr rfl) (pe_op op_add (pv 5) (pv 0))))))
    (pss_one (ps_ret (pv 3)))))), ?_⟩
    obtain ⟨⟨v1, v2, n, tss, ws⟩, F0, rfl, fh, ⟨h1, h2, hn1, hn2, ht, hw⟩, k⟩ := h
    dsimp only at h1 h2 hn1 hn2 ht hw k ⊢
    walk_at "s"
    refine ⟨x_lt (by decide), fun r H1 nr => ?_⟩
    obtain ⟨g1, o1⟩ := nr.own fh
    walk_at "s"
    refine ⟨(v1, v2, n, tss, ws), F0, rfl, g1.fh, ⟨h1, h2, hn1, hn2, ht, hw⟩, fun v3 F2 H2 g2 hv3 => ?_⟩
    obtain ⟨cs, hk, hp, hc⟩ := hv3
    obtain ⟨a3, rfl, ha3⟩ := kLI hk
    have G2 := g1.trans g2
    refine ⟨a3, rfl, ⟨_, SqL.of (g2.at ha3)⟩, ?_⟩
    refine for_kL (r := kI) (xs := cs.map nI) G2 ha3 (kI_all _) (fun i σ F H' => ∃ (ds : List Nat) (e : Nat) (x1 x2 : Option V), σ = [some (.int (n : Int)), some v1, some v2, some (.ref r), some (.int (e : Int)), x1, x2] ∧ Own F H' r (.lst ((ds.map nI).map V.int)) ∧ AscTo ds e ∧ e ≤ ws.length ∧ ds.length ≤ e ∧ ∀ j c, i ≤ j → cs[j]? = some c → e ≤ c + n) ⟨[], 0, _, _, rfl, o1.go g2, ⟨.nil, fun _ h => by simp at h⟩, Nat.zero_le _, Nat.le_refl _, fun _ _ _ _ => Nat.zero_le _⟩ ?_ ?_
    · rintro i c0 v σ1 F3 H3 N hx0 hi hv G3 s3 ⟨ds, e, x1, x2, rfl, o3, ha, he, hl, hnx⟩ kN
      rw [List.getElem?_map] at hx0
      obtain ⟨c, hx, e0⟩ := Option.map_eq_some_iff.mp hx0
      subst e0
      obtain rfl : v = .int (c : Int) := hv
      have hcn := hc c (List.mem_of_getElem? hx)
      have hec := hnx i c (Nat.le_refl _) hx
      walk_at "s"
      have emax : (if (e : Int) > (c : Int) then (e : Int) else (c : Int)) = ((max c e : Nat) : Int) := by split <;> omega
      rw [emax]
      refine ⟨by omega, ?_⟩
      have et : (((c : Int) + (n : Int)) - ((max c e : Nat) : Int)).toNat = c + n - max c e := by omega
      rw [et]
      refine for_rg G3 (fun j σ F H' => ∃ (ds : List Nat) (x2 : Option V), σ = [some (.int (n : Int)), some v1, some v2, some (.ref r), some (.int (e : Int)), some (.int (c : Int)), x2] ∧ Own F H' r (.lst ((ds.map nI).map V.int)) ∧ AscTo ds (max c e + j) ∧ ds.length ≤ max c e + j) ⟨ds, _, rfl, o3, ha.up (by omega), by omega⟩ ?_ ?_
      · rintro j σ2 F4 H4 N4 hj G4 s4 ⟨ds, x2, rfl, o4, ha, hl⟩ kN4
        walk_at "s"
        refine ⟨x_tyL o4.h, ?_⟩
        walk_at "s"
        refine x_app o4.h (by rw [List.length_map, List.length_map, sizeLine_eq]; omega) fun H5 c5 => ?_
        walk_at "s"
        refine kN4 _ _ _ (c5.gr G4 o4.f nr.fr) (Same.refl _) ⟨ds ++ [max c e + j], _, rfl, by rw [List.map_append, List.map_append]; exact c5.own o4, ha.snoc (Nat.le_refl _), by rw [List.length_append, List.length_singleton]; omega⟩
      · rintro σ2 F4 H4 G4 s4 ⟨ds, x2, rfl, o4, ha, hl⟩
        have em : max c e + (c + n - max c e) = c + n := by omega
        rw [em] at ha hl
        walk_at "s"
        refine kN _ _ _ G4 s4 ⟨ds, c + n, _, _, rfl, o4, ha, hcn, hl, fun j c' hj hc' => ?_⟩
        have hlt : c < c' := by
          obtain ⟨hi2, e1⟩ := List.getElem?_eq_some_iff.mp hx
          obtain ⟨hj2, e2⟩ := List.getElem?_eq_some_iff.mp hc'
          rw [← e1, ← e2]
          exact List.pairwise_iff_getElem.mp hp i j hi2 hj2 (by omega)
        omega
    · rintro σ1 F3 H3 G3 s3 ⟨ds, e, x1, x2, rfl, o3, ha, he, hl, hnx⟩
      walk_at "s"
      exact k _ _ _ (G3.fix o3.h nr.fr o3.f) ⟨ds, kLI' upd_same, ha.up he⟩
/-! D_piece3.src -/
def WsPOk (ws : List Str) : Prop := ws.length ≤ 400 ∧ ∀ w ∈ ws, w.length ≤ 400
def sp_uncovered_pieces : Sp := SpOf (ι := V × V × Nat × List (List Str) × List Str) (fun i => [.int (i.2.2.1 : Int), i.1, i.2.1]) (fun ⟨v1, v2, n, tss, ws⟩ F => (kL (kL kS)).p F v1 tss ∧ (kL kS).p F v2 ws ∧ 1 ≤ n ∧ n ≤ 1000 ∧ TsOk tss ∧ WsPOk ws)
  (fun _ F v => ∃ ps, (kL kPc).p F v ps ∧ PcsOk ps)
theorem ok_uncovered_pieces {P : Program} {w : World} {K : PySem.W.Frag} {mg : Str → Option Value} {base : Heap} (T : Tx K mg) : Okd P w K mg base 4 ("uncovered_pieces", none) ["length", "texts", "words"] [] (sp_uncovered_pieces) := by
  have O_covered_places := ok_covered_places (P := P) (w := w) (base := base) T
  obtain ⟨fd, F⟩ : ∃ fd, FunD K "uncovered_pieces" "uncovered_pieces" (defArgs s_uncovered_pieces) (defBody s_uncovered_pieces) (defScope s_uncovered_pieces) [] [] (He.fAd K ("uncovered_pieces", none)) fd := T.says.d.def_ 65 rfl
  refine ⟨fd, [], F.ok sc_uncovered_pieces (fun vs H Q E h => ?_) (fun cdv A outer s H vs Q E hr h => ?_), .nil, F.bindsN (fun _ _ _ _ _ _ us hl => match us, hl with | [_, _, _], _ => rfl), F.kp⟩
  · obtain ⟨_, _, rfl, _⟩ := h; rfl
  · refine ⟨_, PSs.nox (pss_cons (ps_set (i := 3) sc_uncovered_pieces.nd rfl (by first | exact Or.inl rfl | exact Or.inr rfl) (pe_lst pa_nil))
    (pss_cons (ps_set (i := 4) sc_uncovered_pieces.nd rfl (by first | exact Or.inl rfl | exact Or.inr rfl) pe_int)
    (pss_cons (ps_for PassesOwn.never rfl (pi_listK K (pe_ok O_covered_places T.n_covered_places hr (by decide) (by rfl) (pa_cons (pv 0) (pa_cons (pv 1) (pa_cons (pv 2) pa_nil))))) (pg_name (i := 5) sc_uncovered_pieces.nd rfl (by first | exact Or.inl rfl | exact Or.inr rfl)) (pss_cons (ps_if (pt_cmpR op_gt (pv 5) (pv 4) (nomark _)) (pss_one (ps_expr (pe_bmK K PySem.F.plainAttrs_list PySem.F.slot_list_append PySem.F.type_list_append mt_append (pv 3) (pa_cons (pe_tup (pa_cons (pv 4) (pa_cons (pe_slice (sl_listK K) (pv 2) (po_some (pv 4)) (po_some (pv 5))) pa_nil))) pa_nil)))) pss_nil)
    (pss_one (ps_set (i := 4) sc_uncovered_pieces.nd rfl (by first | exact Or.inl rfl | exact Or.inr rfl) (pe_op op_add (pv 5) pe_int)))))
    (pss_cons (ps_if (pt_cmpR op_lt (pv 4) (pe_callB (call_lenK K) (by rfl) T.f_len (by decide +kernel) (pa_cons (pv 2) pa_nil)) (nomark _)) (pss_one (ps_expr (pe_bmK K PySem.F.plainAttrs_list PySem.F.slot_list_append PySem.F.type_list_append mt_append (pv 3) (pa_cons (pe_tup (pa_cons (pv 4) (pa_cons (pe_slice (sl_listK K) (pv 2) (po_some (pv 4)) po_none) pa_nil))) pa_nil)))) pss_nil)
    (pss_one (ps_ret (pv 3))))))), ?_⟩
    obtain ⟨⟨v1, v2, n, tss, ws⟩, F0, rfl, fh, ⟨h1, h2, hn1, hn2, ht, hw, hww⟩, k⟩ := h
    dsimp only at h1 h2 hn1 hn2 ht hw hww k ⊢
    obtain ⟨a2, rfl, ha2⟩ := kLS h2
    walk_at "s"
    refine ⟨x_lt (by decide), fun r H1 nr => ?_⟩
    obtain ⟨g1, o1⟩ := nr.own fh
    walk_at "s"
    refine ⟨(v1, .ref a2, n, tss, ws), F0, rfl, g1.fh, ⟨h1, h2, hn1, hn2, ht, hw⟩, fun v3 F2 H2 g2 hv3 => ?_⟩
    obtain ⟨cs, hk, hp, hc⟩ := hv3
    obtain ⟨a3, rfl, ha3⟩ := kLI hk
    have G2 := g1.trans g2
    have sub : ∀ {a b : Nat} {w : Str}, w ∈ (ws.drop a).take b → w.length ≤ 400 := fun h => hww _ (List.mem_of_mem_drop (List.mem_of_mem_take h))
    refine ⟨a3, rfl, ⟨_, SqL.of (g2.at ha3)⟩, ?_⟩
    refine for_kL (r := kI) (xs := cs.map nI) G2 ha3 (kI_all _) (fun i σ F H' => ∃ (vs : List V) (ps : Pcs) (e : Nat) (x1 : Option V), σ = [some (.int (n : Int)), some v1, some (.ref a2), some (.ref r), some (.int (e : Int)), x1] ∧ Own F H' r (.lst vs) ∧ Paired (kPc.p F) vs ps ∧ e ≤ ws.length ∧ ps.length ≤ e ∧ (ps.map fun p => p.2.length).sum ≤ e ∧ (∀ p ∈ ps, ∀ w ∈ p.2, w.length ≤ 400) ∧ ∀ j c, i ≤ j → cs[j]? = some c → e ≤ c) ⟨[], [], 0, _, rfl, o1.go g2, .nil, Nat.zero_le _, Nat.le_refl _, Nat.le_refl _, fun _ h => by simp at h, fun _ _ _ _ => Nat.zero_le _⟩ ?_ ?_
    · rintro i c0 v σ1 F3 H3 N hx0 hi hv G3 s3 ⟨vs, ps, e, x1, rfl, o3, hq, he, hl, hs, hww2, hnx⟩ kN
      rw [List.getElem?_map] at hx0
      obtain ⟨c, hx, e0⟩ := Option.map_eq_some_iff.mp hx0
      subst e0
      obtain rfl : v = .int (c : Int) := hv
      have hcl := hc c (List.mem_of_getElem? hx)
      have hec := hnx i c (Nat.le_refl _) hx
      have hnext : ∀ j c', i + 1 ≤ j → cs[j]? = some c' → c + 1 ≤ c' := fun j c' hj hc' => by
        obtain ⟨hi2, e1⟩ := List.getElem?_eq_some_iff.mp hx
        obtain ⟨hj2, e2⟩ := List.getElem?_eq_some_iff.mp hc'
        rw [← e1, ← e2]
        exact List.pairwise_iff_getElem.mp hp i j hi2 hj2 (by omega)
      walk_at "s"
      refine x_d (fun hlt => ?_) (fun _ => ?_)
      · walk_at "s"
        refine ⟨x_tyL o3.h, ?_⟩
        walk_at "s"
        refine x_slL (G3.hh _ _ (fh _ _ ha2)) fun p H5 np => ?_
        rw [cut_map _ hec] at np
        obtain ⟨F5, g5, e5⟩ := np.fix G3.fh
        walk_at "s"
        refine ⟨x_lt (Nat.le_of_ble_eq_true rfl), fun t H6 nt => ?_⟩
        obtain ⟨F6, g6, e6⟩ := nt.fix g5.fh
        have g56 := g5.trans g6
        have o6 := o3.go g56
        have lv := hq.length
        walk_at "s"
        refine x_app o6.h (by rw [sizeLine_eq]; omega) fun H7 c7 => ?_
        walk_at "s"
        have hlen : (List.take (c - e) (List.drop e ws)).length ≤ c - e := List.length_take_le _ _
        refine kN _ _ _ (c7.gr (G3.trans g56) o6.f nr.fr) g56.ff ⟨_, ps ++ [((e : Int), List.take (c - e) (List.drop e ws))], c + 1, _, rfl, c7.own o6, (L2.Paired.mapP hq fun _ _ h => kPc.mono g56.ff h).snoc ⟨t, _, _, rfl, e6, rfl, kLS' (g6.up e5)⟩, by omega, by rw [List.length_append, List.length_singleton]; omega, ?_, fun p hp => ?_, hnext⟩
        · rw [List.map_append, List.sum_append]
          simp only [List.map_cons, List.map_nil, List.sum_cons, List.sum_nil]
          omega
        · rcases List.mem_append.mp hp with h | h
          · exact hww2 p h
          · rw [List.mem_singleton.mp h]; exact fun w hw => sub hw
      · walk_at "s"
        exact kN _ _ _ G3 (Same.refl _) ⟨vs, ps, c + 1, _, rfl, o3, hq, by omega, by omega, by omega, hww2, hnext⟩
    · rintro σ1 F3 H3 G3 s3 ⟨vs, ps, e, x1, rfl, o3, hq, he, hl, hs, hww2, hnx⟩
      walk_at "s"
      refine x_lenK (G3.hh _ _ (fh _ _ ha2)) ?_
      rw [List.length_map]
      walk_at "s"
      refine x_d (fun hlt => ?_) (fun _ => ?_)
      · walk_at "s"
        refine ⟨x_tyL o3.h, ?_⟩
        walk_at "s"
        refine x_slL (G3.hh _ _ (fh _ _ ha2)) fun p H5 np => ?_
        rw [cutV_from, ← List.map_drop] at np
        obtain ⟨F5, g5, e5⟩ := np.fix G3.fh
        walk_at "s"
        refine ⟨x_lt (Nat.le_of_ble_eq_true rfl), fun t H6 nt => ?_⟩
        obtain ⟨F6, g6, e6⟩ := nt.fix g5.fh
        have g56 := g5.trans g6
        have o6 := o3.go g56
        have lv := hq.length
        walk_at "s"
        refine x_app o6.h (by rw [sizeLine_eq]; omega) fun H7 c7 => ?_
        walk_at "s"
        have hlen : (List.drop e ws).length = ws.length - e := List.length_drop
        have G7 := c7.gr (G3.trans g56) o6.f nr.fr
        have o7 := c7.own o6
        refine k _ _ _ (G7.fix o7.h nr.fr o7.f) ⟨ps ++ [((e : Int), List.drop e ws)], ⟨r, _, rfl, upd_same, ?_⟩, by rw [List.length_append, List.length_singleton]; omega, ?_, fun p hp => ?_⟩
        · exact L2.Paired.mapP ((L2.Paired.mapP hq fun _ _ h => kPc.mono g56.ff h).snoc ⟨t, _, _, rfl, e6, rfl, kLS' (g6.up e5)⟩) fun _ _ h => kPc.mono (same_new o7.f) h
        · rw [List.map_append, List.sum_append]
          simp only [List.map_cons, List.map_nil, List.sum_cons, List.sum_nil]
          omega
        · rcases List.mem_append.mp hp with h | h
          · exact hww2 p h
          · rw [List.mem_singleton.mp h]; exact fun w hw => hww w (List.mem_of_mem_drop hw)
      · walk_at "s"
        exact k _ _ _ (G3.fix o3.h nr.fr o3.f) ⟨ps, ⟨r, vs, rfl, upd_same, L2.Paired.mapP hq fun _ _ h => kPc.mono (same_new o3.f) h⟩, by omega, by omega, hww2⟩
/-! D_make1.src -/
/-- the weights of the sources and the page size -/
structure RuOk (r : RU) : Prop where
  n1 : 1 ≤ r.src.length
  n3 : r.src.length ≤ 3
  w : ∀ p ∈ r.src, 1 ≤ p.2 ∧ p.2 ≤ 7
  pc1 : 1 ≤ r.pc
  pc2 : r.pc ≤ 1000
  jo : r.jo ≤ 1000
  pw1 : 1 ≤ r.pw
  pw2 : r.pw ≤ 1000
  rw1 : 1 ≤ r.rw
  rw2 : r.rw ≤ 1000
  al1 : 0 ≤ r.al
  al2 : r.al ≤ 1000
  ao1 : 0 ≤ r.ao
  ao2 : r.ao ≤ 1000
theorem wsok_of {r : RU} (h : RuOk r) {sts : List (List Int)} {n : Nat} (hn : 1 ≤ n) (hl : sts.length = r.src.length) (hs : ∀ s ∈ sts, s.length ≤ 3300000) : WsOk (r.src.map (·.2)) (dealCs sts n) := by
  have fl : ∀ s ∈ sts, (fillF s n).length ≤ 3300000 := fun s hs' => by
    have := hs s hs'
    unfold fillF
    rw [List.length_map, List.length_range]
    by_cases e : s.length = 0
    · rw [e, Nat.zero_add]
      have : (n - 1) / n = 0 := Nat.div_eq_of_lt (by omega)
      omega
    · have h1 : (s.length + n - 1) / n ≤ s.length := by
        refine Nat.div_le_of_le_mul ?_
        have : s.length * n ≥ s.length + n - 1 := by
          obtain ⟨a, rfl⟩ := Nat.exists_eq_add_of_le hn
          obtain ⟨b, hb⟩ := Nat.exists_eq_add_of_le (show 1 ≤ s.length by omega)
          rw [hb]
          simp only [Nat.mul_add, Nat.add_mul, Nat.mul_one, Nat.one_mul]
          omega
        rw [Nat.mul_comm]; omega
      omega
  have hg : ∀ k, k < sts.length → 0 ≤ g (dealCs sts n) k ∧ g (dealCs sts n) k ≤ 3300000 := fun k hk => by
    unfold g dealCs
    rw [List.getD_eq_getElem?_getD, List.getElem?_map, List.getElem?_eq_getElem hk]
    have := fl _ (List.getElem_mem hk)
    show 0 ≤ ((fillF sts[k] n).length : Int) ∧ ((fillF sts[k] n).length : Int) ≤ 3300000
    omega
  have hw : ∀ k, k < (r.src.map (·.2)).length → 1 ≤ g (r.src.map (·.2)) k ∧ g (r.src.map (·.2)) k ≤ 7 := fun k hk => by
    rw [List.length_map] at hk
    unfold g
    rw [List.getD_eq_getElem?_getD, List.getElem?_map, List.getElem?_eq_getElem hk]
    exact h.w _ (List.getElem_mem hk)
  have len : (dealCs sts n).length = sts.length := by unfold dealCs; rw [List.length_map]
  have n3 := h.n3
  have n1 := h.n1
  have S3 : ∀ (m : Nat) (f : Nat → Int) (c : Int), m ≤ 3 → (∀ k, k < m → f k ≤ c) → 0 ≤ c → S m f ≤ 3 * c := by
    intro m f c hm hf hc
    have q : ∀ j, j ≤ m → S j f ≤ (j : Int) * c := by
      intro j
      induction j with
      | zero => intro _; show (0 : Int) ≤ _; simp
      | succ j ih =>
        intro hj
        have := ih (by omega)
        have := hf j (by omega)
        rw [S_succ, Int.natCast_add, Int.add_mul]
        omega
    have h1 := q m (Nat.le_refl _)
    have h2 : (m : Int) * c ≤ 3 * c := Int.mul_le_mul_of_nonneg_right (by omega) hc
    omega
  refine ⟨⟨by rw [len, hl, List.length_map], fun k hk => by have := (hw k hk).1; omega, fun k hk => (hg k (by rw [List.length_map] at hk; omega)).1⟩, by rw [List.length_map]; omega, fun k hk => by have := (hw k hk).2; omega, ?_, ?_⟩
  · have := S3 (r.src.map (·.2)).length (act (r.src.map (·.2)) (dealCs sts n)) 7 (by rw [List.length_map]; omega) (fun k hk => by
      unfold act
      split
      · exact (hw k hk).2
      · decide) (by decide)
    unfold totF
    omega
  · have := S3 (dealCs sts n).length (g (dealCs sts n)) 3300000 (by omega) (fun k hk => (hg k (by omega)).2) (by decide)
    rw [sum_S]
    omega
/-- a field set anew -/
theorem put_ne {f g : Str} {v : V} {fs : List (Str × V)} {w : V} (h : fs.lookup g = some w) (ne : ¬ g = f) : (putF f v fs).lookup g = some w := by rw [lookup_putF, if_neg ne]; exact h
theorem put_eq {f : Str} {v : V} {fs : List (Str × V)} : (putF f v fs).lookup f = some v := by rw [lookup_putF, if_pos rfl]
def sp_add_pages (K : PySem.W.Frag) : Sp := fun vs H Q _ => ∃ (v1 : V) (x dx : Addr) (fs : List (Str × V)) (F : Hp) (co : CO) (vp : V) (rs : Pub), vs = [v1, .ref x] ∧ Same F H ∧ (kCo K).p F v1 co ∧ Own F H x (.ins (He.ga K "Corpus") dx fs) ∧ fs.lookup ("published" : Str) = some vp ∧ (kL kPub).p F vp rs ∧ PubOk 20 rs ∧ RuOk co.ru ∧ fs.length ≤ 20 ∧
  ∀ F' H' fs' vph vpg cs rows, Gr F (del H x) F' H' → H' x = some (.ins (He.ga K "Corpus") dx fs') → F' x = none → fs'.lookup ("phases" : Str) = some vph → (kL (kL kI)).p F' vph (phasesF (co.ru.src.map (·.2)) cs) → fs'.lookup ("pages" : Str) = some vpg → (kL (k2 kI (kL kI))).p F' vpg rows →
    rows.map (·.1) = (phasesF (co.ru.src.map (·.2)) cs).flatten → (∀ p ∈ rows, (p.2.length : Int) = co.ru.pc) → WsOk (co.ru.src.map (·.2)) cs → Q .non H'
theorem len_add_pages {K : PySem.W.Frag} {vs : List V} {H : Hp} {Q : VK} {E : XK} (h : sp_add_pages K vs H Q E) : vs.length = ["contents", "corpus"].length := by
  obtain ⟨_, _, _, _, _, _, _, _, rfl, _⟩ := h
  rfl
theorem ok_add_pages {P : Program} {w : World} {K : PySem.W.Frag} {mg : Str → Option Value} {base : Heap} (T : Tx K mg) : Okd P w K mg base 6 ("_add_pages", none) ["contents", "corpus"] [] (sp_add_pages K) := by
  have O_learn_joins := ok_learn_joins (P := P) (w := w) (base := base) T
  have O_published_words := ok_published_words (P := P) (w := w) (base := base) T
  have O_stream := ok_stream (P := P) (w := w) (base := base) T
  have O_fill := ok_fill (P := P) (w := w) (base := base) T
  have O_phases := ok_phases (P := P) (w := w) (base := base) T
  have O_deal := ok_deal (P := P) (w := w) (base := base) T
  obtain ⟨fd, F⟩ : ∃ fd, FunD K "_add_pages" "_add_pages" (defArgs s_add_pages) (defBody s_add_pages) (defScope s_add_pages) [] [] (He.fAd K ("_add_pages", none)) fd := T.says.d.def_ 76 rfl
  refine ⟨fd, [], F.ok sc_add_pages (fun vs H Q E h => ?_) (fun cdv A outer s H vs Q E hr h => ?_), .nil, F.bindsN (fun _ _ _ _ _ _ us hl => match us, hl with | [_, _], _ => rfl), F.kp⟩
  · exact len_add_pages h
  · refine ⟨_, PSs.nox (pss_cons (ps_set (i := 2) sc_add_pages.nd rfl (by first | exact Or.inl rfl | exact Or.inr rfl) (pe_fldK K (pv 0)))
    (pss_cons (ps_fldK K (pv 1) (pe_ok O_learn_joins T.n_learn_joins hr (by decide) (by rfl) (pa_cons (pe_fldK K (pv 2)) (pa_cons (pe_ok O_published_words T.n_published_words hr (by decide) (by rfl) (pa_cons (pv 1) pa_nil)) pa_nil))) rfl)
    (pss_cons (ps_setLc (i := 3) (own := [("_", 6), ("weight", 7)]) (g := (gTup K 2 (gCons (gName 6) (gCons (gName 7) gNil)))) (tt := tYes) rfl sc_add_pages.nd rfl rfl (sw_true rfl rfl rfl (by decide +kernel)) (pi_listK K (pe_fldK K (pv 2))) (blkOk_by (own := [("_", 6), ("weight", 7)]) (N := N_add_pages) (sc := defScope s_add_pages) (by decide +kernel)) (fun _ _ _ _ _ => (pg_tupK K rfl (pgs_cons (pg_name (i := 6) sc_add_pages.nd rfl (by first | exact Or.inl rfl | exact Or.inr rfl)) (pgs_cons (pg_name (i := 7) sc_add_pages.nd rfl (by first | exact Or.inl rfl | exact Or.inr rfl)) pgs_nil)))) (fun _ _ _ _ _ => pts_nil) (fun _ _ _ _ _ => (pv 7)))
    (pss_cons (ps_setLc (i := 4) (own := [("source", 8)]) (g := (gName 8)) (tt := tYes) rfl sc_add_pages.nd rfl rfl (sw_true rfl rfl rfl (by decide +kernel)) (pi_range1 rfl T.f_range (pa_cons (pe_callB (call_lenK K) (by rfl) T.f_len (by decide +kernel) (pa_cons (pv 3) pa_nil)) pa_nil)) (blkOk_by (own := [("source", 8)]) (N := N_add_pages) (sc := defScope s_add_pages) (by decide +kernel)) (fun _ _ _ _ _ => (pg_name (i := 8) sc_add_pages.nd rfl (by first | exact Or.inl rfl | exact Or.inr rfl))) (fun _ _ _ _ _ => pts_nil) (fun _ _ _ _ _ => (pe_ok O_stream T.n_stream hr (by decide) (by rfl) (pa_cons (pv 1) (pa_cons (pv 8) pa_nil)))))
    (pss_cons (ps_setLc (i := 5) (own := [("codes", 9)]) (g := (gName 9)) (tt := tYes) rfl sc_add_pages.nd rfl rfl (sw_true rfl rfl rfl (by decide +kernel)) (pi_listK K (pv 4)) (blkOk_by (own := [("codes", 9)]) (N := N_add_pages) (sc := defScope s_add_pages) (by decide +kernel)) (fun _ _ _ _ _ => (pg_name (i := 9) sc_add_pages.nd rfl (by first | exact Or.inl rfl | exact Or.inr rfl))) (fun _ _ _ _ _ => pts_nil) (fun _ _ _ _ _ => (pe_callB (call_lenK K) (by rfl) T.f_len (by decide +kernel) (pa_cons (pe_ok O_fill T.n_fill hr (by decide) (by rfl) (pa_cons (pv 9) (pa_cons (pe_fldK K (pv 2)) pa_nil))) pa_nil))))
    (pss_cons (ps_fldK K (pv 1) (pe_ok O_phases T.n_phases hr (by decide) (by rfl) (pa_cons (pv 3) (pa_cons (pv 5) pa_nil))) rfl)
    (pss_one (ps_fldK K (pv 1) (pe_ok O_deal T.n_deal hr (by decide) (by rfl) (pa_cons (pv 3) (pa_cons (pv 4) (pa_cons (pe_fldK K (pv 2)) pa_nil)))) rfl)))))))), ?_⟩
    obtain ⟨v1, x, dx, fs, F0, co, vp, rs, rfl, fh, h1, ox, lp, hrs, hpo, hru, hfl, k⟩ := h
    obtain ⟨a1, dx1, fs1, rfl, ha1, hf⟩ := h1
    obtain ⟨vr, lr, a2, dx2, fs2, rfl, ha2, hfr⟩ := hf.rules
    obtain ⟨vsr, lsr, as, vss, rfl, has, hps⟩ := hfr.sources
    have G0 := gr_del (d := x) fh
    have ho1 : ∀ {H'}, Same (del H x) H' → ∀ b o, b ≠ x → H b = some o → H' b = some o := fun s b o n e => s b o (by rw [del_ne n]; exact e)
    have n1x : a1 ≠ x := ox.ne ha1
    have n2x : a2 ≠ x := ox.ne ha2
    obtain ⟨n, en⟩ : ∃ n : Nat, co.ru.pc = (n : Int) := ⟨co.ru.pc.toNat, by have := hru.pc1; omega⟩
    have hn1 : 1 ≤ n := by have := hru.pc1; omega
    have hn2 : n ≤ 1000 := by have := hru.pc2; omega
    walk_at "s"
    refine ⟨_, _, _, _, _, rfl, fh _ _ ha1, T.c_Contents, T.a_Contents_rules, lr, ?_⟩
    walk_at "s"
    refine ⟨_, _, _, _, _, rfl, fh _ _ ha2, T.c_Rules, T.a_Rules_join_limit, hfr.join_limit, ?_⟩
    walk_at "s"
    refine ⟨(x, dx, fs, vp, rs), F0, rfl, fh, ⟨ox.h, lp, hrs, hpo⟩, fun v3 F1 H1 g1 hv3 => ?_⟩
    obtain ⟨ws, hws, hwl, hwz⟩ := hv3
    walk_at "s"
    refine ⟨(co.ru.jo, v3, ws), F1, rfl, g1.fh, ⟨hws, hru.jo, ?_, fun z hz => by have := hwz z hz; omega, by omega⟩, fun v4 F2 H2 g2 hv4 => ?_⟩
    · have key : ∀ l : List Str, (∀ w ∈ l, w.length ≤ 400) → (l.map fun z => z.length + 1).sum ≤ 401 * l.length := by
        intro l
        induction l with
        | nil => intro _; simp
        | cons a r ih =>
          intro h
          have h1 := h a List.mem_cons_self
          have h2 := ih fun y hy => h y (List.mem_cons_of_mem _ hy)
          rw [List.map_cons, List.sum_cons, List.length_cons]
          omega
      have := key ws hwz
      omega
    obtain ⟨js, hjs, hjl⟩ := hv4
    have g12 := g1.trans g2
    have G2 := G0.trans g12
    have ox2 := ox.go g12
    walk_at "s"
    refine ⟨_, _, _, _, rfl, ox2.h, T.c_Corpus, T.a_Corpus_joins, by omega, ?_⟩
    have c3 : Chg H2 x (.ins (He.ga K "Corpus") dx (putF "joins" v4 fs)) (upd H2 x (.ins (He.ga K "Corpus") dx (putF "joins" v4 fs))) := rfl
    have G3 := c3.gr G2 ox2.f del_same
    have ox3 := c3.own ox2
    have lj3 : (putF ("joins" : Str) v4 fs).lookup ("joins" : Str) = some v4 := put_eq
    have lp3 : (putF ("joins" : Str) v4 fs).lookup ("published" : Str) = some vp := put_ne lp (by decide)
    have hfl3 := length_putF "joins" v4 fs
    generalize hfs3 : putF ("joins" : Str) v4 fs = fs3 at ox3 lj3 lp3 hfl3 G3 c3
    generalize hH3 : upd H2 x (.ins (He.ga K "Corpus") dx fs3) = H3 at G3 ox3 c3
    have s02 : Same F0 F2 := g12.ff
    walk_at "s"
    refine ⟨_, _, _, _, _, rfl, G3.fh _ _ (s02 _ _ ha2), T.c_Rules, T.a_Rules_sources, lsr, ?_⟩
    refine ⟨as, rfl, ⟨_, SqL.of (G3.fh _ _ (s02 _ _ has))⟩, lc_kL (r := k2 kS kI) (s := kI) G3.fh (s02 _ _ has) (L2.Paired.mapP hps fun _ _ h => (k2 kS kI).mono s02 h) (by have := hru.n3; rw [sizeLine_eq]; omega) (fun p y => y = p.2) ?_ ?_⟩
    · intro i p v F4 H4 N hx hv g4 kN
      obtain ⟨b, rfl, hb⟩ := k2S hv
      walk_at "s"
      refine x_gT (g4.at hb) rfl ?_
      walk_at "s"
      refine ⟨rfl, ?_⟩
      walk_at "s"
      exact kN _ _ _ _ (Gr.refl g4.fh) rfl rfl
    intro p4 F4 H4 wts np4 g4 hk4 pp4
    have ew := paired_fun (f := fun p : Str × Int => p.2) pp4
    subst ew
    obtain ⟨_, er, ha4⟩ := kLI hk4
    cases er
    have G4 := G3.trans g4
    have ox4 := ox3.go g4
    have s04 := s02.trans g4.ff
    have hwl3 := hru.n3
    walk_at "s"
    refine x_lenK (G4.fh _ _ ha4) ?_
    rw [List.length_map, List.length_map]
    walk_at "s"
    refine ⟨by omega, by omega, ?_⟩
    rw [Int.toNat_natCast]
    refine lc_gen (s := kL kI) walk_range (y0 := fun i x => x = .int (0 + (i : Int))) (fun _ _ _ _ h => h) G4.fh (by rw [sizeLine_eq]; omega) (fun _ _ _ => trivial) (fun i b => b.length ≤ 3300000) (fun _ => False) ?_ ?_
    · rintro i v F5 H5 NY NN hi rfl g5 kY _
      walk_at "s"
      refine ⟨rfl, ?_⟩
      walk_at "s"
      refine ⟨(x, dx, fs3, vp, rs, v4, js, 0 + (i : Int)), F5, rfl, g5.fh, ⟨(ox4.go g5).h, lp3, (kL kPub).mono (s04.trans g5.ff) hrs, hpo, lj3, (kL (k2 kI kI)).mono (g4.ff.trans g5.ff) hjs, hjl⟩, fun v6 F6 H6 g6 hv6 => ?_⟩
      obtain ⟨ns, hns, hnl⟩ := hv6
      exact kY _ _ _ ns g6 hns hnl
    intro p5 F5 H5 sel sts np5 g5 hk5 sl pp5 no
    have esel := range_all sl no
    subst esel
    have hstl : sts.length = co.ru.src.length := by rw [← pp5.length, List.length_range]
    have hst : ∀ s ∈ sts, s.length ≤ 3300000 := fun s hs => by
      obtain ⟨_, _, h⟩ := paired_mem pp5 s hs
      exact h
    have WO := wsok_of hru hn1 hstl hst
    obtain ⟨_, vs5, er, ha5, hp5⟩ := id hk5
    cases er
    have G5 := G4.trans g5
    have ox5 := ox4.go g5
    have s05 := s04.trans g5.ff
    walk_at "s"
    refine ⟨p5, rfl, ⟨_, SqL.of (G5.fh _ _ ha5)⟩, lc_kL (r := kL kI) (s := kI) G5.fh ha5 hp5 (by rw [sizeLine_eq]; omega) (fun st y => y = ((fillF st n).length : Int)) ?_ ?_⟩
    · intro i st v F6 H6 N hx hv g6 kN
      have hstl2 := hst st (List.mem_of_getElem? hx)
      walk_at "s"
      refine ⟨rfl, ?_⟩
      walk_at "s"
      refine ⟨_, _, _, _, _, rfl, g6.hh _ _ (G5.fh _ _ (s05 _ _ ha2)), T.c_Rules, T.a_Rules_page_codes, hfr.page_codes, ?_⟩
      rw [en]
      walk_at "s"
      refine ⟨(v, st, n), F6, rfl, g6.fh, ⟨hv, hn1, hn2, by omega⟩, fun v7 F7 H7 g7 hv7 => ?_⟩
      obtain ⟨b7, vs7, rfl, hb7, hp7⟩ := hv7
      refine x_lenK (g7.at hb7) ?_
      exact kN _ _ _ _ g7 rfl (by rw [hp7.length])
    intro p6 F6 H6 cs np6 g6 hk6 pp6
    have ec := paired_fun (f := fun st : List Int => ((fillF st n).length : Int)) pp6
    have ec : cs = dealCs sts n := ec
    subst ec
    have G6 := G5.trans g6
    have ox6 := ox5.go g6
    have s46 := g5.ff.trans g6.ff
    walk_at "s"
    refine ⟨(.ref p4, .ref p6, co.ru.src.map (·.2), dealCs sts n), F6, rfl, G6.fh, ⟨(kL kI).mono s46 (kLI' ha4), hk6, WO⟩, fun v7 F7 H7 g7 hv7 => ?_⟩
    have G7 := G6.trans g7
    have ox7 := ox6.go g7
    walk_at "s"
    refine ⟨_, _, _, _, rfl, ox7.h, T.c_Corpus, T.a_Corpus_phases, by omega, ?_⟩
    have c8 : Chg H7 x (.ins (He.ga K "Corpus") dx (putF "phases" v7 fs3)) (upd H7 x (.ins (He.ga K "Corpus") dx (putF "phases" v7 fs3))) := rfl
    have G8 := c8.gr G7 ox7.f del_same
    have ox8 := c8.own ox7
    have lph : (putF ("phases" : Str) v7 fs3).lookup ("phases" : Str) = some v7 := put_eq
    have hfl8 := length_putF "phases" v7 fs3
    generalize hfs8 : putF ("phases" : Str) v7 fs3 = fs8 at ox8 lph hfl8 G8 c8
    generalize hH8 : upd H7 x (.ins (He.ga K "Corpus") dx fs8) = H8 at G8 ox8 c8
    walk_at "s"
    refine ⟨_, _, _, _, _, rfl, G8.fh _ _ ((s05.trans (g6.ff.trans g7.ff)) _ _ ha2), T.c_Rules, T.a_Rules_page_codes, hfr.page_codes, ?_⟩
    rw [en]
    walk_at "s"
    refine ⟨(.ref p4, .ref p5, co.ru.src.map (·.2), sts, n), F7, rfl, G8.fh, ⟨(kL kI).mono (s46.trans g7.ff) (kLI' ha4), (kL (kL kI)).mono (g6.ff.trans g7.ff) hk5, hn1, hn2, by rw [List.length_map]; exact hstl, fun s hs => by have := hst s hs; omega, WO⟩, fun v9 F9 H9 g9 hv9 => ?_⟩
    obtain ⟨rows, hr1, hr2, hr3⟩ := hv9
    have G9 := G8.trans g9
    have ox9 := ox8.go g9
    walk_at "s"
    refine ⟨_, _, _, _, rfl, ox9.h, T.c_Corpus, T.a_Corpus_pages, by omega, ?_⟩
    have c10 : Chg H9 x (.ins (He.ga K "Corpus") dx (putF "pages" v9 fs8)) (upd H9 x (.ins (He.ga K "Corpus") dx (putF "pages" v9 fs8))) := rfl
    walk_at "s"
    exact k _ _ _ v7 v9 (dealCs sts n) rows (c10.gr G9 ox9.f del_same) c10.at ox9.f (put_ne lph (by decide)) ((kL (kL kI)).mono g9.ff hv7) put_eq hr1 hr2 (fun p hp => by have := hr3 p hp; omega) WO
/-! D_make2.src -/
theorem x_sf {K : PySem.W.Frag} {F0 H0 F H : Hp} {P : Hp → Prop} {x C dx : Addr} {fs : List (Str × V)} {f : Str} {v : V} (G : Gr F0 H0 F H) (o : Own F H x (.ins C dx fs)) (z : H0 x = none) (hc : Cls K C) (hn : NoAttr K C f) (hl : fs.length ≤ 100)
    (k : ∀ H' fs', fs' = putF f v fs → fs'.length ≤ fs.length + 1 → Gr F0 H0 F H' → Own F H' x (.ins C dx fs') → P H') :
    ∃ a C' dx' fs', V.ref x = .ref a ∧ H a = some (.ins C' dx' fs') ∧ Cls K C' ∧ NoAttr K C' f ∧ fs'.length < 1000 ∧ P (upd H a (.ins C' dx' (putF f v fs'))) := by
  have c : Chg H x (.ins C dx (putF f v fs)) (upd H x (.ins C dx (putF f v fs))) := rfl
  exact ⟨x, C, dx, fs, rfl, o.h, hc, hn, by omega, k _ _ rfl (length_putF f v fs) (c.gr G o.f z) (c.own o)⟩
def sp_Corpus_init (K : PySem.W.Frag) : Sp := fun vs H Q _ => ∃ (x dx : Addr) (F : Hp) (v1 v2 v3 v4 v5 v6 : V), vs = [.ref x, v1, v2, v3, v4, v5, v6] ∧ Same F H ∧ Own F H x (.ins (He.ga K "Corpus") dx []) ∧
  ∀ F' H' fs, Gr F (del H x) F' H' → Own F' H' x (.ins (He.ga K "Corpus") dx fs) → fs.lookup ("published" : Str) = some v6 → fs.length ≤ 20 → Q .non H'
theorem len_Corpus_init {K : PySem.W.Frag} {vs : List V} {H : Hp} {Q : VK} {E : XK} (h : sp_Corpus_init K vs H Q E) : vs.length = ["self", "cleaned", "phrases", "pieces", "left", "kept_for", "published"].length := by
  obtain ⟨_, _, _, _, _, _, _, _, _, rfl, _⟩ := h
  rfl
theorem ok_Corpus_init {P : Program} {w : World} {K : PySem.W.Frag} {mg : Str → Option Value} {base : Heap} (T : Tx K mg) : Okd P w K mg base 1 ("Corpus", some "__init__") ["self", "cleaned", "phrases", "pieces", "left", "kept_for", "published"] [] (sp_Corpus_init K) := by
  obtain ⟨fd, F⟩ : ∃ fd, FunD K "__init__" "Corpus.__init__" (defArgs s_Corpus_init) (defBody s_Corpus_init) (defScope s_Corpus_init) [] [] (He.fAd K ("Corpus", some "__init__")) fd := T.says.d.def_ 67 rfl
  refine ⟨fd, [], F.ok sc_Corpus_init (fun vs H Q E h => ?_) (fun cdv A outer s H vs Q E hr h => ?_), .nil, F.bindsN (fun _ _ _ _ _ _ us hl => match us, hl with | [_, _, _, _, _, _, _], _ => rfl), F.kp⟩
  · exact len_Corpus_init h
  · refine ⟨_, PSs.nox (pss_cons (ps_fldK K (pv 0) (pv 1) rfl)
    (pss_cons (ps_fldK K (pv 0) (pv 2) rfl)
    (pss_cons (ps_fldK K (pv 0) (pv 3) rfl)
    (pss_cons (ps_fldK K (pv 0) (pv 4) rfl)
    (pss_cons (ps_fldK K (pv 0) (pv 5) rfl)
    (pss_cons (ps_fldK K (pv 0) (pv 6) rfl)
    (pss_cons (ps_fldK K (pv 0) (pe_lst pa_nil) rfl)
    (pss_cons (ps_fldK K (pv 0) (pe_lst pa_nil) rfl)
    (pss_one (ps_fldK K (pv 0) (pe_lst pa_nil) rfl)))))))))), ?_⟩
    obtain ⟨x, dx, F0, v1, v2, v3, v4, v5, v6, rfl, fh, ox, k⟩ := h
    have G0 := gr_del (d := x) fh
    walk_at "s"
    refine x_sf G0 ox del_same T.c_Corpus T.a_Corpus_cleaned (by decide) fun H1 f1 e1 l1 G1 o1 => ?_
    simp only [List.length_nil] at l1
    walk_at "s"
    refine x_sf G1 o1 del_same T.c_Corpus T.a_Corpus_phrases (by omega) fun H2 f2 e2 l2 G2 o2 => ?_
    walk_at "s"
    refine x_sf G2 o2 del_same T.c_Corpus T.a_Corpus_pieces (by omega) fun H3 f3 e3 l3 G3 o3 => ?_
    walk_at "s"
    refine x_sf G3 o3 del_same T.c_Corpus T.a_Corpus_left (by omega) fun H4 f4 e4 l4 G4 o4 => ?_
    walk_at "s"
    refine x_sf G4 o4 del_same T.c_Corpus T.a_Corpus_kept_for (by omega) fun H5 f5 e5 l5 G5 o5 => ?_
    walk_at "s"
    refine x_sf G5 o5 del_same T.c_Corpus T.a_Corpus_published (by omega) fun H6 f6 e6 l6 G6 o6 => ?_
    walk_at "s"
    refine ⟨x_lt (by decide), fun q7 J7 nq7 => ?_⟩
    obtain ⟨gq7, _⟩ := nq7.own G6.fh
    walk_at "s"
    refine x_sf (G6.trans gq7) (o6.go gq7) del_same T.c_Corpus T.a_Corpus_joins (by omega) fun H7 f7 e7 l7 G7 o7 => ?_
    walk_at "s"
    refine ⟨x_lt (by decide), fun q8 J8 nq8 => ?_⟩
    obtain ⟨gq8, _⟩ := nq8.own G7.fh
    walk_at "s"
    refine x_sf (G7.trans gq8) (o7.go gq8) del_same T.c_Corpus T.a_Corpus_phases (by omega) fun H8 f8 e8 l8 G8 o8 => ?_
    walk_at "s"
    refine ⟨x_lt (by decide), fun q9 J9 nq9 => ?_⟩
    obtain ⟨gq9, _⟩ := nq9.own G8.fh
    walk_at "s"
    refine x_sf (G8.trans gq9) (o8.go gq9) del_same T.c_Corpus T.a_Corpus_pages (by omega) fun H9 f9 e9 l9 G9 o9 => ?_
    walk_at "s"
    refine k _ _ _ G9 o9 ?_ (by omega)
    rw [e9, e8, e7, e6]
    exact put_ne (put_ne (put_ne put_eq (by decide)) (by decide)) (by decide)
/-! D_make3.src -/
theorem gr_undel {F0 H F1 H1 F2 H2 : Hp} {x : Addr} (G : Gr F0 H F1 H1) (zx : H x = none) (g : Gr F1 (del H1 x) F2 H2) (fx : F2 x = none) : Gr F0 H F2 H2 :=
  ⟨G.ff.trans g.ff, g.fh, fun b o e => g.hh b o (by rw [del_ne (ne_of_none e zx)]; exact G.hh b o e), fun b hb hF => by
    by_cases q : b = x
    · rw [q]; exact fx
    · refine g.nw b ?_ (G.nw b hb hF)
      rw [del_ne q]
      cases e : H b with
      | none => rw [e] at hb; exact hb.elim
      | some u => rw [G.hh b u e, ← e]; exact hb⟩
/-- the corpus: its phases and pages -/
def CorpP (K : PySem.W.Frag) (ru : RU) (F : Hp) (v : V) : Prop := ∃ x dx fs vph vpg cs rows, v = .ref x ∧ F x = some (.ins (He.ga K "Corpus") dx fs) ∧ fs.lookup ("phases" : Str) = some vph ∧ (kL (kL kI)).p F vph (phasesF (ru.src.map (·.2)) cs) ∧ fs.lookup ("pages" : Str) = some vpg ∧ (kL (k2 kI (kL kI))).p F vpg rows ∧
  rows.map (·.1) = (phasesF (ru.src.map (·.2)) cs).flatten ∧ (∀ p ∈ rows, (p.2.length : Int) = ru.pc) ∧ WsOk (ru.src.map (·.2)) cs
def sp_make_corpus (K : PySem.W.Frag) : Sp := SpOf (ι := V × CO) (fun i => [i.1]) (fun ⟨v1, c⟩ F => (kCo K).p F v1 c ∧ CoOk c ∧ RuOk c.ru) (fun ⟨_, c⟩ F v => CorpP K c.ru F v)
theorem ok_make_corpus {P : Program} {w : World} {K : PySem.W.Frag} {mg : Str → Option Value} {base : Heap} (T : Tx K mg) : Okd P w K mg base 7 ("make_corpus", none) ["contents"] [] (sp_make_corpus K) := by
  have O_exam_lists := ok_exam_lists (P := P) (w := w) (base := base) T
  have O_cleaned_rows := ok_cleaned_rows (P := P) (w := w) (base := base) T
  have O_uncovered_pieces := ok_uncovered_pieces (P := P) (w := w) (base := base) T
  have O_left_over := ok_left_over (P := P) (w := w) (base := base) T
  have O_kept_ids := ok_kept_ids (P := P) (w := w) (base := base) T
  have O_published_rows := ok_published_rows (P := P) (w := w) (base := base) T
  have O_all_phrases := ok_all_phrases (P := P) (w := w) (base := base) T
  have O_Corpus_init := ok_Corpus_init (P := P) (w := w) (base := base) T
  have O_add_pages := ok_add_pages (P := P) (w := w) (base := base) T
  obtain ⟨fd, F⟩ : ∃ fd, FunD K "make_corpus" "make_corpus" (defArgs s_make_corpus) (defBody s_make_corpus) (defScope s_make_corpus) [] [] (He.fAd K ("make_corpus", none)) fd := T.says.d.def_ 77 rfl
  refine ⟨fd, [], F.ok sc_make_corpus (fun vs H Q E h => ?_) (fun cdv A outer s H vs Q E hr h => ?_), .nil, F.bindsN (fun _ _ _ _ _ _ us hl => match us, hl with | [_], _ => rfl), F.kp⟩
  · obtain ⟨_, _, rfl, _⟩ := h; rfl
  · have hu := hu_of hr; refine ⟨_, PSs.nox (pss_cons (ps_set (i := 1) sc_make_corpus.nd rfl (by first | exact Or.inl rfl | exact Or.inr rfl) (pe_fldK K (pv 0)))
    (pss_cons (ps_set (i := 2) sc_make_corpus.nd rfl (by first | exact Or.inl rfl | exact Or.inr rfl) (pe_ok O_exam_lists T.n_exam_lists hr (by decide) (by rfl) (pa_cons (pv 0) pa_nil)))
    (pss_cons (ps_set (i := 3) sc_make_corpus.nd rfl (by first | exact Or.inl rfl | exact Or.inr rfl) (pe_ok O_cleaned_rows T.n_cleaned_rows hr (by decide) (by rfl) (pa_cons (pv 0) pa_nil)))
    (pss_cons (ps_set (i := 4) sc_make_corpus.nd rfl (by first | exact Or.inl rfl | exact Or.inr rfl) (pe_lst pa_nil))
    (pss_cons (ps_for PassesOwn.never rfl (pi_listK K (pv 3)) (pg_tupK K rfl (pgs_cons (pg_name (i := 5) sc_make_corpus.nd rfl (by first | exact Or.inl rfl | exact Or.inr rfl)) (pgs_cons (pg_name (i := 6) sc_make_corpus.nd rfl (by first | exact Or.inl rfl | exact Or.inr rfl)) (pgs_cons (pg_name (i := 7) sc_make_corpus.nd rfl (by first | exact Or.inl rfl | exact Or.inr rfl)) pgs_nil)))) (pss_one (ps_if (pt_cmpR op_isN (pv 6) pe_non (nomark _)) (pss_one (ps_expr (pe_bmK K PySem.F.plainAttrs_list PySem.F.slot_list_append PySem.F.type_list_append mt_append (pv 4) (pa_cons (pe_tup (pa_cons (pv 5) (pa_cons (pe_ok O_uncovered_pieces T.n_uncovered_pieces hr (by decide) (by rfl) (pa_cons (pe_fldK K (pv 1)) (pa_cons (pv 2) (pa_cons (pv 7) pa_nil)))) pa_nil))) pa_nil)))) pss_nil)))
    (pss_cons (ps_set (i := 8) sc_make_corpus.nd rfl (by first | exact Or.inl rfl | exact Or.inr rfl) (pe_ok O_left_over T.n_left_over hr (by decide) (by rfl) (pa_cons (pv 4) (pa_cons (pe_fldK K (pv 1)) pa_nil))))
    (pss_cons (ps_set (i := 9) sc_make_corpus.nd rfl (by first | exact Or.inl rfl | exact Or.inr rfl) (pe_ok O_kept_ids T.n_kept_ids hr (by decide) (by rfl) (pa_cons (pv 8) (pa_cons (pe_fldK K (pv 1)) (pa_cons (pe_fldK K (pv 1)) (pa_cons (pe_fldK K (pv 1)) pa_nil))))))
    (pss_cons (ps_setLc (i := 10) (own := [("number", 5), ("_", 14)]) (g := (gTup K 2 (gCons (gName 5) (gCons (gName 14) gNil)))) (tt := tYes) rfl sc_make_corpus.nd rfl rfl (sw_true rfl rfl rfl (by decide +kernel)) (pi_listK K (pv 8)) (blkOk_by (own := [("number", 5), ("_", 14)]) (N := N_make_corpus) (sc := defScope s_make_corpus) (by decide +kernel)) (fun _ _ _ _ _ => (pg_tupK K rfl (pgs_cons (pg_name (i := 5) sc_make_corpus.nd rfl (by first | exact Or.inl rfl | exact Or.inr rfl)) (pgs_cons (pg_name (i := 14) sc_make_corpus.nd rfl (by first | exact Or.inl rfl | exact Or.inr rfl)) pgs_nil)))) (fun _ _ _ _ _ => pts_nil) (fun _ _ _ _ _ => (pe_tup (pa_cons (pv 5) (pa_cons (pe_dget hu (pv 9) (pv 5) (fun _ _ => rfl)) pa_nil)))))
    (pss_cons (ps_set (i := 11) sc_make_corpus.nd rfl (by first | exact Or.inl rfl | exact Or.inr rfl) (pe_ok O_published_rows T.n_published_rows hr (by decide) (by rfl) (pa_cons (pv 0) (pa_cons (pv 4) (pa_cons (pv 9) pa_nil)))))
    (pss_cons (ps_set (i := 12) sc_make_corpus.nd rfl (by first | exact Or.inl rfl | exact Or.inr rfl) (pe_ok O_all_phrases T.n_all_phrases hr (by decide) (by rfl) (pa_cons (pe_fldK K (pv 1)) (pa_cons (pv 2) pa_nil))))
    (pss_cons (ps_set (i := 13) sc_make_corpus.nd rfl (by first | exact Or.inl rfl | exact Or.inr rfl) (pe_mk O_Corpus_init T.mk_Corpus T.n_Corpus hr (by decide) (by rfl) (pa_cons (pv 3) (pa_cons (pv 12) (pa_cons (pv 4) (pa_cons (pv 8) (pa_cons (pv 10) (pa_cons (pv 11) pa_nil))))))))
    (pss_cons (ps_expr (pe_ok O_add_pages T.n_add_pages hr (by decide) (by rfl) (pa_cons (pv 0) (pa_cons (pv 13) pa_nil))))
    (pss_one (ps_ret (pv 13))))))))))))))), ?_⟩
    obtain ⟨⟨v1, c⟩, F0, rfl, fh, ⟨h1, hc, hru⟩, k⟩ := h
    dsimp only at h1 hc hru k ⊢
    obtain ⟨a1, dx1, fs1, rfl, ha1, hf⟩ := id h1
    obtain ⟨vr, lr, hkr⟩ := hf.rules
    obtain ⟨a2, dx2, fs2, rfl, ha2, hfr⟩ := id hkr
    have hnd := hc.nd
    obtain ⟨pw, epw⟩ : ∃ n : Nat, c.ru.pw = (n : Int) := ⟨c.ru.pw.toNat, by have := hru.pw1; omega⟩
    have hpw1 : 1 ≤ pw := by have := hru.pw1; omega
    have hpw2 : pw ≤ 1000 := by have := hru.pw2; omega
    obtain ⟨rw, erw⟩ : ∃ n : Nat, c.ru.rw = (n : Int) := ⟨c.ru.rw.toNat, by have := hru.rw1; omega⟩
    have hrw1 : 1 ≤ rw := by have := hru.rw1; omega
    have hrw2 : rw ≤ 1000 := by have := hru.rw2; omega
    walk_at "s"
    refine ⟨_, _, _, _, _, rfl, fh _ _ ha1, T.c_Contents, T.a_Contents_rules, lr, ?_⟩
    walk_at "s"
    refine ⟨(.ref a1, c), F0, rfl, fh, ⟨h1, hc⟩, fun v3 F1 H1 g1 hv3 => ?_⟩
    obtain ⟨tss, htss, htl, htw⟩ := hv3
    walk_at "s"
    refine ⟨(.ref a1, c), F1, rfl, g1.fh, ⟨(kCo K).mono g1.ff h1, hc⟩, fun v4 F2 H2 g2 hv4 => ?_⟩
    obtain ⟨cl, ⟨a4, vs4, rfl, ha4, hp4⟩, hcl1, hcl2⟩ := hv4
    have G2 := g1.trans g2
    have hcll : cl.length = c.docs.length := by
      have := congrArg List.length hcl1
      rw [List.length_map, List.length_map] at this
      exact this
    walk_at "s"
    refine ⟨x_lt (by decide), fun r H3 nr => ?_⟩
    obtain ⟨g3, o3⟩ := nr.own G2.fh
    have zr : H r = none := G2.hh.free nr.fr
    have G3 := G2.trans g3
    walk_at "s"
    refine ⟨a4, rfl, ⟨_, SqL.of (G3.fh _ _ ha4)⟩, ?_⟩
    refine for_kL (r := kCl) (xs := cl) G3 ha4 hp4 (fun i σ F H' => ∃ (vs : List V) (ps : List (Int × Pcs)) (x1 x2 x3 x4 x5 x6 x7 x8 x9 x10 : Option V), σ = [some (.ref a1), some (.ref a2), some v3, some (.ref a4), some (.ref r), x1, x2, x3, x4, x5, x6, x7, x8, x9, x10] ∧ Own F H' r (.lst vs) ∧ Paired (kPs.p F) vs ps ∧ ps.length ≤ i ∧ (∀ p ∈ ps, PcsOk p.2) ∧ ∀ p ∈ ps, p.1 ∈ c.docs.map (·.1)) ⟨[], [], _, _, _, _, _, _, _, _, _, _, rfl, o3, .nil, Nat.zero_le _, fun _ h => by simp at h, fun _ h => by simp at h⟩ ?_ ?_
    · rintro i p v σ1 F4 H4 N hx hi hv G4 s4 ⟨vs, ps, x1, x2, x3, x4, x5, x6, x7, x8, x9, x10, rfl, o4, hq, hl, hpo, hin⟩ kN
      have hpm := List.mem_of_getElem? hx
      obtain ⟨b, y1, y2, y3, rfl, hb, hy1, hy2, hy3⟩ := hv
      have hy1' : y1 = .int p.1 := hy1
      subst hy1'
      have s14 := (g2.ff.trans g3.ff).trans s4
      have hnum : p.1 ∈ c.docs.map (·.1) := by rw [← hcl1]; exact List.mem_map.mpr ⟨p, hpm, rfl⟩
      walk_at "s"
      refine x_gT (G4.fh _ _ hb) rfl ?_
      walk_at "s"
      have skip : ∀ D : Ends, D.nx = N → tNext D [some (.ref a1), some (.ref a2), some v3, some (.ref a4), some (.ref r), some (.int p.1), some y2, some y3, x4, x5, x6, x7, x8, x9, x10] H4 := by
        intro D hD
        show D.nx _ _
        rw [hD]
        exact kN _ _ _ G4 (Same.refl _) ⟨vs, ps, _, _, _, _, _, _, _, _, _, _, rfl, o4, hq, by omega, hpo, hin⟩
      rcases hy2 with ⟨e1, e2⟩ | ⟨o, e1, bo, z, e2, _⟩
      · subst e1
        refine x_d (fun _ => ?_) (fun h => absurd rfl h)
        walk_at "s"
        refine ⟨x_tyL o4.h, ?_⟩
        walk_at "s"
        refine ⟨_, _, _, _, _, rfl, G4.hh _ _ (fh _ _ ha2), T.c_Rules, T.a_Rules_phrase_words, hfr.phrase_words, ?_⟩
        rw [epw]
        walk_at "s"
        refine ⟨(v3, y3, pw, tss, p.2.2), F4, rfl, G4.fh, ⟨(kL (kL kS)).mono s14 htss, hy3, hpw1, hpw2, ⟨htl, htw⟩, hcl2 p hpm⟩, fun v5 F5 H5 g5 hv5 => ?_⟩
        obtain ⟨qs, hqs, hqo⟩ := hv5
        have o5 := o4.go g5
        walk_at "s"
        refine ⟨x_lt (Nat.le_of_ble_eq_true rfl), fun t H6 nt => ?_⟩
        obtain ⟨F6, g6, e6⟩ := nt.fix g5.fh
        have o6 := o5.go g6
        have s46 := g5.ff.trans g6.ff
        have lv := hq.length
        walk_at "s"
        refine x_app o6.h (by rw [sizeLine_eq]; omega) fun H7 c7 => ?_
        walk_at "s"
        refine kN _ _ _ (c7.gr ((G4.trans g5).trans g6) o6.f zr) s46 ⟨_, ps ++ [(p.1, qs)], _, _, _, _, _, _, _, _, _, _, rfl, c7.own o6, (L2.Paired.mapP hq fun _ _ h => kPs.mono s46 h).snoc ⟨t, _, _, rfl, e6, rfl, (kL kPc).mono g6.ff hqs⟩, by rw [List.length_append, List.length_singleton]; omega, fun p hp => ?_, fun p hp => ?_⟩
        · rcases List.mem_append.mp hp with h | h
          · exact hpo p h
          · rw [List.mem_singleton.mp h]; exact hqo
        · rcases List.mem_append.mp hp with h | h
          · exact hin p h
          · rw [List.mem_singleton.mp h]; exact hnum
      · subst e2
        refine x_d (fun h => by cases h) (fun _ => ?_)
        exact skip _ rfl
    · rintro σ1 F4 H4 G4 s4 ⟨vs, ps, x1, x2, x3, x4, x5, x6, x7, x8, x9, x10, rfl, o4, hq, hl, hpo, hin⟩
      have G5 := G4.fix o4.h zr o4.f
      have hps : (kL kPs).p (upd F4 r (.lst vs)) (.ref r) ps := ⟨r, vs, rfl, upd_same, L2.Paired.mapP hq fun _ _ h => kPs.mono (same_new o4.f) h⟩
      have s45 : Same F4 (upd F4 r (.lst vs)) := same_new o4.f
      generalize upd F4 r (.lst vs) = F5 at G5 hps s45
      have s15 := ((g2.ff.trans g3.ff).trans s4).trans s45
      have hpl : ps.length ≤ 20 := by omega
      walk_at "s"
      refine ⟨_, _, _, _, _, rfl, G5.hh _ _ (fh _ _ ha2), T.c_Rules, T.a_Rules_piece_words, hfr.piece_words, ?_⟩
      walk_at "s"
      refine ⟨(.ref r, c.ru.pi, ps), F5, rfl, G5.fh, ⟨hps, by omega, hpo⟩, fun v6 F6 H6 g6 hv6 => ?_⟩
      obtain ⟨lo, hlo, hlol, hlos, hlok⟩ := hv6
      have G6 := G5.trans g6
      walk_at "s"
      refine ⟨_, _, _, _, _, rfl, G6.hh _ _ (fh _ _ ha2), T.c_Rules, T.a_Rules_run_words, hfr.run_words, ?_⟩
      rw [erw]
      walk_at "s"
      refine ⟨_, _, _, _, _, rfl, G6.hh _ _ (fh _ _ ha2), T.c_Rules, T.a_Rules_alike_least, hfr.alike_least, ?_⟩
      walk_at "s"
      refine ⟨_, _, _, _, _, rfl, G6.hh _ _ (fh _ _ ha2), T.c_Rules, T.a_Rules_alike_of, hfr.alike_of, ?_⟩
      walk_at "s"
      refine ⟨(v6, lo, rw, c.ru.al, c.ru.ao), F6, rfl, G6.fh, ⟨hlo, hrw1, hrw2, by omega, hlok, ⟨hru.al1, hru.al2⟩, hru.ao1, hru.ao2⟩, fun v7 F7 H7 g7 hv7 => ?_⟩
      obtain ⟨kvs, hkv, hkvm⟩ := hv7
      have G7 := G6.trans g7
      obtain ⟨e, rfl, he, hei⟩ := id hkv
      obtain ⟨a6, vs6, rfl, ha6, hp6⟩ := (kL kLo).mono g7.ff hlo
      walk_at "s"
      refine ⟨a6, rfl, ⟨_, SqL.of (G7.fh _ _ ha6)⟩, lc_kL (r := kLo) (s := kX) G7.fh ha6 hp6 (by rw [sizeLine_eq]; omega) (fun _ _ => True) ?_ ?_⟩
      · intro j d v F8 H8 N8 hx8 hv g8 kN8
        obtain ⟨b, y1, y2, rfl, hb, hy1, hy2⟩ := hv
        have hy1' : y1 = .int d.1 := hy1
        subst hy1'
        obtain ⟨n8, hn8⟩ := hkvm d (List.mem_of_getElem? hx8)
        walk_at "s"
        refine x_gT (g8.at hb) rfl ?_
        walk_at "s"
        refine ⟨rfl, ?_⟩
        walk_at "s"
        refine ⟨e, _, rfl, hn8 ▸ DGet.k (k := Sum.inl d.1) (g8.fh _ _ (g8.ff _ _ he)), ?_⟩
        walk_at "s"
        refine ⟨x_lt (Nat.le_of_ble_eq_true rfl), fun t H9 nt => ?_⟩
        obtain ⟨F9, g9, e9⟩ := nt.fix g8.fh
        exact kN8 _ _ _ _ g9 rfl trivial
      intro p8 F8 H8 ys8 np8 g8 hk8 _
      have G8 := G7.trans g8
      walk_at "s"
      refine ⟨(.ref a1, .ref r, .ref e, c, ps, kvs), F8, rfl, G8.fh, ⟨(kCo K).mono G8.ff h1, (kL kPs).mono ((g6.ff.trans g7.ff).trans g8.ff) hps, kDi.mono g8.ff hkv, hpl, hpo, hin, hnd⟩, fun v9 F9 H9 g9 hv9 => ?_⟩
      obtain ⟨rs, hrs, hro⟩ := hv9
      have G9 := G8.trans g9
      walk_at "s"
      refine ⟨_, _, _, _, _, rfl, G9.hh _ _ (fh _ _ ha2), T.c_Rules, T.a_Rules_phrase_words, hfr.phrase_words, ?_⟩
      walk_at "s"
      refine ⟨(v3, c.ru.pw, tss), F9, rfl, G9.fh, ⟨(kL (kL kS)).mono ((((s15.trans g6.ff).trans g7.ff).trans g8.ff).trans g9.ff) htss, by omega, by omega, htl, htw⟩, fun v10 F10 H10 g10 _ => ?_⟩
      have G10 := G9.trans g10
      walk_at "s"
      intro x dx nx ndx nxd
      have nxs : New H10 dx (.own x) (upd H10 dx (.own x)) := ⟨ndx, rfl⟩
      have gA : Gr F10 H10 F10 (upd H10 dx (.own x)) := Gr.newM G10.fh ndx
      have fx : (upd H10 dx (.own x)) x = none := by rw [upd_ne nxd.symm]; exact nx
      have gB : Gr F10 (upd H10 dx (.own x)) F10 (upd (upd H10 dx (.own x)) x (.ins (He.ga K "Corpus") dx [])) := Gr.newM gA.fh fx
      have ox : Own F10 (upd (upd H10 dx (.own x)) x (.ins (He.ga K "Corpus") dx [])) x (.ins (He.ga K "Corpus") dx []) := ⟨upd_same, G10.fh.free nx⟩
      have G11 := G10.trans (gA.trans gB)
      have zx : H x = none := G10.hh.free nx
      refine ⟨x, dx, F10, _, _, _, _, _, _, rfl, G11.fh, ox, fun F12 H12 fs12 g12 o12 lp12 hl12 => ⟨rfl, ?_⟩⟩
      have G12 := gr_undel G11 zx g12 o12.f
      walk_at "s"
      refine ⟨.ref a1, x, dx, fs12, F12, c, v9, rs, rfl, G12.fh, (kCo K).mono G12.ff h1, o12, lp12, (kL kPub).mono (g10.ff.trans g12.ff) hrs, hro, hru, hl12, fun F13 H13 fs13 vph vpg cs rows g13 hx13 fx13 lph hph lpg hpg hr1 hr2 hWO => ?_⟩
      have G13 := gr_undel G12 zx g13 fx13
      walk_at "s"
      refine k _ _ _ (G13.fix hx13 zx fx13) ⟨x, dx, fs13, vph, vpg, cs, rows, rfl, upd_same, lph, (kL (kL kI)).mono (same_new fx13) hph, lpg, (kL (k2 kI (kL kI))).mono (same_new fx13) hpg, hr1, hr2, hWO⟩
/-! D_lex1.src -/
def chS (c : Nat) : Str := ⟨#[c]⟩
def letC (c : Nat) : Bool := decide (c ∈ c_LETTERS.cps.toList)
def digC (c : Nat) : Bool := decide (c ∈ c_DIGITS.cps.toList)
def symC (c : Nat) : Bool := decide (c ∈ c_SYMBOLS.cps.toList)
def sp_is_letter : Sp := SpOf (ι := Nat) (fun c => [.str (chS c)]) (fun _ _ => True) (fun c _ v => v = .bl (letC c))
theorem ok_is_letter {P : Program} {w : World} {K : PySem.W.Frag} {mg : Str → Option Value} {base : Heap} (T : Tx K mg) : Okd P w K mg base 1 ("is_letter", none) ["char"] [] (sp_is_letter) := by
  obtain ⟨fd, F⟩ : ∃ fd, FunD K "is_letter" "is_letter" (defArgs s_is_letter) (defBody s_is_letter) (defScope s_is_letter) [] [] (He.fAd K ("is_letter", none)) fd := T.says.d.def_ 5 rfl
  refine ⟨fd, [], F.ok sc_is_letter (fun vs H Q E h => ?_) (fun cdv A outer s H vs Q E hr h => ?_), .nil, F.bindsN (fun _ _ _ _ _ _ us hl => match us, hl with | [_], _ => rfl), F.kp⟩
  · obtain ⟨_, _, rfl, _⟩ := h; rfl
  · refine ⟨_, PSs.nox (pss_one (ps_ret (pe_cmpR op_in_sign (pv 0) T.e_LETTERS rfl))), ?_⟩
    obtain ⟨c, F0, rfl, fh, _, k⟩ := h
    dsimp only at k ⊢
    walk_at "s"
    refine ⟨c, c_LETTERS, rfl, rfl, ?_⟩
    exact k _ _ _ (Gr.refl fh) rfl
def sp_is_digit : Sp := SpOf (ι := Nat) (fun c => [.str (chS c)]) (fun _ _ => True) (fun c _ v => v = .bl (digC c))
theorem ok_is_digit {P : Program} {w : World} {K : PySem.W.Frag} {mg : Str → Option Value} {base : Heap} (T : Tx K mg) : Okd P w K mg base 1 ("is_digit", none) ["char"] [] (sp_is_digit) := by
  obtain ⟨fd, F⟩ : ∃ fd, FunD K "is_digit" "is_digit" (defArgs s_is_digit) (defBody s_is_digit) (defScope s_is_digit) [] [] (He.fAd K ("is_digit", none)) fd := T.says.d.def_ 6 rfl
  refine ⟨fd, [], F.ok sc_is_digit (fun vs H Q E h => ?_) (fun cdv A outer s H vs Q E hr h => ?_), .nil, F.bindsN (fun _ _ _ _ _ _ us hl => match us, hl with | [_], _ => rfl), F.kp⟩
  · obtain ⟨_, _, rfl, _⟩ := h; rfl
  · refine ⟨_, PSs.nox (pss_one (ps_ret (pe_cmpR op_in_sign (pv 0) T.e_DIGITS rfl))), ?_⟩
    obtain ⟨c, F0, rfl, fh, _, k⟩ := h
    dsimp only at k ⊢
    walk_at "s"
    refine ⟨c, c_DIGITS, rfl, rfl, ?_⟩
    exact k _ _ _ (Gr.refl fh) rfl
def sp_place_of : Sp := SpOf (ι := Str × Nat) (fun i => [.str i.1, .int (i.2 : Int)]) (fun i _ => i.1.length ≤ 100000) (fun _ F v => ∃ p, (k2 kI kI).p F v p)
theorem ok_place_of {P : Program} {w : World} {K : PySem.W.Frag} {mg : Str → Option Value} {base : Heap} (T : Tx K mg) : Okd P w K mg base 1 ("place_of", none) ["text", "index"] [] (sp_place_of) := by
  obtain ⟨fd, F⟩ : ∃ fd, FunD K "place_of" "place_of" (defArgs s_place_of) (defBody s_place_of) (defScope s_place_of) [] [] (He.fAd K ("place_of", none)) fd := T.says.d.def_ 9 rfl
  refine ⟨fd, [], F.ok sc_place_of (fun vs H Q E h => ?_) (fun cdv A outer s H vs Q E hr h => ?_), .nil, F.bindsN (fun _ _ _ _ _ _ us hl => match us, hl with | [_, _], _ => rfl), F.kp⟩
  · obtain ⟨_, _, rfl, _⟩ := h; rfl
  · refine ⟨_, PSs.nox (pss_cons (ps_set (i := 2) sc_place_of.nd rfl (by first | exact Or.inl rfl | exact Or.inr rfl) (pe_slice sl_str (pv 0) po_none (po_some (pv 1))))
    (pss_one (ps_ret (pe_tup (pa_cons (pe_op op_add pe_int (pe_bmK K PySem.F.plainAttrs_str PySem.F.slot_str_count PySem.F.type_str_count mt_count (pv 2) (pa_cons pe_str pa_nil))) (pa_cons (pe_op op_sub (pv 1) (pe_bmK K PySem.F.plainAttrs_str PySem.F.slot_str_rfind PySem.F.type_str_rfind mt_rfind (pv 2) (pa_cons pe_str pa_nil))) pa_nil)))))), ?_⟩
    obtain ⟨⟨z, n⟩, F0, rfl, fh, hz, k⟩ := h
    dsimp only at hz k ⊢
    walk_at "s"
    refine ⟨z, rfl, by rw [sizeLine_eq]; omega, ?_⟩
    walk_at "s"
    refine ⟨rfl, ?_⟩
    walk_at "s"
    refine ⟨_, _, rfl, rfl, ?_⟩
    walk_at "s"
    refine ⟨rfl, ?_⟩
    walk_at "s"
    refine ⟨_, _, rfl, rfl, ?_⟩
    walk_at "s"
    refine ⟨x_lt (Nat.le_of_ble_eq_true rfl), fun t H1 nt => ?_⟩
    obtain ⟨F1, g1, e1⟩ := nt.fix fh
    exact k _ _ _ g1 ⟨(_, _), t, _, _, rfl, e1, rfl, rfl⟩
/-- the text of a list of signs -/
def stS (w : List Nat) : Str := ⟨w.toArray⟩
theorem str_of {s : Str} {w : List Nat} (h : s.cps.toList = w) : s = stS w := by
  obtain ⟨c⟩ := s
  subst h
  rfl
theorem stS_list (w : List Nat) : (stS w).cps.toList = w := by simp [stS]
theorem stS_len (w : List Nat) : (stS w).length = w.length := by rw [len_list, stS_list]
theorem cutS_nat (z : Str) {a b : Nat} (h : a ≤ b) : cutS z (some (a : Int)) (some (b : Int)) = stS ((z.cps.toList.drop a).take (b - a)) := by
  have e0 : z.cps.toList.length = z.length := (len_list z).symm
  show stS _ = stS _
  congr 1
  rw [HT.sIx_nat, HT.sIx_nat]
  by_cases h1 : a ≤ z.length
  · rw [Nat.min_eq_left h1]
    by_cases h2 : b ≤ z.length
    · rw [Nat.min_eq_left h2]
    · rw [Nat.min_eq_right (show z.length ≤ b by omega), List.take_of_length_le (by rw [List.length_drop]; omega), List.take_of_length_le (by rw [List.length_drop]; omega)]
  · rw [Nat.min_eq_right (show z.length ≤ a by omega), List.drop_eq_nil_of_le (show z.cps.toList.length ≤ z.length by omega), List.drop_eq_nil_of_le (show z.cps.toList.length ≤ a by omega)]
    simp
theorem at_drop {z : Str} {i j c : Nat} {t : List Nat} (h : z.cps.toList.drop i = t) (e : t[j]? = some c) : z.cps[i + j]? = some c := by
  rw [← h, List.getElem?_drop, Array.getElem?_toList] at e
  exact e
theorem len_drop {z : Str} {i : Nat} {t : List Nat} (h : z.cps.toList.drop i = t) (ne : t ≠ []) : z.length = i + t.length := by
  have e := congrArg List.length h
  rw [List.length_drop, ← len_list] at e
  have : 0 < t.length := List.length_pos_iff.mpr ne
  omega
theorem tt_via {c : TT} {σ : L2.St} {F1 H1 : Hp} {b : Bool} {Qb : Bool → Hp → Prop} (key : ∀ Qb : Bool → Hp → Prop, (∀ F2 H2, Gr F1 H1 F2 H2 → Qb b H2) → c σ H1 Qb) (k : ∀ F2 H2, Gr F1 H1 F2 H2 → Qb b H2) : c σ H1 Qb := key _ k
def nameC (c : Nat) : Bool := letC c || digC c || decide (chS c = "_")
def sp_name_at : Sp := SpOf (ι := Str × Nat × Nat × List Nat × List Nat) (fun i => [.str i.1, .int (i.2.1 : Int)]) (fun ⟨z, i, c, w, r⟩ _ => z.cps.toList.drop i = c :: (w ++ r) ∧ (∀ x ∈ w, nameC x = true) ∧ (∀ x, r.head? = some x → nameC x = false) ∧ w.length < 20 ∧ z.length ≤ 100000)
  (fun ⟨_, i, c, w, _⟩ F v => (k3 kS kS kI).p F v ("name", stS (c :: w), ((i + 1 + w.length : Nat) : Int)))
theorem ok_name_at {P : Program} {w : World} {K : PySem.W.Frag} {mg : Str → Option Value} {base : Heap} (T : Tx K mg) : Okd P w K mg base 2 ("_name_at", none) ["text", "at"] [] (sp_name_at) := by
  have O_is_digit := ok_is_digit (P := P) (w := w) (base := base) T
  have O_is_letter := ok_is_letter (P := P) (w := w) (base := base) T
  obtain ⟨fd, F⟩ : ∃ fd, FunD K "_name_at" "_name_at" (defArgs s_name_at) (defBody s_name_at) (defScope s_name_at) [] [] (He.fAd K ("_name_at", none)) fd := T.says.d.def_ 10 rfl
  refine ⟨fd, [], F.ok sc_name_at (fun vs H Q E h => ?_) (fun cdv A outer s H vs Q E hr h => ?_), .nil, F.bindsN (fun _ _ _ _ _ _ us hl => match us, hl with | [_, _], _ => rfl), F.kp⟩
  · obtain ⟨_, _, rfl, _⟩ := h; rfl
  · refine ⟨_, PSs.nox (pss_cons (ps_set (i := 2) sc_name_at.nd rfl (by first | exact Or.inl rfl | exact Or.inr rfl) (pe_op op_add (pv 1) pe_int))
    (pss_cons (ps_while PassesOwn.never (PW.pt (pw_and (pt_cmpR op_lt (pv 2) (pe_callB call_len_str (by rfl) T.f_len (by decide +kernel) (pa_cons (pv 0) pa_nil)) (nomark _)) (pw_and1 (PW.pt (pw_or (pt_val (pe_ok O_is_letter T.n_is_letter hr (by decide) (by rfl) (pa_cons (pe_ix ix_str (pv 0) (pv 2) (fun _ _ => rfl)) pa_nil))) (pw_or (pt_val (pe_ok O_is_digit T.n_is_digit hr (by decide) (by rfl) (pa_cons (pe_ix ix_str (pv 0) (pv 2) (fun _ _ => rfl)) pa_nil))) (pw_or1 (pt_cmpR op_eq (pe_ix ix_str (pv 0) (pv 2) (fun _ _ => rfl)) pe_str (nomark _))))))))) (pss_one (ps_aug (i := 2) sc_name_at.nd rfl (by first | exact Or.inl rfl | exact Or.inr rfl) pe_int ip_add)))
    (pss_cons (ps_if (pt_cmpR op_gt (pe_op op_sub (pv 2) (pv 1)) T.e_NAME_MOST (nomark _)) (pss_one (ps_ret (pe_tup (pa_cons pe_str (pa_cons pe_str (pa_cons (pe_op op_add (pv 1) T.e_NAME_MOST) pa_nil)))))) pss_nil)
    (pss_one (ps_ret (pe_tup (pa_cons pe_str (pa_cons (pe_slice sl_str (pv 0) (po_some (pv 1)) (po_some (pv 2))) (pa_cons (pv 2) pa_nil))))))))), ?_⟩
    obtain ⟨⟨z, i, c, w, r⟩, F0, rfl, fh, ⟨hd, hw, hr, hl, hz⟩, k⟩ := h
    dsimp only at hd hw hr hl hz k ⊢
    have hlen := len_drop hd (by simp)
    rw [List.length_cons, List.length_append] at hlen
    walk_at "s"
    refine while_m (Gr.refl fh) (fun m σ F H => ∃ j : Nat, σ = [some (.str z), some (.int (i : Int)), some (.int ((i + 1 + j : Nat) : Int))] ∧ j ≤ w.length ∧ m = w.length - j) w.length ⟨0, rfl, Nat.zero_le _, rfl⟩ ?_
    rintro m σ1 F1 H1 G1 s1 ⟨j, rfl, hj, rfl⟩
    refine tt_via (F1 := F1) (b := decide (j < w.length)) (fun Qb kQ => ?_) (fun F2 H2 g2 => ?_)
    · walk_at "s"
      refine ⟨by rw [sizeLine_eq]; omega, ?_⟩
      walk_at "s"
      refine x_d (fun hlt => ?_) (fun hge => ?_)
      · obtain ⟨c', hc'⟩ : ∃ c', (w ++ r)[j]? = some c' := ⟨_, List.getElem?_eq_getElem (by rw [List.length_append]; omega)⟩
        have hz2 : z.cps[i + 1 + j]? = some c' := by
          have := at_drop (j := j + 1) hd (by rw [List.getElem?_cons_succ]; exact hc')
          rw [show i + 1 + j = i + (j + 1) by omega]
          exact this
        have hz1 : z.length ≤ 1000000 := by omega
        have hn : nameC c' = decide (j < w.length) := by
          by_cases q : j < w.length
          · rw [List.getElem?_append_left q] at hc'
            rw [hw c' (List.mem_of_getElem? hc'), decide_eq_true q]
          · rw [List.getElem?_append_right (by omega), show j - w.length = 0 by omega] at hc'
            rw [hr c' (by rw [← hc', List.head?_eq_getElem?]), decide_eq_false q]
        rw [← hn] at kQ
        walk_at "s"
        refine x_ixS hz1 hz2 ?_
        walk_at "s"
        refine ⟨c', F1, rfl, G1.fh, trivial, fun v F2 H2 g2 hv => ?_⟩
        dsimp only at hv
        subst hv
        refine ⟨_, rfl, ?_⟩
        cases e1 : letC c'
        · refine x_f ?_
          walk_at "s"
          refine x_ixS hz1 hz2 ?_
          walk_at "s"
          refine ⟨c', F2, rfl, g2.fh, trivial, fun v F3 H3 g3 hv => ?_⟩
          dsimp only at hv
          subst hv
          refine ⟨_, rfl, ?_⟩
          have g23 := g2.trans g3
          cases e2 : digC c'
          · refine x_f ?_
            walk_at "s"
            refine x_ixS hz1 hz2 ?_
            walk_at "s"
            have e3 : nameC c' = decide (chS c' = "_") := by unfold nameC; rw [e1, e2]; rfl
            rw [e3] at kQ
            exact kQ _ _ g23
          · refine x_t ?_
            have e3 : nameC c' = true := by unfold nameC; rw [e1, e2]; rfl
            rw [e3] at kQ
            exact kQ _ _ g23
        · refine x_t ?_
          have e3 : nameC c' = true := by unfold nameC; rw [e1]; rfl
          rw [e3] at kQ
          exact kQ _ _ g2
      · have hj2 : ¬ j < w.length := by omega
        rw [decide_eq_false hj2] at kQ
        exact kQ _ _ (Gr.refl G1.fh)
    · have G2 := G1.trans g2
      refine x_d (fun hlt => ?_) (fun hge => ?_)
      · refine wh_go (s1.trans g2.ff) fun N kN => ?_
        walk_at "s"
        exact kN (w.length - (j + 1)) _ _ _ (by omega) G2 (Same.refl _) ⟨j + 1, rfl, by omega, rfl⟩
      · have hj2 : j = w.length := by omega
        subst hj2
        walk_at "s"
        refine x_d (fun hc => ?_) (fun _ => ?_)
        · exact absurd hc (by omega)
        walk_at "s"
        refine ⟨z, rfl, by rw [sizeLine_eq]; omega, ?_⟩
        rw [cutS_nat z (by omega), hd]
        have ht : List.take (i + 1 + w.length - i) (c :: (w ++ r)) = c :: w := by
          rw [show i + 1 + w.length - i = w.length + 1 by omega, List.take_succ_cons, List.take_left]
        rw [ht]
        walk_at "s"
        refine ⟨x_lt (Nat.le_of_ble_eq_true rfl), fun t H3 nt => ?_⟩
        obtain ⟨F3, g3, e3⟩ := nt.fix G2.fh
        exact k _ _ _ (G2.trans g3) ⟨t, _, _, _, rfl, e3, rfl, rfl, rfl⟩
/-! D_lex2.src -/
def sp_number_at : Sp := SpOf (ι := Str × Nat × Nat × List Nat × List Nat × Int) (fun i => [.str i.1, .int (i.2.1 : Int)]) (fun ⟨z, i, c, w, r, n⟩ _ => z.cps.toList.drop i = c :: (w ++ r) ∧ (∀ x ∈ w, digC x = true) ∧ (∀ x, r.head? = some x → digC x = false) ∧ z.length ≤ 100000 ∧ w.length < 600 ∧ intText? (stS (c :: w)) = some n)
  (fun ⟨_, i, _, w, _, n⟩ F v => (k3 kS kI kI).p F v ("number", n, ((i + 1 + w.length : Nat) : Int)))
theorem ok_number_at {P : Program} {w : World} {K : PySem.W.Frag} {mg : Str → Option Value} {base : Heap} (T : Tx K mg) : Okd P w K mg base 2 ("_number_at", none) ["text", "at"] [] (sp_number_at) := by
  have O_is_digit := ok_is_digit (P := P) (w := w) (base := base) T
  obtain ⟨fd, F⟩ : ∃ fd, FunD K "_number_at" "_number_at" (defArgs s_number_at) (defBody s_number_at) (defScope s_number_at) [] [] (He.fAd K ("_number_at", none)) fd := T.says.d.def_ 11 rfl
  refine ⟨fd, [], F.ok sc_number_at (fun vs H Q E h => ?_) (fun cdv A outer s H vs Q E hr h => ?_), .nil, F.bindsN (fun _ _ _ _ _ _ us hl => match us, hl with | [_, _], _ => rfl), F.kp⟩
  · obtain ⟨_, _, rfl, _⟩ := h; rfl
  · refine ⟨_, PSs.nox (pss_cons (ps_set (i := 2) sc_number_at.nd rfl (by first | exact Or.inl rfl | exact Or.inr rfl) (pe_op op_add (pv 1) pe_int))
    (pss_cons (ps_while PassesOwn.never (PW.pt (pw_and (pt_cmpR op_lt (pv 2) (pe_callB call_len_str (by rfl) T.f_len (by decide +kernel) (pa_cons (pv 0) pa_nil)) (nomark _)) (pw_and1 (pt_val (pe_ok O_is_digit T.n_is_digit hr (by decide) (by rfl) (pa_cons (pe_ix ix_str (pv 0) (pv 2) (fun _ _ => rfl)) pa_nil)))))) (pss_one (ps_aug (i := 2) sc_number_at.nd rfl (by first | exact Or.inl rfl | exact Or.inr rfl) pe_int ip_add)))
    (pss_one (ps_ret (pe_tup (pa_cons pe_str (pa_cons (pe_callTy call_int_str (by rfl) T.f_int (by decide +kernel) (pa_cons (pe_slice sl_str (pv 0) (po_some (pv 1)) (po_some (pv 2))) pa_nil)) (pa_cons (pv 2) pa_nil)))))))), ?_⟩
    obtain ⟨⟨z, i, c, w, r, n⟩, F0, rfl, fh, ⟨hd, hw, hr, hz, hl, hn⟩, k⟩ := h
    dsimp only at hd hw hr hl hz hn k ⊢
    have hlen := len_drop hd (by simp)
    rw [List.length_cons, List.length_append] at hlen
    walk_at "s"
    refine while_m (Gr.refl fh) (fun m σ F H => ∃ j : Nat, σ = [some (.str z), some (.int (i : Int)), some (.int ((i + 1 + j : Nat) : Int))] ∧ j ≤ w.length ∧ m = w.length - j) w.length ⟨0, rfl, Nat.zero_le _, rfl⟩ ?_
    rintro m σ1 F1 H1 G1 s1 ⟨j, rfl, hj, rfl⟩
    refine tt_via (F1 := F1) (b := decide (j < w.length)) (fun Qb kQ => ?_) (fun F2 H2 g2 => ?_)
    · walk_at "s"
      refine ⟨by rw [sizeLine_eq]; omega, ?_⟩
      walk_at "s"
      refine x_d (fun hlt => ?_) (fun hge => ?_)
      · obtain ⟨c', hc'⟩ : ∃ c', (w ++ r)[j]? = some c' := ⟨_, List.getElem?_eq_getElem (by rw [List.length_append]; omega)⟩
        have hz2 : z.cps[i + 1 + j]? = some c' := by
          have := at_drop (j := j + 1) hd (by rw [List.getElem?_cons_succ]; exact hc')
          rw [show i + 1 + j = i + (j + 1) by omega]
          exact this
        have hz1 : z.length ≤ 1000000 := by omega
        have hn : digC c' = decide (j < w.length) := by
          by_cases q : j < w.length
          · rw [List.getElem?_append_left q] at hc'
            rw [hw c' (List.mem_of_getElem? hc'), decide_eq_true q]
          · rw [List.getElem?_append_right (by omega), show j - w.length = 0 by omega] at hc'
            rw [hr c' (by rw [← hc', List.head?_eq_getElem?]), decide_eq_false q]
        rw [← hn] at kQ
        walk_at "s"
        refine x_ixS hz1 hz2 ?_
        walk_at "s"
        refine ⟨c', F1, rfl, G1.fh, trivial, fun v F2 H2 g2 hv => ?_⟩
        dsimp only at hv
        subst hv
        exact ⟨_, rfl, kQ _ _ g2⟩
      · have hj2 : ¬ j < w.length := by omega
        rw [decide_eq_false hj2] at kQ
        exact kQ _ _ (Gr.refl G1.fh)
    · have G2 := G1.trans g2
      refine x_d (fun hlt => ?_) (fun hge => ?_)
      · refine wh_go (s1.trans g2.ff) fun N kN => ?_
        walk_at "s"
        exact kN (w.length - (j + 1)) _ _ _ (by omega) G2 (Same.refl _) ⟨j + 1, rfl, by omega, rfl⟩
      · have hj2 : j = w.length := by omega
        subst hj2
        walk_at "s"
        refine ⟨z, rfl, by rw [sizeLine_eq]; omega, ?_⟩
        rw [cutS_nat z (by omega), hd]
        have ht : List.take (i + 1 + w.length - i) (c :: (w ++ r)) = c :: w := by
          rw [show i + 1 + w.length - i = w.length + 1 by omega, List.take_succ_cons, List.take_left]
        rw [ht]
        walk_at "s"
        refine ⟨_, n, rfl, hn, by rw [stS_len, List.length_cons]; omega, ?_⟩
        walk_at "s"
        refine ⟨x_lt (Nat.le_of_ble_eq_true rfl), fun t H3 nt => ?_⟩
        obtain ⟨F3, g3, e3⟩ := nt.fix G2.fh
        exact k _ _ _ (G2.trans g3) ⟨t, _, _, _, rfl, e3, rfl, rfl, rfl⟩
def sp_quoted_at : Sp := SpOf (ι := Str × Nat × List Nat × List Nat) (fun i => [.str i.1, .int (i.2.1 : Int)]) (fun ⟨z, i, w, r⟩ _ => z.cps.toList.drop i = 34 :: (w ++ 34 :: r) ∧ (∀ x ∈ w, x ≠ 34) ∧ (∀ x, r.head? = some x → x ≠ 34) ∧ z.length ≤ 100000)
  (fun ⟨_, i, w, _⟩ F v => (k3 kS kS kI).p F v ("quoted", stS w, ((i + 1 + w.length + 1 : Nat) : Int)))
theorem chS_ne {c : Nat} (h : c ≠ 34) : chS c ≠ "\"" := fun e => by
  have e2 : (chS c).cps.toList = (Str.ofString "\"").cps.toList := by rw [e]
  have e3 : (Str.ofString "\"").cps.toList = [34] := by decide
  rw [e3] at e2
  have e4 : (chS c).cps.toList = [c] := rfl
  rw [e4] at e2
  exact h (List.cons.inj e2).1
theorem flat_single : ∀ w : List Nat, (w.map fun c => [c]).flatten = w
  | [] => rfl
  | a :: r => by rw [List.map_cons, List.flatten_cons, flat_single r]; rfl
theorem ok_quoted_at {P : Program} {w : World} {K : PySem.W.Frag} {mg : Str → Option Value} {base : Heap} (T : Tx K mg) : Okd P w K mg base 1 ("_quoted_at", none) ["text", "at"] [] (sp_quoted_at) := by
  obtain ⟨fd, F⟩ : ∃ fd, FunD K "_quoted_at" "_quoted_at" (defArgs s_quoted_at) (defBody s_quoted_at) (defScope s_quoted_at) [] [] (He.fAd K ("_quoted_at", none)) fd := T.says.d.def_ 12 rfl
  refine ⟨fd, [], F.ok sc_quoted_at (fun vs H Q E h => ?_) (fun cdv A outer s H vs Q E hr h => ?_), .nil, F.bindsN (fun _ _ _ _ _ _ us hl => match us, hl with | [_, _], _ => rfl), F.kp⟩
  · obtain ⟨_, _, rfl, _⟩ := h; rfl
  · refine ⟨_, PSs.nox (pss_cons (ps_set (i := 2) sc_quoted_at.nd rfl (by first | exact Or.inl rfl | exact Or.inr rfl) (pe_lst pa_nil))
    (pss_cons (ps_set (i := 3) sc_quoted_at.nd rfl (by first | exact Or.inl rfl | exact Or.inr rfl) (pe_op op_add (pv 1) pe_int))
    (pss_cons (ps_while PassesOwn.never (pt_cmpR op_lt (pv 3) (pe_callB call_len_str (by rfl) T.f_len (by decide +kernel) (pa_cons (pv 0) pa_nil)) (nomark _)) (pss_one (ps_if (pt_cmpR op_ne (pe_ix ix_str (pv 0) (pv 3) (fun _ _ => rfl)) pe_str (nomark _)) (pss_cons (ps_expr (pe_bmK K PySem.F.plainAttrs_list PySem.F.slot_list_append PySem.F.type_list_append mt_append (pv 2) (pa_cons (pe_ix ix_str (pv 0) (pv 3) (fun _ _ => rfl)) pa_nil)))
    (pss_one (ps_aug (i := 3) sc_quoted_at.nd rfl (by first | exact Or.inl rfl | exact Or.inr rfl) pe_int ip_add))) (pss_one (ps_if (pt_cmpR op_eq (pe_slice sl_str (pv 0) (po_some (pe_op op_add (pv 3) pe_int)) (po_some (pe_op op_add (pv 3) pe_int))) pe_str (nomark _)) (pss_cons ps_never
    (pss_one ps_never)) (pss_one (ps_ret (pe_tup (pa_cons pe_str (pa_cons (pe_join pe_str (pv 2)) (pa_cons (pe_op op_add (pv 3) pe_int) pa_nil)))))))))))
    (pss_one (ps_ret (pe_tup (pa_cons pe_str (pa_cons pe_str (pa_cons (pe_callB call_len_str (by rfl) T.f_len (by decide +kernel) (pa_cons (pv 0) pa_nil)) pa_nil))))))))), ?_⟩
    obtain ⟨⟨z, i, w, r⟩, F0, rfl, fh, ⟨hd, hw, hr, hz⟩, k⟩ := h
    dsimp only at hd hw hr hz k ⊢
    have hlen := len_drop hd (by simp)
    rw [List.length_cons, List.length_append, List.length_cons] at hlen
    have hz1 : z.length ≤ 1000000 := by omega
    walk_at "s"
    refine ⟨x_lt (by decide), fun l H1 nl => ?_⟩
    obtain ⟨g1, ol⟩ := nl.own fh
    walk_at "s"
    refine while_m g1 (fun m σ F H => ∃ j : Nat, σ = [some (.str z), some (.int (i : Int)), some (.ref l), some (.int ((i + 1 + j : Nat) : Int))] ∧ j ≤ w.length ∧ Own F H l (.lst (((w.take j).map chS).map V.str)) ∧ m = w.length - j) w.length ⟨0, rfl, Nat.zero_le _, ol, rfl⟩ ?_
    rintro m σ1 F1 H2 G1 s1 ⟨j, rfl, hj, ol, rfl⟩
    walk_at "s"
    refine ⟨by rw [sizeLine_eq]; omega, ?_⟩
    walk_at "s"
    refine x_d (fun hlt => ?_) (fun hge => absurd (show ((i + 1 + j : Nat) : Int) < (z.length : Int) by omega) hge)
    refine wh_go s1 fun N kN => ?_
    have e34 : (Str.ofString "\"") = chS 34 := by decide
    by_cases q : j < w.length
    · have hz2 : z.cps[i + 1 + j]? = some w[j] := by
        have := at_drop (j := j + 1) hd (by rw [List.getElem?_cons_succ, List.getElem?_append_left q, List.getElem?_eq_getElem q])
        rw [show i + 1 + j = i + (j + 1) by omega]
        exact this
      walk_at "s"
      refine x_ixS hz1 hz2 ?_
      walk_at "s"
      refine x_nd (fun hc => absurd hc (chS_ne (hw _ (List.getElem_mem q)))) (fun _ => ?_)
      walk_at "s"
      refine ⟨x_tyL ol.h, ?_⟩
      walk_at "s"
      refine x_ixS hz1 hz2 ?_
      walk_at "s"
      refine x_app ol.h (by rw [List.length_map, List.length_map, List.length_take, sizeLine_eq]; omega) fun H3 c3 => ?_
      walk_at "s"
      refine kN (w.length - (j + 1)) _ _ _ (by omega) (c3.gr G1 ol.f nl.fr) (Same.refl _) ⟨j + 1, rfl, by omega, ?_, rfl⟩
      rw [List.take_succ_eq_append_getElem q, List.map_append, List.map_append]
      exact c3.own ol
    · have ej : j = w.length := by omega
      subst ej
      have hz2 : z.cps[i + 1 + w.length]? = some 34 := by
        have := at_drop (j := w.length + 1) hd (by rw [List.getElem?_cons_succ, List.getElem?_append_right (Nat.le_refl _), Nat.sub_self]; rfl)
        rw [show i + 1 + w.length = i + (w.length + 1) by omega]
        exact this
      walk_at "s"
      refine x_ixS hz1 hz2 ?_
      walk_at "s"
      refine x_nd (fun _ => ?_) (fun hc => absurd e34.symm hc)
      walk_at "s"
      refine ⟨z, rfl, by rw [sizeLine_eq]; omega, ?_⟩
      rw [show ((i + 1 + w.length : Nat) : Int) + 1 = ((i + 1 + w.length + 1 : Nat) : Int) from rfl, show ((i + 1 + w.length : Nat) : Int) + 2 = ((i + 1 + w.length + 2 : Nat) : Int) from rfl, cutS_nat z (by omega)]
      have ht : List.drop (i + 1 + w.length + 1) z.cps.toList = r := by
        rw [show i + 1 + w.length + 1 = i + (w.length + 2) by omega, ← List.drop_drop, hd, show 34 :: (w ++ 34 :: r) = (34 :: w ++ [34]) ++ r by simp, List.drop_left' (by simp)]
      rw [ht, show i + 1 + w.length + 2 - (i + 1 + w.length + 1) = 1 by omega]
      have hne : stS (r.take 1) ≠ "\"" := by
        cases r with
        | nil => decide
        | cons x r => exact chS_ne (hr x rfl)
      walk_at "s"
      refine x_d (fun hc => absurd hc hne) (fun _ => ?_)
      rw [List.take_length] at ol
      have hlen1 : ∀ q ∈ w.map chS, q.length = 1 := fun q hq => by
        obtain ⟨x, _, rfl⟩ := List.mem_map.mp hq
        rfl
      walk_at "s"
      refine ⟨⟨_, rfl⟩, ?_⟩
      walk_at "s"
      refine ⟨_, l, w.map chS, rfl, rfl, Or.inl (SqL.of ol.h), join_fits _ hlen1 (by rw [List.length_map]; omega), ?_⟩
      have hj : Txt.join (Str.ofString "") (w.map chS) = stS w := by
        refine str_of ?_
        rw [join0, List.map_map]
        have : ((fun c : Str => c.cps.toList) ∘ chS) = fun c => [c] := rfl
        rw [this]
        exact flat_single w
      rw [hj]
      walk_at "s"
      refine ⟨x_lt (Nat.le_of_ble_eq_true rfl), fun t H3 nt => ?_⟩
      obtain ⟨F3, g3, e3⟩ := nt.fix G1.fh
      exact k _ _ _ (G1.trans g3) ⟨t, _, _, _, rfl, e3, rfl, rfl, rfl⟩
/-! D_lex3.src -/
/-- one sign at the head: its text, the rest, its kind, its value -/
inductive Sgn : List Nat → List Nat → Str → V → Prop
  | name {c : Nat} {w r : List Nat} : letC c = true → (∀ x ∈ w, nameC x = true) → (∀ x, r.head? = some x → nameC x = false) → w.length < 20 → Sgn (c :: w) r "name" (.str (stS (c :: w)))
  | num {c : Nat} {w r : List Nat} {n : Int} : letC c = false → digC c = true → (∀ x ∈ w, digC x = true) → (∀ x, r.head? = some x → digC x = false) → w.length < 600 → intText? (stS (c :: w)) = some n → Sgn (c :: w) r "number" (.int n)
  | quo {w r : List Nat} : (∀ x ∈ w, x ≠ 34) → (∀ x, r.head? = some x → x ≠ 34) → Sgn (34 :: (w ++ [34])) r "quoted" (.str (stS w))
  | sym {c : Nat} {r : List Nat} : letC c = false → digC c = false → c ≠ 34 → symC c = true → Sgn [c] r "symbol" (.str (chS c))
abbrev kTok3 : R (Str × V × Int) := k3 kS kX kI
def sp_sign_at : Sp := SpOf (ι := Str × Nat × List Nat × List Nat × Str × V) (fun i => [.str i.1, .int (i.2.1 : Int)]) (fun ⟨z, i, t, r, k, v⟩ _ => z.cps.toList.drop i = t ++ r ∧ Sgn t r k v ∧ z.length ≤ 100000)
  (fun ⟨_, i, t, _, k, v⟩ F u => kTok3.p F u (k, v, ((i + t.length : Nat) : Int)))
theorem ok_sign_at {P : Program} {w : World} {K : PySem.W.Frag} {mg : Str → Option Value} {base : Heap} (T : Tx K mg) : Okd P w K mg base 3 ("_sign_at", none) ["text", "at"] [] (sp_sign_at) := by
  have O_is_letter := ok_is_letter (P := P) (w := w) (base := base) T
  have O_name_at := ok_name_at (P := P) (w := w) (base := base) T
  have O_is_digit := ok_is_digit (P := P) (w := w) (base := base) T
  have O_number_at := ok_number_at (P := P) (w := w) (base := base) T
  have O_quoted_at := ok_quoted_at (P := P) (w := w) (base := base) T
  obtain ⟨fd, F⟩ : ∃ fd, FunD K "_sign_at" "_sign_at" (defArgs s_sign_at) (defBody s_sign_at) (defScope s_sign_at) [] [] (He.fAd K ("_sign_at", none)) fd := T.says.d.def_ 13 rfl
  refine ⟨fd, [], F.ok sc_sign_at (fun vs H Q E h => ?_) (fun cdv A outer s H vs Q E hr h => ?_), .nil, F.bindsN (fun _ _ _ _ _ _ us hl => match us, hl with | [_, _], _ => rfl), F.kp⟩
  · obtain ⟨_, _, rfl, _⟩ := h; rfl
  · refine ⟨_, PSs.nox (pss_cons (ps_set (i := 2) sc_sign_at.nd rfl (by first | exact Or.inl rfl | exact Or.inr rfl) (pe_ix ix_str (pv 0) (pv 1) (fun _ _ => rfl)))
    (pss_cons (ps_if (pt_val (pe_ok O_is_letter T.n_is_letter hr (by decide) (by rfl) (pa_cons (pv 2) pa_nil))) (pss_one (ps_ret (pe_ok O_name_at T.n_name_at hr (by decide) (by rfl) (pa_cons (pv 0) (pa_cons (pv 1) pa_nil))))) pss_nil)
    (pss_cons (ps_if (pt_val (pe_ok O_is_digit T.n_is_digit hr (by decide) (by rfl) (pa_cons (pv 2) pa_nil))) (pss_one (ps_ret (pe_ok O_number_at T.n_number_at hr (by decide) (by rfl) (pa_cons (pv 0) (pa_cons (pv 1) pa_nil))))) pss_nil)
    (pss_cons (ps_if (pt_cmpR op_eq (pv 2) pe_str (nomark _)) (pss_one (ps_ret (pe_ok O_quoted_at T.n_quoted_at hr (by decide) (by rfl) (pa_cons (pv 0) (pa_cons (pv 1) pa_nil))))) pss_nil)
    (pss_cons (ps_if (pt_cmpR op_in_sign (pv 2) T.e_SYMBOLS rfl) (pss_one (ps_ret (pe_tup (pa_cons pe_str (pa_cons (pv 2) (pa_cons (pe_op op_add (pv 1) pe_int) pa_nil)))))) pss_nil)
    (pss_one (ps_ret (pe_tup (pa_cons pe_str (pa_cons pe_str (pa_cons (pv 1) pa_nil))))))))))), ?_⟩
    obtain ⟨⟨z, i, t, r, k0, v0⟩, F0, rfl, fh, ⟨hd, hs, hz⟩, k⟩ := h
    dsimp only at hd hs hz k ⊢
    have hz1 : z.length ≤ 1000000 := by omega
    cases hs with
    | @name c w _ h1 h2 h3 h4 =>
      walk_at "s"
      refine x_ixS hz1 (at_drop (j := 0) hd rfl) ?_
      walk_at "s"
      refine ⟨c, F0, rfl, fh, trivial, fun v F2 H2 g2 hv => ?_⟩
      dsimp only at hv
      subst hv
      rw [h1]
      refine ⟨_, rfl, x_t ?_⟩
      walk_at "s"
      refine ⟨(z, i, c, w, r), F2, rfl, g2.fh, ⟨hd, h2, h3, h4, hz⟩, fun v F3 H3 g3 hv => ?_⟩
      obtain ⟨a, x, y, q, e, ha, hx, hy, hq⟩ := hv
      refine k _ _ _ (g2.trans g3) ⟨a, x, y, q, e, ha, hx, hy, ?_⟩
      show q = _
      rw [show q = _ from hq, List.length_cons, show i + (w.length + 1) = i + 1 + w.length by omega]
    | @num c w _ n h1 h2 h3 h4 h5 h6 =>
      walk_at "s"
      refine x_ixS hz1 (at_drop (j := 0) hd rfl) ?_
      walk_at "s"
      refine ⟨c, F0, rfl, fh, trivial, fun v F2 H2 g2 hv => ?_⟩
      dsimp only at hv
      subst hv
      rw [h1]
      refine ⟨_, rfl, x_f ?_⟩
      walk_at "s"
      refine ⟨c, F2, rfl, g2.fh, trivial, fun v F3 H3 g3 hv => ?_⟩
      dsimp only at hv
      subst hv
      rw [h2]
      refine ⟨_, rfl, x_t ?_⟩
      walk_at "s"
      refine ⟨(z, i, c, w, r, n), F3, rfl, g3.fh, ⟨hd, h3, h4, hz, h5, h6⟩, fun v F4 H4 g4 hv => ?_⟩
      obtain ⟨a, x, y, q, e, ha, hx, hy, hq⟩ := hv
      refine k _ _ _ ((g2.trans g3).trans g4) ⟨a, x, y, q, e, ha, hx, hy, ?_⟩
      show q = _
      rw [show q = _ from hq, List.length_cons, show i + (w.length + 1) = i + 1 + w.length by omega]
    | @quo w _ h1 h2 =>
      have hd2 : z.cps.toList.drop i = 34 :: (w ++ 34 :: r) := by rw [hd]; simp
      have l34 : letC 34 = false := by decide
      have d34 : digC 34 = false := by decide
      walk_at "s"
      refine x_ixS hz1 (at_drop (j := 0) hd2 rfl) ?_
      walk_at "s"
      refine ⟨34, F0, rfl, fh, trivial, fun v F2 H2 g2 hv => ?_⟩
      dsimp only at hv
      subst hv
      rw [l34]
      refine ⟨_, rfl, x_f ?_⟩
      walk_at "s"
      refine ⟨34, F2, rfl, g2.fh, trivial, fun v F3 H3 g3 hv => ?_⟩
      dsimp only at hv
      subst hv
      rw [d34]
      refine ⟨_, rfl, x_f ?_⟩
      walk_at "s"
      refine x_d (fun _ => ?_) (fun hc => absurd (show chS 34 = "\"" by decide) hc)
      walk_at "s"
      refine ⟨(z, i, w, r), F3, rfl, g3.fh, ⟨hd2, h1, h2, hz⟩, fun v F4 H4 g4 hv => ?_⟩
      obtain ⟨a, x, y, q, e, ha, hx, hy, hq⟩ := hv
      refine k _ _ _ ((g2.trans g3).trans g4) ⟨a, x, y, q, e, ha, hx, hy, ?_⟩
      show q = _
      rw [show q = _ from hq, List.length_cons, List.length_append, List.length_singleton, show i + (w.length + 1 + 1) = i + 1 + w.length + 1 by omega]
    | @sym c _ h1 h2 h3 h4 =>
      walk_at "s"
      refine x_ixS hz1 (at_drop (j := 0) hd rfl) ?_
      walk_at "s"
      refine ⟨c, F0, rfl, fh, trivial, fun v F2 H2 g2 hv => ?_⟩
      dsimp only at hv
      subst hv
      rw [h1]
      refine ⟨_, rfl, x_f ?_⟩
      walk_at "s"
      refine ⟨c, F2, rfl, g2.fh, trivial, fun v F3 H3 g3 hv => ?_⟩
      dsimp only at hv
      subst hv
      rw [h2]
      refine ⟨_, rfl, x_f ?_⟩
      walk_at "s"
      refine x_d (fun hc => absurd hc (chS_ne h3)) (fun _ => ?_)
      walk_at "s"
      refine ⟨c, c_SYMBOLS, rfl, rfl, ?_⟩
      have h4' : decide (c ∈ c_SYMBOLS.cps.toList) = true := h4
      rw [h4']
      refine ⟨_, rfl, x_t ?_⟩
      walk_at "s"
      refine ⟨x_lt (Nat.le_of_ble_eq_true rfl), fun t H4 nt => ?_⟩
      have g23 := g2.trans g3
      obtain ⟨F4, g4, e4⟩ := nt.fix g23.fh
      exact k _ _ _ (g23.trans g4) ⟨t, _, _, _, rfl, e4, rfl, rfl, rfl⟩
/-- a text and its signs -/
inductive Lex : List Nat → List (Str × V) → Prop
  | nil : Lex [] []
  | blank {c : Nat} {r : List Nat} {ts : List (Str × V)} : isBlk (chS c) = true → Lex r ts → Lex (c :: r) ts
  | tok {c : Nat} {w r : List Nat} {k : Str} {v : V} {ts : List (Str × V)} : Sgn (c :: w) r k v → isBlk (chS c) = false → Lex r ts → Lex (c :: w ++ r) ((k, v) :: ts)
theorem Sgn.nf {w r : List Nat} {k : Str} {v : V} (h : Sgn w r k v) : k ≠ "fault" := by cases h <;> decide
def endT : Str × V := ("end", .str "")
abbrev kSg : R (Str × V × Int × Int) := k4 kS kX kI kI
def sp_read_signs : Sp := SpOf (ι := Str × List (Str × V)) (fun i => [.str i.1]) (fun ⟨z, ts⟩ _ => Lex z.cps.toList ts ∧ z.length ≤ 100000) (fun ⟨_, ts⟩ F v => ∃ sg, (kL kSg).p F v sg ∧ sg.map (fun s => (s.1, s.2.1)) = ts ++ [endT])
theorem ok_read_signs {P : Program} {w : World} {K : PySem.W.Frag} {mg : Str → Option Value} {base : Heap} (T : Tx K mg) : Okd P w K mg base 4 ("read_signs", none) ["text"] [] (sp_read_signs) := by
  have O_is_blank := ok_is_blank (P := P) (w := w) (base := base) T
  have O_sign_at := ok_sign_at (P := P) (w := w) (base := base) T
  have O_place_of := ok_place_of (P := P) (w := w) (base := base) T
  obtain ⟨fd, F⟩ : ∃ fd, FunD K "read_signs" "read_signs" (defArgs s_read_signs) (defBody s_read_signs) (defScope s_read_signs) [] [] (He.fAd K ("read_signs", none)) fd := T.says.d.def_ 14 rfl
  refine ⟨fd, [], F.ok sc_read_signs (fun vs H Q E h => ?_) (fun cdv A outer s H vs Q E hr h => ?_), .nil, F.bindsN (fun _ _ _ _ _ _ us hl => match us, hl with | [_], _ => rfl), F.kp⟩
  · obtain ⟨_, _, rfl, _⟩ := h; rfl
  · refine ⟨_, PSs.nox (pss_cons (ps_set (i := 1) sc_read_signs.nd rfl (by first | exact Or.inl rfl | exact Or.inr rfl) (pe_lst pa_nil))
    (pss_cons (ps_set (i := 2) sc_read_signs.nd rfl (by first | exact Or.inl rfl | exact Or.inr rfl) pe_int)
    (pss_cons (ps_while PassesOwn.never (pt_cmpR op_lt (pv 2) (pe_callB call_len_str (by rfl) T.f_len (by decide +kernel) (pa_cons (pv 0) pa_nil)) (nomark _)) (pss_one (ps_if (pt_val (pe_ok O_is_blank T.n_is_blank hr (by decide) (by rfl) (pa_cons (pe_ix ix_str (pv 0) (pv 2) (fun _ _ => rfl)) pa_nil))) (pss_one (ps_aug (i := 2) sc_read_signs.nd rfl (by first | exact Or.inl rfl | exact Or.inr rfl) pe_int ip_add)) (pss_cons (ps_asg (pe_ok O_sign_at T.n_sign_at hr (by decide) (by rfl) (pa_cons (pv 0) (pa_cons (pv 2) pa_nil))) (pg_tupK K rfl (pgs_cons (pg_name (i := 3) sc_read_signs.nd rfl (by first | exact Or.inl rfl | exact Or.inr rfl)) (pgs_cons (pg_name (i := 4) sc_read_signs.nd rfl (by first | exact Or.inl rfl | exact Or.inr rfl)) (pgs_cons (pg_name (i := 5) sc_read_signs.nd rfl (by first | exact Or.inl rfl | exact Or.inr rfl)) pgs_nil)))))
    (pss_cons (ps_if (pt_cmpR op_eq (pv 3) pe_str (nomark _)) (pss_cons ps_never
    (pss_cons (ps_expr (pe_bmK K PySem.F.plainAttrs_list PySem.F.slot_list_append PySem.F.type_list_append mt_append (pv 1) (pa_cons (pe_tup (pa_cons (pv 3) (pa_cons (pv 4) (pa_cons (pv 6) (pa_cons (pv 7) pa_nil))))) pa_nil)))
    (pss_one (ps_ret (pv 1))))) pss_nil)
    (pss_cons (ps_asg (pe_ok O_place_of T.n_place_of hr (by decide) (by rfl) (pa_cons (pv 0) (pa_cons (pv 2) pa_nil))) (pg_tupK K rfl (pgs_cons (pg_name (i := 6) sc_read_signs.nd rfl (by first | exact Or.inl rfl | exact Or.inr rfl)) (pgs_cons (pg_name (i := 7) sc_read_signs.nd rfl (by first | exact Or.inl rfl | exact Or.inr rfl)) pgs_nil))))
    (pss_cons (ps_expr (pe_bmK K PySem.F.plainAttrs_list PySem.F.slot_list_append PySem.F.type_list_append mt_append (pv 1) (pa_cons (pe_tup (pa_cons (pv 3) (pa_cons (pv 4) (pa_cons (pv 6) (pa_cons (pv 7) pa_nil))))) pa_nil)))
    (pss_one (ps_set (i := 2) sc_read_signs.nd rfl (by first | exact Or.inl rfl | exact Or.inr rfl) (pv 5))))))))))
    (pss_cons (ps_asg (pe_ok O_place_of T.n_place_of hr (by decide) (by rfl) (pa_cons (pv 0) (pa_cons (pe_callB call_len_str (by rfl) T.f_len (by decide +kernel) (pa_cons (pv 0) pa_nil)) pa_nil))) (pg_tupK K rfl (pgs_cons (pg_name (i := 6) sc_read_signs.nd rfl (by first | exact Or.inl rfl | exact Or.inr rfl)) (pgs_cons (pg_name (i := 7) sc_read_signs.nd rfl (by first | exact Or.inl rfl | exact Or.inr rfl)) pgs_nil))))
    (pss_cons (ps_expr (pe_bmK K PySem.F.plainAttrs_list PySem.F.slot_list_append PySem.F.type_list_append mt_append (pv 1) (pa_cons (pe_tup (pa_cons pe_str (pa_cons pe_str (pa_cons (pv 6) (pa_cons (pv 7) pa_nil))))) pa_nil)))
    (pss_one (ps_ret (pv 1)))))))), ?_⟩
    obtain ⟨⟨z, ts⟩, F0, rfl, fh, ⟨hlex, hz⟩, k⟩ := h
    dsimp only at hlex hz k ⊢
    have hz1 : z.length ≤ 1000000 := by omega
    have hzl : z.cps.toList.length = z.length := (len_list z).symm
    walk_at "s"
    refine ⟨x_lt (by decide), fun l H1 nl => ?_⟩
    obtain ⟨g1, ol⟩ := nl.own fh
    walk_at "s"
    refine while_m g1 (fun m σ F H => ∃ (i : Nat) (vs : List V) (sg : List (Str × V × Int × Int)) (us : List (Str × V)) (x1 x2 x3 x4 x5 : Option V), σ = [some (.str z), some (.ref l), some (.int (i : Int)), x1, x2, x3, x4, x5] ∧ i ≤ z.length ∧ Own F H l (.lst vs) ∧ Paired (kSg.p F) vs sg ∧ Lex (z.cps.toList.drop i) us ∧ sg.map (fun s => (s.1, s.2.1)) ++ us = ts ∧ sg.length ≤ i ∧ m = z.length - i) z.length
      ⟨0, [], [], ts, _, _, _, _, _, rfl, Nat.zero_le _, ol, .nil, by rw [List.drop_zero]; exact hlex, rfl, Nat.le_refl _, rfl⟩ ?_
    rintro m σ1 F1 H2 G1 s1 ⟨i, vs, sg, us, x1, x2, x3, x4, x5, rfl, hi, ol, hp, hlx, hus, hsl, rfl⟩
    have lv := hp.length
    walk_at "s"
    refine ⟨by rw [sizeLine_eq]; omega, ?_⟩
    walk_at "s"
    refine x_d (fun hlt => ?_) (fun hge => ?_)
    · refine wh_go s1 fun N kN => ?_
      have hlt2 : i < z.length := by omega
      generalize hdd : z.cps.toList.drop i = tl at hlx
      cases hlx with
      | nil =>
        have := congrArg List.length hdd
        rw [List.length_drop, List.length_nil] at this
        omega
      | @blank c r _ hb hr =>
        walk_at "s"
        refine x_ixS hz1 (at_drop (j := 0) hdd rfl) ?_
        walk_at "s"
        refine ⟨chS c, F1, rfl, G1.fh, trivial, fun v F2 H3 g2 hv => ?_⟩
        dsimp only at hv
        subst hv
        rw [hb]
        refine ⟨_, rfl, x_t ?_⟩
        walk_at "s"
        refine kN (z.length - (i + 1)) _ _ _ (by omega) (G1.trans g2) g2.ff ⟨i + 1, vs, sg, us, _, _, _, _, _, rfl, hlt2, ol.go g2, L2.Paired.mapP hp fun _ _ h => kSg.mono g2.ff h, ?_, hus, by omega, rfl⟩
        rw [← List.drop_drop, hdd]
        exact hr
      | @tok c w r kd val us' hs hb hr =>
        have hnf := hs.nf
        have hlen := len_drop hdd (by simp)
        rw [List.length_append, List.length_cons] at hlen
        walk_at "s"
        refine x_ixS hz1 (at_drop (j := 0) hdd rfl) ?_
        walk_at "s"
        refine ⟨chS c, F1, rfl, G1.fh, trivial, fun v F2 H3 g2 hv => ?_⟩
        dsimp only at hv
        subst hv
        rw [hb]
        refine ⟨_, rfl, x_f ?_⟩
        walk_at "s"
        refine ⟨(z, i, c :: w, r, kd, val), F2, rfl, g2.fh, ⟨hdd, hs, hz⟩, fun v F3 H4 g3 hv => ?_⟩
        obtain ⟨a, y1, y2, y3, rfl, ha, hy1, hy2, hy3⟩ := hv
        have e1 : y1 = .str kd := hy1
        have e2 : y2 = val := hy2
        have e3 : y3 = .int ((i + (c :: w).length : Nat) : Int) := hy3
        subst e1 e2 e3
        have g13 := g2.trans g3
        refine x_gT (g3.at ha) rfl ?_
        walk_at "s"
        refine x_d (fun hc => absurd hc hnf) (fun _ => ?_)
        walk_at "s"
        refine ⟨(z, i), F3, rfl, g3.fh, hz, fun v F4 H5 g4 hv => ?_⟩
        obtain ⟨p4, hk4⟩ := hv
        obtain ⟨b4, rfl, hb4⟩ := k2I hk4
        refine x_gT (g4.at hb4) rfl ?_
        have g14 := g13.trans g4
        have o4 := ol.go g14
        walk_at "s"
        refine ⟨x_tyL o4.h, ?_⟩
        walk_at "s"
        refine ⟨x_lt (Nat.le_of_ble_eq_true rfl), fun t H6 nt => ?_⟩
        obtain ⟨F6, g6, e6⟩ := nt.fix g14.fh
        have g16 := g14.trans g6
        have o6 := o4.go g6
        walk_at "s"
        refine x_app o6.h (by rw [sizeLine_eq]; omega) fun H7 c7 => ?_
        walk_at "s"
        refine kN (z.length - (i + (c :: w).length)) _ _ _ (by rw [List.length_cons]; omega) (c7.gr (G1.trans g16) o6.f nl.fr) g16.ff ⟨i + (c :: w).length, _, sg ++ [(kd, y2, p4.1, p4.2)], us', _, _, _, _, _, rfl, by rw [List.length_cons]; omega, c7.own o6, (L2.Paired.mapP hp fun _ _ h => kSg.mono g16.ff h).snoc ⟨t, _, _, _, _, rfl, e6, rfl, rfl, rfl, rfl⟩, ?_, ?_, by rw [List.length_append, List.length_singleton, List.length_cons]; omega, rfl⟩
        · rw [← List.drop_drop, hdd, List.drop_left']
          · exact hr
          · rfl
        · rw [← hus, List.map_append, List.append_assoc]; rfl
    · have ei : i = z.length := by omega
      have hus2 : us = [] := by
        rw [List.drop_eq_nil_of_le (by omega)] at hlx
        cases hlx
        rfl
      subst hus2
      walk_at "s"
      refine ⟨by rw [sizeLine_eq]; omega, ?_⟩
      walk_at "s"
      refine ⟨(z, z.length), F1, rfl, G1.fh, hz, fun v F4 H5 g4 hv => ?_⟩
      obtain ⟨p4, hk4⟩ := hv
      obtain ⟨b4, rfl, hb4⟩ := k2I hk4
      refine x_gT (g4.at hb4) rfl ?_
      have o4 := ol.go g4
      walk_at "s"
      refine ⟨x_tyL o4.h, ?_⟩
      walk_at "s"
      refine ⟨x_lt (Nat.le_of_ble_eq_true rfl), fun t H6 nt => ?_⟩
      have G4 := G1.trans g4
      obtain ⟨F6, g6, e6⟩ := nt.fix G4.fh
      have o6 := o4.go g6
      walk_at "s"
      refine x_app o6.h (by rw [sizeLine_eq]; omega) fun H7 c7 => ?_
      walk_at "s"
      have G7 := c7.gr (G4.trans g6) o6.f nl.fr
      have o7 := c7.own o6
      refine k _ _ _ (G7.fix o7.h nl.fr o7.f) ⟨sg ++ [(endT.1, endT.2, p4.1, p4.2)], ⟨l, _, rfl, upd_same, ?_⟩, ?_⟩
      · exact L2.Paired.mapP ((L2.Paired.mapP hp fun _ _ h => kSg.mono (g4.ff.trans g6.ff) h).snoc ⟨t, _, _, _, _, rfl, e6, rfl, rfl, rfl, rfl⟩) fun _ _ h => kSg.mono (same_new o7.f) h
      · rw [← hus, List.map_append, List.append_nil]; rfl
/-! D_read1.src -/
def rdFs (a : Addr) (i : Nat) : List (Str × V) := [("signs", .ref a), ("at", .int (i : Int))]
abbrev Tk := Str × V
/-- a reader at x, the signs that are left -/
def RdS (K : PySem.W.Frag) (F H : Hp) (x : Addr) (ts : List Tk) : Prop := ∃ (dx a : Addr) (i : Nat) (vs : List V) (sg : List (Str × V × Int × Int)), Own F H x (.ins (He.ga K "SignReader") dx (rdFs a i)) ∧ F a = some (.lst vs) ∧ Paired (kSg.p F) vs sg ∧ (sg.drop i).map (fun s => (s.1, s.2.1)) = ts
theorem Own.goD {F H F1 H1 : Hp} {l x : Addr} {o : HO} (w : Own F H l o) (n : l ≠ x) (g : Gr F (del H x) F1 H1) (hm : Mut (some o) := by exact True.intro) : Own F1 H1 l o :=
  Own.go (H := del H x) ⟨by rw [del_ne n]; exact w.h, w.f⟩ g hm
theorem RdS.fx {K : PySem.W.Frag} {F H : Hp} {x : Addr} {ts : List Tk} (h : RdS K F H x ts) : F x = none := by
  obtain ⟨_, _, _, _, _, o, _⟩ := h
  exact o.f
theorem RdS.go {K : PySem.W.Frag} {F H F1 H1 : Hp} {x : Addr} {ts : List Tk} (h : RdS K F H x ts) (g : Gr F H F1 H1) : RdS K F1 H1 x ts := by
  obtain ⟨dx, a, i, vs, sg, o, ha, hp, he⟩ := h
  exact ⟨dx, a, i, vs, sg, o.go g, g.up ha, L2.Paired.mapP hp fun _ _ h => kSg.mono g.ff h, he⟩
/-- what a method of the reader does -/
def SpRd {ι : Type} (K : PySem.W.Frag) (args : ι → List V) (ts ts' : ι → List Tk) (pre : ι → Prop) (post : ι → Hp → V → Prop) : Sp := fun vs H Q _ =>
  ∃ (i : ι × Addr) (F : Hp), vs = .ref i.2 :: args i.1 ∧ Same F H ∧ RdS K F H i.2 (ts i.1) ∧ pre i.1 ∧ ∀ v F' H', Gr F (del H i.2) F' H' → RdS K F' H' i.2 (ts' i.1) → post i.1 F' v → Q v H'
def sp_SignReader_init (K : PySem.W.Frag) : Sp := fun vs H Q _ => ∃ (x dx : Addr) (F : Hp) (v : V) (sg : List (Str × V × Int × Int)), vs = [.ref x, v] ∧ Same F H ∧ Own F H x (.ins (He.ga K "SignReader") dx []) ∧ (kL kSg).p F v sg ∧
  ∀ F' H', Gr F (del H x) F' H' → RdS K F' H' x (sg.map fun s => (s.1, s.2.1)) → Q .non H'
theorem len_SignReader_init {K : PySem.W.Frag} {vs : List V} {H : Hp} {Q : VK} {E : XK} (h : sp_SignReader_init K vs H Q E) : vs.length = ["self", "signs"].length := by
  obtain ⟨_, _, _, _, _, rfl, _⟩ := h
  rfl
theorem ok_SignReader_init {P : Program} {w : World} {K : PySem.W.Frag} {mg : Str → Option Value} {base : Heap} (T : Tx K mg) : Okd P w K mg base 1 ("SignReader", some "__init__") ["self", "signs"] [] (sp_SignReader_init K) := by
  obtain ⟨fd, F⟩ : ∃ fd, FunD K "__init__" "SignReader.__init__" (defArgs s_SignReader_init) (defBody s_SignReader_init) (defScope s_SignReader_init) [] [] (He.fAd K ("SignReader", some "__init__")) fd := T.says.d.def_ 38 rfl
  refine ⟨fd, [], F.ok sc_SignReader_init (fun vs H Q E h => ?_) (fun cdv A outer s H vs Q E hr h => ?_), .nil, F.bindsN (fun _ _ _ _ _ _ us hl => match us, hl with | [_, _], _ => rfl), F.kp⟩
  · exact len_SignReader_init h
  · refine ⟨_, PSs.nox (pss_cons (ps_fldK K (pv 0) (pv 1) rfl)
    (pss_one (ps_fldK K (pv 0) pe_int rfl))), ?_⟩
    obtain ⟨x, dx, F0, v, sg, rfl, fh, ox, ⟨a, vs, rfl, ha, hp⟩, k⟩ := h
    have G0 := gr_del (d := x) fh
    walk_at "s"
    refine x_sf G0 ox del_same T.c_SignReader T.a_SignReader_signs (by decide) fun H1 f1 e1 l1 G1 o1 => ?_
    have e1' : f1 = [(("signs" : Str), V.ref a)] := by rw [e1]; rfl
    subst e1'
    walk_at "s"
    refine x_sf G1 o1 del_same T.c_SignReader T.a_SignReader_at (Nat.le_of_ble_eq_true rfl) fun H2 f2 e2 l2 G2 o2 => ?_
    have e2' : f2 = rdFs a 0 := by rw [e2]; rfl
    subst e2'
    walk_at "s"
    exact k _ _ G2 ⟨dx, a, 0, vs, sg, o2, ha, hp, by rw [List.drop_zero]⟩
def sp_SignReader_sign (K : PySem.W.Frag) : Sp := SpRd (ι := Tk × List Tk) K (fun _ => []) (fun i => i.1 :: i.2) (fun i => i.1 :: i.2) (fun i => i.1.1 ≠ "fault") (fun i F v => ∃ l c, kSg.p F v (i.1.1, i.1.2, l, c))
theorem ok_SignReader_sign {P : Program} {w : World} {K : PySem.W.Frag} {mg : Str → Option Value} {base : Heap} (T : Tx K mg) : Okd P w K mg base 1 ("SignReader", some "sign") ["self"] [] (sp_SignReader_sign K) := by
  obtain ⟨fd, F⟩ : ∃ fd, FunD K "sign" "SignReader.sign" (defArgs s_SignReader_sign) (defBody s_SignReader_sign) (defScope s_SignReader_sign) [] [] (He.fAd K ("SignReader", some "sign")) fd := T.says.d.def_ 39 rfl
  refine ⟨fd, [], F.ok sc_SignReader_sign (fun vs H Q E h => ?_) (fun cdv A outer s H vs Q E hr h => ?_), .nil, F.bindsN (fun _ _ _ _ _ _ us hl => match us, hl with | [_], _ => rfl), F.kp⟩
  · obtain ⟨_, _, rfl, _⟩ := h; rfl
  · refine ⟨_, PSs.nox (pss_cons (ps_set (i := 1) sc_SignReader_sign.nd rfl (by first | exact Or.inl rfl | exact Or.inr rfl) (pe_ix (ix_listK K) (pe_fldK K (pv 0)) (pe_fldK K (pv 0)) (fun _ _ => rfl)))
    (pss_cons (ps_if (pt_cmpR op_eq (pe_ix (ix_tupK K) (pv 1) pe_int (fun _ _ => rfl)) pe_str (nomark _)) (pss_one ps_never) pss_nil)
    (pss_one (ps_ret (pv 1))))), ?_⟩
    obtain ⟨⟨⟨t, ts⟩, x⟩, F0, rfl, fh, hrd, hf, k⟩ := h
    dsimp only at hrd hf k ⊢
    obtain ⟨dx, a, i, vs, sg, ox, ha, hp, he⟩ := id hrd
    have G0 := gr_del (d := x) fh
    obtain ⟨s, hs, es⟩ : ∃ s, sg[i]? = some s ∧ (s.1, s.2.1) = t := by
      cases hd : sg.drop i with
      | nil => rw [hd] at he; cases he
      | cons s r =>
        rw [hd, List.map_cons] at he
        have e0 : (sg.drop i)[0]? = some s := by rw [hd]; rfl
        rw [List.getElem?_drop, Nat.add_zero] at e0
        exact ⟨s, e0, (List.cons.inj he).1⟩
    obtain ⟨w, hw, tt, y1, y2, y3, y4, rfl, ht, hy1, hy2, hy3, hy4⟩ := at_p (k := i) hp hs
    have hy1' : y1 = .str s.1 := hy1
    subst hy1'
    have ef : s.1 ≠ "fault" := by rw [← es] at hf; exact hf
    walk_at "s"
    refine ⟨_, _, _, _, _, rfl, ox.h, T.c_SignReader, T.a_SignReader_signs, rfl, ?_⟩
    walk_at "s"
    refine ⟨_, _, _, _, _, rfl, ox.h, T.c_SignReader, T.a_SignReader_at, rfl, ?_⟩
    refine x_ixL (fh _ _ ha) hw ?_
    walk_at "s"
    refine x_ixT (fh _ _ ht) rfl ?_
    walk_at "s"
    refine x_d (fun hc => absurd hc ef) (fun _ => ?_)
    walk_at "s"
    refine k _ _ _ G0 hrd ⟨s.2.2.1, s.2.2.2, tt, _, _, _, _, rfl, ht, ?_, ?_, hy3, hy4⟩
    · rw [← es]; rfl
    · rw [← es]; exact hy2
def sp_SignReader_skip (K : PySem.W.Frag) : Sp := SpRd (ι := Tk × List Tk) K (fun _ => []) (fun i => i.1 :: i.2) (fun i => i.2) (fun _ => True) (fun _ _ v => v = .non)
theorem ok_SignReader_skip {P : Program} {w : World} {K : PySem.W.Frag} {mg : Str → Option Value} {base : Heap} (T : Tx K mg) : Okd P w K mg base 1 ("SignReader", some "skip") ["self"] [] (sp_SignReader_skip K) := by
  obtain ⟨fd, F⟩ : ∃ fd, FunD K "skip" "SignReader.skip" (defArgs s_SignReader_skip) (defBody s_SignReader_skip) (defScope s_SignReader_skip) [] [] (He.fAd K ("SignReader", some "skip")) fd := T.says.d.def_ 40 rfl
  refine ⟨fd, [], F.ok sc_SignReader_skip (fun vs H Q E h => ?_) (fun cdv A outer s H vs Q E hr h => ?_), .nil, F.bindsN (fun _ _ _ _ _ _ us hl => match us, hl with | [_], _ => rfl), F.kp⟩
  · obtain ⟨_, _, rfl, _⟩ := h; rfl
  · refine ⟨_, PSs.nox (pss_one (ps_fldaugK K (pv 0) pe_int in_add)), ?_⟩
    obtain ⟨⟨⟨t, ts⟩, x⟩, F0, rfl, fh, hrd, _, k⟩ := h
    dsimp only at hrd k ⊢
    obtain ⟨dx, a, i, vs, sg, ox, ha, hp, he⟩ := id hrd
    have G0 := gr_del (d := x) fh
    walk_at "s"
    refine ⟨_, _, _, _, _, rfl, ox.h, T.c_SignReader, T.a_SignReader_at, rfl, ?_⟩
    walk_at "s"
    refine ⟨_, _, ox.h, show 2 < 1000 by decide, ?_⟩
    have c : Chg H x (.ins (He.ga K "SignReader") dx (rdFs a (i + 1))) (upd H x (.ins (He.ga K "SignReader") dx (putF "at" (.int ((i : Int) + 1)) (rdFs a i)))) := rfl
    walk_at "s"
    refine k _ _ _ (c.gr G0 ox.f del_same) ⟨dx, a, i + 1, vs, sg, c.own ox, ha, hp, ?_⟩ rfl
    cases hd : sg.drop i with
    | nil => rw [hd] at he; cases he
    | cons s r =>
      rw [hd, List.map_cons] at he
      rw [← List.drop_drop, hd]
      exact (List.cons.inj he).2
/-! D_read2.src -/
theorem transD {F0 H F1 H1 F2 H2 : Hp} {x : Addr} (G : Gr F0 (del H x) F1 H1) (g : Gr F1 (del H1 x) F2 H2) (fx : F2 x = none) : Gr F0 (del H x) F2 H2 := gr_undel G del_same g fx
theorem RdS.at {K : PySem.W.Frag} {F H : Hp} {x : Addr} {ts : List Tk} (h : RdS K F H x ts) : ∃ dx a i, H x = some (.ins (He.ga K "SignReader") dx (rdFs a i)) := by
  obtain ⟨dx, a, i, _, _, o, _⟩ := h
  exact ⟨dx, a, i, o.h⟩
def sp_SignReader_sees (K : PySem.W.Frag) : Sp := SpRd (ι := Tk × List Tk × Str × Str) K (fun i => [.str i.2.2.1, .str i.2.2.2]) (fun i => i.1 :: i.2.1) (fun i => i.1 :: i.2.1) (fun i => i.1.1 ≠ "fault" ∧ (i.1.1 = i.2.2.1 → ∃ s, i.1.2 = .str s)) (fun i _ v => v = .bl (decide (i.1 = (i.2.2.1, V.str i.2.2.2))))
theorem ok_SignReader_sees {P : Program} {w : World} {K : PySem.W.Frag} {mg : Str → Option Value} {base : Heap} (T : Tx K mg) : Okd P w K mg base 2 ("SignReader", some "sees") ["self", "kind", "value"] [] (sp_SignReader_sees K) := by
  have O_SignReader_sign := ok_SignReader_sign (P := P) (w := w) (base := base) T
  obtain ⟨fd, F⟩ : ∃ fd, FunD K "sees" "SignReader.sees" (defArgs s_SignReader_sees) (defBody s_SignReader_sees) (defScope s_SignReader_sees) [] [] (He.fAd K ("SignReader", some "sees")) fd := T.says.d.def_ 41 rfl
  refine ⟨fd, [], F.ok sc_SignReader_sees (fun vs H Q E h => ?_) (fun cdv A outer s H vs Q E hr h => ?_), .nil, F.bindsN (fun _ _ _ _ _ _ us hl => match us, hl with | [_, _, _], _ => rfl), F.kp⟩
  · obtain ⟨_, _, rfl, _⟩ := h; rfl
  · refine ⟨_, PSs.nox (pss_cons (ps_set (i := 3) sc_SignReader_sees.nd rfl (by first | exact Or.inl rfl | exact Or.inr rfl) (pe_mt0 (pv 0) O_SignReader_sign T.c_SignReader T.m_SignReader_sign hr (by decide)))
    (pss_one (ps_ret (pe_and (pe_cmpR op_eq (pe_ix (ix_tupK K) (pv 3) pe_int (fun _ _ => rfl)) (pv 1) (nomark _)) (pe_one (pe_cmpR op_eq (pe_ix (ix_tupK K) (pv 3) pe_int (fun _ _ => rfl)) (pv 2) (nomark _))))))), ?_⟩
    obtain ⟨⟨⟨⟨k0, v0⟩, ts, kd, val⟩, x⟩, F0, rfl, fh, hrd, ⟨hf, hv⟩, k⟩ := h
    dsimp only at hrd hf hv k ⊢
    obtain ⟨dx, a, i, hx⟩ := hrd.at
    have G0 := gr_del (d := x) fh
    walk_at "s"
    refine ⟨x, dx, rdFs a i, rfl, hx, rfl, ?_⟩
    walk_at "s"
    refine ⟨(((k0, v0), ts), x), F0, rfl, fh, hrd, hf, fun v F1 H1 g1 hrd1 hv1 => ?_⟩
    obtain ⟨l, c, tt, y1, y2, y3, y4, rfl, ht, hy1, hy2, hy3, hy4⟩ := hv1
    have hy1' : y1 = .str k0 := hy1
    have hy2' : y2 = v0 := hy2
    subst hy1' hy2'
    have G1 := transD G0 g1 hrd1.fx
    walk_at "s"
    refine x_ixT (g1.at ht) rfl ?_
    walk_at "s"
    refine x_d (fun he => ?_) (fun he => ?_)
    · obtain ⟨s, rfl⟩ := hv he
      walk_at "s"
      refine x_ixT (g1.at ht) rfl ?_
      walk_at "s"
      refine k _ _ _ G1 hrd1 ?_
      congr 1
      refine decide_eq_decide.mpr ⟨fun e => by rw [he, e], fun e => ?_⟩
      have := (Prod.mk.inj e).2
      exact V.str.inj this
    · refine k _ _ _ G1 hrd1 ?_
      rw [decide_eq_false fun e => he (Prod.mk.inj e).1]
def sp_SignReader_demand (K : PySem.W.Frag) : Sp := SpRd (ι := Tk × List Tk) K (fun i => [.str i.1.1]) (fun i => i.1 :: i.2) (fun i => i.1 :: i.2) (fun i => i.1.1 ≠ "fault") (fun i _ v => v = i.1.2)
theorem ok_SignReader_demand {P : Program} {w : World} {K : PySem.W.Frag} {mg : Str → Option Value} {base : Heap} (T : Tx K mg) : Okd P w K mg base 2 ("SignReader", some "demand") ["self", "kind"] [] (sp_SignReader_demand K) := by
  have O_SignReader_sign := ok_SignReader_sign (P := P) (w := w) (base := base) T
  obtain ⟨fd, F⟩ : ∃ fd, FunD K "demand" "SignReader.demand" (defArgs s_SignReader_demand) (defBody s_SignReader_demand) (defScope s_SignReader_demand) [] [] (He.fAd K ("SignReader", some "demand")) fd := T.says.d.def_ 42 rfl
  refine ⟨fd, [], F.ok sc_SignReader_demand (fun vs H Q E h => ?_) (fun cdv A outer s H vs Q E hr h => ?_), .nil, F.bindsN (fun _ _ _ _ _ _ us hl => match us, hl with | [_, _], _ => rfl), F.kp⟩
  · obtain ⟨_, _, rfl, _⟩ := h; rfl
  · refine ⟨_, PSs.nox (pss_cons (ps_set (i := 2) sc_SignReader_demand.nd rfl (by first | exact Or.inl rfl | exact Or.inr rfl) (pe_mt0 (pv 0) O_SignReader_sign T.c_SignReader T.m_SignReader_sign hr (by decide)))
    (pss_cons (ps_if (pt_cmpR op_ne (pe_ix (ix_tupK K) (pv 2) pe_int (fun _ _ => rfl)) (pv 1) (nomark _)) (pss_one ps_never) pss_nil)
    (pss_one (ps_ret (pe_ix (ix_tupK K) (pv 2) pe_int (fun _ _ => rfl)))))), ?_⟩
    obtain ⟨⟨⟨⟨k0, v0⟩, ts⟩, x⟩, F0, rfl, fh, hrd, hf, k⟩ := h
    dsimp only at hrd hf k ⊢
    obtain ⟨dx, a, i, hx⟩ := hrd.at
    have G0 := gr_del (d := x) fh
    walk_at "s"
    refine ⟨x, dx, rdFs a i, rfl, hx, rfl, ?_⟩
    walk_at "s"
    refine ⟨(((k0, v0), ts), x), F0, rfl, fh, hrd, hf, fun v F1 H1 g1 hrd1 hv1 => ?_⟩
    obtain ⟨l, c, tt, y1, y2, y3, y4, rfl, ht, hy1, hy2, hy3, hy4⟩ := hv1
    have hy1' : y1 = .str k0 := hy1
    have hy2' : y2 = v0 := hy2
    subst hy1' hy2'
    have G1 := transD G0 g1 hrd1.fx
    walk_at "s"
    refine x_ixT (g1.at ht) rfl ?_
    walk_at "s"
    refine x_nd (fun _ => ?_) (fun he => absurd rfl he)
    walk_at "s"
    refine x_ixT (g1.at ht) rfl ?_
    exact k _ _ _ G1 hrd1 rfl
def sp_SignReader_take (K : PySem.W.Frag) : Sp := SpRd (ι := Str × Str × List Tk) K (fun i => [.str i.1, .str i.2.1]) (fun i => (i.1, .str i.2.1) :: i.2.2) (fun i => i.2.2) (fun i => i.1 ≠ "fault") (fun _ _ v => v = .non)
theorem ok_SignReader_take {P : Program} {w : World} {K : PySem.W.Frag} {mg : Str → Option Value} {base : Heap} (T : Tx K mg) : Okd P w K mg base 3 ("SignReader", some "take") ["self", "kind", "value"] [] (sp_SignReader_take K) := by
  have O_SignReader_sees := ok_SignReader_sees (P := P) (w := w) (base := base) T
  have O_SignReader_skip := ok_SignReader_skip (P := P) (w := w) (base := base) T
  obtain ⟨fd, F⟩ : ∃ fd, FunD K "take" "SignReader.take" (defArgs s_SignReader_take) (defBody s_SignReader_take) (defScope s_SignReader_take) [] [] (He.fAd K ("SignReader", some "take")) fd := T.says.d.def_ 43 rfl
  refine ⟨fd, [], F.ok sc_SignReader_take (fun vs H Q E h => ?_) (fun cdv A outer s H vs Q E hr h => ?_), .nil, F.bindsN (fun _ _ _ _ _ _ us hl => match us, hl with | [_, _, _], _ => rfl), F.kp⟩
  · obtain ⟨_, _, rfl, _⟩ := h; rfl
  · refine ⟨_, PSs.nox (pss_cons (ps_if (pt_not (pt_val (pe_mt (pv 0) O_SignReader_sees T.c_SignReader T.m_SignReader_sees hr (by decide) (pa_cons (pv 1) (pa_cons (pv 2) pa_nil))))) (pss_one ps_never) pss_nil)
    (pss_one (ps_expr (pe_mt0 (pv 0) O_SignReader_skip T.c_SignReader T.m_SignReader_skip hr (by decide))))), ?_⟩
    obtain ⟨⟨⟨kd, val, ts⟩, x⟩, F0, rfl, fh, hrd, hf, k⟩ := h
    dsimp only at hrd hf k ⊢
    obtain ⟨dx, a, i, hx⟩ := hrd.at
    have G0 := gr_del (d := x) fh
    walk_at "s"
    refine ⟨x, dx, rdFs a i, rfl, hx, rfl, ?_⟩
    walk_at "s"
    refine ⟨(((kd, .str val), ts, kd, val), x), F0, rfl, fh, hrd, ⟨hf, fun _ => ⟨_, rfl⟩⟩, fun v F1 H1 g1 hrd1 hv1 => ?_⟩
    dsimp only at hv1 hrd1
    rw [decide_eq_true rfl] at hv1
    subst hv1
    refine ⟨_, rfl, x_f ?_⟩
    have G1 := transD G0 g1 hrd1.fx
    obtain ⟨dx1, a1, i1, hx1⟩ := hrd1.at
    walk_at "s"
    refine ⟨x, dx1, rdFs a1 i1, rfl, hx1, rfl, ?_⟩
    walk_at "s"
    refine ⟨(((kd, .str val), ts), x), F1, rfl, G1.fh, hrd1, trivial, fun v F2 H2 g2 hrd2 _ => ?_⟩
    exact k _ _ _ (transD G1 g2 hrd2.fx) hrd2 rfl
def sp_SignReader_take_number (K : PySem.W.Frag) : Sp := SpRd (ι := Int × Int × List Tk) K (fun i => [.int i.1]) (fun i => ("number", .int i.2.1) :: i.2.2) (fun i => i.2.2) (fun i => i.1 ≤ i.2.1) (fun i _ v => v = .int i.2.1)
theorem ok_SignReader_take_number {P : Program} {w : World} {K : PySem.W.Frag} {mg : Str → Option Value} {base : Heap} (T : Tx K mg) : Okd P w K mg base 3 ("SignReader", some "take_number") ["self", "least"] [] (sp_SignReader_take_number K) := by
  have O_SignReader_demand := ok_SignReader_demand (P := P) (w := w) (base := base) T
  have O_SignReader_skip := ok_SignReader_skip (P := P) (w := w) (base := base) T
  obtain ⟨fd, F⟩ : ∃ fd, FunD K "take_number" "SignReader.take_number" (defArgs s_SignReader_take_number) (defBody s_SignReader_take_number) (defScope s_SignReader_take_number) [] [] (He.fAd K ("SignReader", some "take_number")) fd := T.says.d.def_ 44 rfl
  refine ⟨fd, [], F.ok sc_SignReader_take_number (fun vs H Q E h => ?_) (fun cdv A outer s H vs Q E hr h => ?_), .nil, F.bindsN (fun _ _ _ _ _ _ us hl => match us, hl with | [_, _], _ => rfl), F.kp⟩
  · obtain ⟨_, _, rfl, _⟩ := h; rfl
  · refine ⟨_, PSs.nox (pss_cons (ps_set (i := 2) sc_SignReader_take_number.nd rfl (by first | exact Or.inl rfl | exact Or.inr rfl) (pe_mt (pv 0) O_SignReader_demand T.c_SignReader T.m_SignReader_demand hr (by decide) (pa_cons pe_str pa_nil)))
    (pss_cons (ps_if (pt_cmpR op_lt (pv 2) (pv 1) (nomark _)) (pss_one ps_never) pss_nil)
    (pss_cons (ps_expr (pe_mt0 (pv 0) O_SignReader_skip T.c_SignReader T.m_SignReader_skip hr (by decide)))
    (pss_one (ps_ret (pv 2)))))), ?_⟩
    obtain ⟨⟨⟨lst, n, ts⟩, x⟩, F0, rfl, fh, hrd, hle, k⟩ := h
    dsimp only at hrd hle k ⊢
    obtain ⟨dx, a, i, hx⟩ := hrd.at
    have G0 := gr_del (d := x) fh
    walk_at "s"
    refine ⟨x, dx, rdFs a i, rfl, hx, rfl, ?_⟩
    walk_at "s"
    refine ⟨((("number", .int n), ts), x), F0, rfl, fh, hrd, (show ("number" : Str) ≠ "fault" by decide), fun v F1 H1 g1 hrd1 hv1 => ?_⟩
    obtain rfl : v = .int n := hv1
    have G1 := transD G0 g1 hrd1.fx
    obtain ⟨dx1, a1, i1, hx1⟩ := hrd1.at
    walk_at "s"
    refine x_d (fun hc => absurd hc (by omega)) (fun _ => ?_)
    walk_at "s"
    refine ⟨x, dx1, rdFs a1 i1, rfl, hx1, rfl, ?_⟩
    walk_at "s"
    refine ⟨((("number", .int n), ts), x), F1, rfl, G1.fh, hrd1, trivial, fun v F2 H2 g2 hrd2 _ => ?_⟩
    walk_at "s"
    exact k _ _ _ (transD G1 g2 hrd2.fx) hrd2 rfl
def sp_SignReader_take_second (K : PySem.W.Frag) : Sp := SpRd (ι := Int × Int × List Tk) K (fun i => [.int i.1]) (fun i => ("number", .int i.2.1) :: i.2.2) (fun i => i.2.2) (fun i => i.1 ≤ i.2.1) (fun i _ v => v = .int i.2.1)
theorem ok_SignReader_take_second {P : Program} {w : World} {K : PySem.W.Frag} {mg : Str → Option Value} {base : Heap} (T : Tx K mg) : Okd P w K mg base 3 ("SignReader", some "take_second") ["self", "first"] [] (sp_SignReader_take_second K) := by
  have O_SignReader_demand := ok_SignReader_demand (P := P) (w := w) (base := base) T
  have O_SignReader_skip := ok_SignReader_skip (P := P) (w := w) (base := base) T
  obtain ⟨fd, F⟩ : ∃ fd, FunD K "take_second" "SignReader.take_second" (defArgs s_SignReader_take_second) (defBody s_SignReader_take_second) (defScope s_SignReader_take_second) [] [] (He.fAd K ("SignReader", some "take_second")) fd := T.says.d.def_ 45 rfl
  refine ⟨fd, [], F.ok sc_SignReader_take_second (fun vs H Q E h => ?_) (fun cdv A outer s H vs Q E hr h => ?_), .nil, F.bindsN (fun _ _ _ _ _ _ us hl => match us, hl with | [_, _], _ => rfl), F.kp⟩
  · obtain ⟨_, _, rfl, _⟩ := h; rfl
  · refine ⟨_, PSs.nox (pss_cons (ps_set (i := 2) sc_SignReader_take_second.nd rfl (by first | exact Or.inl rfl | exact Or.inr rfl) (pe_mt (pv 0) O_SignReader_demand T.c_SignReader T.m_SignReader_demand hr (by decide) (pa_cons pe_str pa_nil)))
    (pss_cons (ps_if (pt_cmpR op_lt (pv 2) (pv 1) (nomark _)) (pss_one ps_never) pss_nil)
    (pss_cons (ps_expr (pe_mt0 (pv 0) O_SignReader_skip T.c_SignReader T.m_SignReader_skip hr (by decide)))
    (pss_one (ps_ret (pv 2)))))), ?_⟩
    obtain ⟨⟨⟨lst, n, ts⟩, x⟩, F0, rfl, fh, hrd, hle, k⟩ := h
    dsimp only at hrd hle k ⊢
    obtain ⟨dx, a, i, hx⟩ := hrd.at
    have G0 := gr_del (d := x) fh
    walk_at "s"
    refine ⟨x, dx, rdFs a i, rfl, hx, rfl, ?_⟩
    walk_at "s"
    refine ⟨((("number", .int n), ts), x), F0, rfl, fh, hrd, (show ("number" : Str) ≠ "fault" by decide), fun v F1 H1 g1 hrd1 hv1 => ?_⟩
    obtain rfl : v = .int n := hv1
    have G1 := transD G0 g1 hrd1.fx
    obtain ⟨dx1, a1, i1, hx1⟩ := hrd1.at
    walk_at "s"
    refine x_d (fun hc => absurd hc (by omega)) (fun _ => ?_)
    walk_at "s"
    refine ⟨x, dx1, rdFs a1 i1, rfl, hx1, rfl, ?_⟩
    walk_at "s"
    refine ⟨((("number", .int n), ts), x), F1, rfl, G1.fh, hrd1, trivial, fun v F2 H2 g2 hrd2 _ => ?_⟩
    walk_at "s"
    exact k _ _ _ (transD G1 g2 hrd2.fx) hrd2 rfl
/-! D_read3.src -/
def sp_is_word : Sp := SpOf (ι := Str) (fun z => [.str z]) (fun z _ => 0 < z.length ∧ z.length ≤ 1000 ∧ (32 : Nat) ∉ z.cps.toList ∧ (10 : Nat) ∉ z.cps.toList) (fun _ _ v => v = .bl true)
theorem ok_is_word {P : Program} {w : World} {K : PySem.W.Frag} {mg : Str → Option Value} {base : Heap} (T : Tx K mg) : Okd P w K mg base 1 ("is_word", none) ["text"] [] (sp_is_word) := by
  obtain ⟨fd, F⟩ : ∃ fd, FunD K "is_word" "is_word" (defArgs s_is_word) (defBody s_is_word) (defScope s_is_word) [] [] (He.fAd K ("is_word", none)) fd := T.says.d.def_ 8 rfl
  refine ⟨fd, [], F.ok sc_is_word (fun vs H Q E h => ?_) (fun cdv A outer s H vs Q E hr h => ?_), .nil, F.bindsN (fun _ _ _ _ _ _ us hl => match us, hl with | [_], _ => rfl), F.kp⟩
  · obtain ⟨_, _, rfl, _⟩ := h; rfl
  · refine ⟨_, PSs.nox (pss_one (ps_ret (pe_and (pe_cmpR op_gt (pe_callB call_len_str (by rfl) T.f_len (by decide +kernel) (pa_cons (pv 0) pa_nil)) pe_int (nomark _)) (pe_and (pe_cmpR op_notIn_sign pe_str (pv 0) rfl) (pe_one (pe_cmpR op_notIn_sign pe_str (pv 0) rfl)))))), ?_⟩
    obtain ⟨z, F0, rfl, fh, ⟨h1, h2, h3, h4⟩, k⟩ := h
    dsimp only at h1 h2 h3 h4 k ⊢
    walk_at "s"
    refine ⟨by rw [sizeLine_eq]; omega, ?_⟩
    walk_at "s"
    refine x_d (fun _ => ?_) (fun hc => absurd (show (0 : Int) < (z.length : Int) by omega) hc)
    walk_at "s"
    refine ⟨32, z, rfl, rfl, ?_⟩
    rw [decide_eq_false h3]
    refine ⟨_, rfl, x_t ?_⟩
    walk_at "s"
    refine ⟨10, z, rfl, rfl, ?_⟩
    rw [decide_eq_false h4]
    exact k _ _ _ (Gr.refl fh) rfl
def WordOk (z : Str) : Prop := 0 < z.length ∧ z.length ≤ 1000 ∧ (32 : Nat) ∉ z.cps.toList ∧ (10 : Nat) ∉ z.cps.toList
def sp_SignReader_look_word (K : PySem.W.Frag) : Sp := SpRd (ι := Str × List Tk) K (fun _ => []) (fun i => ("quoted", .str i.1) :: i.2) (fun i => ("quoted", .str i.1) :: i.2) (fun i => WordOk i.1) (fun i _ v => v = .str i.1)
theorem ok_SignReader_look_word {P : Program} {w : World} {K : PySem.W.Frag} {mg : Str → Option Value} {base : Heap} (T : Tx K mg) : Okd P w K mg base 3 ("SignReader", some "look_word") ["self"] [] (sp_SignReader_look_word K) := by
  have O_SignReader_demand := ok_SignReader_demand (P := P) (w := w) (base := base) T
  have O_is_word := ok_is_word (P := P) (w := w) (base := base) T
  obtain ⟨fd, F⟩ : ∃ fd, FunD K "look_word" "SignReader.look_word" (defArgs s_SignReader_look_word) (defBody s_SignReader_look_word) (defScope s_SignReader_look_word) [] [] (He.fAd K ("SignReader", some "look_word")) fd := T.says.d.def_ 46 rfl
  refine ⟨fd, [], F.ok sc_SignReader_look_word (fun vs H Q E h => ?_) (fun cdv A outer s H vs Q E hr h => ?_), .nil, F.bindsN (fun _ _ _ _ _ _ us hl => match us, hl with | [_], _ => rfl), F.kp⟩
  · obtain ⟨_, _, rfl, _⟩ := h; rfl
  · refine ⟨_, PSs.nox (pss_cons (ps_set (i := 1) sc_SignReader_look_word.nd rfl (by first | exact Or.inl rfl | exact Or.inr rfl) (pe_mt (pv 0) O_SignReader_demand T.c_SignReader T.m_SignReader_demand hr (by decide) (pa_cons pe_str pa_nil)))
    (pss_cons (ps_if (pt_not (pt_val (pe_ok O_is_word T.n_is_word hr (by decide) (by rfl) (pa_cons (pv 1) pa_nil)))) (pss_one ps_never) pss_nil)
    (pss_one (ps_ret (pv 1))))), ?_⟩
    obtain ⟨⟨⟨z, ts⟩, x⟩, F0, rfl, fh, hrd, hw, k⟩ := h
    dsimp only at hrd hw k ⊢
    obtain ⟨dx, a, i, hx⟩ := hrd.at
    have G0 := gr_del (d := x) fh
    walk_at "s"
    refine ⟨x, dx, rdFs a i, rfl, hx, rfl, ?_⟩
    walk_at "s"
    refine ⟨((("quoted", .str z), ts), x), F0, rfl, fh, hrd, (show ("quoted" : Str) ≠ "fault" by decide), fun v F1 H1 g1 hrd1 hv1 => ?_⟩
    obtain rfl : v = .str z := hv1
    have G1 := transD G0 g1 hrd1.fx
    walk_at "s"
    refine ⟨z, F1, rfl, G1.fh, hw, fun v F2 H2 g2 hv => ?_⟩
    obtain rfl : v = .bl true := hv
    refine ⟨_, rfl, x_f ?_⟩
    walk_at "s"
    have hrd2 := hrd1.go g2
    exact k _ _ _ (G1.trans g2) hrd2 rfl
def symT (z : Str) : Tk := ("symbol", .str z)
def nameT (z : Str) : Tk := ("name", .str z)
def numT (n : Int) : Tk := ("number", .int n)
/-- the signs of sources -/
def srcT : List (Str × Int) → List Tk → List Tk
  | [], tl => symT ";" :: tl
  | [p], tl => nameT p.1 :: numT p.2 :: symT ";" :: tl
  | p :: q :: r, tl => nameT p.1 :: numT p.2 :: symT "," :: srcT (q :: r) tl
def SrcOk (src : List (Str × Int)) : Prop := src ≠ [] ∧ src.length ≤ 100 ∧ (src.map (·.1)).Nodup ∧ ∀ p ∈ src, p.1 ∉ resv ∧ 1 ≤ p.2
theorem inV_no {z : Str} {ws : List Str} (h : z ∉ ws) : inV (.str z) (ws.map V.str) = false := by
  unfold inV
  refine List.any_eq_false.mpr fun y hy e => ?_
  obtain ⟨w, hw, rfl⟩ := List.mem_map.mp hy
  have e2 : w = z := by simpa [eqV] using e
  exact h (e2 ▸ hw)
theorem srcT_cons (p : Str × Int) (r : List (Str × Int)) (tl : List Tk) : srcT (p :: r) tl = nameT p.1 :: numT p.2 :: (if r = [] then symT ";" :: tl else symT "," :: srcT r tl) := by
  cases r with
  | nil => rfl
  | cons q r => rw [if_neg (by simp)]; rfl
def sp_read_sources (K : PySem.W.Frag) : Sp := SpRd (ι := List (Str × Int) × List Tk) K (fun _ => []) (fun i => nameT "sources" :: srcT i.1 i.2) (fun i => i.2) (fun i => SrcOk i.1) (fun i F v => (kL (k2 kS kI)).p F v i.1)
theorem ok_read_sources {P : Program} {w : World} {K : PySem.W.Frag} {mg : Str → Option Value} {base : Heap} (T : Tx K mg) : Okd P w K mg base 4 ("_read_sources", none) ["reader"] [] (sp_read_sources K) := by
  have O_SignReader_take := ok_SignReader_take (P := P) (w := w) (base := base) T
  have O_SignReader_demand := ok_SignReader_demand (P := P) (w := w) (base := base) T
  have O_SignReader_skip := ok_SignReader_skip (P := P) (w := w) (base := base) T
  have O_SignReader_take_number := ok_SignReader_take_number (P := P) (w := w) (base := base) T
  have O_SignReader_sees := ok_SignReader_sees (P := P) (w := w) (base := base) T
  obtain ⟨fd, F⟩ : ∃ fd, FunD K "_read_sources" "_read_sources" (defArgs s_read_sources) (defBody s_read_sources) (defScope s_read_sources) [] [] (He.fAd K ("_read_sources", none)) fd := T.says.d.def_ 47 rfl
  refine ⟨fd, [], F.ok sc_read_sources (fun vs H Q E h => ?_) (fun cdv A outer s H vs Q E hr h => ?_), .nil, F.bindsN (fun _ _ _ _ _ _ us hl => match us, hl with | [_], _ => rfl), F.kp⟩
  · obtain ⟨_, _, rfl, _⟩ := h; rfl
  · refine ⟨_, PSs.nox (pss_cons (ps_expr (pe_mt (pv 0) O_SignReader_take T.c_SignReader T.m_SignReader_take hr (by decide) (pa_cons pe_str (pa_cons pe_str pa_nil))))
    (pss_cons (ps_set (i := 1) sc_read_sources.nd rfl (by first | exact Or.inl rfl | exact Or.inr rfl) (pe_lst pa_nil))
    (pss_cons (ps_set (i := 2) sc_read_sources.nd rfl (by first | exact Or.inl rfl | exact Or.inr rfl) (pe_lst pa_nil))
    (pss_cons (ps_set (i := 3) sc_read_sources.nd rfl (by first | exact Or.inl rfl | exact Or.inr rfl) pe_bl)
    (pss_cons (ps_while PassesOwn.never (pt_val (pv 3)) (pss_cons (ps_set (i := 4) sc_read_sources.nd rfl (by first | exact Or.inl rfl | exact Or.inr rfl) (pe_mt (pv 0) O_SignReader_demand T.c_SignReader T.m_SignReader_demand hr (by decide) (pa_cons pe_str pa_nil)))
    (pss_cons (ps_if (pt_cmpR (op_in_seqK K) (pv 4) T.e_RESERVED rfl) (pss_one ps_never) pss_nil)
    (pss_cons (ps_if (pt_cmpR (op_in_seqK K) (pv 4) (pv 1) rfl) (pss_one ps_never) pss_nil)
    (pss_cons (ps_expr (pe_mt0 (pv 0) O_SignReader_skip T.c_SignReader T.m_SignReader_skip hr (by decide)))
    (pss_cons (ps_expr (pe_bmK K PySem.F.plainAttrs_list PySem.F.slot_list_append PySem.F.type_list_append mt_append (pv 1) (pa_cons (pv 4) pa_nil)))
    (pss_cons (ps_expr (pe_bmK K PySem.F.plainAttrs_list PySem.F.slot_list_append PySem.F.type_list_append mt_append (pv 2) (pa_cons (pe_tup (pa_cons (pv 4) (pa_cons (pe_mt (pv 0) O_SignReader_take_number T.c_SignReader T.m_SignReader_take_number hr (by decide) (pa_cons pe_int pa_nil)) pa_nil))) pa_nil)))
    (pss_cons (ps_set (i := 3) sc_read_sources.nd rfl (by first | exact Or.inl rfl | exact Or.inr rfl) (pe_mt (pv 0) O_SignReader_sees T.c_SignReader T.m_SignReader_sees hr (by decide) (pa_cons pe_str (pa_cons pe_str pa_nil))))
    (pss_one (ps_if (pt_val (pv 3)) (pss_one (ps_expr (pe_mt0 (pv 0) O_SignReader_skip T.c_SignReader T.m_SignReader_skip hr (by decide)))) pss_nil))))))))))
    (pss_cons (ps_expr (pe_mt (pv 0) O_SignReader_take T.c_SignReader T.m_SignReader_take hr (by decide) (pa_cons pe_str (pa_cons pe_str pa_nil))))
    (pss_one (ps_ret (pv 2))))))))), ?_⟩
    obtain ⟨⟨⟨src, tl⟩, x⟩, F0, rfl, fh, hrd, ⟨hs1, hs2, hs3, hs4⟩, k⟩ := h
    dsimp only at hrd hs1 hs2 hs3 hs4 k ⊢
    obtain ⟨dx, a, i, hx⟩ := hrd.at
    have G0 := gr_del (d := x) fh
    walk_at "s"
    refine ⟨x, dx, rdFs a i, rfl, hx, rfl, ?_⟩
    walk_at "s"
    refine ⟨(("name", "sources", srcT src tl), x), F0, rfl, fh, hrd, (show ("name" : Str) ≠ "fault" by decide), fun v F1 H1 g1 hrd1 _ => ?_⟩
    have G1 := transD G0 g1 hrd1.fx
    walk_at "s"
    refine ⟨x_lt (by decide), fun l1 H2 n1 => ?_⟩
    obtain ⟨g2, o1⟩ := n1.own G1.fh
    have hrd2 := hrd1.go g2
    walk_at "s"
    refine ⟨x_lt (by decide), fun l2 H3 n2 => ?_⟩
    have G2 := G1.trans g2
    obtain ⟨g3, o2⟩ := n2.own G2.fh
    have hrd3 := hrd2.go g3
    have G3 := G2.trans g3
    have n12 : l1 ≠ l2 := ne_of_none o1.h n2.fr
    have o1 := o1.go g3
    have nx1 : l1 ≠ x := by
      obtain ⟨_, _, _, h⟩ := hrd1.at
      exact (ne_of_none h n1.fr).symm
    have nx2 : l2 ≠ x := by
      obtain ⟨_, _, _, h⟩ := hrd2.at
      exact (ne_of_none h n2.fr).symm
    have z1 : (del H x) l1 = none := G1.hh.free n1.fr
    have z2 : (del H x) l2 = none := G2.hh.free n2.fr
    walk_at "s"
    refine while_m G3 (fun m σ F H' => ∃ (b : Bool) (dn rest : List (Str × Int)) (vs : List V) (y : Option V), σ = [some (.ref x), some (.ref l1), some (.ref l2), some (.bl b), y] ∧ Own F H' l1 (.lst ((dn.map (·.1)).map V.str)) ∧ Own F H' l2 (.lst vs) ∧ Paired ((k2 kS kI).p F) vs dn ∧ dn ++ rest = src ∧ m = rest.length ∧
      RdS K F H' x (srcT rest tl) ∧ (b = true ↔ rest ≠ [])) src.length ⟨true, [], src, [], _, rfl, o1, o2, .nil, rfl, rfl, hrd3, by simp [hs1]⟩ ?_
    rintro m σ1 F4 H4 G4 s4 ⟨b, dn, rest, vs, y, rfl, o1, o2, hp, hdn, rfl, hrd4, hb⟩
    walk_at "s"
    cases rest with
    | nil =>
      have eb : b = false := by cases b; rfl; exact absurd rfl (hb.mp rfl)
      subst eb
      refine x_f ?_
      rw [List.append_nil] at hdn
      subst hdn
      obtain ⟨dx4, a4, i4, hx4⟩ := hrd4.at
      walk_at "s"
      refine ⟨x, dx4, rdFs a4 i4, rfl, hx4, rfl, ?_⟩
      walk_at "s"
      refine ⟨(("symbol", ";", tl), x), F4, rfl, G4.fh, hrd4, (show ("symbol" : Str) ≠ "fault" by decide), fun v F5 H5 g5 hrd5 _ => ?_⟩
      have G5 := transD G4 g5 hrd5.fx
      have o5 := o2.goD nx2 g5
      walk_at "s"
      have G6 := G5.fix o5.h z2 o5.f
      refine k _ _ _ G6 ?_ ⟨l2, vs, rfl, upd_same, L2.Paired.mapP hp fun _ _ h => (k2 kS kI).mono (g5.ff.trans (same_new o5.f)) h⟩
      obtain ⟨dx5, a5, i5, vs5, sg5, ox5, ha5, hp5, he5⟩ := hrd5
      exact ⟨dx5, a5, i5, vs5, sg5, ⟨ox5.h, by rw [upd_ne nx2.symm]; exact ox5.f⟩, same_new o5.f _ _ ha5, L2.Paired.mapP hp5 fun _ _ h => kSg.mono (same_new o5.f) h, he5⟩
    | cons p r =>
      have eb : b = true := hb.mpr (by simp)
      subst eb
      refine x_t (wh_go s4 fun N kN => ?_)
      rw [srcT_cons] at hrd4
      have hpm : p ∈ src := by rw [← hdn]; simp
      obtain ⟨hres, hw1⟩ := hs4 p hpm
      have hnin : p.1 ∉ dn.map (·.1) := fun hin => by
        rw [← hdn, List.map_append, List.map_cons] at hs3
        exact (List.nodup_append.mp hs3).2.2 _ hin _ (by simp) rfl
      obtain ⟨dx4, a4, i4, hx4⟩ := hrd4.at
      walk_at "s"
      refine ⟨x, dx4, rdFs a4 i4, rfl, hx4, rfl, ?_⟩
      walk_at "s"
      refine ⟨((nameT p.1, _), x), F4, rfl, G4.fh, hrd4, (show ("name" : Str) ≠ "fault" by decide), fun v F5 H5 g5 hrd5 hv => ?_⟩
      obtain rfl : v = .str p.1 := hv
      have G5 := transD G4 g5 hrd5.fx
      have o1 := o1.goD nx1 g5
      have o2 := o2.goD nx2 g5
      walk_at "s"
      refine ⟨He.ga K "RESERVED", _, rfl, Or.inr (T.t_resv H5), rfl, by rw [List.all_map]; exact List.all_eq_true.mpr fun _ _ => rfl, ?_⟩
      rw [if_neg Bool.false_ne_true, inV_no hres]
      refine ⟨_, rfl, x_f ?_⟩
      walk_at "s"
      refine x_inS o1.h ?_
      rw [if_neg Bool.false_ne_true, inV_no hnin]
      refine ⟨_, rfl, x_f ?_⟩
      obtain ⟨dx5, a5, i5, hx5⟩ := hrd5.at
      walk_at "s"
      refine ⟨x, dx5, rdFs a5 i5, rfl, hx5, rfl, ?_⟩
      walk_at "s"
      refine ⟨((nameT p.1, _), x), F5, rfl, G5.fh, hrd5, trivial, fun v F6 H6 g6 hrd6 _ => ?_⟩
      dsimp only at hrd6
      have G6 := transD G5 g6 hrd6.fx
      have o1 := o1.goD nx1 g6
      have o2 := o2.goD nx2 g6
      have hdl : (dn ++ p :: r).length ≤ 100 := by rw [hdn]; exact hs2
      rw [List.length_append, List.length_cons] at hdl
      have lv := hp.length
      walk_at "s"
      refine ⟨x_tyL o1.h, ?_⟩
      walk_at "s"
      refine x_app o1.h (by rw [List.length_map, List.length_map, sizeLine_eq]; omega) fun H7 c7 => ?_
      have G7 := c7.gr G6 o1.f z1
      have o2 := c7.ne o2 n12.symm
      have hrd7 : RdS K F6 H7 x (numT p.2 :: (if r = [] then symT ";" :: tl else symT "," :: srcT r tl)) := by
        obtain ⟨dx6, a6, i6, vs6, sg6, ox6, h6⟩ := hrd6
        exact ⟨dx6, a6, i6, vs6, sg6, c7.ne ox6 nx1.symm, h6⟩
      have o1 := c7.own o1
      obtain ⟨dx7, a7, i7, hx7⟩ := hrd7.at
      walk_at "s"
      refine ⟨x_tyL o2.h, ?_⟩
      walk_at "s"
      refine ⟨x, dx7, rdFs a7 i7, rfl, hx7, rfl, ?_⟩
      walk_at "s"
      refine ⟨((1, p.2, _), x), F6, rfl, G7.fh, hrd7, hw1, fun v F8 H8 g8 hrd8 hv => ?_⟩
      obtain rfl : v = .int p.2 := hv
      dsimp only at hrd8
      have G8 := transD G7 g8 hrd8.fx
      have o1 := o1.goD nx1 g8
      have o2 := o2.goD nx2 g8
      walk_at "s"
      refine ⟨x_lt (Nat.le_of_ble_eq_true rfl), fun t H9 nt => ?_⟩
      obtain ⟨F9, g9, e9⟩ := nt.fix G8.fh
      have o1 := o1.go g9
      have o2 := o2.go g9
      have hrd9 := hrd8.go g9
      walk_at "s"
      refine x_app o2.h (by rw [sizeLine_eq]; omega) fun H10 c10 => ?_
      have G10 := c10.gr (G8.trans g9) o2.f z2
      have o1 := c10.ne o1 n12
      have hrd10 : RdS K F9 H10 x (if r = [] then symT ";" :: tl else symT "," :: srcT r tl) := by
        obtain ⟨dx6, a6, i6, vs6, sg6, ox6, h6⟩ := hrd9
        exact ⟨dx6, a6, i6, vs6, sg6, c10.ne ox6 nx2.symm, h6⟩
      have o2 := c10.own o2
      have hp10 := (L2.Paired.mapP hp fun _ _ h => (k2 kS kI).mono ((g5.ff.trans g6.ff).trans (g8.ff.trans g9.ff)) h).snoc (b := p) ⟨t, _, _, rfl, e9, rfl, rfl⟩
      have e1 : List.map V.str (List.map (fun x => x.1) dn) ++ [V.str p.1] = ((dn ++ [p]).map (·.1)).map V.str := by simp
      rw [e1] at o1
      have hdn' : (dn ++ [p]) ++ r = src := by rw [← hdn]; simp
      have s49 := (g5.ff.trans g6.ff).trans (g8.ff.trans g9.ff)
      obtain ⟨dx10, a10, i10, hx10⟩ := hrd10.at
      walk_at "s"
      refine ⟨x, dx10, rdFs a10 i10, rfl, hx10, rfl, ?_⟩
      walk_at "s"
      by_cases er : r = []
      · subst er
        rw [if_pos rfl] at hrd10
        refine ⟨((symT ";", tl, "symbol", ","), x), F9, rfl, G10.fh, hrd10, ⟨(show ("symbol" : Str) ≠ "fault" by decide), fun _ => ⟨_, rfl⟩⟩, fun v F11 H11 g11 hrd11 hv => ?_⟩
        have hv : v = .bl false := by rw [show v = _ from hv, decide_eq_false (show ¬ symT ";" = (("symbol" : Str), V.str ",") by decide)]
        subst hv
        walk_at "s"
        have G11 := transD G10 g11 hrd11.fx
        exact kN 0 _ _ _ (Nat.succ_pos _) G11 (s49.trans g11.ff) ⟨false, dn ++ [p], [], _, _, rfl, o1.goD nx1 g11, o2.goD nx2 g11, L2.Paired.mapP hp10 fun _ _ h => (k2 kS kI).mono g11.ff h, hdn', rfl, hrd11, by simp⟩
      · rw [if_neg er] at hrd10
        refine ⟨((symT ",", srcT r tl, "symbol", ","), x), F9, rfl, G10.fh, hrd10, ⟨(show ("symbol" : Str) ≠ "fault" by decide), fun _ => ⟨_, rfl⟩⟩, fun v F11 H11 g11 hrd11 hv => ?_⟩
        have hv : v = .bl true := by rw [show v = _ from hv, decide_eq_true (show symT "," = (("symbol" : Str), V.str ",") from rfl)]
        subst hv
        have G11 := transD G10 g11 hrd11.fx
        obtain ⟨dx11, a11, i11, hx11⟩ := hrd11.at
        have o1 := o1.goD nx1 g11
        have o2 := o2.goD nx2 g11
        walk_at "s"
        refine ⟨x, dx11, rdFs a11 i11, rfl, hx11, rfl, ?_⟩
        walk_at "s"
        refine ⟨((symT ",", srcT r tl), x), F11, rfl, G11.fh, hrd11, trivial, fun v F12 H12 g12 hrd12 _ => ?_⟩
        have G12 := transD G11 g12 hrd12.fx
        walk_at "s"
        exact kN r.length _ _ _ (by rw [List.length_cons]; omega) G12 ((s49.trans g11.ff).trans g12.ff) ⟨true, dn ++ [p], r, _, _, rfl, o1.goD nx1 g12, o2.goD nx2 g12, L2.Paired.mapP hp10 fun _ _ h => (k2 kS kI).mono (g11.ff.trans g12.ff) h, hdn', rfl, hrd12, by simp [er]⟩
/-! D_read4.src -/
theorem RdS.fix {K : PySem.W.Frag} {F H : Hp} {x l : Addr} {o : HO} {ts : List Tk} (h : RdS K F H x ts) (n : l ≠ x) (fl : F l = none) : RdS K (upd F l o) H x ts := by
  obtain ⟨dx, a, i, vs, sg, ox, ha, hp, he⟩ := h
  exact ⟨dx, a, i, vs, sg, ⟨ox.h, by rw [upd_ne n.symm]; exact ox.f⟩, same_new fl _ _ ha, L2.Paired.mapP hp fun _ _ h => kSg.mono (same_new fl) h, he⟩
theorem RdS.ne {K : PySem.W.Frag} {F H : Hp} {x l : Addr} {ts : List Tk} (h : RdS K F H x ts) (n : H l = none) : l ≠ x := by
  obtain ⟨_, _, _, e⟩ := h.at
  exact (ne_of_none e n).symm
theorem name_ne {a b : Str} (h : a ≠ b) : (V.bl (decide (nameT a = (("name" : Str), V.str b)))) = .bl false :=
  congrArg V.bl (decide_eq_false fun e : nameT a = (("name" : Str), V.str b) => h (V.str.inj (Prod.mk.inj e).2))
def sp_read_lines (K : PySem.W.Frag) : Sp := SpRd (ι := Str × List Tk) K (fun _ => []) (fun i => nameT i.1 :: i.2) (fun i => nameT i.1 :: i.2) (fun i => i.1 ≠ "lines") (fun _ F v => (k2 kI kI).p F v (0, 0))
theorem ok_read_lines {P : Program} {w : World} {K : PySem.W.Frag} {mg : Str → Option Value} {base : Heap} (T : Tx K mg) : Okd P w K mg base 3 ("_read_lines", none) ["reader"] [] (sp_read_lines K) := by
  have O_SignReader_sees := ok_SignReader_sees (P := P) (w := w) (base := base) T
  obtain ⟨fd, F⟩ : ∃ fd, FunD K "_read_lines" "_read_lines" (defArgs s_read_lines) (defBody s_read_lines) (defScope s_read_lines) [] [] (He.fAd K ("_read_lines", none)) fd := T.says.d.def_ 50 rfl
  refine ⟨fd, [], F.ok sc_read_lines (fun vs H Q E h => ?_) (fun cdv A outer s H vs Q E hr h => ?_), .nil, F.bindsN (fun _ _ _ _ _ _ us hl => match us, hl with | [_], _ => rfl), F.kp⟩
  · obtain ⟨_, _, rfl, _⟩ := h; rfl
  · refine ⟨_, PSs.nox (pss_cons (ps_set (i := 1) sc_read_lines.nd rfl (by first | exact Or.inl rfl | exact Or.inr rfl) pe_int)
    (pss_cons (ps_set (i := 2) sc_read_lines.nd rfl (by first | exact Or.inl rfl | exact Or.inr rfl) pe_int)
    (pss_cons (ps_if (pt_not (pt_val (pe_mt (pv 0) O_SignReader_sees T.c_SignReader T.m_SignReader_sees hr (by decide) (pa_cons pe_str (pa_cons pe_str pa_nil))))) (pss_one (ps_ret (pe_tup (pa_cons (pv 1) (pa_cons (pv 2) pa_nil))))) pss_nil)
    (pss_cons ps_never
    (pss_cons ps_never
    (pss_cons ps_never
    (pss_one (ps_ret (pe_tup (pa_cons (pv 1) (pa_cons (pv 2) pa_nil))))))))))), ?_⟩
    obtain ⟨⟨⟨nm, ts⟩, x⟩, F0, rfl, fh, hrd, hne, k⟩ := h
    dsimp only at hrd hne k ⊢
    have G0 := gr_del (d := x) fh
    obtain ⟨dx, a, i, hx⟩ := hrd.at
    walk_at "s"
    refine ⟨x, dx, rdFs a i, rfl, hx, rfl, ?_⟩
    walk_at "s"
    refine ⟨((nameT nm, ts, "name", "lines"), x), F0, rfl, fh, hrd, ⟨(show ("name" : Str) ≠ "fault" by decide), fun _ => ⟨_, rfl⟩⟩, fun v F1 H1 g1 hrd1 hv => ?_⟩
    have hv : v = .bl false := (show v = _ from hv).trans (name_ne hne)
    subst hv
    refine ⟨_, rfl, x_t ?_⟩
    have G1 := transD G0 g1 hrd1.fx
    walk_at "s"
    refine ⟨x_lt (Nat.le_of_ble_eq_true rfl), fun t H2 nt => ?_⟩
    obtain ⟨F2, g2, e2⟩ := nt.fix G1.fh
    exact k _ _ _ (G1.trans g2) (hrd1.go g2) ⟨t, _, _, rfl, e2, rfl, rfl⟩
def sp_read_banned (K : PySem.W.Frag) : Sp := SpRd (ι := Str × List Tk) K (fun _ => []) (fun i => nameT i.1 :: i.2) (fun i => nameT i.1 :: i.2) (fun i => i.1 ≠ "ban") (fun _ F v => (kL kX).p F v [])
theorem ok_read_banned {P : Program} {w : World} {K : PySem.W.Frag} {mg : Str → Option Value} {base : Heap} (T : Tx K mg) : Okd P w K mg base 3 ("_read_banned", none) ["reader"] [] (sp_read_banned K) := by
  have O_SignReader_sees := ok_SignReader_sees (P := P) (w := w) (base := base) T
  obtain ⟨fd, F⟩ : ∃ fd, FunD K "_read_banned" "_read_banned" (defArgs s_read_banned) (defBody s_read_banned) (defScope s_read_banned) [] [] (He.fAd K ("_read_banned", none)) fd := T.says.d.def_ 49 rfl
  refine ⟨fd, [], F.ok sc_read_banned (fun vs H Q E h => ?_) (fun cdv A outer s H vs Q E hr h => ?_), .nil, F.bindsN (fun _ _ _ _ _ _ us hl => match us, hl with | [_], _ => rfl), F.kp⟩
  · obtain ⟨_, _, rfl, _⟩ := h; rfl
  · refine ⟨_, PSs.nox (pss_cons (ps_set (i := 1) sc_read_banned.nd rfl (by first | exact Or.inl rfl | exact Or.inr rfl) (pe_lst pa_nil))
    (pss_cons (ps_if (pt_not (pt_val (pe_mt (pv 0) O_SignReader_sees T.c_SignReader T.m_SignReader_sees hr (by decide) (pa_cons pe_str (pa_cons pe_str pa_nil))))) (pss_one (ps_ret (pv 1))) pss_nil)
    (pss_cons ps_never
    (pss_cons ps_never
    (pss_cons ps_never
    (pss_one (ps_ret (pv 1)))))))), ?_⟩
    obtain ⟨⟨⟨nm, ts⟩, x⟩, F0, rfl, fh, hrd, hne, k⟩ := h
    dsimp only at hrd hne k ⊢
    have G0 := gr_del (d := x) fh
    walk_at "s"
    refine ⟨x_lt (by decide), fun l J nl => ?_⟩
    obtain ⟨gl, ol⟩ := nl.own fh
    have nlx := hrd.ne nl.fr
    have zl : (del H x) l = none := G0.hh.free nl.fr
    have hrd0 := hrd.go gl
    have G0 := G0.trans gl
    obtain ⟨dx, a, i, hx⟩ := hrd0.at
    walk_at "s"
    refine ⟨x, dx, rdFs a i, rfl, hx, rfl, ?_⟩
    walk_at "s"
    refine ⟨((nameT nm, ts, "name", "ban"), x), F0, rfl, G0.fh, hrd0, ⟨(show ("name" : Str) ≠ "fault" by decide), fun _ => ⟨_, rfl⟩⟩, fun v F1 H1 g1 hrd1 hv => ?_⟩
    have hv : v = .bl false := (show v = _ from hv).trans (name_ne hne)
    subst hv
    refine ⟨_, rfl, x_t ?_⟩
    have G1 := transD G0 g1 hrd1.fx
    have ol := ol.goD nlx g1
    walk_at "s"
    exact k _ _ _ (G1.fix ol.h zl ol.f) (hrd1.fix nlx ol.f) ⟨l, [], rfl, upd_same, .nil⟩
def sp_read_changes (K : PySem.W.Frag) : Sp := SpRd (ι := Str × List Tk) K (fun _ => []) (fun i => nameT i.1 :: i.2) (fun i => nameT i.1 :: i.2) (fun i => i.1 ≠ "change") (fun _ F v => (kL kX).p F v [])
theorem ok_read_changes {P : Program} {w : World} {K : PySem.W.Frag} {mg : Str → Option Value} {base : Heap} (T : Tx K mg) : Okd P w K mg base 3 ("_read_changes", none) ["reader"] [] (sp_read_changes K) := by
  have O_SignReader_sees := ok_SignReader_sees (P := P) (w := w) (base := base) T
  obtain ⟨fd, F⟩ : ∃ fd, FunD K "_read_changes" "_read_changes" (defArgs s_read_changes) (defBody s_read_changes) (defScope s_read_changes) [] [] (He.fAd K ("_read_changes", none)) fd := T.says.d.def_ 48 rfl
  refine ⟨fd, [], F.ok sc_read_changes (fun vs H Q E h => ?_) (fun cdv A outer s H vs Q E hr h => ?_), .nil, F.bindsN (fun _ _ _ _ _ _ us hl => match us, hl with | [_], _ => rfl), F.kp⟩
  · obtain ⟨_, _, rfl, _⟩ := h; rfl
  · refine ⟨_, PSs.nox (pss_cons (ps_set (i := 1) sc_read_changes.nd rfl (by first | exact Or.inl rfl | exact Or.inr rfl) (pe_lst pa_nil))
    (pss_cons (ps_set (i := 2) sc_read_changes.nd rfl (by first | exact Or.inl rfl | exact Or.inr rfl) (pe_lst pa_nil))
    (pss_cons (ps_while PassesOwn.never (pt_val (pe_mt (pv 0) O_SignReader_sees T.c_SignReader T.m_SignReader_sees hr (by decide) (pa_cons pe_str (pa_cons pe_str pa_nil)))) (pss_cons ps_never
    (pss_cons ps_never
    (pss_cons ps_never
    (pss_cons ps_never
    (pss_cons ps_never
    (pss_cons ps_never
    (pss_cons ps_never
    (pss_cons ps_never
    (pss_cons ps_never
    (pss_one ps_never)))))))))))
    (pss_one (ps_ret (pv 2)))))), ?_⟩
    obtain ⟨⟨⟨nm, ts⟩, x⟩, F0, rfl, fh, hrd, hne, k⟩ := h
    dsimp only at hrd hne k ⊢
    have G0 := gr_del (d := x) fh
    walk_at "s"
    refine ⟨x_lt (by decide), fun l1 J1 n1 => ?_⟩
    obtain ⟨gl1, _⟩ := n1.own fh
    have hrd := hrd.go gl1
    have G0 := G0.trans gl1
    walk_at "s"
    refine ⟨x_lt (by decide), fun l J nl => ?_⟩
    obtain ⟨gl, ol⟩ := nl.own G0.fh
    have nlx := hrd.ne nl.fr
    have zl : (del H x) l = none := G0.hh.free nl.fr
    have hrd0 := hrd.go gl
    have G0 := G0.trans gl
    walk_at "s"
    refine while_m G0 (fun m σ F H' => ∃ y1 y2 y3, σ = [some (.ref x), some (.ref l1), some (.ref l), y1, y2] ∧ y3 = (none : Option V) ∧ Own F H' l (.lst []) ∧ RdS K F H' x (nameT nm :: ts)) 0 ⟨_, _, _, rfl, rfl, ol, hrd0⟩ ?_
    rintro m σ1 F4 H4 G4 s4 ⟨y1, y2, y3, rfl, _, ol, hrd4⟩
    obtain ⟨dx, a, i, hx⟩ := hrd4.at
    walk_at "s"
    refine ⟨x, dx, rdFs a i, rfl, hx, rfl, ?_⟩
    walk_at "s"
    refine ⟨((nameT nm, ts, "name", "change"), x), F4, rfl, G4.fh, hrd4, ⟨(show ("name" : Str) ≠ "fault" by decide), fun _ => ⟨_, rfl⟩⟩, fun v F1 H1 g1 hrd1 hv => ?_⟩
    have hv : v = .bl false := (show v = _ from hv).trans (name_ne hne)
    subst hv
    refine ⟨_, rfl, x_f ?_⟩
    have G1 := transD G4 g1 hrd1.fx
    have ol := ol.goD nlx g1
    walk_at "s"
    exact k _ _ _ (G1.fix ol.h zl ol.f) (hrd1.fix nlx ol.f) ⟨l, [], rfl, upd_same, .nil⟩
def sp_read_hidden (K : PySem.W.Frag) : Sp := SpRd (ι := Str × List Tk) K (fun _ => []) (fun i => nameT i.1 :: i.2) (fun i => nameT i.1 :: i.2) (fun i => i.1 ≠ "hide") (fun _ F v => (kL kX).p F v [])
theorem ok_read_hidden {P : Program} {w : World} {K : PySem.W.Frag} {mg : Str → Option Value} {base : Heap} (T : Tx K mg) : Okd P w K mg base 3 ("_read_hidden", none) ["reader"] [] (sp_read_hidden K) := by
  have O_SignReader_sees := ok_SignReader_sees (P := P) (w := w) (base := base) T
  obtain ⟨fd, F⟩ : ∃ fd, FunD K "_read_hidden" "_read_hidden" (defArgs s_read_hidden) (defBody s_read_hidden) (defScope s_read_hidden) [] [] (He.fAd K ("_read_hidden", none)) fd := T.says.d.def_ 51 rfl
  refine ⟨fd, [], F.ok sc_read_hidden (fun vs H Q E h => ?_) (fun cdv A outer s H vs Q E hr h => ?_), .nil, F.bindsN (fun _ _ _ _ _ _ us hl => match us, hl with | [_], _ => rfl), F.kp⟩
  · obtain ⟨_, _, rfl, _⟩ := h; rfl
  · refine ⟨_, PSs.nox (pss_cons (ps_set (i := 1) sc_read_hidden.nd rfl (by first | exact Or.inl rfl | exact Or.inr rfl) (pe_lst pa_nil))
    (pss_cons (ps_while PassesOwn.never (pt_val (pe_mt (pv 0) O_SignReader_sees T.c_SignReader T.m_SignReader_sees hr (by decide) (pa_cons pe_str (pa_cons pe_str pa_nil)))) (pss_cons ps_never
    (pss_cons ps_never
    (pss_one ps_never))))
    (pss_one (ps_ret (pv 1))))), ?_⟩
    obtain ⟨⟨⟨nm, ts⟩, x⟩, F0, rfl, fh, hrd, hne, k⟩ := h
    dsimp only at hrd hne k ⊢
    have G0 := gr_del (d := x) fh
    walk_at "s"
    refine ⟨x_lt (by decide), fun l J nl => ?_⟩
    obtain ⟨gl, ol⟩ := nl.own fh
    have nlx := hrd.ne nl.fr
    have zl : (del H x) l = none := G0.hh.free nl.fr
    have hrd0 := hrd.go gl
    have G0 := G0.trans gl
    walk_at "s"
    refine while_m G0 (fun m σ F H' => σ[0]? = some (some (.ref x)) ∧ σ[1]? = some (some (.ref l)) ∧ Own F H' l (.lst []) ∧ RdS K F H' x (nameT nm :: ts)) 0 ⟨rfl, rfl, ol, hrd0⟩ ?_
    rintro m σ1 F4 H4 G4 s4 ⟨e0, e1, ol, hrd4⟩
    obtain ⟨dx, a, i, hx⟩ := hrd4.at
    refine r_tB ?_
    refine r_mt ?_
    refine r_var e0 ?_
    refine ⟨x, dx, rdFs a i, rfl, hx, rfl, ?_⟩
    walk_at "s"
    refine ⟨((nameT nm, ts, "name", "hide"), x), F4, rfl, G4.fh, hrd4, ⟨(show ("name" : Str) ≠ "fault" by decide), fun _ => ⟨_, rfl⟩⟩, fun v F1 H1 g1 hrd1 hv => ?_⟩
    have hv : v = .bl false := (show v = _ from hv).trans (name_ne hne)
    subst hv
    refine ⟨_, rfl, x_f ?_⟩
    have G1 := transD G4 g1 hrd1.fx
    have ol := ol.goD nlx g1
    refine r_ret (r_var e1 ?_)
    exact k _ _ _ (G1.fix ol.h zl ol.f) (hrd1.fix nlx ol.f) ⟨l, [], rfl, upd_same, .nil⟩
def sp_read_shares (K : PySem.W.Frag) : Sp := SpRd (ι := Str × List Tk) K (fun _ => []) (fun i => nameT i.1 :: i.2) (fun i => nameT i.1 :: i.2) (fun i => i.1 ≠ "share") (fun _ F v => (kL kX).p F v [])
theorem ok_read_shares {P : Program} {w : World} {K : PySem.W.Frag} {mg : Str → Option Value} {base : Heap} (T : Tx K mg) : Okd P w K mg base 3 ("_read_shares", none) ["reader"] [] (sp_read_shares K) := by
  have O_SignReader_sees := ok_SignReader_sees (P := P) (w := w) (base := base) T
  obtain ⟨fd, F⟩ : ∃ fd, FunD K "_read_shares" "_read_shares" (defArgs s_read_shares) (defBody s_read_shares) (defScope s_read_shares) [] [] (He.fAd K ("_read_shares", none)) fd := T.says.d.def_ 53 rfl
  refine ⟨fd, [], F.ok sc_read_shares (fun vs H Q E h => ?_) (fun cdv A outer s H vs Q E hr h => ?_), .nil, F.bindsN (fun _ _ _ _ _ _ us hl => match us, hl with | [_], _ => rfl), F.kp⟩
  · obtain ⟨_, _, rfl, _⟩ := h; rfl
  · refine ⟨_, PSs.nox (pss_cons (ps_set (i := 1) sc_read_shares.nd rfl (by first | exact Or.inl rfl | exact Or.inr rfl) (pe_lst pa_nil))
    (pss_cons (ps_while PassesOwn.never (pt_val (pe_mt (pv 0) O_SignReader_sees T.c_SignReader T.m_SignReader_sees hr (by decide) (pa_cons pe_str (pa_cons pe_str pa_nil)))) (pss_cons ps_never
    (pss_cons ps_never
    (pss_cons ps_never
    (pss_cons ps_never
    (pss_cons ps_never
    (pss_cons ps_never
    (pss_one ps_never))))))))
    (pss_one (ps_ret (pv 1))))), ?_⟩
    obtain ⟨⟨⟨nm, ts⟩, x⟩, F0, rfl, fh, hrd, hne, k⟩ := h
    dsimp only at hrd hne k ⊢
    have G0 := gr_del (d := x) fh
    walk_at "s"
    refine ⟨x_lt (by decide), fun l J nl => ?_⟩
    obtain ⟨gl, ol⟩ := nl.own fh
    have nlx := hrd.ne nl.fr
    have zl : (del H x) l = none := G0.hh.free nl.fr
    have hrd0 := hrd.go gl
    have G0 := G0.trans gl
    walk_at "s"
    refine while_m G0 (fun m σ F H' => σ[0]? = some (some (.ref x)) ∧ σ[1]? = some (some (.ref l)) ∧ Own F H' l (.lst []) ∧ RdS K F H' x (nameT nm :: ts)) 0 ⟨rfl, rfl, ol, hrd0⟩ ?_
    rintro m σ1 F4 H4 G4 s4 ⟨e0, e1, ol, hrd4⟩
    obtain ⟨dx, a, i, hx⟩ := hrd4.at
    refine r_tB ?_
    refine r_mt ?_
    refine r_var e0 ?_
    refine ⟨x, dx, rdFs a i, rfl, hx, rfl, ?_⟩
    walk_at "s"
    refine ⟨((nameT nm, ts, "name", "share"), x), F4, rfl, G4.fh, hrd4, ⟨(show ("name" : Str) ≠ "fault" by decide), fun _ => ⟨_, rfl⟩⟩, fun v F1 H1 g1 hrd1 hv => ?_⟩
    have hv : v = .bl false := (show v = _ from hv).trans (name_ne hne)
    subst hv
    refine ⟨_, rfl, x_f ?_⟩
    have G1 := transD G4 g1 hrd1.fx
    have ol := ol.goD nlx g1
    refine r_ret (r_var e1 ?_)
    exact k _ _ _ (G1.fix ol.h zl ol.f) (hrd1.fix nlx ol.f) ⟨l, [], rfl, upd_same, .nil⟩
end Ck
namespace Ck
open PySem PySem.Spec L2
section
variable {X : Cx}
/-- o.f as a target -/
def gFldV (K : PySem.W.Frag) (ta : TE) (f : Str) : TG := fun v σ H Q => ta σ H fun x H1 => ∃ a C dx fs, x = .ref a ∧ H1 a = some (.ins C dx fs) ∧ Cls K C ∧ NoAttr K C f ∧ fs.length < 1000 ∧ Q σ (upd H1 a (.ins C dx (putF f v fs)))
theorem pg_fld (K : PySem.W.Frag) {o : Expr} {f : Str} {pos : Pos} {ta : TE} (ho : PE X o ta) (hK : X.K = K := by rfl)
    (ha : ∀ v, assign (.Attribute o f pos) X.env v = (do
      let ov ← holding [v] (eval o X.env)
      standAt pos.atName
      holding [v, ov] (setAttr ov f v)
      release [v, ov] []) := by intro _; rfl) : PG X (.Attribute o f pos) (gFldV K ta f) := by
  subst hK
  refine ⟨fun pins s σ H v u Q I r h => ?_⟩
  rw [ha]
  refine wpAny_bind (wpAny_holding (thn (ho.run pins s σ H _ I h) fun ov sa ⟨x, Ha, Ia, rx, a, C, dx, fs, ex, ea, c, n, l, q⟩ => ?_))
  subst ex
  obtain rfl : ov = Value.ref a := rx
  refine wpAny_bind (wpAny_standAt (wpAny_bind (wpAny_holding (setattr_ok Ia ea c n l r fun sb Ib => wpAny_release ⟨σ, _, Ib, q⟩))))
theorem r_gFld {K : PySem.W.Frag} {ta : TE} {f : Str} {v : V} {σ : L2.St} {H : Hp} {Q : L2.St → Hp → Prop} (h : ta σ H fun x H1 => ∃ a C dx fs, x = .ref a ∧ H1 a = some (.ins C dx fs) ∧ Cls K C ∧ NoAttr K C f ∧ fs.length < 1000 ∧ Q σ (upd H1 a (.ins C dx (putF f v fs)))) : gFldV K ta f v σ H Q := h
end
end Ck

namespace Ck
open PySem PySem.Spec L2 CkM
local macro_rules | `(tactic| walk_at "s1") => `(tactic| first
  | (with_reducible refine r_seq ?_) | (with_reducible refine r_var (by with_unfolding_all rfl) ?_) | (with_reducible refine r_c ?_) | (with_reducible refine r_op ?_)
  | (with_reducible refine r_I0 ?_) | (with_reducible refine r_asgN ?_) | (with_reducible refine r_asg ?_) | (with_reducible refine r_ret ?_) | (with_reducible refine r_drop ?_)
  | (with_reducible refine r_cons ?_) | (with_reducible refine r_nil ?_) | (with_reducible refine r_CB ?_) | (with_reducible refine r_call ?_) | (with_reducible refine r_BM ?_)
  | (with_reducible refine r_if ?_) | (with_reducible refine r_test ?_) | (with_reducible refine r_tB ?_) | (with_reducible refine r_and ?_) | (with_reducible refine r_or ?_) | (with_reducible refine r_not ?_)
  | (with_reducible refine r_andV ?_) | (with_reducible refine r_orV ?_) | (with_reducible refine r_eqI ?_) | (with_reducible refine r_neI ?_) | (with_reducible refine r_eqS ?_) | (with_reducible refine r_neS ?_) | (with_reducible refine r_neB ?_)
  | (with_reducible refine x_b ?_) | (with_reducible refine x_ii ?_) | (with_reducible refine x_ss ?_) | (with_reducible refine x_i ?_) | (with_reducible refine x_s ?_) | (with_reducible refine x_li ?_) | (with_reducible refine x_ls ?_) | (with_reducible refine x_lii ?_)
  | (with_reducible refine r_un ?_) | (with_reducible refine r_U ?_) | (with_reducible refine r_gN ?_) | (with_reducible refine r_aug (by with_unfolding_all rfl) ?_) | (with_reducible refine r_ip ?_) | (with_reducible refine r_tup ?_) | (with_reducible refine r_lst ?_)
  | (with_reducible refine r_fld ?_) | (with_reducible refine r_for ?_) | (with_reducible refine r_iL ?_) | (with_reducible refine r_iR1 ?_) | (with_reducible refine r_iR2 ?_) | (with_reducible refine r_iS ?_) | (with_reducible refine r_sl ?_) | (with_reducible refine r_po0 ?_) | (with_reducible refine r_po1 ?_)
  | (with_reducible refine r_tru ?_) | (with_reducible refine r_augS ?_) | (with_reducible refine r_iR3 ?_) | (with_reducible refine r_lc ?_) | (with_reducible refine r_gC ?_) | (with_reducible refine r_gNil ?_) | (with_reducible refine r_mk ?_) | (with_reducible refine r_mt ?_) | (with_reducible refine r_sfld ?_) | (with_reducible refine r_sfa ?_) | (with_reducible refine r_add ?_)
  | (with_reducible refine r_dput ?_) | (with_reducible refine r_gFld ?_) | (with_reducible refine r_dcp ?_) | (with_reducible refine r_dsetT ?_) | (with_reducible refine r_BM0 ?_) | (with_reducible refine r_dget ?_) | (with_reducible refine r_dget2 ?_) | (with_reducible refine r_din ?_) | (with_reducible refine r_dnin ?_) | (with_reducible refine r_dnK ?_) | (with_reducible refine r_dnT ?_) | (with_reducible refine x_isN ?_) | (with_reducible refine r_next ?_) | (with_reducible refine r_retN ?_) | (with_reducible refine r_yes ?_) | (with_reducible refine x_t ?_) | (with_reducible refine x_f ?_))
local macro_rules | `(tactic| walk_at "s") => `(tactic| repeat walk_at "s1")
local macro_rules | `(tactic| walk_at "q1") => `(tactic| first
  | (with_reducible refine r_seq ?_) | (with_reducible refine r_var (by with_unfolding_all rfl) ?_) | (with_reducible refine r_c ?_) | (with_reducible refine r_op ?_)
  | (with_reducible refine r_I0 ?_) | (with_reducible refine r_asgN ?_) | (with_reducible refine r_asg ?_) | (with_reducible refine r_ret ?_) | (with_reducible refine r_drop ?_)
  | (with_reducible refine r_cons ?_) | (with_reducible refine r_nil ?_) | (with_reducible refine r_CB ?_) | (with_reducible refine r_call ?_) | (with_reducible refine r_BM ?_)
  | (with_reducible refine r_test ?_) | (with_reducible refine r_tB ?_) | (with_reducible refine r_and ?_) | (with_reducible refine r_or ?_) | (with_reducible refine r_not ?_)
  | (with_reducible refine r_andV ?_) | (with_reducible refine r_orV ?_) | (with_reducible refine r_eqI ?_) | (with_reducible refine r_neI ?_) | (with_reducible refine r_eqS ?_) | (with_reducible refine r_neS ?_) | (with_reducible refine r_neB ?_)
  | (with_reducible refine x_b ?_) | (with_reducible refine x_ii ?_) | (with_reducible refine x_ss ?_) | (with_reducible refine x_i ?_) | (with_reducible refine x_s ?_) | (with_reducible refine x_li ?_) | (with_reducible refine x_ls ?_) | (with_reducible refine x_lii ?_)
  | (with_reducible refine r_un ?_) | (with_reducible refine r_U ?_) | (with_reducible refine r_gN ?_) | (with_reducible refine r_aug (by with_unfolding_all rfl) ?_) | (with_reducible refine r_ip ?_) | (with_reducible refine r_tup ?_) | (with_reducible refine r_lst ?_)
  | (with_reducible refine r_fld ?_) | (with_reducible refine r_for ?_) | (with_reducible refine r_iL ?_) | (with_reducible refine r_iR1 ?_) | (with_reducible refine r_iR2 ?_) | (with_reducible refine r_iS ?_) | (with_reducible refine r_sl ?_) | (with_reducible refine r_po0 ?_) | (with_reducible refine r_po1 ?_)
  | (with_reducible refine r_tru ?_) | (with_reducible refine r_augS ?_) | (with_reducible refine r_iR3 ?_) | (with_reducible refine r_lc ?_) | (with_reducible refine r_gC ?_) | (with_reducible refine r_gNil ?_) | (with_reducible refine r_mk ?_) | (with_reducible refine r_mt ?_) | (with_reducible refine r_sfld ?_) | (with_reducible refine r_sfa ?_) | (with_reducible refine r_add ?_)
  | (with_reducible refine r_dput ?_) | (with_reducible refine r_gFld ?_) | (with_reducible refine r_dcp ?_) | (with_reducible refine r_dsetT ?_) | (with_reducible refine r_BM0 ?_) | (with_reducible refine r_dget ?_) | (with_reducible refine r_dget2 ?_) | (with_reducible refine r_din ?_) | (with_reducible refine r_dnin ?_) | (with_reducible refine r_dnK ?_) | (with_reducible refine r_dnT ?_) | (with_reducible refine x_isN ?_) | (with_reducible refine r_next ?_) | (with_reducible refine r_retN ?_) | (with_reducible refine r_yes ?_) | (with_reducible refine x_t ?_) | (with_reducible refine x_f ?_))
local macro_rules | `(tactic| walk_at "q") => `(tactic| repeat walk_at "q1")

/-! D_read5.src -/
def SpRd2 {ι : Type} (K : PySem.W.Frag) (args : ι → List V) (ts ts' : ι → List Tk) (pre : ι → Hp → Prop) (post : ι → Hp → V → Prop) : Sp := fun vs H Q _ =>
  ∃ (i : ι × Addr) (F : Hp), vs = .ref i.2 :: args i.1 ∧ Same F H ∧ RdS K F H i.2 (ts i.1) ∧ pre i.1 F ∧ ∀ v F' H', Gr F (del H i.2) F' H' → RdS K F' H' i.2 (ts' i.1) → post i.1 F' v → Q v H'
def sp_read_mark (K : PySem.W.Frag) : Sp := SpRd2 (ι := V × Str × List Tk) K (fun i => [i.1]) (fun i => nameT "mark" :: ("quoted", .str i.2.1) :: symT ";" :: i.2.2) (fun i => i.2.2) (fun i F => (kL kX).p F i.1 [] ∧ WordOk i.2.1) (fun i _ v => v = .str i.2.1)
theorem ok_read_mark {P : Program} {w : World} {K : PySem.W.Frag} {mg : Str → Option Value} {base : Heap} (T : Tx K mg) : Okd P w K mg base 4 ("_read_mark", none) ["reader", "hidden"] [] (sp_read_mark K) := by
  have O_SignReader_take := ok_SignReader_take (P := P) (w := w) (base := base) T
  have O_SignReader_look_word := ok_SignReader_look_word (P := P) (w := w) (base := base) T
  have O_has_any_shape := ok_has_any_shape (P := P) (w := w) (base := base) T
  have O_SignReader_skip := ok_SignReader_skip (P := P) (w := w) (base := base) T
  obtain ⟨fd, F⟩ : ∃ fd, FunD K "_read_mark" "_read_mark" (defArgs s_read_mark) (defBody s_read_mark) (defScope s_read_mark) [] [] (He.fAd K ("_read_mark", none)) fd := T.says.d.def_ 52 rfl
  refine ⟨fd, [], F.ok sc_read_mark (fun vs H Q E h => ?_) (fun cdv A outer s H vs Q E hr h => ?_), .nil, F.bindsN (fun _ _ _ _ _ _ us hl => match us, hl with | [_, _], _ => rfl), F.kp⟩
  · obtain ⟨_, _, rfl, _⟩ := h; rfl
  · refine ⟨_, PSs.nox (pss_cons (ps_expr (pe_mt (pv 0) O_SignReader_take T.c_SignReader T.m_SignReader_take hr (by decide) (pa_cons pe_str (pa_cons pe_str pa_nil))))
    (pss_cons (ps_set (i := 2) sc_read_mark.nd rfl (by first | exact Or.inl rfl | exact Or.inr rfl) (pe_mt0 (pv 0) O_SignReader_look_word T.c_SignReader T.m_SignReader_look_word hr (by decide)))
    (pss_cons (ps_if (pt_val (pe_ok O_has_any_shape T.n_has_any_shape hr (by decide) (by rfl) (pa_cons (pv 2) (pa_cons (pv 1) pa_nil)))) (pss_one ps_never) pss_nil)
    (pss_cons (ps_expr (pe_mt0 (pv 0) O_SignReader_skip T.c_SignReader T.m_SignReader_skip hr (by decide)))
    (pss_cons (ps_expr (pe_mt (pv 0) O_SignReader_take T.c_SignReader T.m_SignReader_take hr (by decide) (pa_cons pe_str (pa_cons pe_str pa_nil))))
    (pss_one (ps_ret (pv 2)))))))), ?_⟩
    obtain ⟨⟨⟨v2, z, ts⟩, x⟩, F0, rfl, fh, hrd, ⟨h2, hz⟩, k⟩ := h
    dsimp only at hrd h2 hz k ⊢
    have G0 := gr_del (d := x) fh
    obtain ⟨dx, a, i, hx⟩ := hrd.at
    walk_at "s"
    refine ⟨x, dx, rdFs a i, rfl, hx, rfl, ?_⟩
    walk_at "s"
    refine ⟨(("name", "mark", _), x), F0, rfl, fh, hrd, (show ("name" : Str) ≠ "fault" by decide), fun v F1 H1 g1 hrd1 _ => ?_⟩
    dsimp only at hrd1
    have G1 := transD G0 g1 hrd1.fx
    obtain ⟨dx1, a1, i1, hx1⟩ := hrd1.at
    walk_at "s"
    refine ⟨x, dx1, rdFs a1 i1, rfl, hx1, rfl, ?_⟩
    walk_at "s"
    refine ⟨((z, _), x), F1, rfl, G1.fh, hrd1, hz, fun v F2 H2 g2 hrd2 hv => ?_⟩
    obtain rfl : v = .str z := hv
    dsimp only at hrd2
    have G2 := transD G1 g2 hrd2.fx
    walk_at "s"
    refine ⟨(z, v2), F2, rfl, G2.fh, (kL kX).mono (g1.ff.trans g2.ff) h2, fun v F3 H3 g3 hv => ?_⟩
    obtain rfl : v = .bl false := hv
    refine ⟨_, rfl, x_f ?_⟩
    have hrd3 := hrd2.go g3
    have G3 := G2.trans g3
    obtain ⟨dx3, a3, i3, hx3⟩ := hrd3.at
    walk_at "s"
    refine ⟨x, dx3, rdFs a3 i3, rfl, hx3, rfl, ?_⟩
    walk_at "s"
    refine ⟨((("quoted", .str z), _), x), F3, rfl, G3.fh, hrd3, trivial, fun v F4 H4 g4 hrd4 _ => ?_⟩
    dsimp only at hrd4
    have G4 := transD G3 g4 hrd4.fx
    obtain ⟨dx4, a4, i4, hx4⟩ := hrd4.at
    walk_at "s"
    refine ⟨x, dx4, rdFs a4 i4, rfl, hx4, rfl, ?_⟩
    walk_at "s"
    refine ⟨(("symbol", ";", _), x), F4, rfl, G4.fh, hrd4, (show ("symbol" : Str) ≠ "fault" by decide), fun v F5 H5 g5 hrd5 _ => ?_⟩
    walk_at "s"
    exact k _ _ _ (transD G4 g5 hrd5.fx) hrd5 rfl
def sp_read_count (K : PySem.W.Frag) : Sp := SpRd2 (ι := V × List Str × Int × Int × List Tk) K (fun i => [i.1, .int i.2.2.1]) (fun i => i.2.1.map nameT ++ numT i.2.2.2.1 :: symT ";" :: i.2.2.2.2) (fun i => i.2.2.2.2) (fun i F => (kL kS).p F i.1 i.2.1 ∧ i.2.2.1 ≤ i.2.2.2.1) (fun i _ v => v = .int i.2.2.2.1)
theorem ok_read_count {P : Program} {w : World} {K : PySem.W.Frag} {mg : Str → Option Value} {base : Heap} (T : Tx K mg) : Okd P w K mg base 4 ("_read_count", none) ["reader", "words", "least"] [] (sp_read_count K) := by
  have O_SignReader_take := ok_SignReader_take (P := P) (w := w) (base := base) T
  have O_SignReader_take_number := ok_SignReader_take_number (P := P) (w := w) (base := base) T
  obtain ⟨fd, F⟩ : ∃ fd, FunD K "_read_count" "_read_count" (defArgs s_read_count) (defBody s_read_count) (defScope s_read_count) [] [] (He.fAd K ("_read_count", none)) fd := T.says.d.def_ 55 rfl
  refine ⟨fd, [], F.ok sc_read_count (fun vs H Q E h => ?_) (fun cdv A outer s H vs Q E hr h => ?_), .nil, F.bindsN (fun _ _ _ _ _ _ us hl => match us, hl with | [_, _, _], _ => rfl), F.kp⟩
  · obtain ⟨_, _, rfl, _⟩ := h; rfl
  · refine ⟨_, PSs.nox (pss_cons (ps_for PassesOwn.never rfl (pi_listK K (pv 1)) (pg_name (i := 3) sc_read_count.nd rfl (by first | exact Or.inl rfl | exact Or.inr rfl)) (pss_one (ps_expr (pe_mt (pv 0) O_SignReader_take T.c_SignReader T.m_SignReader_take hr (by decide) (pa_cons pe_str (pa_cons (pv 3) pa_nil))))))
    (pss_cons (ps_set (i := 4) sc_read_count.nd rfl (by first | exact Or.inl rfl | exact Or.inr rfl) (pe_mt (pv 0) O_SignReader_take_number T.c_SignReader T.m_SignReader_take_number hr (by decide) (pa_cons (pv 2) pa_nil)))
    (pss_cons (ps_expr (pe_mt (pv 0) O_SignReader_take T.c_SignReader T.m_SignReader_take hr (by decide) (pa_cons pe_str (pa_cons pe_str pa_nil))))
    (pss_one (ps_ret (pv 4)))))), ?_⟩
    obtain ⟨⟨⟨v2, ws, lst, n, ts⟩, x⟩, F0, rfl, fh, hrd, ⟨h2, hz⟩, k⟩ := h
    dsimp only at hrd h2 hz k ⊢
    have G0 := gr_del (d := x) fh
    obtain ⟨a2, rfl, ha2⟩ := kLS h2
    walk_at "s"
    refine ⟨a2, rfl, ⟨_, SqL.of (fh _ _ ha2)⟩, ?_⟩
    refine for_kL (r := kS) (xs := ws) G0 ha2 (kS_all _) (fun i σ F H' => ∃ y1 y2, σ = [some (.ref x), some (.ref a2), some (.int lst), y1, y2] ∧ RdS K F H' x ((ws.drop i).map nameT ++ numT n :: symT ";" :: ts)) ⟨_, _, rfl, hrd⟩ ?_ ?_
    · rintro i w v σ1 F1 H1 N hx hi hv G1 s1 ⟨y1, y2, rfl, hrd1⟩ kN
      obtain rfl : v = .str w := hv
      have ed : ws.drop i = w :: ws.drop (i + 1) := by
        obtain ⟨hi2, e⟩ := List.getElem?_eq_some_iff.mp hx
        rw [← e, List.getElem_cons_drop]
      rw [ed] at hrd1
      obtain ⟨dx1, a1, i1, hx1⟩ := hrd1.at
      walk_at "s"
      refine ⟨x, dx1, rdFs a1 i1, rfl, hx1, rfl, ?_⟩
      walk_at "s"
      refine ⟨(("name", w, _), x), F1, rfl, G1.fh, hrd1, (show ("name" : Str) ≠ "fault" by decide), fun v F2 H2 g2 hrd2 _ => ?_⟩
      walk_at "s"
      exact kN _ _ _ (transD G1 g2 hrd2.fx) g2.ff ⟨_, _, rfl, hrd2⟩
    · rintro σ1 F1 H1 G1 s1 ⟨y1, y2, rfl, hrd1⟩
      rw [List.drop_length] at hrd1
      obtain ⟨dx1, a1, i1, hx1⟩ := hrd1.at
      walk_at "s"
      refine ⟨x, dx1, rdFs a1 i1, rfl, hx1, rfl, ?_⟩
      walk_at "s"
      refine ⟨((lst, n, _), x), F1, rfl, G1.fh, hrd1, hz, fun v F2 H2 g2 hrd2 hv => ?_⟩
      obtain rfl : v = .int n := hv
      have G2 := transD G1 g2 hrd2.fx
      obtain ⟨dx2, a2', i2, hx2⟩ := hrd2.at
      walk_at "s"
      refine ⟨x, dx2, rdFs a2' i2, rfl, hx2, rfl, ?_⟩
      walk_at "s"
      refine ⟨(("symbol", ";", _), x), F2, rfl, G2.fh, hrd2, (show ("symbol" : Str) ≠ "fault" by decide), fun v F5 H5 g5 hrd5 _ => ?_⟩
      walk_at "s"
      exact k _ _ _ (transD G2 g5 hrd5.fx) hrd5 rfl
def sp_Rules_init (K : PySem.W.Frag) : Sp := fun vs H Q _ => ∃ (u dx : Addr) (F : Hp), vs = [.ref u] ∧ Same F H ∧ Own F H u (.ins (He.ga K "Rules") dx []) ∧ ∀ F' H' fs, Gr F (del H u) F' H' → Own F' H' u (.ins (He.ga K "Rules") dx fs) → fs.length ≤ 17 → Q .non H'
theorem len_Rules_init {K : PySem.W.Frag} {vs : List V} {H : Hp} {Q : VK} {E : XK} (h : sp_Rules_init K vs H Q E) : vs.length = ["self"].length := by
  obtain ⟨_, _, _, rfl, _⟩ := h
  rfl
theorem ok_Rules_init {P : Program} {w : World} {K : PySem.W.Frag} {mg : Str → Option Value} {base : Heap} (T : Tx K mg) : Okd P w K mg base 1 ("Rules", some "__init__") ["self"] [] (sp_Rules_init K) := by
  obtain ⟨fd, F⟩ : ∃ fd, FunD K "__init__" "Rules.__init__" (defArgs s_Rules_init) (defBody s_Rules_init) (defScope s_Rules_init) [] [] (He.fAd K ("Rules", some "__init__")) fd := T.says.d.def_ 37 rfl
  refine ⟨fd, [], F.ok sc_Rules_init (fun vs H Q E h => ?_) (fun cdv A outer s H vs Q E hr h => ?_), .nil, F.bindsN (fun _ _ _ _ _ _ us hl => match us, hl with | [_], _ => rfl), F.kp⟩
  · exact len_Rules_init h
  · refine ⟨_, PSs.nox (pss_cons (ps_fldK K (pv 0) (pe_lst pa_nil) rfl)
    (pss_cons (ps_fldK K (pv 0) (pe_lst pa_nil) rfl)
    (pss_cons (ps_fldK K (pv 0) (pe_lst pa_nil) rfl)
    (pss_cons (ps_fldK K (pv 0) pe_int rfl)
    (pss_cons (ps_fldK K (pv 0) pe_int rfl)
    (pss_cons (ps_fldK K (pv 0) (pe_lst pa_nil) rfl)
    (pss_cons (ps_fldK K (pv 0) pe_str rfl)
    (pss_cons (ps_fldK K (pv 0) pe_int rfl)
    (pss_cons (ps_fldK K (pv 0) (pe_lst pa_nil) rfl)
    (pss_cons (ps_fldK K (pv 0) pe_int rfl)
    (pss_cons (ps_fldK K (pv 0) pe_int rfl)
    (pss_cons (ps_fldK K (pv 0) pe_int rfl)
    (pss_cons (ps_fldK K (pv 0) pe_int rfl)
    (pss_cons (ps_fldK K (pv 0) pe_int rfl)
    (pss_cons (ps_fldK K (pv 0) pe_int rfl)
    (pss_cons (ps_fldK K (pv 0) pe_int rfl)
    (pss_one (ps_fldK K (pv 0) pe_int rfl)))))))))))))))))), ?_⟩
    obtain ⟨x, dx, F0, rfl, fh, ox, k⟩ := h
    have G0 := gr_del (d := x) fh
    walk_at "s"
    refine ⟨x_lt (by decide), fun q1 J1 nq1 => ?_⟩
    obtain ⟨gq1, _⟩ := nq1.own G0.fh
    walk_at "s"
    refine x_sf (G0.trans gq1) (ox.go gq1) del_same T.c_Rules T.a_Rules_sources (Nat.zero_le _) fun H1 f1 e1 l1 G1 o1 => ?_
    simp only [List.length_nil] at l1
    walk_at "s"
    refine ⟨x_lt (by decide), fun q2 J2 nq2 => ?_⟩
    obtain ⟨gq2, _⟩ := nq2.own G1.fh
    walk_at "s"
    refine x_sf (G1.trans gq2) (o1.go gq2) del_same T.c_Rules T.a_Rules_changes (by omega) fun H2 f2 e2 l2 G2 o2 => ?_
    walk_at "s"
    refine ⟨x_lt (by decide), fun q3 J3 nq3 => ?_⟩
    obtain ⟨gq3, _⟩ := nq3.own G2.fh
    walk_at "s"
    refine x_sf (G2.trans gq3) (o2.go gq3) del_same T.c_Rules T.a_Rules_banned (by omega) fun H3 f3 e3 l3 G3 o3 => ?_
    walk_at "s"
    refine x_sf G3 o3 del_same T.c_Rules T.a_Rules_line_words (by omega) fun H4 f4 e4 l4 G4 o4 => ?_
    walk_at "s"
    refine x_sf G4 o4 del_same T.c_Rules T.a_Rules_line_documents (by omega) fun H5 f5 e5 l5 G5 o5 => ?_
    walk_at "s"
    refine ⟨x_lt (by decide), fun q6 J6 nq6 => ?_⟩
    obtain ⟨gq6, _⟩ := nq6.own G5.fh
    walk_at "s"
    refine x_sf (G5.trans gq6) (o5.go gq6) del_same T.c_Rules T.a_Rules_hidden (by omega) fun H6 f6 e6 l6 G6 o6 => ?_
    walk_at "s"
    refine x_sf G6 o6 del_same T.c_Rules T.a_Rules_mark (by omega) fun H7 f7 e7 l7 G7 o7 => ?_
    walk_at "s"
    refine x_sf G7 o7 del_same T.c_Rules T.a_Rules_document_words (by omega) fun H8 f8 e8 l8 G8 o8 => ?_
    walk_at "s"
    refine ⟨x_lt (by decide), fun q9 J9 nq9 => ?_⟩
    obtain ⟨gq9, _⟩ := nq9.own G8.fh
    walk_at "s"
    refine x_sf (G8.trans gq9) (o8.go gq9) del_same T.c_Rules T.a_Rules_shares (by omega) fun H9 f9 e9 l9 G9 o9 => ?_
    walk_at "s"
    refine x_sf G9 o9 del_same T.c_Rules T.a_Rules_alike_least (by omega) fun H10 f10 e10 l10 G10 o10 => ?_
    walk_at "s"
    refine x_sf G10 o10 del_same T.c_Rules T.a_Rules_alike_of (by omega) fun H11 f11 e11 l11 G11 o11 => ?_
    walk_at "s"
    refine x_sf G11 o11 del_same T.c_Rules T.a_Rules_run_words (by omega) fun H12 f12 e12 l12 G12 o12 => ?_
    walk_at "s"
    refine x_sf G12 o12 del_same T.c_Rules T.a_Rules_phrase_words (by omega) fun H13 f13 e13 l13 G13 o13 => ?_
    walk_at "s"
    refine x_sf G13 o13 del_same T.c_Rules T.a_Rules_piece_words (by omega) fun H14 f14 e14 l14 G14 o14 => ?_
    walk_at "s"
    refine x_sf G14 o14 del_same T.c_Rules T.a_Rules_join_limit (by omega) fun H15 f15 e15 l15 G15 o15 => ?_
    walk_at "s"
    refine x_sf G15 o15 del_same T.c_Rules T.a_Rules_page_codes (by omega) fun H16 f16 e16 l16 G16 o16 => ?_
    walk_at "s"
    refine x_sf G16 o16 del_same T.c_Rules T.a_Rules_volume_pages (by omega) fun H17 f17 e17 l17 G17 o17 => ?_
    walk_at "s"
    exact k _ _ _ G17 o17 (by omega)
/-! D_read6.src -/
theorem Gr.delx {F0 H F1 H1 : Hp} {x : Addr} (G : Gr F0 H F1 H1) (zx : H x = none) (fx : F1 x = none) : Gr F0 H F1 (del H1 x) :=
  ⟨G.ff, fun b o e => by rw [del_ne (ne_of_none e fx)]; exact G.fh b o e, fun b o e => by rw [del_ne (ne_of_none e zx)]; exact G.hh b o e, G.nw⟩
theorem del_none {H : Hp} {x y : Addr} (h : H y = none) : (del H x) y = none := by
  unfold del
  split
  · rfl
  · exact h
/-- the rules object, not at x -/
theorem RdS.chx {K : PySem.W.Frag} {F H H' : Hp} {x u : Addr} {o : HO} {ts : List Tk} (h : RdS K F H x ts) (n : u ≠ x) (c : Chg H u o H') : RdS K F H' x ts := by
  obtain ⟨dx, a, i, vs, sg, ox, hh⟩ := h
  exact ⟨dx, a, i, vs, sg, c.ne ox n.symm, hh⟩
/-- a field of one's own object set, the reader kept -/
theorem x_sfr {K : PySem.W.Frag} {F0 H0 F H : Hp} {P : Hp → Prop} {x u C dx : Addr} {ts : List Tk} {fs : List (Str × V)} {f : Str} {v : V} (G : Gr F0 H0 F H) (o : Own F H u (.ins C dx fs)) (z : H0 u = none) (hrd : RdS K F H x ts) (nu : u ≠ x) (hc : Cls K C) (hn : NoAttr K C f) (hl : fs.length ≤ 100)
    (k : ∀ H', Gr F0 H0 F H' → Own F H' u (.ins C dx (putF f v fs)) → RdS K F H' x ts → (putF f v fs).length ≤ fs.length + 1 → P H') :
    ∃ a C' dx' fs', V.ref u = .ref a ∧ H a = some (.ins C' dx' fs') ∧ Cls K C' ∧ NoAttr K C' f ∧ fs'.length < 1000 ∧ P (upd H a (.ins C' dx' (putF f v fs'))) := by
  have c : Chg H u (.ins C dx (putF f v fs)) (upd H u (.ins C dx (putF f v fs))) := rfl
  exact ⟨u, C, dx, fs, rfl, o.h, hc, hn, by omega, k _ (c.gr G o.f z) (c.own o) (hrd.chx nu c) (length_putF f v fs)⟩
def alikeT (al ao rw : Int) (tl : List Tk) : List Tk := nameT "alike" :: numT al :: nameT "of" :: numT ao :: symT "," :: nameT "runs" :: nameT "of" :: numT rw :: symT ";" :: tl
def putAl (al ao rw : Int) (fs : List (Str × V)) : List (Str × V) := putF "run_words" (.int rw) (putF "alike_of" (.int ao) (putF "alike_least" (.int al) fs))
def sp_read_alike (K : PySem.W.Frag) : Sp := fun vs H Q _ => ∃ (x u dx : Addr) (F : Hp) (fs : List (Str × V)) (al ao rw : Int) (tl : List Tk), vs = [.ref x, .ref u] ∧ Same F H ∧ RdS K F H x (alikeT al ao rw tl) ∧ Own F H u (.ins (He.ga K "Rules") dx fs) ∧ u ≠ x ∧ fs.length ≤ 50 ∧ 1 ≤ al ∧ al ≤ ao ∧ 1 ≤ rw ∧
  ∀ F' H', Gr F (del (del H x) u) F' H' → RdS K F' H' x tl → Own F' H' u (.ins (He.ga K "Rules") dx (putAl al ao rw fs)) → (putAl al ao rw fs).length ≤ fs.length + 3 → Q .non H'
theorem len_read_alike {K : PySem.W.Frag} {vs : List V} {H : Hp} {Q : VK} {E : XK} (h : sp_read_alike K vs H Q E) : vs.length = ["reader", "rules"].length := by
  obtain ⟨_, _, _, _, _, _, _, _, _, rfl, _⟩ := h
  rfl
theorem ok_read_alike {P : Program} {w : World} {K : PySem.W.Frag} {mg : Str → Option Value} {base : Heap} (T : Tx K mg) : Okd P w K mg base 4 ("_read_alike", none) ["reader", "rules"] [] (sp_read_alike K) := by
  have O_SignReader_take := ok_SignReader_take (P := P) (w := w) (base := base) T
  have O_SignReader_take_number := ok_SignReader_take_number (P := P) (w := w) (base := base) T
  have O_SignReader_take_second := ok_SignReader_take_second (P := P) (w := w) (base := base) T
  obtain ⟨fd, F⟩ : ∃ fd, FunD K "_read_alike" "_read_alike" (defArgs s_read_alike) (defBody s_read_alike) (defScope s_read_alike) [] [] (He.fAd K ("_read_alike", none)) fd := T.says.d.def_ 54 rfl
  refine ⟨fd, [], F.ok sc_read_alike (fun vs H Q E h => ?_) (fun cdv A outer s H vs Q E hr h => ?_), .nil, F.bindsN (fun _ _ _ _ _ _ us hl => match us, hl with | [_, _], _ => rfl), F.kp⟩
  · exact len_read_alike h
  · refine ⟨_, PSs.nox (pss_cons (ps_expr (pe_mt (pv 0) O_SignReader_take T.c_SignReader T.m_SignReader_take hr (by decide) (pa_cons pe_str (pa_cons pe_str pa_nil))))
    (pss_cons (ps_fldK K (pv 1) (pe_mt (pv 0) O_SignReader_take_number T.c_SignReader T.m_SignReader_take_number hr (by decide) (pa_cons pe_int pa_nil)) rfl)
    (pss_cons (ps_expr (pe_mt (pv 0) O_SignReader_take T.c_SignReader T.m_SignReader_take hr (by decide) (pa_cons pe_str (pa_cons pe_str pa_nil))))
    (pss_cons (ps_fldK K (pv 1) (pe_mt (pv 0) O_SignReader_take_second T.c_SignReader T.m_SignReader_take_second hr (by decide) (pa_cons (pe_fldK K (pv 1)) pa_nil)) rfl)
    (pss_cons (ps_expr (pe_mt (pv 0) O_SignReader_take T.c_SignReader T.m_SignReader_take hr (by decide) (pa_cons pe_str (pa_cons pe_str pa_nil))))
    (pss_cons (ps_expr (pe_mt (pv 0) O_SignReader_take T.c_SignReader T.m_SignReader_take hr (by decide) (pa_cons pe_str (pa_cons pe_str pa_nil))))
    (pss_cons (ps_expr (pe_mt (pv 0) O_SignReader_take T.c_SignReader T.m_SignReader_take hr (by decide) (pa_cons pe_str (pa_cons pe_str pa_nil))))
    (pss_cons (ps_fldK K (pv 1) (pe_mt (pv 0) O_SignReader_take_number T.c_SignReader T.m_SignReader_take_number hr (by decide) (pa_cons pe_int pa_nil)) rfl)
    (pss_one (ps_expr (pe_mt (pv 0) O_SignReader_take T.c_SignReader T.m_SignReader_take hr (by decide) (pa_cons pe_str (pa_cons pe_str pa_nil))))))))))))), ?_⟩
    obtain ⟨x, u, dx, F0, fs, al, ao, rw, tl, rfl, fh, hrd, ou, nux, hfl, h1, h2, h3, k⟩ := h
    have zx : (del (del H x) u) x = none := del_none del_same
    have zu : (del (del H x) u) u = none := del_same
    have fh1 : Same F0 (del H x) := fun b o e => by rw [del_ne (ne_of_none e hrd.fx)]; exact fh b o e
    have G0 : Gr F0 (del (del H x) u) F0 H := ⟨Same.refl _, fh, fun b o e => by
      by_cases q : b = u
      · subst q; rw [del_same] at e; cases e
      · rw [del_ne q] at e
        by_cases q2 : b = x
        · subst q2; rw [del_same] at e; cases e
        · rw [del_ne q2] at e; exact e, fun _ _ h => h⟩
    unfold alikeT at hrd
    obtain ⟨dx0, a0, i0, hx0⟩ := hrd.at
    walk_at "s"
    refine ⟨x, dx0, rdFs a0 i0, rfl, hx0, rfl, ?_⟩
    walk_at "s"
    refine ⟨(("name", "alike", _), x), F0, rfl, fh, hrd, (show ("name" : Str) ≠ "fault" by decide), fun v F1 H1 g1 hrd1 _ => ?_⟩
    dsimp only at hrd1
    have G1 := gr_undel G0 zx g1 hrd1.fx
    have ou := ou.goD nux g1
    obtain ⟨dx1, a1, i1, hx1⟩ := hrd1.at
    walk_at "s"
    refine ⟨x, dx1, rdFs a1 i1, rfl, hx1, rfl, ?_⟩
    walk_at "s"
    refine ⟨((1, al, _), x), F1, rfl, G1.fh, hrd1, h1, fun v F2 H2 g2 hrd2 hv => ?_⟩
    obtain rfl : v = .int al := hv
    dsimp only at hrd2
    have G2 := gr_undel G1 zx g2 hrd2.fx
    have ou := ou.goD nux g2
    walk_at "s"
    refine x_sfr G2 ou zu hrd2 nux T.c_Rules T.a_Rules_alike_least (by omega) fun H3 G3 ou hrd3 l3 => ?_
    obtain ⟨dx3, a3, i3, hx3⟩ := hrd3.at
    walk_at "s"
    refine ⟨x, dx3, rdFs a3 i3, rfl, hx3, rfl, ?_⟩
    walk_at "s"
    refine ⟨(("name", "of", _), x), F2, rfl, G3.fh, hrd3, (show ("name" : Str) ≠ "fault" by decide), fun v F4 H4 g4 hrd4 _ => ?_⟩
    dsimp only at hrd4
    have G4 := gr_undel G3 zx g4 hrd4.fx
    have ou := ou.goD nux g4
    obtain ⟨dx4, a4, i4, hx4⟩ := hrd4.at
    walk_at "s"
    refine ⟨x, dx4, rdFs a4 i4, rfl, hx4, rfl, ?_⟩
    walk_at "s"
    refine ⟨_, _, _, _, _, rfl, ou.h, T.c_Rules, T.a_Rules_alike_least, put_eq, ?_⟩
    walk_at "s"
    refine ⟨((al, ao, _), x), F4, rfl, G4.fh, hrd4, h2, fun v F5 H5 g5 hrd5 hv => ?_⟩
    obtain rfl : v = .int ao := hv
    dsimp only at hrd5
    have G5 := gr_undel G4 zx g5 hrd5.fx
    have ou := ou.goD nux g5
    walk_at "s"
    refine x_sfr G5 ou zu hrd5 nux T.c_Rules T.a_Rules_alike_of (by omega) fun H6 G6 ou hrd6 l6 => ?_
    obtain ⟨dx6, a6, i6, hx6⟩ := hrd6.at
    walk_at "s"
    refine ⟨x, dx6, rdFs a6 i6, rfl, hx6, rfl, ?_⟩
    walk_at "s"
    refine ⟨(("symbol", ",", _), x), F5, rfl, G6.fh, hrd6, (show ("symbol" : Str) ≠ "fault" by decide), fun v F7 H7 g7 hrd7 _ => ?_⟩
    dsimp only at hrd7
    have G7 := gr_undel G6 zx g7 hrd7.fx
    have ou := ou.goD nux g7
    obtain ⟨dx7, a7, i7, hx7⟩ := hrd7.at
    walk_at "s"
    refine ⟨x, dx7, rdFs a7 i7, rfl, hx7, rfl, ?_⟩
    walk_at "s"
    refine ⟨(("name", "runs", _), x), F7, rfl, G7.fh, hrd7, (show ("name" : Str) ≠ "fault" by decide), fun v F8 H8 g8 hrd8 _ => ?_⟩
    dsimp only at hrd8
    have G8 := gr_undel G7 zx g8 hrd8.fx
    have ou := ou.goD nux g8
    obtain ⟨dx8, a8, i8, hx8⟩ := hrd8.at
    walk_at "s"
    refine ⟨x, dx8, rdFs a8 i8, rfl, hx8, rfl, ?_⟩
    walk_at "s"
    refine ⟨(("name", "of", _), x), F8, rfl, G8.fh, hrd8, (show ("name" : Str) ≠ "fault" by decide), fun v F9 H9 g9 hrd9 _ => ?_⟩
    dsimp only at hrd9
    have G9 := gr_undel G8 zx g9 hrd9.fx
    have ou := ou.goD nux g9
    obtain ⟨dx9, a9, i9, hx9⟩ := hrd9.at
    walk_at "s"
    refine ⟨x, dx9, rdFs a9 i9, rfl, hx9, rfl, ?_⟩
    walk_at "s"
    refine ⟨((1, rw, _), x), F9, rfl, G9.fh, hrd9, h3, fun v F10 H10 g10 hrd10 hv => ?_⟩
    obtain rfl : v = .int rw := hv
    dsimp only at hrd10
    have G10 := gr_undel G9 zx g10 hrd10.fx
    have ou := ou.goD nux g10
    walk_at "s"
    refine x_sfr G10 ou zu hrd10 nux T.c_Rules T.a_Rules_run_words (by omega) fun H11 G11 ou hrd11 l11 => ?_
    obtain ⟨dx11, a11, i11, hx11⟩ := hrd11.at
    walk_at "s"
    refine ⟨x, dx11, rdFs a11 i11, rfl, hx11, rfl, ?_⟩
    walk_at "s"
    refine ⟨(("symbol", ";", _), x), F10, rfl, G11.fh, hrd11, (show ("symbol" : Str) ≠ "fault" by decide), fun v F12 H12 g12 hrd12 _ => ?_⟩
    have G12 := gr_undel G11 zx g12 hrd12.fx
    have ou := ou.goD nux g12
    walk_at "s"
    exact k _ _ G12 hrd12 ou (by unfold putAl; omega)
/-! D_read7.src -/
theorem x_sfrC {β : Type} {q : β} {K : PySem.W.Frag} {F0 H0 F H : Hp} {P : Hp → β → Prop} {x u C dx : Addr} {ts : List Tk} {fs : List (Str × V)} {f : Str} {v : V} (G : Gr F0 H0 F H) (o : Own F H u (.ins C dx fs)) (z : H0 u = none) (hrd : RdS K F H x ts) (nu : u ≠ x) (hc : Cls K C) (hn : NoAttr K C f) (hl : fs.length ≤ 100)
    (k : ∀ H', Gr F0 H0 F H' → Own F H' u (.ins C dx (putF f v fs)) → RdS K F H' x ts → (putF f v fs).length ≤ fs.length + 1 → P H' q) :
    ∃ a C' dx' fs', V.ref u = .ref a ∧ H a = some (.ins C' dx' fs') ∧ Cls K C' ∧ NoAttr K C' f ∧ fs'.length < 1000 ∧ P (upd H a (.ins C' dx' (putF f v fs'))) q := x_sfr (P := fun h => P h q) G o z hrd nu hc hn hl k
/-- the signs of the rules -/
def ruleT (src : List (Str × Int)) (mk : Str) (d al ao rw pw pi jo pc vp : Int) : List Tk := nameT "sources" :: srcT src (nameT "mark" :: ("quoted", .str mk) :: symT ";" :: (["documents", "least"] : List Str).map nameT ++ numT d :: symT ";" :: alikeT al ao rw ((["phrases"] : List Str).map nameT ++ numT pw :: symT ";" :: ((["pieces", "least"] : List Str).map nameT ++ numT pi :: symT ";" :: ((["joins"] : List Str).map nameT ++ numT jo :: symT ";" :: ((["pages"] : List Str).map nameT ++ numT pc :: symT ";" :: ((["volumes"] : List Str).map nameT ++ numT vp :: symT ";" :: [endT]))))))
def sp_parse_rules (K : PySem.W.Frag) : Sp := SpOf (ι := Str × List Tk × RU × Int) (fun i => [.str i.1]) (fun ⟨z, ts, r, vp⟩ _ => Lex z.cps.toList ts ∧ z.length ≤ 100000 ∧ ts ++ [endT] = ruleT r.src r.mark r.dw r.al r.ao r.rw r.pw r.pi r.jo r.pc vp ∧ SrcOk r.src ∧ WordOk r.mark ∧ 1 ≤ r.dw ∧ 1 ≤ r.al ∧ r.al ≤ r.ao ∧ 1 ≤ r.rw ∧ 1 ≤ r.pw ∧ 1 ≤ r.pi ∧ 0 ≤ r.jo ∧ 1 ≤ r.pc ∧ 1 ≤ vp) (fun ⟨_, _, r, _⟩ F v => (kRu K).p F v r)
theorem ok_parse_rules {P : Program} {w : World} {K : PySem.W.Frag} {mg : Str → Option Value} {base : Heap} (T : Tx K mg) : Okd P w K mg base 5 ("parse_rules", none) ["text"] [] (sp_parse_rules K) := by
  have O_SignReader_init := ok_SignReader_init (P := P) (w := w) (base := base) T
  have O_read_signs := ok_read_signs (P := P) (w := w) (base := base) T
  have O_Rules_init := ok_Rules_init (P := P) (w := w) (base := base) T
  have O_read_sources := ok_read_sources (P := P) (w := w) (base := base) T
  have O_read_changes := ok_read_changes (P := P) (w := w) (base := base) T
  have O_read_banned := ok_read_banned (P := P) (w := w) (base := base) T
  have O_read_lines := ok_read_lines (P := P) (w := w) (base := base) T
  have O_read_hidden := ok_read_hidden (P := P) (w := w) (base := base) T
  have O_read_mark := ok_read_mark (P := P) (w := w) (base := base) T
  have O_read_count := ok_read_count (P := P) (w := w) (base := base) T
  have O_read_shares := ok_read_shares (P := P) (w := w) (base := base) T
  have O_read_alike := ok_read_alike (P := P) (w := w) (base := base) T
  have O_SignReader_demand := ok_SignReader_demand (P := P) (w := w) (base := base) T
  obtain ⟨fd, F⟩ : ∃ fd, FunD K "parse_rules" "parse_rules" (defArgs s_parse_rules) (defBody s_parse_rules) (defScope s_parse_rules) [] [] (He.fAd K ("parse_rules", none)) fd := T.says.d.def_ 56 rfl
  refine ⟨fd, [], F.ok sc_parse_rules (fun vs H Q E h => ?_) (fun cdv A outer s H vs Q E hr h => ?_), .nil, F.bindsN (fun _ _ _ _ _ _ us hl => match us, hl with | [_], _ => rfl), F.kp⟩
  · obtain ⟨_, _, rfl, _⟩ := h; rfl
  · refine ⟨_, PSs.nox (pss_cons (ps_set (i := 1) sc_parse_rules.nd rfl (by first | exact Or.inl rfl | exact Or.inr rfl) (pe_mk O_SignReader_init T.mk_SignReader T.n_SignReader hr (by decide) (by rfl) (pa_cons (pe_ok O_read_signs T.n_read_signs hr (by decide) (by rfl) (pa_cons (pv 0) pa_nil)) pa_nil)))
    (pss_cons (ps_set (i := 2) sc_parse_rules.nd rfl (by first | exact Or.inl rfl | exact Or.inr rfl) (pe_mk0 O_Rules_init T.mk_Rules T.n_Rules hr (by decide) (by rfl)))
    (pss_cons (ps_fldK K (pv 2) (pe_ok O_read_sources T.n_read_sources hr (by decide) (by rfl) (pa_cons (pv 1) pa_nil)) rfl)
    (pss_cons (ps_fldK K (pv 2) (pe_ok O_read_changes T.n_read_changes hr (by decide) (by rfl) (pa_cons (pv 1) pa_nil)) rfl)
    (pss_cons (ps_fldK K (pv 2) (pe_ok O_read_banned T.n_read_banned hr (by decide) (by rfl) (pa_cons (pv 1) pa_nil)) rfl)
    (pss_cons (ps_asg (pe_ok O_read_lines T.n_read_lines hr (by decide) (by rfl) (pa_cons (pv 1) pa_nil)) (pg_tupK K rfl (pgs_cons (pg_fld K (pv 2)) (pgs_cons (pg_fld K (pv 2)) pgs_nil))))
    (pss_cons (ps_fldK K (pv 2) (pe_ok O_read_hidden T.n_read_hidden hr (by decide) (by rfl) (pa_cons (pv 1) pa_nil)) rfl)
    (pss_cons (ps_fldK K (pv 2) (pe_ok O_read_mark T.n_read_mark hr (by decide) (by rfl) (pa_cons (pv 1) (pa_cons (pe_fldK K (pv 2)) pa_nil))) rfl)
    (pss_cons (ps_fldK K (pv 2) (pe_ok O_read_count T.n_read_count hr (by decide) (by rfl) (pa_cons (pv 1) (pa_cons (pe_lst (pa_cons pe_str (pa_cons pe_str pa_nil))) (pa_cons pe_int pa_nil)))) rfl)
    (pss_cons (ps_fldK K (pv 2) (pe_ok O_read_shares T.n_read_shares hr (by decide) (by rfl) (pa_cons (pv 1) pa_nil)) rfl)
    (pss_cons (ps_expr (pe_ok O_read_alike T.n_read_alike hr (by decide) (by rfl) (pa_cons (pv 1) (pa_cons (pv 2) pa_nil))))
    (pss_cons (ps_fldK K (pv 2) (pe_ok O_read_count T.n_read_count hr (by decide) (by rfl) (pa_cons (pv 1) (pa_cons (pe_lst (pa_cons pe_str pa_nil)) (pa_cons pe_int pa_nil)))) rfl)
    (pss_cons (ps_fldK K (pv 2) (pe_ok O_read_count T.n_read_count hr (by decide) (by rfl) (pa_cons (pv 1) (pa_cons (pe_lst (pa_cons pe_str (pa_cons pe_str pa_nil))) (pa_cons pe_int pa_nil)))) rfl)
    (pss_cons (ps_fldK K (pv 2) (pe_ok O_read_count T.n_read_count hr (by decide) (by rfl) (pa_cons (pv 1) (pa_cons (pe_lst (pa_cons pe_str pa_nil)) (pa_cons pe_int pa_nil)))) rfl)
    (pss_cons (ps_fldK K (pv 2) (pe_ok O_read_count T.n_read_count hr (by decide) (by rfl) (pa_cons (pv 1) (pa_cons (pe_lst (pa_cons pe_str pa_nil)) (pa_cons pe_int pa_nil)))) rfl)
    (pss_cons (ps_fldK K (pv 2) (pe_ok O_read_count T.n_read_count hr (by decide) (by rfl) (pa_cons (pv 1) (pa_cons (pe_lst (pa_cons pe_str pa_nil)) (pa_cons pe_int pa_nil)))) rfl)
    (pss_cons (ps_expr (pe_mt (pv 1) O_SignReader_demand T.c_SignReader T.m_SignReader_demand hr (by decide) (pa_cons pe_str pa_nil)))
    (pss_one (ps_ret (pv 2)))))))))))))))))))), ?_⟩
    obtain ⟨⟨z, ts, r, vp⟩, F0, rfl, fh, ⟨hlex, hz, hts, hsrc, hmk, q1, q2, q3, q4, q5, q6, q7, q8, q9⟩, k⟩ := h
    dsimp only at hlex hz hts hsrc hmk q1 q2 q3 q4 q5 q6 q7 q8 q9 k ⊢
    walk_at "s"
    refine ⟨(z, ts), F0, rfl, fh, ⟨hlex, hz⟩, fun v1 F1 H1 g1 hv1 => ?_⟩
    obtain ⟨sg, hsg, esg⟩ := hv1

    walk_at "s"
    intro x dx nx ndx nxd
    have gA : Gr F1 H1 F1 (upd H1 dx (.own x)) := Gr.newM g1.fh ndx
    have fx : (upd H1 dx (.own x)) x = none := by rw [upd_ne nxd.symm]; exact nx
    have gB : Gr F1 (upd H1 dx (.own x)) F1 (upd (upd H1 dx (.own x)) x (.ins (He.ga K "SignReader") dx [])) := Gr.newM gA.fh fx
    have ox : Own F1 (upd (upd H1 dx (.own x)) x (.ins (He.ga K "SignReader") dx [])) x (.ins (He.ga K "SignReader") dx []) := ⟨upd_same, g1.fh.free nx⟩
    have G1 := g1.trans (gA.trans gB)
    have zx : H x = none := g1.hh.free nx
    refine ⟨x, dx, F1, v1, sg, rfl, G1.fh, ox, hsg, fun F2 H2 g2 hrd2 => ⟨rfl, ?_⟩⟩
    rw [esg, hts] at hrd2
    have G2 := gr_undel G1 zx g2 hrd2.fx
    walk_at "s"
    intro u du nu ndu nud
    have gC : Gr F2 H2 F2 (upd H2 du (.own u)) := Gr.newM G2.fh ndu
    have fu : (upd H2 du (.own u)) u = none := by rw [upd_ne nud.symm]; exact nu
    have gD : Gr F2 (upd H2 du (.own u)) F2 (upd (upd H2 du (.own u)) u (.ins (He.ga K "Rules") du [])) := Gr.newM gC.fh fu
    have ou2 : Own F2 (upd (upd H2 du (.own u)) u (.ins (He.ga K "Rules") du [])) u (.ins (He.ga K "Rules") du []) := ⟨upd_same, G2.fh.free nu⟩
    have nux : u ≠ x := hrd2.ne nu
    have gCD := gC.trans gD
    have G3 := G2.trans gCD
    have hrd3 := hrd2.go gCD
    have zu : H u = none := G2.hh.free nu
    refine ⟨u, du, F2, rfl, G3.fh, ou2, fun F4 H4 fs4 g4 ou4 l4 => ⟨rfl, ?_⟩⟩
    have G4 := gr_undel G3 zu g4 ou4.f
    have hrd4 : RdS K F4 H4 x (ruleT r.src r.mark r.dw r.al r.ao r.rw r.pw r.pi r.jo r.pc vp) := by
      obtain ⟨dx, a, i, vs, sg, ox, ha, hp, he⟩ := hrd3
      exact ⟨dx, a, i, vs, sg, ox.goD nux.symm g4, g4.up ha, L2.Paired.mapP hp fun _ _ h => kSg.mono g4.ff h, he⟩
    unfold ruleT at hrd4
    walk_at "s"
    refine ⟨((r.src, _), x), F4, rfl, G4.fh, hrd4, hsrc, fun v5 F5 H5 g5 hrd5 hv5 => ?_⟩
    try dsimp only at hrd5
    have G5 := gr_undel G4 zx g5 hrd5.fx
    have ou5 := ou4.goD nux g5
    walk_at "s"
    refine x_sfr G5 ou5 zu hrd5 nux T.c_Rules T.a_Rules_sources (by omega) fun H6 G6 ou6 hrd6 l6 => ?_
    walk_at "s"
    refine ⟨(("mark", _), x), F5, rfl, G6.fh, hrd6, (show ("mark" : Str) ≠ "change" by decide), fun v7 F7 H7 g7 hrd7 hv7 => ?_⟩
    try dsimp only at hrd7
    have G7 := gr_undel G6 zx g7 hrd7.fx
    have ou7 := ou6.goD nux g7
    walk_at "s"
    refine x_sfr G7 ou7 zu hrd7 nux T.c_Rules T.a_Rules_changes (by omega) fun H8 G8 ou8 hrd8 l8 => ?_
    walk_at "s"
    refine ⟨(("mark", _), x), F7, rfl, G8.fh, hrd8, (show ("mark" : Str) ≠ "ban" by decide), fun v9 F9 H9 g9 hrd9 hv9 => ?_⟩
    try dsimp only at hrd9
    have G9 := gr_undel G8 zx g9 hrd9.fx
    have ou9 := ou8.goD nux g9
    walk_at "s"
    refine x_sfr G9 ou9 zu hrd9 nux T.c_Rules T.a_Rules_banned (by omega) fun H10 G10 ou10 hrd10 l10 => ?_
    walk_at "s"
    refine ⟨(("mark", _), x), F9, rfl, G10.fh, hrd10, (show ("mark" : Str) ≠ "lines" by decide), fun v11 F11 H11 g11 hrd11 hv11 => ?_⟩
    try dsimp only at hrd11
    have G11 := gr_undel G10 zx g11 hrd11.fx
    have ou11 := ou10.goD nux g11
    obtain ⟨t11, rfl, ht11⟩ := k2I hv11
    refine x_gT (G11.fh _ _ ht11) rfl ?_
    walk_at "s"
    refine x_sfrC G11 ou11 zu hrd11 nux T.c_Rules T.a_Rules_line_words (by omega) fun H12 G12 ou12 hrd12 l12 => ?_
    walk_at "s"
    refine x_sfrC G12 ou12 zu hrd12 nux T.c_Rules T.a_Rules_line_documents (by omega) fun H13 G13 ou13 hrd13 l13 => ?_
    walk_at "s"
    refine ⟨(("mark", _), x), F11, rfl, G13.fh, hrd13, (show ("mark" : Str) ≠ "hide" by decide), fun v14 F14 H14 g14 hrd14 hv14 => ?_⟩
    try dsimp only at hrd14
    have G14 := gr_undel G13 zx g14 hrd14.fx
    have ou14 := ou13.goD nux g14
    walk_at "s"
    refine x_sfr G14 ou14 zu hrd14 nux T.c_Rules T.a_Rules_hidden (by omega) fun H15 G15 ou15 hrd15 l15 => ?_
    walk_at "s"
    refine ⟨_, _, _, _, _, rfl, ou15.h, T.c_Rules, T.a_Rules_hidden, put_eq, ?_⟩
    walk_at "s"
    refine ⟨((v14, r.mark, _), x), F14, rfl, G15.fh, hrd15, ⟨hv14, hmk⟩, fun v16 F16 H16 g16 hrd16 hv16 => ?_⟩
    try dsimp only at hrd16
    have G16 := gr_undel G15 zx g16 hrd16.fx
    have ou16 := ou15.goD nux g16
    obtain rfl : v16 = .str r.mark := hv16
    walk_at "s"
    refine x_sfr G16 ou16 zu hrd16 nux T.c_Rules T.a_Rules_mark (by omega) fun H17 G17 ou17 hrd17 l17 => ?_
    walk_at "s"
    refine ⟨x_lt (Nat.le_of_ble_eq_true rfl), fun w18 H18 n18 => ?_⟩
    obtain ⟨F18, g18, e18⟩ := n18.fix G17.fh
    have G18 := G17.trans g18
    have ou18 := ou17.go g18
    have hrd18 := hrd17.go g18
    walk_at "s"
    refine ⟨((.ref w18, ["documents", "least"], 1, r.dw, _), x), F18, rfl, G18.fh, hrd18, ⟨kLS' e18, q1⟩, fun v19 F19 H19 g19 hrd19 hv19 => ?_⟩
    try dsimp only at hrd19
    have G19 := gr_undel G18 zx g19 hrd19.fx
    have ou19 := ou18.goD nux g19
    obtain rfl : v19 = .int r.dw := hv19
    walk_at "s"
    refine x_sfr G19 ou19 zu hrd19 nux T.c_Rules T.a_Rules_document_words (by omega) fun H20 G20 ou20 hrd20 l20 => ?_
    walk_at "s"
    refine ⟨(("alike", _), x), F19, rfl, G20.fh, hrd20, (show ("alike" : Str) ≠ "share" by decide), fun v21 F21 H21 g21 hrd21 hv21 => ?_⟩
    try dsimp only at hrd21
    have G21 := gr_undel G20 zx g21 hrd21.fx
    have ou21 := ou20.goD nux g21
    walk_at "s"
    refine x_sfr G21 ou21 zu hrd21 nux T.c_Rules T.a_Rules_shares (by omega) fun H22 G22 ou22 hrd22 l22 => ?_
    walk_at "s"
    refine ⟨x, u, du, F21, _, r.al, r.ao, r.rw, _, rfl, G22.fh, hrd22, ou22, nux, by omega, q2, q3, q4, fun F23 H23 g23 hrd23 ou23 l23 => ?_⟩
    have G23 := gr_undel (G22.delx zx hrd22.fx) zu g23 ou23.f
    walk_at "s"
    refine ⟨x_lt (Nat.le_of_ble_eq_true rfl), fun w24 H24 n24 => ?_⟩
    obtain ⟨F24, g24, e24⟩ := n24.fix G23.fh
    have G24 := G23.trans g24
    have ou24 := ou23.go g24
    have hrd24 := hrd23.go g24
    walk_at "s"
    refine ⟨((.ref w24, ["phrases"], 1, r.pw, _), x), F24, rfl, G24.fh, hrd24, ⟨kLS' e24, q5⟩, fun v25 F25 H25 g25 hrd25 hv25 => ?_⟩
    try dsimp only at hrd25
    have G25 := gr_undel G24 zx g25 hrd25.fx
    have ou25 := ou24.goD nux g25
    obtain rfl : v25 = .int r.pw := hv25
    walk_at "s"
    refine x_sfr G25 ou25 zu hrd25 nux T.c_Rules T.a_Rules_phrase_words (by omega) fun H26 G26 ou26 hrd26 l26 => ?_
    walk_at "s"
    refine ⟨x_lt (Nat.le_of_ble_eq_true rfl), fun w27 H27 n27 => ?_⟩
    obtain ⟨F27, g27, e27⟩ := n27.fix G26.fh
    have G27 := G26.trans g27
    have ou27 := ou26.go g27
    have hrd27 := hrd26.go g27
    walk_at "s"
    refine ⟨((.ref w27, ["pieces", "least"], 1, r.pi, _), x), F27, rfl, G27.fh, hrd27, ⟨kLS' e27, q6⟩, fun v28 F28 H28 g28 hrd28 hv28 => ?_⟩
    try dsimp only at hrd28
    have G28 := gr_undel G27 zx g28 hrd28.fx
    have ou28 := ou27.goD nux g28
    obtain rfl : v28 = .int r.pi := hv28
    walk_at "s"
    refine x_sfr G28 ou28 zu hrd28 nux T.c_Rules T.a_Rules_piece_words (by omega) fun H29 G29 ou29 hrd29 l29 => ?_
    walk_at "s"
    refine ⟨x_lt (Nat.le_of_ble_eq_true rfl), fun w30 H30 n30 => ?_⟩
    obtain ⟨F30, g30, e30⟩ := n30.fix G29.fh
    have G30 := G29.trans g30
    have ou30 := ou29.go g30
    have hrd30 := hrd29.go g30
    walk_at "s"
    refine ⟨((.ref w30, ["joins"], 0, r.jo, _), x), F30, rfl, G30.fh, hrd30, ⟨kLS' e30, q7⟩, fun v31 F31 H31 g31 hrd31 hv31 => ?_⟩
    try dsimp only at hrd31
    have G31 := gr_undel G30 zx g31 hrd31.fx
    have ou31 := ou30.goD nux g31
    obtain rfl : v31 = .int r.jo := hv31
    walk_at "s"
    refine x_sfr G31 ou31 zu hrd31 nux T.c_Rules T.a_Rules_join_limit (by omega) fun H32 G32 ou32 hrd32 l32 => ?_
    walk_at "s"
    refine ⟨x_lt (Nat.le_of_ble_eq_true rfl), fun w33 H33 n33 => ?_⟩
    obtain ⟨F33, g33, e33⟩ := n33.fix G32.fh
    have G33 := G32.trans g33
    have ou33 := ou32.go g33
    have hrd33 := hrd32.go g33
    walk_at "s"
    refine ⟨((.ref w33, ["pages"], 1, r.pc, _), x), F33, rfl, G33.fh, hrd33, ⟨kLS' e33, q8⟩, fun v34 F34 H34 g34 hrd34 hv34 => ?_⟩
    try dsimp only at hrd34
    have G34 := gr_undel G33 zx g34 hrd34.fx
    have ou34 := ou33.goD nux g34
    obtain rfl : v34 = .int r.pc := hv34
    walk_at "s"
    refine x_sfr G34 ou34 zu hrd34 nux T.c_Rules T.a_Rules_page_codes (by omega) fun H35 G35 ou35 hrd35 l35 => ?_
    walk_at "s"
    refine ⟨x_lt (Nat.le_of_ble_eq_true rfl), fun w36 H36 n36 => ?_⟩
    obtain ⟨F36, g36, e36⟩ := n36.fix G35.fh
    have G36 := G35.trans g36
    have ou36 := ou35.go g36
    have hrd36 := hrd35.go g36
    walk_at "s"
    refine ⟨((.ref w36, ["volumes"], 1, vp, _), x), F36, rfl, G36.fh, hrd36, ⟨kLS' e36, q9⟩, fun v37 F37 H37 g37 hrd37 hv37 => ?_⟩
    try dsimp only at hrd37
    have G37 := gr_undel G36 zx g37 hrd37.fx
    have ou37 := ou36.goD nux g37
    obtain rfl : v37 = .int vp := hv37
    walk_at "s"
    refine x_sfr G37 ou37 zu hrd37 nux T.c_Rules T.a_Rules_volume_pages (by omega) fun H38 G38 ou38 hrd38 l38 => ?_
    obtain ⟨dxr, ar, ir, hxr⟩ := hrd38.at
    walk_at "s"
    refine ⟨x, dxr, rdFs ar ir, rfl, hxr, rfl, ?_⟩
    walk_at "s"
    refine ⟨((endT, []), x), F37, rfl, G38.fh, hrd38, (show ("end" : Str) ≠ "fault" by decide), fun v39 F39 H39 g39 hrd39 hv39 => ?_⟩
    try dsimp only at hrd39
    have G39 := gr_undel G38 zx g39 hrd39.fx
    have ou39 := ou38.goD nux g39
    walk_at "s"
    refine k _ _ _ (G39.fix ou39.h zu ou39.f) ⟨u, du, _, rfl, upd_same, ?_⟩
    unfold putAl
    exact ⟨⟨v5, (put_ne (put_ne (put_ne (put_ne (put_ne (put_ne (put_ne (put_ne (put_ne (put_ne (put_ne (put_ne (put_ne (put_ne (put_ne (put_ne put_eq (by decide)) (by decide)) (by decide)) (by decide)) (by decide)) (by decide)) (by decide)) (by decide)) (by decide)) (by decide)) (by decide)) (by decide)) (by decide)) (by decide)) (by decide)) (by decide)), (kL (k2 kS kI)).mono (g7.ff.trans (g9.ff.trans (g11.ff.trans (g14.ff.trans (g16.ff.trans (g18.ff.trans (g19.ff.trans (g21.ff.trans (g23.ff.trans (g24.ff.trans (g25.ff.trans (g27.ff.trans (g28.ff.trans (g30.ff.trans (g31.ff.trans (g33.ff.trans (g34.ff.trans (g36.ff.trans (g37.ff.trans (g39.ff.trans (same_new ou39.f))))))))))))))))))))) hv5⟩,
      ⟨v7, (put_ne (put_ne (put_ne (put_ne (put_ne (put_ne (put_ne (put_ne (put_ne (put_ne (put_ne (put_ne (put_ne (put_ne (put_ne put_eq (by decide)) (by decide)) (by decide)) (by decide)) (by decide)) (by decide)) (by decide)) (by decide)) (by decide)) (by decide)) (by decide)) (by decide)) (by decide)) (by decide)) (by decide)), (kL kX).mono (g9.ff.trans (g11.ff.trans (g14.ff.trans (g16.ff.trans (g18.ff.trans (g19.ff.trans (g21.ff.trans (g23.ff.trans (g24.ff.trans (g25.ff.trans (g27.ff.trans (g28.ff.trans (g30.ff.trans (g31.ff.trans (g33.ff.trans (g34.ff.trans (g36.ff.trans (g37.ff.trans (g39.ff.trans (same_new ou39.f)))))))))))))))))))) hv7⟩,
      ⟨v9, (put_ne (put_ne (put_ne (put_ne (put_ne (put_ne (put_ne (put_ne (put_ne (put_ne (put_ne (put_ne (put_ne (put_ne put_eq (by decide)) (by decide)) (by decide)) (by decide)) (by decide)) (by decide)) (by decide)) (by decide)) (by decide)) (by decide)) (by decide)) (by decide)) (by decide)) (by decide)), (kL kX).mono (g11.ff.trans (g14.ff.trans (g16.ff.trans (g18.ff.trans (g19.ff.trans (g21.ff.trans (g23.ff.trans (g24.ff.trans (g25.ff.trans (g27.ff.trans (g28.ff.trans (g30.ff.trans (g31.ff.trans (g33.ff.trans (g34.ff.trans (g36.ff.trans (g37.ff.trans (g39.ff.trans (same_new ou39.f))))))))))))))))))) hv9⟩,
      ⟨v14, (put_ne (put_ne (put_ne (put_ne (put_ne (put_ne (put_ne (put_ne (put_ne (put_ne (put_ne put_eq (by decide)) (by decide)) (by decide)) (by decide)) (by decide)) (by decide)) (by decide)) (by decide)) (by decide)) (by decide)) (by decide)), (kL kX).mono (g16.ff.trans (g18.ff.trans (g19.ff.trans (g21.ff.trans (g23.ff.trans (g24.ff.trans (g25.ff.trans (g27.ff.trans (g28.ff.trans (g30.ff.trans (g31.ff.trans (g33.ff.trans (g34.ff.trans (g36.ff.trans (g37.ff.trans (g39.ff.trans (same_new ou39.f))))))))))))))))) hv14⟩,
      ⟨v21, (put_ne (put_ne (put_ne (put_ne (put_ne (put_ne (put_ne (put_ne put_eq (by decide)) (by decide)) (by decide)) (by decide)) (by decide)) (by decide)) (by decide)) (by decide)), (kL kX).mono (g23.ff.trans (g24.ff.trans (g25.ff.trans (g27.ff.trans (g28.ff.trans (g30.ff.trans (g31.ff.trans (g33.ff.trans (g34.ff.trans (g36.ff.trans (g37.ff.trans (g39.ff.trans (same_new ou39.f))))))))))))) hv21⟩,
      (put_ne (put_ne (put_ne (put_ne (put_ne (put_ne (put_ne (put_ne (put_ne (put_ne (put_ne (put_ne (put_ne put_eq (by decide)) (by decide)) (by decide)) (by decide)) (by decide)) (by decide)) (by decide)) (by decide)) (by decide)) (by decide)) (by decide)) (by decide)) (by decide)),
      (put_ne (put_ne (put_ne (put_ne (put_ne (put_ne (put_ne (put_ne (put_ne (put_ne (put_ne (put_ne put_eq (by decide)) (by decide)) (by decide)) (by decide)) (by decide)) (by decide)) (by decide)) (by decide)) (by decide)) (by decide)) (by decide)) (by decide)),
      (put_ne (put_ne (put_ne (put_ne (put_ne (put_ne (put_ne (put_ne (put_ne (put_ne put_eq (by decide)) (by decide)) (by decide)) (by decide)) (by decide)) (by decide)) (by decide)) (by decide)) (by decide)) (by decide)),
      (put_ne (put_ne (put_ne (put_ne (put_ne (put_ne (put_ne (put_ne (put_ne put_eq (by decide)) (by decide)) (by decide)) (by decide)) (by decide)) (by decide)) (by decide)) (by decide)) (by decide)),
      (put_ne (put_ne (put_ne (put_ne (put_ne (put_ne (put_ne put_eq (by decide)) (by decide)) (by decide)) (by decide)) (by decide)) (by decide)) (by decide)),
      (put_ne (put_ne (put_ne (put_ne (put_ne (put_ne put_eq (by decide)) (by decide)) (by decide)) (by decide)) (by decide)) (by decide)),
      (put_ne (put_ne (put_ne (put_ne (put_ne put_eq (by decide)) (by decide)) (by decide)) (by decide)) (by decide)),
      (put_ne (put_ne (put_ne (put_ne put_eq (by decide)) (by decide)) (by decide)) (by decide)),
      (put_ne (put_ne (put_ne put_eq (by decide)) (by decide)) (by decide)),
      (put_ne (put_ne put_eq (by decide)) (by decide)),
      (put_ne put_eq (by decide))⟩
/-! D_cont.src -/
def ParseP (z : Str) (ts : List Tk) (r : RU) (vp : Int) : Prop := Lex z.cps.toList ts ∧ z.length ≤ 100000 ∧ ts ++ [endT] = ruleT r.src r.mark r.dw r.al r.ao r.rw r.pw r.pi r.jo r.pc vp ∧ SrcOk r.src ∧ WordOk r.mark ∧ 1 ≤ r.dw ∧ 1 ≤ r.al ∧ r.al ≤ r.ao ∧ 1 ≤ r.rw ∧ 1 ≤ r.pw ∧ 1 ≤ r.pi ∧ 0 ≤ r.jo ∧ 1 ≤ r.pc ∧ 1 ≤ vp
def sp_Contents_init (K : PySem.W.Frag) : Sp := fun vs H Q _ => ∃ (x dx : Addr) (F : Hp) (z : Str) (ts : List Tk) (r : RU) (vp : Int) (v2 v3 : V) (docs : List (Int × Int × Str)) (exs : List Str), vs = [.ref x, .str z, v2, v3, .non] ∧ Same F H ∧ Own F H x (.ins (He.ga K "Contents") dx []) ∧ ParseP z ts r vp ∧ (kL kDoc).p F v2 docs ∧ (kL kS).p F v3 exs ∧
  ∀ F' H' fs, Gr F (del H x) F' H' → Own F' H' x (.ins (He.ga K "Contents") dx fs) → CoF K F' fs ⟨r, docs, exs⟩ → Q .non H'
theorem len_Contents_init {K : PySem.W.Frag} {vs : List V} {H : Hp} {Q : VK} {E : XK} (h : sp_Contents_init K vs H Q E) : vs.length = ["self", "rules_text", "documents", "exams", "rules"].length := by
  obtain ⟨_, _, _, _, _, _, _, _, _, _, _, rfl, _⟩ := h
  rfl
theorem ok_Contents_init {P : Program} {w : World} {K : PySem.W.Frag} {mg : Str → Option Value} {base : Heap} (T : Tx K mg) : Okd P w K mg base 6 ("Contents", some "__init__") ["self", "rules_text", "documents", "exams", "rules"] [.non] (sp_Contents_init K) := by
  have O_parse_rules := ok_parse_rules (P := P) (w := w) (base := base) T
  obtain ⟨fd, F⟩ : ∃ fd, FunD K "__init__" "Contents.__init__" (defArgs s_Contents_init) (defBody s_Contents_init) (defScope s_Contents_init) [.non] [] (He.fAd K ("Contents", some "__init__")) fd := T.says.d.def_ 66 rfl
  obtain ⟨ds, hds, hb⟩ := F.binds1 (ps := ["self", "rules_text", "documents", "exams", "rules"]) 4 0 (by simp) (by decide) (fun Tt kV doc pm an cdv ct us its h1 h2 => match us, its, h1, h2 with | [_, _, _, _], [_], _, _ => ⟨_, rfl, rfl⟩)
  refine ⟨fd, ds, F.ok sc_Contents_init (fun vs H Q E h => ?_) (fun cdv A outer s H vs Q E hr h => ?_), hds, hb, F.kp⟩
  · exact len_Contents_init h
  · refine ⟨_, PSs.nox (pss_cons (ps_fldK K (pv 0) (pv 1) rfl)
    (pss_cons (ps_fldK K (pv 0) (pv 4) rfl)
    (pss_cons (ps_if (pt_cmpR op_isN (pv 4) pe_non (nomark _)) (pss_one (ps_fldK K (pv 0) (pe_ok O_parse_rules T.n_parse_rules hr (by decide) (by rfl) (pa_cons (pv 1) pa_nil)) rfl)) pss_nil)
    (pss_cons (ps_fldK K (pv 0) (pe_callTy (call_listofK K) (by rfl) T.f_list (by decide +kernel) (pa_cons (pv 2) pa_nil)) rfl)
    (pss_one (ps_fldK K (pv 0) (pe_callTy (call_listofK K) (by rfl) T.f_list (by decide +kernel) (pa_cons (pv 3) pa_nil)) rfl)))))), ?_⟩
    obtain ⟨x, dx, F0, z, ts, r, vp, v2, v3, docs, exs, rfl, fh, ox, hP, ⟨a2, vs2, rfl, ha2, hp2⟩, hx3, k⟩ := h
    obtain ⟨a3, rfl, ha3⟩ := kLS hx3
    have G0 := gr_del (d := x) fh
    walk_at "s"
    refine x_sf G0 ox del_same T.c_Contents T.a_Contents_rules_text (Nat.zero_le _) fun H1 f1 e1 l1 G1 o1 => ?_
    simp only [List.length_nil] at l1
    walk_at "s"
    refine x_sf G1 o1 del_same T.c_Contents T.a_Contents_rules (by omega) fun H2 f2 e2 l2 G2 o2 => ?_
    walk_at "s"
    refine x_d (fun _ => ?_) (fun hc => absurd rfl hc)
    walk_at "s"
    refine ⟨(z, ts, r, vp), F0, rfl, G2.fh, hP, fun v F3 H3 g3 hv => ?_⟩
    walk_at "s"
    refine x_sf (G2.trans g3) (o2.go g3) del_same T.c_Contents T.a_Contents_rules (by omega) fun H4 f4 e4 l4 G4 o4 => ?_
    walk_at "s"
    refine x_listof (G4.fh _ _ (g3.ff _ _ ha2)) fun p H5 np => ?_
    obtain ⟨F5, g5, e5⟩ := np.fix G4.fh
    walk_at "s"
    refine x_sf (G4.trans g5) (o4.go g5) del_same T.c_Contents T.a_Contents_documents (by omega) fun H6 f6 e6 l6 G6 o6 => ?_
    walk_at "s"
    refine x_listof (G6.fh _ _ (g5.ff _ _ (g3.ff _ _ ha3))) fun q H7 nq => ?_
    obtain ⟨F7, g7, e7⟩ := nq.fix G6.fh
    walk_at "s"
    refine x_sf (G6.trans g7) (o6.go g7) del_same T.c_Contents T.a_Contents_exams (by omega) fun H8 f8 e8 l8 G8 o8 => ?_
    walk_at "s"
    refine k _ _ _ G8 o8 ?_
    rw [e8, e6, e4]
    exact ⟨⟨v, put_ne (put_ne put_eq (by decide)) (by decide), (kRu K).mono (g5.ff.trans g7.ff) hv⟩,
      ⟨.ref p, put_ne put_eq (by decide), p, vs2, rfl, g7.up e5, L2.Paired.mapP hp2 fun _ _ h => kDoc.mono ((g3.ff.trans g5.ff).trans g7.ff) h⟩, ⟨.ref q, put_eq, kLS' e7⟩⟩
/-! D_law1.src -/
def signsZ : Str := "abczA1#-"
def sp_law_word : Sp := SpOf (ι := Int) (fun i => [.int i]) (fun _ _ => True) (fun _ _ v => ∃ z, v = .str z ∧ z.length ≤ 3)
theorem ok_law_word {P : Program} {w : World} {K : PySem.W.Frag} {mg : Str → Option Value} {base : Heap} (T : Tx K mg) : Okd P w K mg base 1 ("_law_word", none) ["_law_rest"] [] (sp_law_word) := by
  obtain ⟨fd, F⟩ : ∃ fd, FunD K "_law_word" "_law_word" (defArgs s_law_word) (defBody s_law_word) (defScope s_law_word) [] [] (He.fAd K ("_law_word", none)) fd := T.says.d.def_ 80 rfl
  refine ⟨fd, [], F.ok sc_law_word (fun vs H Q E h => ?_) (fun cdv A outer s H vs Q E hr h => ?_), .nil, F.bindsN (fun _ _ _ _ _ _ us hl => match us, hl with | [_], _ => rfl), F.kp⟩
  · obtain ⟨_, _, rfl, _⟩ := h; rfl
  · refine ⟨_, PSs.nox (pss_cons (ps_set (i := 1) sc_law_word.nd rfl (by first | exact Or.inl rfl | exact Or.inr rfl) pe_str)
    (pss_cons (ps_set (i := 2) sc_law_word.nd rfl (by first | exact Or.inl rfl | exact Or.inr rfl) pe_str)
    (pss_cons (ps_set (i := 3) sc_law_word.nd rfl (by first | exact Or.inl rfl | exact Or.inr rfl) (pe_op op_add pe_int (pe_op op_mod (pe_callTy call_int1 (by rfl) T.f_int (by decide +kernel) (pa_cons (pv 0) pa_nil)) pe_int)))
    (pss_cons (ps_set (i := 0) sc_law_word.nd rfl (by first | exact Or.inl rfl | exact Or.inr rfl) (pe_op op_fdiv (pv 0) pe_int))
    (pss_cons (ps_for PassesOwn.never rfl (pi_range1 rfl T.f_range (pa_cons (pv 3) pa_nil)) (pg_name (i := 4) sc_law_word.nd rfl (by first | exact Or.inl rfl | exact Or.inr rfl)) (pss_cons (ps_set (i := 2) sc_law_word.nd rfl (by first | exact Or.inl rfl | exact Or.inr rfl) (pe_op op_add_str (pv 2) (pe_ix ix_str (pv 1) (pe_op op_mod (pe_callTy call_int1 (by rfl) T.f_int (by decide +kernel) (pa_cons (pv 0) pa_nil)) pe_int) (fun _ _ => rfl))))
    (pss_one (ps_set (i := 0) sc_law_word.nd rfl (by first | exact Or.inl rfl | exact Or.inr rfl) (pe_op op_fdiv (pv 0) pe_int)))))
    (pss_one (ps_ret (pv 2)))))))), ?_⟩
    obtain ⟨i, F0, rfl, fh, _, k⟩ := h
    dsimp only at k ⊢
    walk_at "s"
    refine Or.inl ⟨i, rfl, ?_⟩
    walk_at "s"
    refine r_I (by decide) ?_
    walk_at "s"
    refine r_I ⟨by decide, by decide⟩ ?_
    walk_at "s"
    refine ⟨by omega, by omega, ?_⟩
    have hm : (1 + i % 3).toNat ≤ 3 := by omega
    generalize (1 + i % 3).toNat = m at hm ⊢
    refine for_rg0 (Gr.refl fh) (fun j σ F H' => ∃ (r : Int) (z : Str) (x1 : Option V), σ = [some (.int r), some (.str signsZ), some (.str z), some (.int (1 + i % 3)), x1] ∧ z.length ≤ j) ⟨_, _, _, rfl, Nat.le_refl _⟩ ?_ ?_
    · rintro j σ1 F1 H1 N hj G1 s1 ⟨r, z, x1, rfl, hz⟩ kN
      walk_at "s"
      refine Or.inl ⟨r, rfl, ?_⟩
      walk_at "s"
      refine r_I (by decide) ?_
      obtain ⟨n, en, hn⟩ : ∃ n : Nat, r % 8 = (n : Int) ∧ n < 8 := ⟨(r % 8).toNat, by omega, by omega⟩
      rw [en]
      obtain ⟨c, hc⟩ : ∃ c, signsZ.cps[n]? = some c := by
        have h8 : signsZ.cps.size = 8 := by decide
        exact ⟨_, Array.getElem?_eq_getElem (by omega)⟩
      refine x_ixS (by decide) hc ?_
      refine ⟨z, ⟨#[c]⟩, rfl, rfl, by rw [sizeLine_eq]; show z.length + 1 ≤ _; omega, ?_⟩
      walk_at "s"
      refine r_I ⟨by decide, by decide⟩ ?_
      walk_at "s"
      refine kN _ _ _ G1 (Same.refl _) ⟨_, _, _, rfl, ?_⟩
      rw [len_list, app_list, List.length_append, ← len_list]
      show z.length + 1 ≤ _
      omega
    · rintro σ1 F1 H1 G1 s1 ⟨r, z, x1, rfl, hz⟩
      walk_at "s"
      exact k _ _ _ G1 ⟨z, rfl, by omega⟩
/-! D_law2.src -/
def lettersZ : Str := "abcdefghijklmnopqrstuvwxyz"
def nmL (c k : Int) : List Nat := (97 + ((c + 7 * k) % 26).toNat) :: List.replicate ((c / 26) % 3).toNat 120
theorem let_at : ∀ n : Nat, n < 26 → lettersZ.cps[n]? = some (97 + n) := by decide
theorem rep_x (m : Nat) : (repS (chS 120) m).cps.toList = List.replicate m 120 := by
  rw [repS_list]
  show (List.replicate m [120]).flatten = _
  induction m with
  | zero => rfl
  | succ m ih => rw [List.replicate_succ, List.flatten_cons, ih, List.replicate_succ]; rfl
def sp_law_name : Sp := SpOf (ι := Int × Int) (fun i => [.int i.1, .int i.2]) (fun i _ => 0 ≤ i.1 ∧ 0 ≤ i.2 ∧ i.2 ≤ 100) (fun i _ v => v = .str (stS (nmL i.1 i.2)))
theorem ok_law_name {P : Program} {w : World} {K : PySem.W.Frag} {mg : Str → Option Value} {base : Heap} (T : Tx K mg) : Okd P w K mg base 1 ("_law_name", none) ["_law_cell_here", "_law_k"] [] (sp_law_name) := by
  obtain ⟨fd, F⟩ : ∃ fd, FunD K "_law_name" "_law_name" (defArgs s_law_name) (defBody s_law_name) (defScope s_law_name) [] [] (He.fAd K ("_law_name", none)) fd := T.says.d.def_ 81 rfl
  refine ⟨fd, [], F.ok sc_law_name (fun vs H Q E h => ?_) (fun cdv A outer s H vs Q E hr h => ?_), .nil, F.bindsN (fun _ _ _ _ _ _ us hl => match us, hl with | [_, _], _ => rfl), F.kp⟩
  · obtain ⟨_, _, rfl, _⟩ := h; rfl
  · refine ⟨_, PSs.nox (pss_cons (ps_set (i := 2) sc_law_name.nd rfl (by first | exact Or.inl rfl | exact Or.inr rfl) pe_str)
    (pss_one (ps_ret (pe_op op_add_str (pe_ix ix_str (pv 2) (pe_op op_mod (pe_callTy call_int1 (by rfl) T.f_int (by decide +kernel) (pa_cons (pe_op op_add (pv 0) (pe_op op_mul pe_int (pv 1))) pa_nil)) pe_int) (fun _ _ => rfl)) (pe_op op_repS pe_str (pe_op op_mod (pe_callTy call_int1 (by rfl) T.f_int (by decide +kernel) (pa_cons (pe_op op_fdiv (pv 0) pe_int) pa_nil)) pe_int)))))), ?_⟩
    obtain ⟨⟨c, j⟩, F0, rfl, fh, ⟨h1, h2, h3⟩, k⟩ := h
    dsimp only at h1 h2 h3 k ⊢
    walk_at "s"
    refine r_I (Or.inl ⟨by omega, by omega⟩) ?_
    walk_at "s"
    refine Or.inl ⟨_, rfl, ?_⟩
    walk_at "s"
    refine r_I (by decide) ?_
    obtain ⟨n, en, hn⟩ : ∃ n : Nat, (c + 7 * j) % 26 = (n : Int) ∧ n < 26 := ⟨((c + 7 * j) % 26).toNat, by omega, by omega⟩
    rw [en]
    refine x_ixS (by decide) (let_at n hn) ?_
    walk_at "s"
    refine r_I ⟨by decide, by decide⟩ ?_
    walk_at "s"
    refine Or.inl ⟨_, rfl, ?_⟩
    walk_at "s"
    refine r_I (by decide) ?_
    obtain ⟨m, em, hm⟩ : ∃ m : Nat, c / 26 % 3 = (m : Int) ∧ m < 3 := ⟨(c / 26 % 3).toNat, by omega, by omega⟩
    rw [em]
    refine ⟨_, _, rfl, rfl, by omega, by omega, ?_, ?_⟩
    · rw [Int.toNat_natCast]
      show 1 * m ≤ _
      omega
    rw [Int.toNat_natCast]
    have e120 : (Str.ofString "x") = chS 120 := by decide
    rw [e120]
    have hl : (repS (chS 120) m).length = m := by rw [len_list, rep_x, List.length_replicate]
    refine ⟨_, _, rfl, rfl, by rw [hl, sizeLine_eq]; show 1 + m ≤ _; omega, ?_⟩
    refine k _ _ _ (Gr.refl fh) ?_
    congr 1
    refine str_of ?_
    rw [app_list, rep_x]
    unfold nmL
    rw [en, em, Int.toNat_natCast, Int.toNat_natCast]
    rfl
/-! D_law3.src -/
theorem r_gSub {to ti : TE} {t : TSet} {v : V} {σ : L2.St} {H : Hp} {Q : L2.St → Hp → Prop} (h : to σ H fun o H1 => ti σ H1 fun i H2 => t o i v H2 fun H3 => Q σ H3) : gSub to ti t v σ H Q := h
def sp_law_phase : Sp := SpOf (ι := V × V × V × List Int × List Int × List Int) (fun i => [i.1, i.2.1, i.2.2.1]) (fun ⟨v1, v2, v3, ws, ls, row⟩ F => (kL kI).p F v1 ws ∧ (kL kI).p F v2 ls ∧ (kL kI).p F v3 row ∧ WsOk ws ls ∧ PhaseOk ws ls row ∧ row.length ≤ 10000000) (fun _ _ v => v = .bl true)
theorem ok_law_phase {P : Program} {w : World} {K : PySem.W.Frag} {mg : Str → Option Value} {base : Heap} (T : Tx K mg) : Okd P w K mg base 1 ("_law_phase", none) ["_law_weights", "_law_left", "_law_phase_here"] [] (sp_law_phase) := by
  obtain ⟨fd, F⟩ : ∃ fd, FunD K "_law_phase" "_law_phase" (defArgs s_law_phase) (defBody s_law_phase) (defScope s_law_phase) [] [] (He.fAd K ("_law_phase", none)) fd := T.says.d.def_ 86 rfl
  refine ⟨fd, [], F.ok sc_law_phase (fun vs H Q E h => ?_) (fun cdv A outer s H vs Q E hr h => ?_), .nil, F.bindsN (fun _ _ _ _ _ _ us hl => match us, hl with | [_, _, _], _ => rfl), F.kp⟩
  · obtain ⟨_, _, rfl, _⟩ := h; rfl
  · refine ⟨_, PSs.nox (pss_cons (ps_set (i := 3) sc_law_phase.nd rfl (by first | exact Or.inl rfl | exact Or.inr rfl) pe_int)
    (pss_cons (ps_for PassesOwn.never rfl (pi_range1 rfl T.f_range (pa_cons (pe_callB (call_lenK K) (by rfl) T.f_len (by decide +kernel) (pa_cons (pv 0) pa_nil)) pa_nil)) (pg_name (i := 4) sc_law_phase.nd rfl (by first | exact Or.inl rfl | exact Or.inr rfl)) (pss_one (ps_if (pt_cmpR op_gt (pe_ix (ix_listK K) (pv 1) (pv 4) (fun _ _ => rfl)) pe_int (nomark _)) (pss_one (ps_set (i := 3) sc_law_phase.nd rfl (by first | exact Or.inl rfl | exact Or.inr rfl) (pe_op op_add (pv 3) (pe_ix (ix_listK K) (pv 0) (pv 4) (fun _ _ => rfl))))) pss_nil)))
    (pss_cons (ps_set (i := 5) sc_law_phase.nd rfl (by first | exact Or.inl rfl | exact Or.inr rfl) (pe_op op_rep (pe_lst (pa_cons pe_int pa_nil)) (pe_callB (call_lenK K) (by rfl) T.f_len (by decide +kernel) (pa_cons (pv 0) pa_nil))))
    (pss_cons (ps_for PassesOwn.never rfl (pi_range1 rfl T.f_range (pa_cons (pe_op op_add (pe_callB (call_lenK K) (by rfl) T.f_len (by decide +kernel) (pa_cons (pv 2) pa_nil)) pe_int) pa_nil)) (pg_name (i := 6) sc_law_phase.nd rfl (by first | exact Or.inl rfl | exact Or.inr rfl)) (pss_cons (ps_for PassesOwn.never rfl (pi_range1 rfl T.f_range (pa_cons (pe_callB (call_lenK K) (by rfl) T.f_len (by decide +kernel) (pa_cons (pv 0) pa_nil)) pa_nil)) (pg_name (i := 4) sc_law_phase.nd rfl (by first | exact Or.inl rfl | exact Or.inr rfl)) (pss_cons (ps_if (PW.pt (pw_and (pt_cmpR op_gt (pe_ix (ix_listK K) (pv 1) (pv 4) (fun _ _ => rfl)) pe_int (nomark _)) (pw_and1 (pt_cmpR op_ge (pe_op op_mul (pe_ix (ix_listK K) (pv 5) (pv 4) (fun _ _ => rfl)) (pv 3)) (pe_op op_add (pe_op op_mul (pe_ix (ix_listK K) (pv 0) (pv 4) (fun _ _ => rfl)) (pv 6)) (pv 3)) (nomark _))))) (pss_one (ps_ret pe_bl)) pss_nil)
    (pss_one (ps_if (PW.pt (pw_and (pt_cmpR op_gt (pe_ix (ix_listK K) (pv 1) (pv 4) (fun _ _ => rfl)) pe_int (nomark _)) (pw_and1 (pt_cmpR op_ge (pe_op op_mul (pe_ix (ix_listK K) (pv 0) (pv 4) (fun _ _ => rfl)) (pv 6)) (pe_op op_add (pe_op op_mul (pe_ix (ix_listK K) (pv 5) (pv 4) (fun _ _ => rfl)) (pv 3)) (pv 3)) (nomark _))))) (pss_one (ps_ret pe_bl)) pss_nil))))
    (pss_one (ps_if (pt_cmpR op_lt (pv 6) (pe_callB (call_lenK K) (by rfl) T.f_len (by decide +kernel) (pa_cons (pv 2) pa_nil)) (nomark _)) (pss_cons (ps_asg (pe_op op_add (pe_ix (ix_listK K) (pv 5) (pe_ix (ix_listK K) (pv 2) (pv 6) (fun _ _ => rfl)) (fun _ _ => rfl)) pe_int) (pg_sub (pv 5) (pe_ix (ix_listK K) (pv 2) (pv 6) (fun _ _ => rfl)) set_list))
    (pss_one (ps_if (pt_cmpR op_ne (pe_cmpR op_ge (pe_ix (ix_listK K) (pv 5) (pe_ix (ix_listK K) (pv 2) (pv 6) (fun _ _ => rfl)) (fun _ _ => rfl)) (pe_ix (ix_listK K) (pv 1) (pe_ix (ix_listK K) (pv 2) (pv 6) (fun _ _ => rfl)) (fun _ _ => rfl)) (nomark _)) (pe_cmpR op_eq (pv 6) (pe_op op_sub (pe_callB (call_lenK K) (by rfl) T.f_len (by decide +kernel) (pa_cons (pv 2) pa_nil)) pe_int) (nomark _)) (nomark _)) (pss_one (ps_ret pe_bl)) pss_nil))) pss_nil))))
    (pss_one (ps_ret pe_bl)))))), ?_⟩
    obtain ⟨⟨v1, v2, v3, ws, ls, row⟩, F0, rfl, fh, ⟨h1, h2, h3, WO, P, hrl⟩, k⟩ := h
    dsimp only at h1 h2 h3 WO P hrl k ⊢
    obtain ⟨a1, rfl, ha1⟩ := kLI h1
    obtain ⟨a2, rfl, ha2⟩ := kLI h2
    obtain ⟨a3, rfl, ha3⟩ := kLI h3
    obtain ⟨W, hwl, hw, htot, hsum⟩ := WO
    have hlen := W.len
    walk_at "s"
    refine x_lenK (fh _ _ ha1) ?_
    rw [List.length_map]
    walk_at "s"
    refine ⟨by omega, by omega, ?_⟩
    rw [Int.toNat_natCast]
    refine for_rg0 (Gr.refl fh) (fun i σ F H' => ∃ (x1 x2 x3 x4 : Option V), σ = [some (.ref a1), some (.ref a2), some (.ref a3), some (.int (S i (act ws ls))), x1, x2, x3]) ⟨_, _, _, none, rfl⟩ ?_ ?_
    · rintro i σ1 F1 H1 N hi G1 s1 ⟨x1, x2, x3, x4, rfl⟩ kN
      walk_at "s"
      refine x_ixL (G1.hh _ _ (fh _ _ ha2)) (at_g (by omega)) ?_
      walk_at "s"
      refine x_d (fun hc => ?_) (fun hc => ?_)
      · walk_at "s"
        refine x_ixL (G1.hh _ _ (fh _ _ ha1)) (at_g hi) ?_
        walk_at "s"
        exact kN _ _ _ G1 (Same.refl _) ⟨some (.int i), x2, x3, none, by rw [S_succ, act_pos hc]; rfl⟩
      · walk_at "s"
        exact kN _ _ _ G1 (Same.refl _) ⟨some (.int i), x2, x3, none, by rw [S_succ, act_neg hc, Int.add_zero]; rfl⟩
    · rintro σ1 F1 H1 G1 s1 ⟨x1, x2, x3, x4, rfl⟩
      have etot : S ws.length (act ws ls) = totF ws ls := rfl
      rw [etot]
      walk_at "s"
      refine ⟨x_lt (by decide), fun l0 H2 n0 => ?_⟩
      obtain ⟨F2, g2, e2⟩ := n0.fix G1.fh
      have G2 := G1.trans g2
      walk_at "s"
      refine x_lenK (G2.hh _ _ (fh _ _ ha1)) ?_
      rw [List.length_map]
      walk_at "s"
      refine x_rep (g2.at e2) (by omega) (by omega) rfl fun l1 H3 n1 => ?_
      rw [rep_one, Int.toNat_natCast, rep0] at n1
      obtain ⟨g3, o1⟩ := n1.own G2.fh
      have G3 := G2.trans g3
      have z1 : H l1 = none := G2.hh.free n1.fr
      walk_at "s"
      refine x_lenK (G3.hh _ _ (fh _ _ ha3)) ?_
      rw [List.length_map]
      walk_at "s"
      refine ⟨by omega, by omega, ?_⟩
      rw [show ((row.length : Int) + 1).toNat = row.length + 1 by omega]
      have htn : 0 ≤ totF ws ls := by
        unfold totF
        exact S_nn fun j hj => act_nn W j hj
      refine for_rg0 G3 (fun t σ F H' => ∃ (xs : List Int) (y1 y2 : Option V), σ = [some (.ref a1), some (.ref a2), some (.ref a3), some (.int (totF ws ls)), y1, some (.ref l1), y2] ∧ Own F H' l1 (.lst (xs.map V.int)) ∧ xs.length = ws.length ∧ ∀ k, k < ws.length → g xs k = ((row.take t).count (k : Int) : Int))
        ⟨List.replicate ws.length 0, _, _, rfl, o1, List.length_replicate, fun k _ => ?_⟩ ?_ ?_
      · unfold g
        rw [List.getD_eq_getElem?_getD, List.getElem?_replicate]
        split <;> rfl
      · rintro t σ2 F4 H4 N4 ht G4 s4 ⟨xs, y1, y2, rfl, o4, hxl, hcnt⟩ kN4
        walk_at "s"
        refine x_lenK (G4.hh _ _ (fh _ _ ha1)) ?_
        rw [List.length_map]
        walk_at "s"
        refine ⟨by omega, by omega, ?_⟩
        rw [Int.toNat_natCast]
        refine for_rg0 G4 (fun j σ F H' => ∃ (y1 : Option V), σ = [some (.ref a1), some (.ref a2), some (.ref a3), some (.int (totF ws ls)), y1, some (.ref l1), some (.int (t : Int))] ∧ Own F H' l1 (.lst (xs.map V.int))) ⟨_, rfl, o4⟩ ?_ ?_
        · rintro j σ3 F5 H5 N5 hj G5 s5 ⟨y1, rfl, o5⟩ kN5
          have hlj : j < ls.length := by omega
          have hxj : j < xs.length := by omega
          have hfair := P.fair t (by omega) j hj
          rw [← hcnt j hj] at hfair
          have hwj := hw j hj
          have hwp := W.w j hj
          walk_at "s"
          refine x_ixL (G5.hh _ _ (fh _ _ ha2)) (at_g hlj) ?_
          walk_at "s"
          refine x_d (fun hc => ?_) (fun hc => ?_)
          · obtain ⟨f1, f2⟩ := hfair hc
            walk_at "s"
            refine x_ixL o5.h (at_g hxj) ?_
            walk_at "s"
            refine r_I (Or.inr ⟨by omega, by omega⟩) ?_
            walk_at "s"
            refine x_ixL (G5.hh _ _ (fh _ _ ha1)) (at_g hj) ?_
            walk_at "s"
            refine r_I (Or.inl ⟨by omega, by omega⟩) ?_
            walk_at "s"
            refine x_d (fun hd => absurd hd (by omega)) (fun _ => ?_)
            walk_at "s"
            refine x_ixL (G5.hh _ _ (fh _ _ ha2)) (at_g hlj) ?_
            walk_at "s"
            refine x_d (fun _ => ?_) (fun hd => absurd hc hd)
            walk_at "s"
            refine x_ixL (G5.hh _ _ (fh _ _ ha1)) (at_g hj) ?_
            walk_at "s"
            refine r_I (Or.inl ⟨by omega, by omega⟩) ?_
            walk_at "s"
            refine x_ixL o5.h (at_g hxj) ?_
            walk_at "s"
            refine r_I (Or.inr ⟨by omega, by omega⟩) ?_
            walk_at "s"
            refine x_d (fun hd => absurd hd (by omega)) (fun _ => ?_)
            walk_at "s"
            exact kN5 _ _ _ G5 (Same.refl _) ⟨_, rfl, o5⟩
          · refine x_f ?_
            walk_at "s"
            refine x_ixL (G5.hh _ _ (fh _ _ ha2)) (at_g hlj) ?_
            walk_at "s"
            refine x_d (fun hd => absurd hd hc) (fun _ => ?_)
            refine x_f ?_
            walk_at "s"
            exact kN5 _ _ _ G5 (Same.refl _) ⟨_, rfl, o5⟩
        · rintro σ3 F5 H5 G5 s5 ⟨y1, rfl, o5⟩
          walk_at "s"
          refine x_lenK (G5.hh _ _ (fh _ _ ha3)) ?_
          rw [List.length_map]
          walk_at "s"
          refine x_d (fun hc => ?_) (fun hc => ?_)
          · have htr : t < row.length := by omega
            obtain ⟨b, hb, eb, _⟩ := P.mem row[t] (List.getElem_mem htr)
            have egt : g row t = (b : Int) := by
              unfold g
              rw [List.getD_eq_getElem?_getD, List.getElem?_eq_getElem htr]
              exact eb
            have e3 : atI (row.map V.int) (t : Int) = some (V.int (b : Int)) := by rw [← egt]; exact at_g htr
            have hbx : b < xs.length := by omega
            have ha3' := G5.hh _ _ (fh _ _ ha3)
            walk_at "s"
            refine x_ixL ha3' e3 ?_
            refine x_ixL o5.h (at_g hbx) ?_
            walk_at "s"
            refine r_gSub ?_
            walk_at "s"
            refine x_ixL ha3' e3 ?_
            refine x_setL o5.h (ixN_g hbx) fun H6 c6 => ?_
            have G6 := c6.gr G5 o5.f z1
            have o6 := c6.own o5
            rw [map_set] at o6
            have ha3'' := G6.hh _ _ (fh _ _ ha3)
            walk_at "s"
            refine x_ixL ha3'' e3 ?_
            refine x_ixL o6.h (at_g (by rw [List.length_set]; exact hbx)) ?_
            walk_at "s"
            refine x_ixL ha3'' e3 ?_
            refine x_ixL (G6.hh _ _ (fh _ _ ha2)) (at_g (by omega)) ?_
            walk_at "s"
            refine x_lenK ha3'' ?_
            rw [List.length_map]
            walk_at "s"
            have etk : row.take (t + 1) = row.take t ++ [(b : Int)] := by rw [List.take_succ_eq_append_getElem htr, eb]
            have hcb : ∀ k, k < ws.length → g (xs.set b (g xs b + 1)) k = ((row.take (t + 1)).count (k : Int) : Int) := fun k hk => by
              rw [etk, count_snoc]
              by_cases e : k = b
              · subst e
                rw [g_set_same hbx, hcnt k hk, if_pos rfl]
              · rw [g_set_ne e, hcnt k hk, if_neg (by omega), Int.add_zero]
            have hlast := P.last t b (by rw [List.getElem?_eq_getElem htr, eb])
            rw [← hcb b hb] at hlast
            refine x_nd (fun _ => ?_) (fun hne => absurd ?_ hne)
            · walk_at "s"
              exact kN4 _ _ _ G6 s5 ⟨_, _, _, rfl, o6, by rw [List.length_set]; exact hxl, hcb⟩
            · exact decide_eq_decide.mpr ⟨fun h => by have := hlast.mp h; omega, fun h => hlast.mpr (by omega)⟩
          · walk_at "s"
            refine kN4 _ _ _ G5 s5 ⟨xs, _, _, rfl, o5, hxl, fun k hk => ?_⟩
            rw [hcnt k hk, List.take_of_length_le (by omega), List.take_of_length_le (by omega)]
      · rintro σ2 F4 H4 G4 s4 ⟨xs, y1, y2, rfl, o4, hxl, hcnt⟩
        walk_at "s"
        exact k _ _ _ G4 rfl
/-! D_law4.src -/
theorem SqL.up {K : PySem.W.Frag} {F F' : Hp} {a : Addr} {xs : List V} (e : Same F F') (h : SqL K F a xs) : SqL K F' a xs := by
  rcases h with h | h
  · refine Or.inl ?_
    rcases h with h | ⟨o, h⟩
    · exact Or.inl (e _ _ h)
    · exact Or.inr ⟨o, e _ _ h⟩
  · exact Or.inr h
/-- the script -/
def kScr (K : PySem.W.Frag) : R (List Int) := ⟨fun F v ns => ∃ a, v = .ref a ∧ SqL K F a (ns.map V.int), fun e ⟨a, h1, h2⟩ => ⟨a, h1, SqL.up e h2⟩⟩
def cellF (ns : List Int) (k : Nat) : Int := if k < ns.length then g ns k else 0
def sp_law_cell (K : PySem.W.Frag) : Sp := SpOf (ι := V × Nat × List Int) (fun i => [i.1, .int (i.2.1 : Int)]) (fun ⟨v1, _, ns⟩ F => (kScr K).p F v1 ns) (fun ⟨_, k, ns⟩ _ v => v = .int (cellF ns k))
theorem ok_law_cell {P : Program} {w : World} {K : PySem.W.Frag} {mg : Str → Option Value} {base : Heap} (T : Tx K mg) : Okd P w K mg base 1 ("_law_cell", none) ["_law_script", "_law_k"] [] (sp_law_cell K) := by
  obtain ⟨fd, F⟩ : ∃ fd, FunD K "_law_cell" "_law_cell" (defArgs s_law_cell) (defBody s_law_cell) (defScope s_law_cell) [] [] (He.fAd K ("_law_cell", none)) fd := T.says.d.def_ 78 rfl
  refine ⟨fd, [], F.ok sc_law_cell (fun vs H Q E h => ?_) (fun cdv A outer s H vs Q E hr h => ?_), .nil, F.bindsN (fun _ _ _ _ _ _ us hl => match us, hl with | [_, _], _ => rfl), F.kp⟩
  · obtain ⟨_, _, rfl, _⟩ := h; rfl
  · refine ⟨_, PSs.nox (pss_cons (ps_if (pt_cmpR op_lt (pv 1) (pe_callB (call_lenK K) (by rfl) T.f_len (by decide +kernel) (pa_cons (pv 0) pa_nil)) (nomark _)) (pss_one (ps_ret (pe_ix (ix_listK K) (pv 0) (pv 1) (fun _ _ => rfl)))) pss_nil)
    (pss_one (ps_ret pe_int))), ?_⟩
    obtain ⟨⟨v1, j, ns⟩, F0, rfl, fh, ⟨a, rfl, ha⟩, k⟩ := h
    dsimp only at k ⊢
    have hb := SqL.up fh ha
    walk_at "s"
    refine ⟨a, _, rfl, Or.inl hb, ?_⟩
    rw [List.length_map]
    walk_at "s"
    refine x_d (fun hc => ?_) (fun hc => ?_)
    · have hj : j < ns.length := by omega
      walk_at "s"
      refine ⟨a, _, _, _, rfl, rfl, hb, at_g hj, ?_⟩
      refine k _ _ _ (Gr.refl fh) ?_
      unfold cellF
      rw [if_pos hj]
    · walk_at "s"
      refine k _ _ _ (Gr.refl fh) ?_
      unfold cellF
      rw [if_neg (by omega)]
/-! D_law5.src -/
theorem if_join {c : TT} {t u : TS} {D : Ends} {σ : L2.St} {F0 H0 F H : Hp} (J : L2.St → Hp → Hp → Prop)
    (h : ∀ N : L2.St → Hp → Prop, (∀ σ' F' H', Gr F0 H0 F' H' → Same F F' → J σ' F' H' → N σ' H') → tIfS c t u { D with nx := N } σ H)
    (k : ∀ σ' F' H', Gr F0 H0 F' H' → Same F F' → J σ' F' H' → D.nx σ' H') : tIfS c t u D σ H := h D.nx k
def DigOk (m : Nat) (ds : List Int) : Prop := ds.length ≤ m ∧ ∀ d ∈ ds, 0 ≤ d ∧ d < 1000
theorem dig_snoc {ds : List Int} {d : Int} (h : ∀ d ∈ ds, 0 ≤ d ∧ d < 1000) (h1 : 0 ≤ d) (h2 : d < 1000) : ∀ x ∈ ds ++ [d], 0 ≤ x ∧ x < 1000 := fun x hx => by
    rcases List.mem_append.mp hx with q | q
    · exact h x q
    · rw [List.mem_singleton.mp q]; exact ⟨h1, h2⟩
theorem map_snoc {ds : List Int} {d : Int} : ds.map V.int ++ [V.int d] = (ds ++ [d]).map V.int := by rw [List.map_append]; rfl
def sp_law_digits : Sp := SpFl (ι := Int × Nat × Nat) (fun i => [.int i.1, .int (i.2.1 : Int), .int (i.2.2 : Int)]) (fun i _ => i.2.1 ≤ 1000 ∧ i.2.2 ≤ 1000) (fun i ys => ∃ ds : List Int, ys = ds.map V.int ∧ DigOk i.2.2 ds)
theorem ok_law_digits {P : Program} {w : World} {K : PySem.W.Frag} {mg : Str → Option Value} {base : Heap} (T : Tx K mg) : Okd P w K mg base 1 ("_law_digits", none) ["_law_cell_here", "_law_k", "_law_most"] [] (sp_law_digits) := by
  obtain ⟨fd, F⟩ : ∃ fd, FunD K "_law_digits" "_law_digits" (defArgs s_law_digits) (defBody s_law_digits) (defScope s_law_digits) [] [] (He.fAd K ("_law_digits", none)) fd := T.says.d.def_ 79 rfl
  refine ⟨fd, [], F.ok sc_law_digits (fun vs H Q E h => ?_) (fun cdv A outer s H vs Q E hr h => ?_), .nil, F.bindsN (fun _ _ _ _ _ _ us hl => match us, hl with | [_, _, _], _ => rfl), F.kp⟩
  · obtain ⟨_, _, rfl, _⟩ := h; rfl
  · refine ⟨_, PSs.nox (pss_cons (ps_set (i := 3) sc_law_digits.nd rfl (by first | exact Or.inl rfl | exact Or.inr rfl) (pe_lst pa_nil))
    (pss_cons (ps_if (pt_cmpR op_lt (pv 0) pe_int (nomark _)) (pss_one (ps_set (i := 0) sc_law_digits.nd rfl (by first | exact Or.inl rfl | exact Or.inr rfl) (pe_op op_sub (pe_un un_neg pe_int) (pv 0)))) pss_nil)
    (pss_cons (ps_if (pt_cmpR op_ge (pv 0) (pe_op op_pow pe_int pe_int) (nomark _)) (pss_one (ps_for PassesOwn.never rfl (pi_range1 rfl T.f_range (pa_cons pe_int pa_nil)) (pg_name (i := 4) sc_law_digits.nd rfl (by first | exact Or.inl rfl | exact Or.inr rfl)) (pss_one (ps_if (PW.pt (pw_and (pt_cmpR op_gt (pv 0) pe_int (nomark _)) (pw_and1 (pt_cmpR op_lt (pe_callB (call_lenK K) (by rfl) T.f_len (by decide +kernel) (pa_cons (pv 3) pa_nil)) (pv 2) (nomark _))))) (pss_cons (ps_expr (pe_bmK K PySem.F.plainAttrs_list PySem.F.slot_list_append PySem.F.type_list_append mt_append (pv 3) (pa_cons (pe_op op_mod (pe_callTy call_int1 (by rfl) T.f_int (by decide +kernel) (pa_cons (pv 0) pa_nil)) pe_int) pa_nil)))
    (pss_one (ps_set (i := 0) sc_law_digits.nd rfl (by first | exact Or.inl rfl | exact Or.inr rfl) (pe_op op_fdiv (pv 0) pe_int)))) pss_nil)))) (pss_cons (ps_set (i := 5) sc_law_digits.nd rfl (by first | exact Or.inl rfl | exact Or.inr rfl) (pe_op op_mod (pe_callTy call_int1 (by rfl) T.f_int (by decide +kernel) (pa_cons (pe_op op_add (pe_op op_add (pe_op op_mul (pv 0) pe_int) (pe_op op_mul (pv 1) pe_int)) pe_int) pa_nil)) pe_int))
    (pss_one (ps_for PassesOwn.never rfl (pi_range1 rfl T.f_range (pa_cons (pv 2) pa_nil)) (pg_name (i := 4) sc_law_digits.nd rfl (by first | exact Or.inl rfl | exact Or.inr rfl)) (pss_cons (ps_set (i := 5) sc_law_digits.nd rfl (by first | exact Or.inl rfl | exact Or.inr rfl) (pe_op op_mod (pe_callTy call_int1 (by rfl) T.f_int (by decide +kernel) (pa_cons (pe_op op_add (pe_op op_add (pe_op op_mul (pv 5) pe_int) (pe_op op_mul pe_int (pv 4))) pe_int) pa_nil)) pe_int))
    (pss_one (ps_expr (pe_bmK K PySem.F.plainAttrs_list PySem.F.slot_list_append PySem.F.type_list_append mt_append (pv 3) (pa_cons (pe_op op_mod (pe_callTy call_int1 (by rfl) T.f_int (by decide +kernel) (pa_cons (pe_op op_fdiv (pv 5) pe_int) pa_nil)) pe_int) pa_nil)))))))))
    (pss_one (ps_ret (pv 3)))))), ?_⟩
    obtain ⟨⟨c, j, m⟩, F0, rfl, fh, ⟨h1, h2⟩, k⟩ := h
    dsimp only at h1 h2 k ⊢
    walk_at "q"
    refine ⟨x_lt (by decide), fun l H1 nl => ?_⟩
    obtain ⟨g1, ol⟩ := nl.own fh
    have zl : H l = none := nl.fr
    walk_at "q"
    refine if_join (F0 := F0) (H0 := H) (F := F0) (fun σ F H => ∃ c : Int, 0 ≤ c ∧ σ = [some (.int c), some (.int (j : Int)), some (.int (m : Int)), some (.ref l), none, none] ∧ Own F H l (.lst [])) (fun N kN => ?_) ?_
    · walk_at "s"
      refine x_d (fun hc => ?_) (fun hc => ?_)
      · walk_at "s"
        exact kN _ _ _ g1 (Same.refl _) ⟨-1 - c, by omega, rfl, ol⟩
      · walk_at "s"
        exact kN _ _ _ g1 (Same.refl _) ⟨c, by omega, rfl, ol⟩
    rintro σ1 F1 H2 G1 s1 ⟨c, hc, rfl, o1⟩
    walk_at "s"
    refine r_I ⟨by decide, by decide, by decide⟩ ?_
    walk_at "s"
    refine x_d (fun hb => ?_) (fun hb => ?_)
    · walk_at "s"
      refine ⟨by omega, by omega, ?_⟩
      refine for_rg0 G1 (fun i σ F H => ∃ (c : Int) (ds : List Int) (x1 : Option V), 0 ≤ c ∧ σ = [some (.int c), some (.int (j : Int)), some (.int (m : Int)), some (.ref l), x1, none] ∧ Own F H l (.lst (ds.map V.int)) ∧ DigOk m ds) ⟨c, [], _, hc, rfl, o1, Nat.zero_le _, fun _ h => by simp at h⟩ ?_ ?_
      · rintro i σ3 F3 H3 N hi G3 s3 ⟨c, ds, x1, hc, rfl, o3, hl, hd⟩ kN
        walk_at "s"
        refine x_d (fun hp => ?_) (fun hp => ?_)
        · walk_at "s"
          refine x_lenK o3.h ?_
          rw [List.length_map]
          walk_at "s"
          refine x_d (fun hq => ?_) (fun hq => ?_)
          · walk_at "s"
            refine ⟨x_tyL o3.h, ?_⟩
            walk_at "s"
            refine Or.inl ⟨c, rfl, ?_⟩
            walk_at "s"
            refine r_I (by decide) ?_
            walk_at "s"
            refine x_app o3.h (by rw [sizeLine_eq, List.length_map]; omega) fun H4 c4 => ?_
            walk_at "s"
            refine r_I ⟨by decide, by decide⟩ ?_
            walk_at "s"
            rw [map_snoc] at c4
            exact kN _ _ _ (c4.gr G3 o3.f zl) (Same.refl _) ⟨c / 1000, _, _, by omega, rfl, c4.own o3, by rw [List.length_append, List.length_singleton]; omega, dig_snoc hd (by omega) (by omega)⟩
          · walk_at "s"
            exact kN _ _ _ G3 (Same.refl _) ⟨c, ds, _, hc, rfl, o3, hl, hd⟩
        · walk_at "s"
          exact kN _ _ _ G3 (Same.refl _) ⟨c, ds, _, hc, rfl, o3, hl, hd⟩
      · rintro σ3 F3 H3 G3 s3 ⟨c, ds, x1, hc, rfl, o3, hl, hd⟩
        walk_at "s"
        exact k _ _ _ G3.hh zl o3.h ⟨ds, rfl, hl, hd⟩
    · walk_at "s"
      refine r_I (Or.inr ⟨by omega, by omega⟩) ?_
      walk_at "s"
      refine r_I (Or.inr ⟨by omega, by omega⟩) ?_
      walk_at "s"
      refine Or.inl ⟨_, rfl, ?_⟩
      walk_at "s"
      refine r_I (by decide) ?_
      walk_at "s"
      refine ⟨by omega, by omega, ?_⟩
      rw [Int.toNat_natCast]
      refine for_rg0 G1 (fun i σ F H => ∃ (ds : List Int) (x1 : Option V) (sd : Int), 0 ≤ sd ∧ sd < 2147483647 ∧ σ = [some (.int c), some (.int (j : Int)), some (.int (m : Int)), some (.ref l), x1, some (.int sd)] ∧ Own F H l (.lst (ds.map V.int)) ∧ ds.length = i ∧ ∀ d ∈ ds, 0 ≤ d ∧ d < 1000) ⟨[], _, _, by omega, by omega, rfl, o1, rfl, fun _ h => by simp at h⟩ ?_ ?_
      · rintro i σ3 F3 H3 N hi G3 s3 ⟨ds, x1, sd, hs1, hs2, rfl, o3, hl, hd⟩ kN
        walk_at "s"
        refine r_I (Or.inr ⟨by omega, by omega⟩) ?_
        walk_at "s"
        refine r_I (Or.inl ⟨by omega, by omega⟩) ?_
        walk_at "s"
        refine Or.inl ⟨_, rfl, ?_⟩
        walk_at "s"
        refine r_I (by decide) ?_
        walk_at "s"
        refine ⟨x_tyL o3.h, ?_⟩
        walk_at "s"
        refine r_I ⟨by decide, by decide⟩ ?_
        walk_at "s"
        refine Or.inl ⟨_, rfl, ?_⟩
        walk_at "s"
        refine r_I (by decide) ?_
        walk_at "s"
        refine x_app o3.h (by rw [sizeLine_eq, List.length_map]; omega) fun H4 c4 => ?_
        walk_at "s"
        rw [map_snoc] at c4
        exact kN _ _ _ (c4.gr G3 o3.f zl) (Same.refl _) ⟨_, _, _, Int.emod_nonneg _ (by decide), Int.emod_lt_of_pos _ (by decide), rfl, c4.own o3, by rw [List.length_append, List.length_singleton, hl], dig_snoc hd (Int.emod_nonneg _ (by decide)) (Int.emod_lt_of_pos _ (by decide))⟩
      · rintro σ3 F3 H3 G3 s3 ⟨ds, x1, sd, hs1, hs2, rfl, o3, hl, hd⟩
        walk_at "s"
        exact k _ _ _ G3.hh zl o3.h ⟨ds, rfl, by show ds.length ≤ m; omega, hd⟩
/-! D_law6.src -/
/-- a text and its signs, with the end -/
def LexE (l : List Nat) (ts : List Tk) : Prop := ∃ t0, ts = t0 ++ [endT] ∧ Lex l t0
theorem LexE.nil : LexE [] [endT] := ⟨[], rfl, .nil⟩
theorem LexE.blank {c : Nat} {r : List Nat} {ts : List Tk} (h : isBlk (chS c) = true) (l : LexE r ts) : LexE (c :: r) ts := by
  obtain ⟨t0, e, l⟩ := l
  exact ⟨t0, e, .blank h l⟩
theorem LexE.tok {c : Nat} {w r : List Nat} {k : Str} {v : V} {ts : List Tk} (h : Sgn (c :: w) r k v) (hb : isBlk (chS c) = false) (l : LexE r ts) : LexE (c :: w ++ r) ((k, v) :: ts) := by
  obtain ⟨t0, rfl, l⟩ := l
  exact ⟨(k, v) :: t0, rfl, .tok h hb l⟩
/-- how a rest begins that ends a name | a number -/
def hdN : List Nat → Bool
  | [] => true
  | c :: _ => !nameC c
def hdD : List Nat → Bool
  | [] => true
  | c :: _ => !digC c
theorem hdN_ok {r : List Nat} (h : hdN r = true) : ∀ x, r.head? = some x → nameC x = false := by
  intro x e
  cases r with
  | nil => cases e
  | cons c r =>
    cases e
    simpa [hdN] using h
theorem hdD_ok {r : List Nat} (h : hdD r = true) : ∀ x, r.head? = some x → digC x = false := by
  intro x e
  cases r with
  | nil => cases e
  | cons c r =>
    cases e
    simpa [hdD] using h
def nmB : List Nat → Bool
  | [] => false
  | c :: w => letC c && w.all nameC && decide (w.length < 20) && !isBlk (chS c)
theorem lx_name {w r : List Nat} {ts : List Tk} (hw : nmB w = true) (hr : hdN r = true) (l : LexE r ts) : LexE (w ++ r) (nameT (stS w) :: ts) := by
  cases w with
  | nil => cases hw
  | cons c w =>
    simp only [nmB, Bool.and_eq_true, decide_eq_true_eq, Bool.not_eq_true'] at hw
    obtain ⟨⟨⟨h1, h2⟩, h3⟩, h4⟩ := hw
    exact .tok (.name h1 (fun x hx => List.all_eq_true.mp h2 x hx) (hdN_ok hr) h3) h4 l
/-- the signs of a number -/
def numL (n : Int) : List Nat := (toString n : Str).cps.toList
def nuB (n : Int) : Bool := match numL n with
  | [] => false
  | c :: w => !letC c && digC c && w.all digC && decide (w.length < 600) && decide (intText? (stS (c :: w)) = some n) && !isBlk (chS c)
theorem nuB_all : ∀ k : Fin 21, nuB ((k.val : Nat) : Int) = true := by decide +kernel
theorem nuB_ok {n : Int} (h0 : 0 ≤ n) (h1 : n ≤ 20) : nuB n = true := by
  have h := nuB_all ⟨n.toNat, by omega⟩
  simp only [Int.toNat_of_nonneg h0] at h
  exact h
theorem lx_num {n : Int} {r : List Nat} {ts : List Tk} (h0 : 0 ≤ n) (h1 : n ≤ 20) (hr : hdD r = true) (l : LexE r ts) : LexE (numL n ++ r) (numT n :: ts) := by
  have h := nuB_ok h0 h1
  unfold nuB at h
  cases e : numL n with
  | nil => rw [e] at h; cases h
  | cons c w =>
    rw [e] at h
    simp only [Bool.and_eq_true, decide_eq_true_eq, Bool.not_eq_true'] at h
    obtain ⟨⟨⟨⟨⟨q1, q2⟩, q3⟩, q4⟩, q5⟩, q6⟩ := h
    exact .tok (.num q1 q2 (fun x hx => List.all_eq_true.mp q3 x hx) (hdD_ok hr) q4 q5) q6 l
theorem lx_sym {c : Nat} {r : List Nat} {ts : List Tk} (h : (!letC c && !digC c && !decide (c = 34) && symC c && !isBlk (chS c)) = true) (l : LexE r ts) : LexE (c :: r) (symT (chS c) :: ts) := by
  simp only [Bool.and_eq_true, Bool.not_eq_true', decide_eq_false_iff_not] at h
  obtain ⟨⟨⟨⟨q1, q2⟩, q3⟩, q4⟩, q5⟩ := h
  exact .tok (w := []) (.sym q1 q2 q3 q4) q5 l
theorem lx_quo {w r : List Nat} {ts : List Tk} (hw : w.all (fun x => !decide (x = 34)) = true) (hr : ∀ x, r.head? = some x → x ≠ 34) (l : LexE r ts) : LexE (34 :: (w ++ 34 :: r)) (("quoted", .str (stS w)) :: ts) := by
  have h := LexE.tok (c := 34) (w := w ++ [34]) (.quo (r := r) (w := w) (fun x hx => by simpa using List.all_eq_true.mp hw x hx) hr) (by decide) l
  rw [List.cons_append, List.append_assoc] at h
  exact h
theorem lx_nm {w : List Nat} {z : Str} {c : Nat} {r : List Nat} {ts : List Tk} (e : stS w = z) (hw : nmB w = true) (hc : nameC c = false) (l : LexE (c :: r) ts) : LexE (w ++ c :: r) (nameT z :: ts) := by
  rw [← e]
  exact lx_name hw (by show (!nameC c) = true; rw [hc]; rfl) l
theorem lx_nu {n : Int} {c : Nat} {r : List Nat} {ts : List Tk} (h : 0 ≤ n ∧ n ≤ 20) (hc : digC c = false) (l : LexE (c :: r) ts) : LexE (numL n ++ c :: r) (numT n :: ts) :=
  lx_num h.1 h.2 (by show (!digC c) = true; rw [hc]; rfl) l
theorem lx_sy {z : Str} {c : Nat} {r : List Nat} {ts : List Tk} (e : chS c = z) (h : (!letC c && !digC c && !decide (c = 34) && symC c && !isBlk (chS c)) = true) (l : LexE r ts) : LexE (c :: r) (symT z :: ts) := e ▸ lx_sym h l
/-- a name behind a blank, ahead of a blank -/
theorem lx_bn {w : List Nat} {z : Str} {b : Nat} {r : List Nat} {ts : List Tk} (e : stS w = z) (hw : nmB w = true) (hb : isBlk (chS b) = true) (l : LexE r ts) : LexE (b :: (w ++ 32 :: r)) (nameT z :: ts) :=
  .blank hb (lx_nm e hw (by decide) (.blank (by decide) l))
/-! the sources -/
def srcL : List (List Nat × Int) → List Nat → List Nat
  | [], r => r
  | p :: q, r => p.1 ++ 32 :: (numL p.2 ++ (if q = [] then r else 44 :: 32 :: srcL q r))
theorem lx_src {r : List Nat} {tl : List Tk} (l : LexE r tl) : ∀ {src : List (List Nat × Int)}, src ≠ [] → (∀ p ∈ src, nmB p.1 = true ∧ 0 ≤ p.2 ∧ p.2 ≤ 20) → LexE (srcL src (59 :: r)) (srcT (src.map fun p => (stS p.1, p.2)) tl)
  | [], h, _ => absurd rfl h
  | p :: q, _, h => by
    obtain ⟨h1, h2, h3⟩ := h p List.mem_cons_self
    rw [List.map_cons, srcT_cons]
    show LexE (p.1 ++ 32 :: (numL p.2 ++ _)) _
    refine lx_nm rfl h1 (by decide) (.blank (by decide) ?_)
    by_cases e : q = []
    · subst e
      exact lx_nu ⟨h2, h3⟩ (by decide) (lx_sy (by decide) (by decide) l)
    · rw [if_neg e, if_neg (by simpa using e)]
      exact lx_nu ⟨h2, h3⟩ (by decide) (lx_sy (by decide) (by decide) (.blank (by decide) (lx_src l e fun p hp => h p (List.mem_cons_of_mem _ hp))))
/-! the whole text -/
def RLs (ns : List Int) : List Nat := match ns with
  | [d, al, ao, rw, pw, pi, jo, pc, vp] => 10 :: ([109, 97, 114, 107] ++ 32 :: 34 :: ([72, 73, 68, 68, 69, 78] ++ 34 :: 59 :: 10 :: ([100, 111, 99, 117, 109, 101, 110, 116, 115] ++ 32 :: ([108, 101, 97, 115, 116] ++ 32 :: (numL d ++ 59 :: 10 :: ([97, 108, 105, 107, 101] ++ 32 :: (numL al ++ 32 :: ([111, 102] ++ 32 :: (numL ao ++ 44 :: 32 :: ([114, 117, 110, 115] ++ 32 :: ([111, 102] ++ 32 :: (numL rw ++ 59 :: 10 :: ([112, 104, 114, 97, 115, 101, 115] ++ 32 :: (numL pw ++ 59 :: 10 :: ([112, 105, 101, 99, 101, 115] ++ 32 :: ([108, 101, 97, 115, 116] ++ 32 :: (numL pi ++ 59 :: 10 :: ([106, 111, 105, 110, 115] ++ 32 :: (numL jo ++ 59 :: 10 :: ([112, 97, 103, 101, 115] ++ 32 :: (numL pc ++ 59 :: 10 :: ([118, 111, 108, 117, 109, 101, 115] ++ 32 :: (numL vp ++ [59, 10])))))))))))))))))))))))
  | _ => []
def ruleL (src : List (List Nat × Int)) (ns : List Int) : List Nat := [115, 111, 117, 114, 99, 101, 115] ++ 32 :: srcL src (59 :: RLs ns)
theorem lx_rule {src : List (List Nat × Int)} {d al ao rw pw pi jo pc vp : Int} (hs : src ≠ []) (hp : ∀ p ∈ src, nmB p.1 = true ∧ 0 ≤ p.2 ∧ p.2 ≤ 20)
    (h : ∀ n ∈ [d, al, ao, rw, pw, pi, jo, pc, vp], 0 ≤ n ∧ n ≤ 20) :
    LexE (ruleL src [d, al, ao, rw, pw, pi, jo, pc, vp]) (ruleT (src.map fun p => (stS p.1, p.2)) "HIDDEN" d al ao rw pw pi jo pc vp) := by
  simp only [List.forall_mem_cons] at h
  obtain ⟨h1, h2, h3, h4, h5, h6, h7, h8, h9, _⟩ := h
  refine lx_nm (by decide) (by decide) (by decide) (.blank (by decide) (lx_src ?_ hs hp))
  refine lx_bn (by decide) (by decide) (by decide) ?_
  have q : stS [72, 73, 68, 68, 69, 78] = ("HIDDEN" : Str) := by decide
  rw [← q]
  refine lx_quo (by decide) (fun x e => by cases e; decide) (lx_sy (by decide) (by decide) ?_)
  refine lx_bn (by decide) (by decide) (by decide) (lx_nm (by decide) (by decide) (by decide) (.blank (by decide) (lx_nu h1 (by decide) (lx_sy (by decide) (by decide) ?_))))
  refine lx_bn (by decide) (by decide) (by decide) (lx_nu h2 (by decide) (lx_bn (by decide) (by decide) (by decide) (lx_nu h3 (by decide) (lx_sy (by decide) (by decide) ?_))))
  refine lx_bn (by decide) (by decide) (by decide) (lx_nm (by decide) (by decide) (by decide) (.blank (by decide) (lx_nu h4 (by decide) (lx_sy (by decide) (by decide) ?_))))
  refine lx_bn (by decide) (by decide) (by decide) (lx_nu h5 (by decide) (lx_sy (by decide) (by decide) ?_))
  refine lx_bn (by decide) (by decide) (by decide) (lx_nm (by decide) (by decide) (by decide) (.blank (by decide) (lx_nu h6 (by decide) (lx_sy (by decide) (by decide) ?_))))
  refine lx_bn (by decide) (by decide) (by decide) (lx_nu h7 (by decide) (lx_sy (by decide) (by decide) ?_))
  refine lx_bn (by decide) (by decide) (by decide) (lx_nu h8 (by decide) (lx_sy (by decide) (by decide) ?_))
  refine lx_bn (by decide) (by decide) (by decide) (lx_nu h9 (by decide) (lx_sy (by decide) (by decide) ?_))
  exact .blank (by decide) .nil
/-! D_law7.src -/
theorem cutS_to (z : Str) (b : Nat) : (L2.cutS z none (some (b : Int))).length ≤ b := by
  unfold L2.cutS
  rw [HT.sIx_nat]
  show Array.size (List.toArray _) ≤ b
  rw [List.size_toArray, List.length_take]
  omega
theorem app_len (a b : Str) : (a ++ b).length = a.length + b.length := by rw [len_list, app_list, List.length_append, ← len_list, ← len_list]
theorem at_lst {xs : List V} {k : Int} {j : Nat} {v : V} (e : k = (j : Int)) (h : xs[j]? = some v) : atI xs k = some v := by
  subst e
  exact atI_nat h
def sp_law_text : Sp := SpOf (ι := Int × Nat × Nat) (fun i => [.int i.1, .int (i.2.1 : Int), .int (i.2.2 : Int)]) (fun i _ => i.2.1 ≤ 1000 ∧ i.2.2 ≤ 1000) (fun _ _ v => ∃ z, v = .str z ∧ z.length ≤ 400)
theorem ok_law_text {P : Program} {w : World} {K : PySem.W.Frag} {mg : Str → Option Value} {base : Heap} (T : Tx K mg) : Okd P w K mg base 2 ("_law_text", none) ["_law_cell_here", "_law_k", "_law_most"] [] (sp_law_text) := by
  have O_law_digits := ok_law_digits (P := P) (w := w) (base := base) T
  have O_law_word := ok_law_word (P := P) (w := w) (base := base) T
  obtain ⟨fd, F⟩ : ∃ fd, FunD K "_law_text" "_law_text" (defArgs s_law_text) (defBody s_law_text) (defScope s_law_text) [] [] (He.fAd K ("_law_text", none)) fd := T.says.d.def_ 82 rfl
  refine ⟨fd, [], F.ok sc_law_text (fun vs H Q E h => ?_) (fun cdv A outer s H vs Q E hr h => ?_), .nil, F.bindsN (fun _ _ _ _ _ _ us hl => match us, hl with | [_, _, _], _ => rfl), F.kp⟩
  · obtain ⟨_, _, rfl, _⟩ := h; rfl
  · refine ⟨_, PSs.nox (pss_cons (ps_set (i := 3) sc_law_text.nd rfl (by first | exact Or.inl rfl | exact Or.inr rfl) pe_str)
    (pss_cons (ps_for PassesOwn.never rfl (pi_listK K (pe_ok O_law_digits T.n_law_digits hr (by decide) (by rfl) (pa_cons (pv 0) (pa_cons (pv 1) (pa_cons (pv 2) pa_nil))))) (pg_name (i := 4) sc_law_text.nd rfl (by first | exact Or.inl rfl | exact Or.inr rfl)) (pss_one (ps_if (pt_cmpR op_eq (pe_op op_mod (pe_callTy call_int1 (by rfl) T.f_int (by decide +kernel) (pa_cons (pv 4) pa_nil)) pe_int) pe_int (nomark _)) (pss_one (ps_set (i := 3) sc_law_text.nd rfl (by first | exact Or.inl rfl | exact Or.inr rfl) (pe_op op_add_str (pv 3) pe_str))) (pss_one (ps_set (i := 3) sc_law_text.nd rfl (by first | exact Or.inl rfl | exact Or.inr rfl) (pe_op op_add_str (pe_op op_add_str (pv 3) (pe_ok O_law_word T.n_law_word hr (by decide) (by rfl) (pa_cons (pe_op op_fdiv (pv 4) pe_int) pa_nil))) pe_str))))))
    (pss_cons (ps_if (pt_cmpR op_eq (pe_op op_mod (pe_callTy call_int1 (by rfl) T.f_int (by decide +kernel) (pa_cons (pv 0) pa_nil)) pe_int) pe_int (nomark _)) (pss_one (ps_set (i := 3) sc_law_text.nd rfl (by first | exact Or.inl rfl | exact Or.inr rfl) (pe_op op_add_str (pv 3) (pe_op op_repS (pe_op op_add_str (pe_ok O_law_word T.n_law_word hr (by decide) (by rfl) (pa_cons (pe_op op_fdiv (pv 0) pe_int) pa_nil)) pe_str) pe_int)))) pss_nil)
    (pss_one (ps_ret (pe_slice sl_str (pv 3) po_none (po_some pe_int))))))), ?_⟩
    obtain ⟨⟨c, j, m⟩, F0, rfl, fh, ⟨h1, h2⟩, k⟩ := h
    dsimp only at h1 h2 k ⊢
    walk_at "q"
    refine ⟨(c, j, m), F0, rfl, fh, ⟨h1, h2⟩, fun a vs H1 sh ha ea hv => ?_⟩
    obtain ⟨ds, rfl, hl, hd⟩ := hv
    dsimp only at hl
    have g1 := (Gr.keep fh sh).fix ea ha (fh.free ha)
    have ha1 : (upd F0 a (.lst (ds.map V.int))) a = some (.lst (ds.map V.int)) := upd_same
    generalize upd F0 a (.lst (ds.map V.int)) = F1 at g1 ha1
    walk_at "q"
    refine ⟨a, rfl, ⟨_, SqL.of ea⟩, ?_⟩
    refine for_kL (r := kI) (xs := ds) g1 ha1 (kI_all ds) (fun i σ F H' => ∃ (z : Str) (x1 : Option V), σ = [some (.int c), some (.int (j : Int)), some (.int (m : Int)), some (.str z), x1] ∧ z.length ≤ 4 * i) ⟨_, _, rfl, Nat.zero_le _⟩ ?_ ?_
    · rintro i d v σ1 F2 H2 N hx hi hv G2 s2 ⟨z, x1, rfl, hz⟩ kN
      obtain rfl : v = .int d := hv
      walk_at "s"
      refine Or.inl ⟨d, rfl, ?_⟩
      walk_at "s"
      refine r_I (by decide) ?_
      walk_at "s"
      refine x_d (fun _ => ?_) (fun _ => ?_)
      · walk_at "s"
        refine ⟨by rw [sizeLine_eq]; show z.length + 1 ≤ _; omega, ?_⟩
        walk_at "s"
        refine kN _ _ _ G2 (Same.refl _) ⟨_, _, rfl, ?_⟩
        rw [app_len]
        show z.length + 1 ≤ _
        omega
      · walk_at "s"
        refine r_I ⟨by decide, by decide⟩ ?_
        walk_at "s"
        refine ⟨d / 9, F2, rfl, G2.fh, trivial, fun v F3 H3 g3 hv => ?_⟩
        obtain ⟨w, rfl, hw⟩ := hv
        refine ⟨_, _, rfl, rfl, by rw [sizeLine_eq]; omega, ?_⟩
        walk_at "s"
        refine ⟨by rw [sizeLine_eq, app_len]; show z.length + w.length + 1 ≤ _; omega, ?_⟩
        walk_at "s"
        refine kN _ _ _ (G2.trans g3) g3.ff ⟨_, _, rfl, ?_⟩
        rw [app_len, app_len]
        show z.length + w.length + 1 ≤ _
        omega
    · rintro σ1 F2 H2 G2 s2 ⟨z, x1, rfl, hz⟩
      walk_at "q"
      refine if_join (F0 := F0) (H0 := H) (F := F2) (fun σ F H' => ∃ z : Str, σ = [some (.int c), some (.int (j : Int)), some (.int (m : Int)), some (.str z), x1] ∧ z.length ≤ 10000) (fun N kN => ?_) ?_
      · walk_at "s"
        refine Or.inl ⟨c, rfl, ?_⟩
        walk_at "s"
        refine r_I (by decide) ?_
        walk_at "s"
        refine x_d (fun _ => ?_) (fun _ => ?_)
        · walk_at "s"
          refine r_I ⟨by decide, by decide⟩ ?_
          walk_at "s"
          refine ⟨c / 11, F2, rfl, G2.fh, trivial, fun v F3 H3 g3 hv => ?_⟩
          obtain ⟨w, rfl, hw⟩ := hv
          walk_at "s"
          refine ⟨by rw [sizeLine_eq]; show w.length + 1 ≤ _; omega, ?_⟩
          walk_at "s"
          have hw1 : (w ++ (" " : Str)).length ≤ 4 := by rw [app_len]; show w.length + 1 ≤ _; omega
          refine ⟨_, _, rfl, rfl, by decide, by decide, ?_, ?_⟩
          · show (w ++ (" " : Str)).length * 60 ≤ _
            omega
          have hr : (repS (w ++ (" " : Str)) (60 : Int).toNat).length ≤ 240 := by
            rw [repS_length]
            show 60 * (w ++ (" " : Str)).length ≤ _
            omega
          refine ⟨_, _, rfl, rfl, by rw [sizeLine_eq]; show z.length + (repS (w ++ (" " : Str)) (60 : Int).toNat).length ≤ _; omega, ?_⟩
          walk_at "s"
          refine kN _ _ _ (G2.trans g3) g3.ff ⟨_, rfl, ?_⟩
          rw [app_len]
          show z.length + (repS (w ++ (" " : Str)) (60 : Int).toNat).length ≤ _
          omega
        · walk_at "s"
          exact kN _ _ _ G2 (Same.refl _) ⟨z, rfl, by omega⟩
      rintro σ3 F3 H3 G3 s3 ⟨z, rfl, hz⟩
      walk_at "s"
      refine ⟨z, rfl, by rw [sizeLine_eq]; omega, ?_⟩
      walk_at "s"
      exact k _ _ _ G3 ⟨_, rfl, cutS_to z 400⟩
/-! D_law8.src -/
def DocsOk (docs : List (Int × Int × Str)) : Prop := docs.length ≤ 6 ∧ ∀ d ∈ docs, d.2.2.length ≤ 400
def sp_law_documents (K : PySem.W.Frag) : Sp := SpOf (ι := V × Nat × List Int) (fun i => [i.1, .int (i.2.1 : Int)]) (fun ⟨v1, n, ns⟩ F => (kScr K).p F v1 ns ∧ 1 ≤ n ∧ n ≤ 1000) (fun _ F v => ∃ docs, (kL kDoc).p F v docs ∧ DocsOk docs)
theorem ok_law_documents {P : Program} {w : World} {K : PySem.W.Frag} {mg : Str → Option Value} {base : Heap} (T : Tx K mg) : Okd P w K mg base 3 ("_law_documents", none) ["_law_script", "_law_sources"] [] (sp_law_documents K) := by
  have O_law_cell := ok_law_cell (P := P) (w := w) (base := base) T
  have O_law_text := ok_law_text (P := P) (w := w) (base := base) T
  have O_law_word := ok_law_word (P := P) (w := w) (base := base) T
  obtain ⟨fd, F⟩ : ∃ fd, FunD K "_law_documents" "_law_documents" (defArgs s_law_documents) (defBody s_law_documents) (defScope s_law_documents) [] [] (He.fAd K ("_law_documents", none)) fd := T.says.d.def_ 83 rfl
  refine ⟨fd, [], F.ok sc_law_documents (fun vs H Q E h => ?_) (fun cdv A outer s H vs Q E hr h => ?_), .nil, F.bindsN (fun _ _ _ _ _ _ us hl => match us, hl with | [_, _], _ => rfl), F.kp⟩
  · obtain ⟨_, _, rfl, _⟩ := h; rfl
  · refine ⟨_, PSs.nox (pss_cons (ps_set (i := 2) sc_law_documents.nd rfl (by first | exact Or.inl rfl | exact Or.inr rfl) (pe_lst pa_nil))
    (pss_cons (ps_set (i := 3) sc_law_documents.nd rfl (by first | exact Or.inl rfl | exact Or.inr rfl) pe_int)
    (pss_cons (ps_for PassesOwn.never rfl (pi_range1 rfl T.f_range (pa_cons (pe_op op_add pe_int (pe_op op_mod (pe_callTy call_int1 (by rfl) T.f_int (by decide +kernel) (pa_cons (pe_ok O_law_cell T.n_law_cell hr (by decide) (by rfl) (pa_cons (pv 0) (pa_cons pe_int pa_nil))) pa_nil)) pe_int)) pa_nil)) (pg_name (i := 4) sc_law_documents.nd rfl (by first | exact Or.inl rfl | exact Or.inr rfl)) (pss_cons (ps_set (i := 5) sc_law_documents.nd rfl (by first | exact Or.inl rfl | exact Or.inr rfl) (pe_ok O_law_cell T.n_law_cell hr (by decide) (by rfl) (pa_cons (pv 0) (pa_cons (pe_op op_add pe_int (pv 4)) pa_nil))))
    (pss_cons (ps_set (i := 3) sc_law_documents.nd rfl (by first | exact Or.inl rfl | exact Or.inr rfl) (pe_op op_add (pe_op op_add (pv 3) pe_int) (pe_op op_mod (pe_callTy call_int1 (by rfl) T.f_int (by decide +kernel) (pa_cons (pv 5) pa_nil)) pe_int)))
    (pss_cons (ps_set (i := 6) sc_law_documents.nd rfl (by first | exact Or.inl rfl | exact Or.inr rfl) (pe_ok O_law_text T.n_law_text hr (by decide) (by rfl) (pa_cons (pv 5) (pa_cons (pe_op op_add pe_int (pv 4)) (pa_cons pe_int pa_nil)))))
    (pss_cons (ps_if (PW.pt (pw_and (pt_cmpR op_gt (pv 4) pe_int (nomark _)) (pw_and1 (pt_cmpR op_eq (pe_op op_mod (pe_callTy call_int1 (by rfl) T.f_int (by decide +kernel) (pa_cons (pe_op op_fdiv (pv 5) pe_int) pa_nil)) pe_int) pe_int (nomark _))))) (pss_one (ps_set (i := 6) sc_law_documents.nd rfl (by first | exact Or.inl rfl | exact Or.inr rfl) (pe_op op_add_str (pe_op op_add_str (pe_slice sl_str (pe_ix (ix_tupK K) (pe_ix (ix_listK K) (pv 2) (pe_op op_sub (pv 4) pe_int) (fun _ _ => rfl)) pe_int (fun _ _ => rfl)) po_none (po_some pe_int)) pe_str) (pe_ok O_law_word T.n_law_word hr (by decide) (by rfl) (pa_cons (pe_op op_fdiv (pv 5) pe_int) pa_nil))))) pss_nil)
    (pss_one (ps_expr (pe_bmK K PySem.F.plainAttrs_list PySem.F.slot_list_append PySem.F.type_list_append mt_append (pv 2) (pa_cons (pe_tup (pa_cons (pv 3) (pa_cons (pe_op op_mod (pe_callTy call_int1 (by rfl) T.f_int (by decide +kernel) (pa_cons (pe_op op_fdiv (pv 5) pe_int) pa_nil)) (pv 1)) (pa_cons (pv 6) pa_nil)))) pa_nil)))))))))
    (pss_one (ps_ret (pv 2)))))), ?_⟩
    obtain ⟨⟨v1, n, ns⟩, F0, rfl, fh, ⟨hscr, hn1, hn2⟩, k⟩ := h
    dsimp only at hn1 hn2 k ⊢
    obtain ⟨a, rfl, ha⟩ := id hscr
    walk_at "q"
    refine ⟨x_lt (by decide), fun l H1 nl => ?_⟩
    obtain ⟨g1, ol⟩ := nl.own fh
    have zl : H l = none := nl.fr
    walk_at "q"
    refine ⟨(.ref a, 7, ns), F0, rfl, g1.fh, hscr, fun v F2 H2 g2 hv => ?_⟩
    dsimp only at hv
    subst hv
    have G2 := g1.trans g2
    refine Or.inl ⟨_, rfl, ?_⟩
    walk_at "q"
    refine r_I (by decide) ?_
    walk_at "q"
    refine ⟨by omega, by omega, ?_⟩
    obtain ⟨m, em, hm⟩ : ∃ m : Nat, 1 + cellF ns 7 % 6 = (m : Int) ∧ m ≤ 6 := ⟨(1 + cellF ns 7 % 6).toNat, by omega, by omega⟩
    rw [em, Int.toNat_natCast]
    refine for_rg0 G2 (fun i σ F H' => ∃ (num : Int) (vs : List V) (docs : List (Int × Int × Str)) (x1 x2 x3 : Option V), σ = [some (.ref a), some (.int (n : Int)), some (.ref l), some (.int num), x1, x2, x3] ∧ Own F H' l (.lst vs) ∧ Paired (kDoc.p F) vs docs ∧ docs.length = i ∧ ∀ d ∈ docs, d.2.2.length ≤ 400)
      ⟨0, [], [], _, _, _, rfl, ol.go g2, .nil, rfl, fun _ h => by simp at h⟩ ?_ ?_
    · rintro i σ3 F3 H3 N hi G3 s3 ⟨num, vs, docs, x1, x2, x3, rfl, o3, hp, hl, hd⟩ kN
      have hvl := hp.length
      walk_at "q"
      refine ⟨(.ref a, 8 + i, ns), F3, rfl, G3.fh, (kScr K).mono G3.ff hscr, fun v F4 H4 g4 hv => ?_⟩
      dsimp only at hv
      subst hv
      generalize cellF ns (8 + i) = c
      have G4 := G3.trans g4
      walk_at "q"
      refine Or.inl ⟨c, rfl, ?_⟩
      walk_at "q"
      refine r_I (by decide) ?_
      walk_at "q"
      refine ⟨(c, 8 + i, 16), F4, rfl, G4.fh, ⟨by dsimp only; omega, by show 16 ≤ 1000; decide⟩, fun v F5 H5 g5 hv => ?_⟩
      obtain ⟨z, rfl, hz⟩ := hv
      have G5 := G4.trans g5
      have o5 := (o3.go g4).go g5
      have s35 := g4.ff.trans g5.ff
      walk_at "q"
      refine if_join (F0 := F0) (H0 := H) (F := F5) (fun σ F H' => ∃ z : Str, σ = [some (.ref a), some (.int (n : Int)), some (.ref l), some (.int (num + 1 + c % 5)), some (.int (i : Int)), some (.int c), some (.str z)] ∧ z.length ≤ 400 ∧ Own F H' l (.lst vs)) (fun N kN => ?_) ?_
      · walk_at "s"
        refine x_d (fun hpos => ?_) (fun _ => ?_)
        · walk_at "s"
          refine r_I ⟨by decide, by decide⟩ ?_
          walk_at "s"
          refine Or.inl ⟨_, rfl, ?_⟩
          walk_at "s"
          refine r_I (by decide) ?_
          walk_at "s"
          refine x_d (fun _ => ?_) (fun _ => ?_)
          · obtain ⟨i', rfl⟩ : ∃ i', i = i' + 1 := ⟨i - 1, by omega⟩
            have hii : i' < vs.length := by omega
            obtain ⟨d, hd1, hd2⟩ := paired_get hp (List.getElem?_eq_getElem hii)
            obtain ⟨t, y1, y2, y3, ev, ht, e1, e2, e3⟩ := hd2
            obtain rfl : y3 = .str d.2.2 := e3
            walk_at "s"
            refine x_ixL o5.h (at_lst (j := i') (by omega) (by rw [List.getElem?_eq_getElem hii, ev])) ?_
            walk_at "s"
            refine x_ixT (G5.fh _ _ (s35 _ _ ht)) (at_lst (j := 2) rfl rfl) ?_
            have hdz := hd d (List.mem_of_getElem? hd1)
            walk_at "s"
            refine ⟨d.2.2, rfl, by rw [sizeLine_eq]; omega, ?_⟩
            have hcz := cutS_to d.2.2 300
            generalize L2.cutS d.2.2 none (some ((300 : Nat) : Int)) = z3 at hcz ⊢
            walk_at "s"
            refine ⟨by rw [sizeLine_eq]; show z3.length + 1 ≤ _; omega, ?_⟩
            walk_at "s"
            refine r_I ⟨by decide, by decide⟩ ?_
            walk_at "s"
            refine ⟨c / 20, F5, rfl, G5.fh, trivial, fun v F6 H6 g6 hv => ?_⟩
            obtain ⟨w, rfl, hw⟩ := hv
            refine ⟨_, _, rfl, rfl, by rw [sizeLine_eq, app_len]; show z3.length + 1 + w.length ≤ _; omega, ?_⟩
            walk_at "s"
            refine kN _ _ _ (G5.trans g6) g6.ff ⟨_, rfl, ?_, o5.go g6⟩
            rw [app_len, app_len]
            show z3.length + 1 + w.length ≤ _
            omega
          · walk_at "s"
            exact kN _ _ _ G5 (Same.refl _) ⟨z, rfl, hz, o5⟩
        · refine x_f ?_
          walk_at "s"
          exact kN _ _ _ G5 (Same.refl _) ⟨z, rfl, hz, o5⟩
      rintro σ6 F6 H6 G6 s6 ⟨z, rfl, hz, o6⟩
      walk_at "s"
      refine ⟨x_tyL o6.h, ?_⟩
      walk_at "s"
      refine r_I ⟨by decide, by decide⟩ ?_
      walk_at "s"
      refine Or.inl ⟨_, rfl, ?_⟩
      walk_at "s"
      refine r_I (by omega) ?_
      walk_at "s"
      refine ⟨x_lt (Nat.le_of_ble_eq_true rfl), fun t H7 nt => ?_⟩
      obtain ⟨F7, g7, e7⟩ := nt.fix G6.fh
      have o7 := o6.go g7
      have s37 := (s35.trans s6).trans g7.ff
      walk_at "s"
      refine x_app o7.h (by rw [sizeLine_eq]; omega) fun H8 c8 => ?_
      walk_at "s"
      refine kN _ _ _ (c8.gr (G6.trans g7) o7.f zl) s37 ⟨_, _, docs ++ [(_, _, z)], _, _, _, rfl, c8.own o7, (L2.Paired.mapP hp fun _ _ h => kDoc.mono s37 h).snoc ⟨t, _, _, _, rfl, e7, rfl, rfl, rfl⟩, by rw [List.length_append, List.length_singleton, hl], fun d h => ?_⟩
      rcases List.mem_append.mp h with h | h
      · exact hd d h
      · rw [List.mem_singleton.mp h]; exact hz
    · rintro σ3 F3 H3 G3 s3 ⟨num, vs, docs, x1, x2, x3, rfl, o3, hp, hl, hd⟩
      walk_at "s"
      exact k _ _ _ (G3.fix o3.h zl o3.f) ⟨docs, ⟨l, vs, rfl, upd_same, L2.Paired.mapP hp fun _ _ h => kDoc.mono (same_new o3.f) h⟩, by rw [hl]; exact hm, hd⟩
def ExsOk (exs : List Str) : Prop := exs.length ≤ 3 ∧ ∀ d ∈ exs, d.length ≤ 200
def sp_law_exams (K : PySem.W.Frag) : Sp := SpOf (ι := V × List Int) (fun i => [i.1]) (fun ⟨v1, ns⟩ F => (kScr K).p F v1 ns) (fun _ F v => ∃ exs, (kL kS).p F v exs ∧ ExsOk exs)
theorem ok_law_exams {P : Program} {w : World} {K : PySem.W.Frag} {mg : Str → Option Value} {base : Heap} (T : Tx K mg) : Okd P w K mg base 3 ("_law_exams", none) ["_law_script"] [] (sp_law_exams K) := by
  have O_law_cell := ok_law_cell (P := P) (w := w) (base := base) T
  have O_law_text := ok_law_text (P := P) (w := w) (base := base) T
  obtain ⟨fd, F⟩ : ∃ fd, FunD K "_law_exams" "_law_exams" (defArgs s_law_exams) (defBody s_law_exams) (defScope s_law_exams) [] [] (He.fAd K ("_law_exams", none)) fd := T.says.d.def_ 84 rfl
  refine ⟨fd, [], F.ok sc_law_exams (fun vs H Q E h => ?_) (fun cdv A outer s H vs Q E hr h => ?_), .nil, F.bindsN (fun _ _ _ _ _ _ us hl => match us, hl with | [_], _ => rfl), F.kp⟩
  · obtain ⟨_, _, rfl, _⟩ := h; rfl
  · refine ⟨_, PSs.nox (pss_cons (ps_set (i := 1) sc_law_exams.nd rfl (by first | exact Or.inl rfl | exact Or.inr rfl) (pe_lst pa_nil))
    (pss_cons (ps_for PassesOwn.never rfl (pi_range1 rfl T.f_range (pa_cons (pe_op op_mod (pe_callTy call_int1 (by rfl) T.f_int (by decide +kernel) (pa_cons (pe_ok O_law_cell T.n_law_cell hr (by decide) (by rfl) (pa_cons (pv 0) (pa_cons pe_int pa_nil))) pa_nil)) pe_int) pa_nil)) (pg_name (i := 2) sc_law_exams.nd rfl (by first | exact Or.inl rfl | exact Or.inr rfl)) (pss_one (ps_expr (pe_bmK K PySem.F.plainAttrs_list PySem.F.slot_list_append PySem.F.type_list_append mt_append (pv 1) (pa_cons (pe_slice sl_str (pe_ok O_law_text T.n_law_text hr (by decide) (by rfl) (pa_cons (pe_ok O_law_cell T.n_law_cell hr (by decide) (by rfl) (pa_cons (pv 0) (pa_cons (pe_op op_add pe_int (pv 2)) pa_nil))) (pa_cons (pe_op op_add pe_int (pv 2)) (pa_cons pe_int pa_nil)))) po_none (po_some pe_int)) pa_nil)))))
    (pss_one (ps_ret (pv 1))))), ?_⟩
    obtain ⟨⟨v1, ns⟩, F0, rfl, fh, hscr, k⟩ := h
    dsimp only at hscr k ⊢
    obtain ⟨a, rfl, ha⟩ := id hscr
    walk_at "q"
    refine ⟨x_lt (by decide), fun l H1 nl => ?_⟩
    obtain ⟨g1, ol⟩ := nl.own fh
    have zl : H l = none := nl.fr
    walk_at "q"
    refine ⟨(.ref a, 23, ns), F0, rfl, g1.fh, hscr, fun v F2 H2 g2 hv => ?_⟩
    dsimp only at hv
    subst hv
    have G2 := g1.trans g2
    refine Or.inl ⟨_, rfl, ?_⟩
    walk_at "q"
    refine r_I (by decide) ?_
    walk_at "q"
    refine ⟨by omega, by omega, ?_⟩
    obtain ⟨m, em, hm⟩ : ∃ m : Nat, cellF ns 23 % 4 = (m : Int) ∧ m ≤ 3 := ⟨(cellF ns 23 % 4).toNat, by omega, by omega⟩
    rw [em, Int.toNat_natCast]
    refine for_rg0 G2 (fun i σ F H' => ∃ (exs : List Str) (x1 : Option V), σ = [some (.ref a), some (.ref l), x1] ∧ Own F H' l (.lst (exs.map V.str)) ∧ exs.length = i ∧ ∀ d ∈ exs, d.length ≤ 200)
      ⟨[], _, rfl, ol.go g2, rfl, fun _ h => by simp at h⟩ ?_ ?_
    · rintro i σ3 F3 H3 N hi G3 s3 ⟨exs, x1, rfl, o3, hl, hd⟩ kN
      walk_at "q"
      refine ⟨x_tyL o3.h, ?_⟩
      walk_at "q"
      refine ⟨(.ref a, 24 + i, ns), F3, rfl, G3.fh, (kScr K).mono G3.ff hscr, fun v F4 H4 g4 hv => ?_⟩
      dsimp only at hv
      subst hv
      generalize cellF ns (24 + i) = c
      have G4 := G3.trans g4
      walk_at "q"
      refine ⟨(c, 24 + i, 8), F4, rfl, G4.fh, ⟨by dsimp only; omega, by show 8 ≤ 1000; decide⟩, fun v F5 H5 g5 hv => ?_⟩
      obtain ⟨z, rfl, hz⟩ := hv
      have G5 := G4.trans g5
      have o5 := (o3.go g4).go g5
      have s35 := g4.ff.trans g5.ff
      walk_at "q"
      refine ⟨z, rfl, by rw [sizeLine_eq]; omega, ?_⟩
      walk_at "q"
      refine x_app o5.h (by rw [sizeLine_eq, List.length_map]; omega) fun H8 c8 => ?_
      walk_at "q"
      refine kN _ _ _ (c8.gr G5 o5.f zl) s35 ⟨exs ++ [L2.cutS z none (some (200 : Nat))], _, rfl, ?_, by rw [List.length_append, List.length_singleton, hl], fun d h => ?_⟩
      · rw [List.map_append]
        exact c8.own o5
      rcases List.mem_append.mp h with h | h
      · exact hd d h
      · rw [List.mem_singleton.mp h]; exact cutS_to z 200
    · rintro σ3 F3 H3 G3 s3 ⟨exs, x1, rfl, o3, hl, hd⟩
      walk_at "s"
      exact k _ _ _ (G3.fix o3.h zl o3.f) ⟨exs, kLS' upd_same, by rw [hl]; exact hm, hd⟩
/-! D_law9.src -/
theorem at_g2 {l : List Int} {k : Nat} (h : 2 + k < l.length) : atI (l.map V.int) (2 + (k : Int)) = some (V.int (g l (2 + k))) := by
  rw [show (2 + (k : Int)) = ((2 + k : Nat) : Int) by omega]
  exact at_g h
/-! the names of the sources -/
theorem numL_len {n : Int} (h0 : 0 ≤ n) (h1 : n ≤ 20) : (toString n : Str).length ≤ 2 := by
  have h : ∀ k : Fin 21, (toString ((k.val : Nat) : Int) : Str).length ≤ 2 := by decide +kernel
  have q := h ⟨n.toNat, by omega⟩
  simp only [Int.toNat_of_nonneg h0] at q
  exact q
theorem log_lt {n : Int} (h0 : 0 ≤ n) (h1 : n ≤ 20) : n.natAbs.log2 < 1920 := Nat.lt_of_le_of_lt (Nat.log2_le_self _) (by omega)
theorem nmL_len (c k : Int) : (stS (nmL c k)).length ≤ 3 := by
  rw [stS_len]
  unfold nmL
  rw [List.length_cons, List.length_replicate]
  omega
def pNm (p : List Nat × Int) : Str := stS (p.1 ++ 32 :: numL p.2)
theorem join_src (r : List Nat) : ∀ src : List (List Nat × Int), src ≠ [] → (Txt.join (Str.ofString ", ") (src.map pNm)).cps.toList ++ r = srcL src r := by
  intro src
  have e : ∀ cs, Txt.join (Str.ofString ", ") cs = Str.join (Str.ofString ", ") cs := fun cs => StrLaws.glued_eq_join _ _
  rw [e]
  clear e
  induction src with
  | nil => intro h; exact absurd rfl h
  | cons p t ih =>
    intro _
    cases t with
    | nil =>
      show (pNm p).cps.toList ++ r = p.1 ++ 32 :: (numL p.2 ++ r)
      unfold pNm
      rw [stS_list, List.append_assoc, List.cons_append]
    | cons q t =>
      rw [List.map_cons, List.map_cons, PyProof.Rows.join_cons_cons, app_list, app_list, List.append_assoc, ← List.map_cons, ih (by simp)]
      have e0 : (Str.ofString ", ").cps.toList = [44, 32] := by decide
      rw [e0]
      unfold pNm
      rw [stS_list]
      show _ = p.1 ++ 32 :: (numL p.2 ++ (if q :: t = [] then r else 44 :: 32 :: srcL (q :: t) r))
      rw [if_neg (by simp)]
      simp only [List.append_assoc, List.cons_append, List.nil_append]
def srcF (c : Int) (f : Nat → Int) (i : Nat) : List (List Nat × Int) := (List.range i).map fun (j : Nat) => (nmL c (j : Int), f j)
theorem srcF_succ (c : Int) (f : Nat → Int) (i : Nat) : srcF c f (i + 1) = srcF c f i ++ [(nmL c (i : Int), f i)] := by
  unfold srcF
  rw [List.range_succ, List.map_append]
  rfl
theorem srcF_len (c : Int) (f : Nat → Int) (i : Nat) : (srcF c f i).length = i := by
  unfold srcF
  rw [List.length_map, List.length_range]
theorem srcF_g {c : Int} {f : Nat → Int} {m i : Nat} (h : i < m) : g ((srcF c f m).map (·.2)) i = f i := by
  unfold g srcF
  rw [List.getD_eq_getElem?_getD, List.map_map, List.getElem?_map, List.getElem?_range h]
  rfl
theorem srcF_mem {c : Int} {f : Nat → Int} {m : Nat} {p : List Nat × Int} (h : p ∈ srcF c f m) : ∃ j, j < m ∧ p = (nmL c (j : Int), f j) := by
  unfold srcF at h
  obtain ⟨j, hj, rfl⟩ := List.mem_map.mp h
  exact ⟨j, List.mem_range.mp hj, rfl⟩
def nmQ (a b : Nat) : List Nat := (97 + a) :: List.replicate b 120
theorem nmQ_ok : ∀ (a : Fin 26) (b : Fin 3), nmB (nmQ a.val b.val) = true ∧ stS (nmQ a.val b.val) ∉ resv := by decide +kernel
theorem nmL_ok (c k : Int) : nmB (nmL c k) = true ∧ stS (nmL c k) ∉ resv := nmQ_ok ⟨((c + 7 * k) % 26).toNat, by omega⟩ ⟨((c / 26) % 3).toNat, by omega⟩
theorem nmL_inj {c : Int} {i j : Nat} (hi : i < 3) (hj : j < 3) (h : stS (nmL c (i : Int)) = stS (nmL c (j : Int))) : i = j := by
  have e : (stS (nmL c (i : Int))).cps.toList = (stS (nmL c (j : Int))).cps.toList := congrArg (fun s : Str => s.cps.toList) h
  rw [stS_list, stS_list] at e
  unfold nmL at e
  have e1 := (List.cons.inj e).1
  omega
theorem hid_ok : WordOk "HIDDEN" := ⟨by decide, by decide, by decide, by decide⟩
/-- what the rules' text, the weights and the numbers of the law are -/
def PlOk (z : Str) (ws ns : List Int) : Prop := ∃ ts r vp, ParseP z ts r vp ∧ RuOk r ∧ r.src.map (·.2) = ws ∧ g ns 7 = r.pc ∧ ns.length = 9
theorem pl_ok {c : Int} {f : Nat → Int} {m : Nat} {z : Str} {n0 n1 n2 n3 n4 n5 n6 n7 n8 : Int} (hm1 : 1 ≤ m) (hm2 : m ≤ 3) (hf : ∀ j, 1 ≤ f j ∧ f j ≤ 7)
    (h0 : 1 ≤ n0 ∧ n0 ≤ 20) (h1 : 1 ≤ n1 ∧ n1 ≤ 20) (h2 : n1 ≤ n2 ∧ n2 ≤ 20) (h3 : 1 ≤ n3 ∧ n3 ≤ 20) (h4 : 1 ≤ n4 ∧ n4 ≤ 20) (h5 : 1 ≤ n5 ∧ n5 ≤ 20) (h6 : 0 ≤ n6 ∧ n6 ≤ 20) (h7 : 1 ≤ n7 ∧ n7 ≤ 20) (h8 : 1 ≤ n8 ∧ n8 ≤ 20)
    (hz : z.cps.toList = ruleL (srcF c f m) [n0, n1, n2, n3, n4, n5, n6, n7, n8]) (hl : z.length ≤ 100000) : PlOk z ((srcF c f m).map (·.2)) [n0, n1, n2, n3, n4, n5, n6, n7, n8] := by
  have hne : srcF c f m ≠ [] := fun e => by
    have q := srcF_len c f m
    rw [e] at q
    simp at q
    omega
  obtain ⟨ts, e, l⟩ := lx_rule (src := srcF c f m) (d := n0) (al := n1) (ao := n2) (rw := n3) (pw := n4) (pi := n5) (jo := n6) (pc := n7) (vp := n8) hne (fun p hp => by
    obtain ⟨j, _, rfl⟩ := srcF_mem hp
    have := hf j
    exact ⟨(nmL_ok c j).1, by dsimp only; omega, by dsimp only; omega⟩) (fun n hn => by
    simp only [List.mem_cons, List.not_mem_nil, or_false] at hn
    omega)
  refine ⟨ts, ⟨(srcF c f m).map fun p => (stS p.1, p.2), "HIDDEN", n0, n1, n2, n3, n4, n5, n6, n7⟩, n8, ⟨by rw [hz]; exact l, hl, e.symm, ⟨?_, ?_, ?_, ?_⟩, hid_ok, h0.1, h1.1, h2.1, h3.1, h4.1, h5.1, h6.1, h7.1, h8.1⟩, ?_, ?_, rfl, rfl⟩
  · simpa using hne
  · rw [List.length_map, srcF_len]; omega
  · rw [List.map_map]
    unfold srcF
    rw [List.map_map]
    refine List.pairwise_map.mpr (List.Pairwise.imp_of_mem (fun {a b} ha hb hab e => ?_) (List.nodup_range (n := m)))
    have ha' := List.mem_range.mp ha
    have hb' := List.mem_range.mp hb
    exact hab (nmL_inj (by omega) (by omega) e)
  · intro p hp
    obtain ⟨q, hq, rfl⟩ := List.mem_map.mp hp
    obtain ⟨j, _, rfl⟩ := srcF_mem hq
    exact ⟨(nmL_ok c j).2, (hf j).1⟩
  · refine ⟨by show 1 ≤ ((srcF c f m).map _).length; rw [List.length_map, srcF_len]; exact hm1, by show ((srcF c f m).map _).length ≤ 3; rw [List.length_map, srcF_len]; exact hm2, fun p hp => ?_, h7.1, by show n7 ≤ 1000; omega, by show n6 ≤ 1000; omega, h4.1, by show n4 ≤ 1000; omega, h3.1, by show n3 ≤ 1000; omega, by show 0 ≤ n1; omega, by show n1 ≤ 1000; omega, by show 0 ≤ n2; omega, by show n2 ≤ 1000; omega⟩
    obtain ⟨q, hq, rfl⟩ := List.mem_map.mp hp
    obtain ⟨j, _, rfl⟩ := srcF_mem hq
    exact hf j
  · rw [List.map_map]
    rfl
theorem sum_len_le {b : Nat} : ∀ {xs : List Str}, (∀ x ∈ xs, x.length ≤ b) → (xs.map (·.length)).sum ≤ xs.length * b
  | [], _ => Nat.zero_le _
  | x :: xs, h => by
    have h1 := h x List.mem_cons_self
    have h2 := sum_len_le (xs := xs) fun y hy => h y (List.mem_cons_of_mem _ hy)
    rw [List.map_cons, List.sum_cons, List.length_cons, Nat.add_mul]
    omega
theorem numL_le {n : Int} (h0 : 0 ≤ n) (h1 : n ≤ 20) : (numL n).length ≤ 2 := by
  have h := numL_len h0 h1
  rw [len_list] at h
  exact h
theorem pNm_len {c : Int} {f : Nat → Int} {m : Nat} (hf : ∀ j, 1 ≤ f j ∧ f j ≤ 7) : ∀ p ∈ (srcF c f m).map pNm, p.length ≤ 6 := fun p hp => by
  obtain ⟨q, hq, rfl⟩ := List.mem_map.mp hp
  obtain ⟨j, _, rfl⟩ := srcF_mem hq
  have h1 := nmL_len c (j : Int)
  rw [stS_len] at h1
  have h2 := hf j
  have h3 := numL_le (n := f j) (by omega) (by omega)
  unfold pNm
  rw [stS_len, List.length_append, List.length_cons]
  dsimp only
  omega
theorem srcL_len {r : List Nat} : ∀ {src : List (List Nat × Int)}, (∀ p ∈ src, p.1.length ≤ 3 ∧ (numL p.2).length ≤ 2) → (srcL src r).length ≤ src.length * 8 + r.length
  | [], _ => by simp [srcL]
  | p :: q, h => by
    obtain ⟨h1, h2⟩ := h p List.mem_cons_self
    have ih := srcL_len (r := r) (src := q) fun y hy => h y (List.mem_cons_of_mem _ hy)
    show (p.1 ++ 32 :: (numL p.2 ++ (if q = [] then r else 44 :: 32 :: srcL q r))).length ≤ _
    rw [List.length_append, List.length_cons, List.length_append, List.length_cons, Nat.add_mul]
    split
    · omega
    · rw [List.length_cons, List.length_cons]
      omega
theorem join_le {c : Int} {f : Nat → Int} {m : Nat} (hm1 : 1 ≤ m) (hm : m ≤ 3) (hf : ∀ j, 1 ≤ f j ∧ f j ≤ 7) : (Txt.join (Str.ofString ", ") ((srcF c f m).map pNm)).length ≤ 24 := by
  have hne : srcF c f m ≠ [] := fun e => by
    have q := srcF_len c f m
    rw [e] at q
    simp at q
    omega
  have e := join_src [] (srcF c f m) hne
  rw [List.append_nil] at e
  have h := srcL_len (r := []) (src := srcF c f m) fun p hp => by
    obtain ⟨j, _, rfl⟩ := srcF_mem hp
    have h1 := nmL_len c (j : Int)
    rw [stS_len] at h1
    have h2 := hf j
    exact ⟨h1, numL_le (n := f j) (by omega) (by omega)⟩
  rw [len_list, e]
  rw [srcF_len, List.length_nil] at h
  omega
/-! D_law10.src -/
theorem mk_z {x y : Str} {n m : Nat} (hx : x.length ≤ n) (hy : y.length ≤ m) (hnm : n + m ≤ 1000000) : x.length + y.length ≤ sizeLine ∧ ∃ z : Str, x ++ y = z ∧ z.cps.toList = x.cps.toList ++ y.cps.toList ∧ z.length ≤ n + m :=
  ⟨by rw [sizeLine_eq]; omega, _, rfl, app_list _ _, by rw [app_len]; omega⟩
/-- the text, the weights, the numbers -/
def kPl : R (Str × List Int × List Int) := ⟨fun F v p => ∃ a x y z, v = .ref a ∧ F a = some (.lst [x, y, z]) ∧ kS.p F x p.1 ∧ (kL kI).p F y p.2.1 ∧ (kL kI).p F z p.2.2,
  fun e ⟨a, x, y, z, h1, h2, h3, h4, h5⟩ => ⟨a, x, y, z, h1, e _ _ h2, kS.mono e h3, (kL kI).mono e h4, (kL kI).mono e h5⟩⟩
def sp_law_plain (K : PySem.W.Frag) : Sp := SpOf (ι := V × List Int) (fun i => [i.1, .int 0]) (fun ⟨v1, ns⟩ F => (kScr K).p F v1 ns) (fun _ F v => ∃ p, kPl.p F v p ∧ PlOk p.1 p.2.1 p.2.2)
theorem ok_law_plain {P : Program} {w : World} {K : PySem.W.Frag} {mg : Str → Option Value} {base : Heap} (T : Tx K mg) : Okd P w K mg base 2 ("_law_plain", none) ["_law_script", "_law_first"] [] (sp_law_plain K) := by
  have O_law_digits := ok_law_digits (P := P) (w := w) (base := base) T
  have O_law_cell := ok_law_cell (P := P) (w := w) (base := base) T
  have O_law_name := ok_law_name (P := P) (w := w) (base := base) T
  obtain ⟨fd, F⟩ : ∃ fd, FunD K "_law_plain" "_law_plain" (defArgs s_law_plain) (defBody s_law_plain) (defScope s_law_plain) [] [] (He.fAd K ("_law_plain", none)) fd := T.says.d.def_ 85 rfl
  refine ⟨fd, [], F.ok sc_law_plain (fun vs H Q E h => ?_) (fun cdv A outer s H vs Q E hr h => ?_), .nil, F.bindsN (fun _ _ _ _ _ _ us hl => match us, hl with | [_, _], _ => rfl), F.kp⟩
  · obtain ⟨_, _, rfl, _⟩ := h; rfl
  · refine ⟨_, PSs.nox (pss_cons (ps_set (i := 2) sc_law_plain.nd rfl (by first | exact Or.inl rfl | exact Or.inr rfl) (pe_ok O_law_digits T.n_law_digits hr (by decide) (by rfl) (pa_cons (pe_ok O_law_cell T.n_law_cell hr (by decide) (by rfl) (pa_cons (pv 0) (pa_cons (pv 1) pa_nil))) (pa_cons (pv 1) (pa_cons pe_int pa_nil)))))
    (pss_cons (ps_for PassesOwn.never rfl (pi_range1 rfl T.f_range (pa_cons pe_int pa_nil)) (pg_name (i := 3) sc_law_plain.nd rfl (by first | exact Or.inl rfl | exact Or.inr rfl)) (pss_one (ps_expr (pe_bmK K PySem.F.plainAttrs_list PySem.F.slot_list_append PySem.F.type_list_append mt_append (pv 2) (pa_cons (pv 3) pa_nil)))))
    (pss_cons (ps_set (i := 4) sc_law_plain.nd rfl (by first | exact Or.inl rfl | exact Or.inr rfl) (pe_lst pa_nil))
    (pss_cons (ps_set (i := 5) sc_law_plain.nd rfl (by first | exact Or.inl rfl | exact Or.inr rfl) (pe_lst pa_nil))
    (pss_cons (ps_for PassesOwn.never rfl (pi_range1 rfl T.f_range (pa_cons (pe_op op_add pe_int (pe_op op_mod (pe_callTy call_int1 (by rfl) T.f_int (by decide +kernel) (pa_cons (pe_ix (ix_listK K) (pv 2) pe_int (fun _ _ => rfl)) pa_nil)) pe_int)) pa_nil)) (pg_name (i := 3) sc_law_plain.nd rfl (by first | exact Or.inl rfl | exact Or.inr rfl)) (pss_cons (ps_expr (pe_bmK K PySem.F.plainAttrs_list PySem.F.slot_list_append PySem.F.type_list_append mt_append (pv 4) (pa_cons (pe_op op_add pe_int (pe_op op_mod (pe_callTy call_int1 (by rfl) T.f_int (by decide +kernel) (pa_cons (pe_ix (ix_listK K) (pv 2) (pe_op op_add pe_int (pv 3)) (fun _ _ => rfl)) pa_nil)) pe_int)) pa_nil)))
    (pss_one (ps_expr (pe_bmK K PySem.F.plainAttrs_list PySem.F.slot_list_append PySem.F.type_list_append mt_append (pv 5) (pa_cons (pe_op op_add_str (pe_op op_add_str (pe_ok O_law_name T.n_law_name hr (by decide) (by rfl) (pa_cons (pe_ix (ix_listK K) (pv 2) pe_int (fun _ _ => rfl)) (pa_cons (pv 3) pa_nil))) pe_str) (pe_callTy call_str_int (by rfl) T.f_str (by decide +kernel) (pa_cons (pe_ix (ix_listK K) (pv 4) (pv 3) (fun _ _ => rfl)) pa_nil))) pa_nil))))))
    (pss_cons (ps_set (i := 6) sc_law_plain.nd rfl (by first | exact Or.inl rfl | exact Or.inr rfl) (pe_op op_add pe_int (pe_op op_mod (pe_callTy call_int1 (by rfl) T.f_int (by decide +kernel) (pa_cons (pe_ix (ix_listK K) (pv 2) pe_int (fun _ _ => rfl)) pa_nil)) pe_int)))
    (pss_cons (ps_set (i := 7) sc_law_plain.nd rfl (by first | exact Or.inl rfl | exact Or.inr rfl) (pe_lst (pa_cons (pe_op op_add pe_int (pe_op op_mod (pe_callTy call_int1 (by rfl) T.f_int (by decide +kernel) (pa_cons (pe_ix (ix_listK K) (pv 2) pe_int (fun _ _ => rfl)) pa_nil)) pe_int)) (pa_cons (pv 6) (pa_cons (pe_op op_add (pv 6) (pe_op op_mod (pe_callTy call_int1 (by rfl) T.f_int (by decide +kernel) (pa_cons (pe_ix (ix_listK K) (pv 2) pe_int (fun _ _ => rfl)) pa_nil)) pe_int)) (pa_cons (pe_op op_add pe_int (pe_op op_mod (pe_callTy call_int1 (by rfl) T.f_int (by decide +kernel) (pa_cons (pe_ix (ix_listK K) (pv 2) pe_int (fun _ _ => rfl)) pa_nil)) pe_int)) (pa_cons (pe_op op_add pe_int (pe_op op_mod (pe_callTy call_int1 (by rfl) T.f_int (by decide +kernel) (pa_cons (pe_ix (ix_listK K) (pv 2) pe_int (fun _ _ => rfl)) pa_nil)) pe_int)) pa_nil)))))))
    (pss_cons (ps_set (i := 7) sc_law_plain.nd rfl (by first | exact Or.inl rfl | exact Or.inr rfl) (pe_op op_cat (pv 7) (pe_lst (pa_cons (pe_op op_add pe_int (pe_op op_mod (pe_callTy call_int1 (by rfl) T.f_int (by decide +kernel) (pa_cons (pe_ix (ix_listK K) (pv 2) pe_int (fun _ _ => rfl)) pa_nil)) pe_int)) (pa_cons (pe_op op_mod (pe_callTy call_int1 (by rfl) T.f_int (by decide +kernel) (pa_cons (pe_ix (ix_listK K) (pv 2) pe_int (fun _ _ => rfl)) pa_nil)) pe_int) (pa_cons (pe_op op_add pe_int (pe_op op_mod (pe_callTy call_int1 (by rfl) T.f_int (by decide +kernel) (pa_cons (pe_ix (ix_listK K) (pv 2) pe_int (fun _ _ => rfl)) pa_nil)) pe_int)) (pa_cons (pe_op op_add pe_int (pe_op op_mod (pe_callTy call_int1 (by rfl) T.f_int (by decide +kernel) (pa_cons (pe_ix (ix_listK K) (pv 2) pe_int (fun _ _ => rfl)) pa_nil)) pe_int)) pa_nil)))))))
    (pss_cons (ps_set (i := 8) sc_law_plain.nd rfl (by first | exact Or.inl rfl | exact Or.inr rfl) (pe_op op_add_str (pe_op op_add_str (pe_op op_add_str (pe_op op_add_str pe_str (pe_join pe_str (pv 5))) pe_str) (pe_callTy call_str_int (by rfl) T.f_str (by decide +kernel) (pa_cons (pe_ix (ix_listK K) (pv 7) pe_int (fun _ _ => rfl)) pa_nil))) pe_str))
    (pss_cons (ps_set (i := 8) sc_law_plain.nd rfl (by first | exact Or.inl rfl | exact Or.inr rfl) (pe_op op_add_str (pe_op op_add_str (pe_op op_add_str (pe_op op_add_str (pe_op op_add_str (pe_op op_add_str (pv 8) (pe_callTy call_str_int (by rfl) T.f_str (by decide +kernel) (pa_cons (pe_ix (ix_listK K) (pv 7) pe_int (fun _ _ => rfl)) pa_nil))) pe_str) (pe_callTy call_str_int (by rfl) T.f_str (by decide +kernel) (pa_cons (pe_ix (ix_listK K) (pv 7) pe_int (fun _ _ => rfl)) pa_nil))) pe_str) (pe_callTy call_str_int (by rfl) T.f_str (by decide +kernel) (pa_cons (pe_ix (ix_listK K) (pv 7) pe_int (fun _ _ => rfl)) pa_nil))) pe_str))
    (pss_cons (ps_set (i := 8) sc_law_plain.nd rfl (by first | exact Or.inl rfl | exact Or.inr rfl) (pe_op op_add_str (pe_op op_add_str (pe_op op_add_str (pe_op op_add_str (pe_op op_add_str (pv 8) (pe_callTy call_str_int (by rfl) T.f_str (by decide +kernel) (pa_cons (pe_ix (ix_listK K) (pv 7) pe_int (fun _ _ => rfl)) pa_nil))) pe_str) (pe_callTy call_str_int (by rfl) T.f_str (by decide +kernel) (pa_cons (pe_ix (ix_listK K) (pv 7) pe_int (fun _ _ => rfl)) pa_nil))) pe_str) (pe_callTy call_str_int (by rfl) T.f_str (by decide +kernel) (pa_cons (pe_ix (ix_listK K) (pv 7) pe_int (fun _ _ => rfl)) pa_nil))))
    (pss_cons (ps_set (i := 8) sc_law_plain.nd rfl (by first | exact Or.inl rfl | exact Or.inr rfl) (pe_op op_add_str (pe_op op_add_str (pe_op op_add_str (pe_op op_add_str (pe_op op_add_str (pv 8) pe_str) (pe_callTy call_str_int (by rfl) T.f_str (by decide +kernel) (pa_cons (pe_ix (ix_listK K) (pv 7) pe_int (fun _ _ => rfl)) pa_nil))) pe_str) (pe_callTy call_str_int (by rfl) T.f_str (by decide +kernel) (pa_cons (pe_ix (ix_listK K) (pv 7) pe_int (fun _ _ => rfl)) pa_nil))) pe_str))
    (pss_one (ps_ret (pe_lst (pa_cons (pv 8) (pa_cons (pv 4) (pa_cons (pv 7) pa_nil)))))))))))))))))), ?_⟩
    obtain ⟨⟨v1, ns⟩, F0, rfl, fh, hscr, k⟩ := h
    dsimp only at hscr k ⊢
    obtain ⟨a, rfl, ha⟩ := id hscr
    walk_at "s"
    refine ⟨(.ref a, 0, ns), F0, rfl, fh, hscr, fun v F1 H1 g1 hv => ?_⟩
    dsimp only at hv
    subst hv
    walk_at "s"
    refine ⟨(cellF ns 0, 0, 20), F1, rfl, g1.fh, ⟨by show 0 ≤ 1000; decide, by show 20 ≤ 1000; decide⟩, fun p vs H2 sh hp ep hv => ?_⟩
    obtain ⟨ds, rfl, hl, hd⟩ := hv
    dsimp only at hl
    have G2 := g1.trans (Gr.keep g1.fh sh)
    have op : Own F1 H2 p (.lst (ds.map V.int)) := ⟨ep, g1.fh.free hp⟩
    have zp : H p = none := g1.hh.free hp
    walk_at "s"
    refine ⟨by decide, by decide, ?_⟩
    rw [show (20 : Int).toNat = 20 from rfl]
    refine for_rg0 G2 (fun i σ F H' => ∃ (xs : List Int) (x1 : Option V), σ = [some (.ref a), some (.int 0), some (.ref p), x1, none, none, none, none, none] ∧ Own F H' p (.lst (xs.map V.int)) ∧ i ≤ xs.length ∧ xs.length ≤ 20 + i ∧ ∀ d ∈ xs, 0 ≤ d ∧ d < 1000) ⟨ds, _, rfl, op, Nat.zero_le _, hl, hd⟩ ?_ ?_
    · rintro i σ3 F3 H3 N hi G3 s3 ⟨xs, x1, rfl, o3, hx1, hx2, hx3⟩ kN
      walk_at "s"
      refine ⟨x_tyL o3.h, ?_⟩
      walk_at "s"
      refine x_app o3.h (by rw [sizeLine_eq, List.length_map]; omega) fun H4 c4 => ?_
      walk_at "s"
      rw [map_snoc] at c4
      exact kN _ _ _ (c4.gr G3 o3.f zp) (Same.refl _) ⟨_, _, rfl, c4.own o3, by rw [List.length_append, List.length_singleton]; omega, by rw [List.length_append, List.length_singleton]; omega, dig_snoc hx3 (by omega) (by omega)⟩
    rintro σ3 F3 H3 G3' s3 ⟨xs, x1, rfl, o3, hx1, hx2, hx3⟩
    have hxg : ∀ j, j < 20 → 0 ≤ g xs j ∧ g xs j < 1000 := fun j hj => by
      have hj2 : j < xs.length := by omega
      refine hx3 (g xs j) ?_
      unfold g
      rw [List.getD_eq_getElem?_getD, List.getElem?_eq_getElem hj2]
      exact List.getElem_mem hj2
    have G3 := G3'.fix o3.h zp o3.f
    have ep : H3 p = some (.lst (xs.map V.int)) := o3.h
    have efp : (upd F3 p (.lst (xs.map V.int))) p = some (.lst (xs.map V.int)) := upd_same
    generalize upd F3 p (.lst (xs.map V.int)) = F3b at G3 efp
    clear G3' o3 s3
    walk_at "s"
    refine ⟨x_lt (by decide), fun l1 H4 nl1 => ?_⟩
    obtain ⟨g4, o1⟩ := nl1.own G3.fh
    have G4 := G3.trans g4
    have z1 : H l1 = none := G3.hh.free nl1.fr
    walk_at "s"
    refine ⟨x_lt (by decide), fun l2 H5 nl2 => ?_⟩
    obtain ⟨g5, o2⟩ := nl2.own G4.fh
    have G5 := G4.trans g5
    have z2 : H l2 = none := G4.hh.free nl2.fr
    have n12 : l1 ≠ l2 := ne_of_none o1.h nl2.fr
    have o1 := o1.go g5
    have ep5 : H5 p = some (.lst (xs.map V.int)) := g5.hh _ _ (g4.hh _ _ ep)
    walk_at "s"
    refine x_ixL ep5 (at_g (k := 0) (by omega)) ?_
    walk_at "s"
    refine Or.inl ⟨_, rfl, ?_⟩
    walk_at "s"
    refine r_I (by decide) ?_
    walk_at "s"
    have hx0 := hxg 0 (by decide)
    refine ⟨by omega, by omega, ?_⟩
    obtain ⟨m, em, hm1, hm3⟩ : ∃ m : Nat, 1 + g xs 0 % 3 = (m : Int) ∧ 1 ≤ m ∧ m ≤ 3 := ⟨(1 + g xs 0 % 3).toNat, by omega, by omega, by omega⟩
    rw [em, Int.toNat_natCast]
    obtain ⟨f, hf⟩ : ∃ f : Nat → Int, ∀ j, 1 + g xs (2 + j) % 7 = f j := ⟨_, fun _ => rfl⟩
    have hfb : ∀ j, 1 ≤ f j ∧ f j ≤ 7 := fun j => by
      have := hf j
      omega
    refine for_rg0 G5 (fun i σ F H' => ∃ x1 : Option V, σ = [some (.ref a), some (.int 0), some (.ref p), x1, some (.ref l1), some (.ref l2), none, none, none] ∧ Own F H' l1 (.lst (((srcF (g xs 1) f i).map (·.2)).map V.int)) ∧ Own F H' l2 (.lst (((srcF (g xs 1) f i).map pNm).map V.str))) ⟨_, rfl, o1, o2⟩ ?_ ?_
    · rintro i σ4 F6 H6 N hi G6 s6 ⟨x4, rfl, o1, o2⟩ kN
      have ep6 : H6 p = some (.lst (xs.map V.int)) := G6.fh _ _ (s6 _ _ efp)
      walk_at "s"
      refine ⟨x_tyL o1.h, ?_⟩
      walk_at "s"
      refine x_ixL ep6 (at_g2 (by omega)) ?_
      walk_at "s"
      refine Or.inl ⟨_, rfl, ?_⟩
      walk_at "s"
      refine r_I (by decide) ?_
      walk_at "s"
      rw [hf]
      refine x_app o1.h (by rw [sizeLine_eq, List.length_map, List.length_map, srcF_len]; omega) fun H7 c7 => ?_
      have e7 : ((srcF (g xs 1) f i).map (·.2)).map V.int ++ [V.int (f i)] = ((srcF (g xs 1) f (i + 1)).map (·.2)).map V.int := by
        rw [srcF_succ, List.map_append, List.map_append]
        rfl
      rw [e7] at c7
      have G7 := c7.gr G6 o1.f z1
      have o2 := c7.ne o2 n12.symm
      have o1 := c7.own o1
      have ep7 : H7 p = some (.lst (xs.map V.int)) := G7.fh _ _ (s6 _ _ efp)
      walk_at "s"
      refine ⟨x_tyL o2.h, ?_⟩
      walk_at "s"
      refine x_ixL ep7 (at_g (k := 1) (by omega)) ?_
      walk_at "s"
      have hx1 := hxg 1 (by decide)
      refine ⟨(g xs 1, (i : Int)), F6, rfl, G7.fh, ⟨hx1.1, by dsimp only; omega, by dsimp only; omega⟩, fun v F8 H8 g8 hv => ?_⟩
      dsimp only at hv
      subst hv
      have hnl := nmL_len (g xs 1) (i : Int)
      have G8 := G7.trans g8
      have o1 := o1.go g8
      have o2 := o2.go g8
      refine ⟨_, _, rfl, rfl, by rw [sizeLine_eq]; show (stS (nmL (g xs 1) (i : Int))).length + 1 ≤ _; omega, ?_⟩
      walk_at "s"
      refine x_ixL o1.h (at_g (k := i) (by rw [List.length_map, srcF_len]; omega)) ?_
      rw [srcF_g (show i < i + 1 by omega)]
      have hfi := hfb i
      have hnn := numL_len (n := f i) (by omega) (by omega)
      walk_at "s"
      refine ⟨log_lt (by omega) (by omega), ?_⟩
      refine ⟨_, _, rfl, rfl, by rw [sizeLine_eq, app_len]; show (stS (nmL (g xs 1) (i : Int))).length + 1 + (toString (f i) : Str).length ≤ _; omega, ?_⟩
      walk_at "s"
      refine x_app o2.h (by rw [sizeLine_eq, List.length_map, List.length_map, srcF_len]; omega) fun H9 c9 => ?_
      have e9 : ((srcF (g xs 1) f i).map pNm).map V.str ++ [V.str ((stS (nmL (g xs 1) (i : Int)) ++ (" " : Str)) ++ (toString (f i) : Str))] = ((srcF (g xs 1) f (i + 1)).map pNm).map V.str := by
        rw [srcF_succ, List.map_append, List.map_append]
        congr 1
        show [V.str _] = [V.str (pNm _)]
        congr 2
        unfold pNm
        refine str_of ?_
        rw [app_list, app_list, stS_list, List.append_assoc]
        rfl
      rw [e9] at c9
      walk_at "s"
      exact kN _ _ _ (c9.gr G8 o2.f z2) g8.ff ⟨_, rfl, c9.ne o1 n12, c9.own o2⟩
    rintro σ4 F6 H6 G6' s6 ⟨x4, rfl, o1, o2⟩
    have G6b := G6'.fix o1.h z1 o1.f
    have G6 := G6b.fix o2.h z2 (by rw [upd_ne n12.symm]; exact o2.f)
    have epf : (upd (upd F6 l1 (.lst (((srcF (g xs 1) f m).map (·.2)).map V.int))) l2 (.lst (((srcF (g xs 1) f m).map pNm).map V.str))) p = some (.lst (xs.map V.int)) := by
      rw [upd_ne (ne_of_none (s6 _ _ efp) o2.f), upd_ne (ne_of_none (s6 _ _ efp) o1.f)]
      exact s6 _ _ efp
    have ew : (upd (upd F6 l1 (.lst (((srcF (g xs 1) f m).map (·.2)).map V.int))) l2 (.lst (((srcF (g xs 1) f m).map pNm).map V.str))) l1 = some (.lst (((srcF (g xs 1) f m).map (·.2)).map V.int)) := by
      rw [upd_ne n12]
      exact upd_same
    have en : (upd (upd F6 l1 (.lst (((srcF (g xs 1) f m).map (·.2)).map V.int))) l2 (.lst (((srcF (g xs 1) f m).map pNm).map V.str))) l2 = some (.lst (((srcF (g xs 1) f m).map pNm).map V.str)) := upd_same
    generalize upd (upd F6 l1 (.lst (((srcF (g xs 1) f m).map (·.2)).map V.int))) l2 (.lst (((srcF (g xs 1) f m).map pNm).map V.str)) = F7 at G6 epf ew en
    clear G6' G6b s6 o1 o2 ep efp ep5 G3 G4 G5 g4 g5 op
    walk_at "s"
    refine x_ixL (G6.fh _ _ epf) (at_g (k := 11) (by omega)) ?_
    walk_at "s"
    refine Or.inl ⟨_, rfl, ?_⟩
    walk_at "s"
    refine r_I (by decide) ?_
    walk_at "s"
    refine x_ixL (G6.fh _ _ epf) (at_g (k := 9) (by omega)) ?_
    walk_at "s"
    refine Or.inl ⟨_, rfl, ?_⟩
    walk_at "s"
    refine r_I (by decide) ?_
    walk_at "s"
    refine x_ixL (G6.fh _ _ epf) (at_g (k := 12) (by omega)) ?_
    walk_at "s"
    refine Or.inl ⟨_, rfl, ?_⟩
    walk_at "s"
    refine r_I (by decide) ?_
    walk_at "s"
    refine x_ixL (G6.fh _ _ epf) (at_g (k := 13) (by omega)) ?_
    walk_at "s"
    refine Or.inl ⟨_, rfl, ?_⟩
    walk_at "s"
    refine r_I (by decide) ?_
    walk_at "s"
    refine x_ixL (G6.fh _ _ epf) (at_g (k := 14) (by omega)) ?_
    walk_at "s"
    refine Or.inl ⟨_, rfl, ?_⟩
    walk_at "s"
    refine r_I (by decide) ?_
    walk_at "s"
    refine ⟨x_lt (Nat.le_of_ble_eq_true rfl), fun q1 H7 nq1 => ?_⟩
    obtain ⟨F8, g8, e8⟩ := nq1.fix G6.fh
    have G8 := G6.trans g8
    walk_at "s"
    refine x_ixL (G8.fh _ _ (g8.ff _ _ epf)) (at_g (k := 15) (by omega)) ?_
    walk_at "s"
    refine Or.inl ⟨_, rfl, ?_⟩
    walk_at "s"
    refine r_I (by decide) ?_
    walk_at "s"
    refine x_ixL (G8.fh _ _ (g8.ff _ _ epf)) (at_g (k := 16) (by omega)) ?_
    walk_at "s"
    refine Or.inl ⟨_, rfl, ?_⟩
    walk_at "s"
    refine r_I (by decide) ?_
    walk_at "s"
    refine x_ixL (G8.fh _ _ (g8.ff _ _ epf)) (at_g (k := 17) (by omega)) ?_
    walk_at "s"
    refine Or.inl ⟨_, rfl, ?_⟩
    walk_at "s"
    refine r_I (by decide) ?_
    walk_at "s"
    refine x_ixL (G8.fh _ _ (g8.ff _ _ epf)) (at_g (k := 18) (by omega)) ?_
    walk_at "s"
    refine Or.inl ⟨_, rfl, ?_⟩
    walk_at "s"
    refine r_I (by decide) ?_
    walk_at "s"
    refine ⟨x_lt (Nat.le_of_ble_eq_true rfl), fun q2 H8 nq2 => ?_⟩
    obtain ⟨F9, g9, e9⟩ := nq2.fix G8.fh
    have G9 := G8.trans g9
    walk_at "s"
    refine x_cat (G9.fh _ _ (g9.ff _ _ e8)) (G9.fh _ _ e9) (by rw [sizeLine_eq]; exact Nat.le_of_ble_eq_true rfl) fun q3 H9 nq3 => ?_
    obtain ⟨F10, g10, e10⟩ := nq3.fix G9.fh
    have G10 := G9.trans g10
    obtain ⟨n0, en0, hn0⟩ : ∃ n : Int, 1 + g xs 9 % 3 = n ∧ 1 ≤ n ∧ n ≤ 20 := ⟨_, rfl, by omega, by omega⟩
    obtain ⟨n3, en3, hn3⟩ : ∃ n : Int, 1 + g xs 13 % 3 = n ∧ 1 ≤ n ∧ n ≤ 20 := ⟨_, rfl, by omega, by omega⟩
    obtain ⟨n4, en4, hn4⟩ : ∃ n : Int, 1 + g xs 14 % 4 = n ∧ 1 ≤ n ∧ n ≤ 20 := ⟨_, rfl, by omega, by omega⟩
    obtain ⟨n5, en5, hn5⟩ : ∃ n : Int, 1 + g xs 15 % 3 = n ∧ 1 ≤ n ∧ n ≤ 20 := ⟨_, rfl, by omega, by omega⟩
    obtain ⟨n7, en7, hn7⟩ : ∃ n : Int, 1 + g xs 17 % 12 = n ∧ 1 ≤ n ∧ n ≤ 20 := ⟨_, rfl, by omega, by omega⟩
    obtain ⟨n8, en8, hn8⟩ : ∃ n : Int, 1 + g xs 18 % 4 = n ∧ 1 ≤ n ∧ n ≤ 20 := ⟨_, rfl, by omega, by omega⟩
    obtain ⟨n1, en1, hn1⟩ : ∃ n : Int, 1 + g xs 11 % 4 = n ∧ 1 ≤ n ∧ n ≤ 4 := ⟨_, rfl, by omega, by omega⟩
    rw [en0, en1, en3, en4, en5, en7, en8] at e10
    obtain ⟨n2, en2, hn2⟩ : ∃ n : Int, n1 + g xs 12 % 4 = n ∧ n1 ≤ n ∧ n ≤ 20 := ⟨_, rfl, by omega, by omega⟩
    obtain ⟨n6, en6, hn6⟩ : ∃ n : Int, g xs 16 % 6 = n ∧ 0 ≤ n ∧ n ≤ 20 := ⟨_, rfl, by omega, by omega⟩
    rw [en2, en6] at e10
    have e10' : F10 q3 = some (.lst ([n0, n1, n2, n3, n4, n5, n6, n7, n8].map V.int)) := e10
    walk_at "s"
    refine ⟨⟨_, rfl⟩, ?_⟩
    walk_at "s"
    have enH : H9 l2 = some (.lst (((srcF (g xs 1) f m).map pNm).map V.str)) := G10.fh _ _ (g10.ff _ _ (g9.ff _ _ (g8.ff _ _ en)))
    refine ⟨_, l2, (srcF (g xs 1) f m).map pNm, rfl, rfl, Or.inl (SqL.of enH), ?_, ?_⟩
    · have h1 := sum_len_le (pNm_len (c := g xs 1) (m := m) hfb)
      rw [List.length_map, srcF_len] at h1 ⊢
      show _ + m * 2 ≤ _
      omega
    have hjl := join_le (c := g xs 1) hm1 hm3 hfb
    walk_at "s"
    obtain ⟨hs1, z1, hz1, ez1, lz1⟩ := mk_z (x := (Str.ofString "sources ")) (Nat.le_refl _) hjl (by decide)
    refine ⟨hs1, ?_⟩
    rw [hz1]
    have hN : H9 q3 = some (.lst ([n0, n1, n2, n3, n4, n5, n6, n7, n8].map V.int)) := G10.fh _ _ e10'
    walk_at "s"
    obtain ⟨hs2, z2, hz2, ez2, lz2⟩ := mk_z lz1 (Nat.le_refl (Str.ofString ";\nmark \"HIDDEN\";\ndocuments least ").length) (by decide)
    refine ⟨hs2, ?_⟩
    rw [hz2]
    walk_at "s"
    refine x_ixL hN (at_lst (j := 0) rfl rfl) ?_
    walk_at "s"
    refine ⟨log_lt (by omega) (by omega), ?_⟩
    walk_at "s"
    obtain ⟨hs3, z3, hz3, ez3, lz3⟩ := mk_z lz2 (numL_len (n := n0) (by omega) (by omega)) (by decide)
    refine ⟨hs3, ?_⟩
    rw [hz3]
    walk_at "s"
    obtain ⟨hs4, z4, hz4, ez4, lz4⟩ := mk_z lz3 (Nat.le_refl (Str.ofString ";\nalike ").length) (by decide)
    refine ⟨hs4, ?_⟩
    rw [hz4]
    walk_at "s"
    refine x_ixL hN (at_lst (j := 1) rfl rfl) ?_
    walk_at "s"
    refine ⟨log_lt (by omega) (by omega), ?_⟩
    walk_at "s"
    obtain ⟨hs5, z5, hz5, ez5, lz5⟩ := mk_z lz4 (numL_len (n := n1) (by omega) (by omega)) (by decide)
    refine ⟨hs5, ?_⟩
    rw [hz5]
    walk_at "s"
    obtain ⟨hs6, z6, hz6, ez6, lz6⟩ := mk_z lz5 (Nat.le_refl (Str.ofString " of ").length) (by decide)
    refine ⟨hs6, ?_⟩
    rw [hz6]
    walk_at "s"
    refine x_ixL hN (at_lst (j := 2) rfl rfl) ?_
    walk_at "s"
    refine ⟨log_lt (by omega) (by omega), ?_⟩
    walk_at "s"
    obtain ⟨hs7, z7, hz7, ez7, lz7⟩ := mk_z lz6 (numL_len (n := n2) (by omega) (by omega)) (by decide)
    refine ⟨hs7, ?_⟩
    rw [hz7]
    walk_at "s"
    obtain ⟨hs8, z8, hz8, ez8, lz8⟩ := mk_z lz7 (Nat.le_refl (Str.ofString ", runs of ").length) (by decide)
    refine ⟨hs8, ?_⟩
    rw [hz8]
    walk_at "s"
    refine x_ixL hN (at_lst (j := 3) rfl rfl) ?_
    walk_at "s"
    refine ⟨log_lt (by omega) (by omega), ?_⟩
    walk_at "s"
    obtain ⟨hs9, z9, hz9, ez9, lz9⟩ := mk_z lz8 (numL_len (n := n3) (by omega) (by omega)) (by decide)
    refine ⟨hs9, ?_⟩
    rw [hz9]
    walk_at "s"
    obtain ⟨hs10, z10, hz10, ez10, lz10⟩ := mk_z lz9 (Nat.le_refl (Str.ofString ";\nphrases ").length) (by decide)
    refine ⟨hs10, ?_⟩
    rw [hz10]
    walk_at "s"
    refine x_ixL hN (at_lst (j := 4) rfl rfl) ?_
    walk_at "s"
    refine ⟨log_lt (by omega) (by omega), ?_⟩
    walk_at "s"
    obtain ⟨hs11, z11, hz11, ez11, lz11⟩ := mk_z lz10 (numL_len (n := n4) (by omega) (by omega)) (by decide)
    refine ⟨hs11, ?_⟩
    rw [hz11]
    walk_at "s"
    obtain ⟨hs12, z12, hz12, ez12, lz12⟩ := mk_z lz11 (Nat.le_refl (Str.ofString ";\npieces least ").length) (by decide)
    refine ⟨hs12, ?_⟩
    rw [hz12]
    walk_at "s"
    refine x_ixL hN (at_lst (j := 5) rfl rfl) ?_
    walk_at "s"
    refine ⟨log_lt (by omega) (by omega), ?_⟩
    walk_at "s"
    obtain ⟨hs13, z13, hz13, ez13, lz13⟩ := mk_z lz12 (numL_len (n := n5) (by omega) (by omega)) (by decide)
    refine ⟨hs13, ?_⟩
    rw [hz13]
    walk_at "s"
    obtain ⟨hs14, z14, hz14, ez14, lz14⟩ := mk_z lz13 (Nat.le_refl (Str.ofString ";\njoins ").length) (by decide)
    refine ⟨hs14, ?_⟩
    rw [hz14]
    walk_at "s"
    refine x_ixL hN (at_lst (j := 6) rfl rfl) ?_
    walk_at "s"
    refine ⟨log_lt (by omega) (by omega), ?_⟩
    walk_at "s"
    obtain ⟨hs15, z15, hz15, ez15, lz15⟩ := mk_z lz14 (numL_len (n := n6) (by omega) (by omega)) (by decide)
    refine ⟨hs15, ?_⟩
    rw [hz15]
    walk_at "s"
    obtain ⟨hs16, z16, hz16, ez16, lz16⟩ := mk_z lz15 (Nat.le_refl (Str.ofString ";\npages ").length) (by decide)
    refine ⟨hs16, ?_⟩
    rw [hz16]
    walk_at "s"
    refine x_ixL hN (at_lst (j := 7) rfl rfl) ?_
    walk_at "s"
    refine ⟨log_lt (by omega) (by omega), ?_⟩
    walk_at "s"
    obtain ⟨hs17, z17, hz17, ez17, lz17⟩ := mk_z lz16 (numL_len (n := n7) (by omega) (by omega)) (by decide)
    refine ⟨hs17, ?_⟩
    rw [hz17]
    walk_at "s"
    obtain ⟨hs18, z18, hz18, ez18, lz18⟩ := mk_z lz17 (Nat.le_refl (Str.ofString ";\nvolumes ").length) (by decide)
    refine ⟨hs18, ?_⟩
    rw [hz18]
    walk_at "s"
    refine x_ixL hN (at_lst (j := 8) rfl rfl) ?_
    walk_at "s"
    refine ⟨log_lt (by omega) (by omega), ?_⟩
    walk_at "s"
    obtain ⟨hs19, z19, hz19, ez19, lz19⟩ := mk_z lz18 (numL_len (n := n8) (by omega) (by omega)) (by decide)
    refine ⟨hs19, ?_⟩
    rw [hz19]
    walk_at "s"
    obtain ⟨hs20, z20, hz20, ez20, lz20⟩ := mk_z lz19 (Nat.le_refl (Str.ofString ";\n").length) (by decide)
    refine ⟨hs20, ?_⟩
    rw [hz20]
    have hne : srcF (g xs 1) f m ≠ [] := fun e => by
      have q := srcF_len (g xs 1) f m
      rw [e] at q
      simp at q
      omega
    have c0 : (Str.ofString "sources ").cps.toList = [115, 111, 117, 114, 99, 101, 115, 32] := by decide
    have c1 : (Str.ofString ";\nmark \"HIDDEN\";\ndocuments least ").cps.toList = [59, 10, 109, 97, 114, 107, 32, 34, 72, 73, 68, 68, 69, 78, 34, 59, 10, 100, 111, 99, 117, 109, 101, 110, 116, 115, 32, 108, 101, 97, 115, 116, 32] := by decide
    have c2 : (Str.ofString ";\nalike ").cps.toList = [59, 10, 97, 108, 105, 107, 101, 32] := by decide
    have c3 : (Str.ofString " of ").cps.toList = [32, 111, 102, 32] := by decide
    have c4 : (Str.ofString ", runs of ").cps.toList = [44, 32, 114, 117, 110, 115, 32, 111, 102, 32] := by decide
    have c5 : (Str.ofString ";\nphrases ").cps.toList = [59, 10, 112, 104, 114, 97, 115, 101, 115, 32] := by decide
    have c6 : (Str.ofString ";\npieces least ").cps.toList = [59, 10, 112, 105, 101, 99, 101, 115, 32, 108, 101, 97, 115, 116, 32] := by decide
    have c7 : (Str.ofString ";\njoins ").cps.toList = [59, 10, 106, 111, 105, 110, 115, 32] := by decide
    have c8 : (Str.ofString ";\npages ").cps.toList = [59, 10, 112, 97, 103, 101, 115, 32] := by decide
    have c9 : (Str.ofString ";\nvolumes ").cps.toList = [59, 10, 118, 111, 108, 117, 109, 101, 115, 32] := by decide
    have c10 : (Str.ofString ";\n").cps.toList = [59, 10] := by decide
    have hz : z20.cps.toList = ruleL (srcF (g xs 1) f m) [n0, n1, n2, n3, n4, n5, n6, n7, n8] := by
      rw [ez20, ez19, ez18, ez17, ez16, ez15, ez14, ez13, ez12, ez11, ez10, ez9, ez8, ez7, ez6, ez5, ez4, ez3, ez2, ez1, c0, c1, c2, c3, c4, c5, c6, c7, c8, c9, c10]
      simp only [List.append_assoc, List.cons_append, List.nil_append]
      rw [join_src _ _ hne]
      unfold ruleL RLs
      simp only [List.append_assoc, List.cons_append, List.nil_append]
      rfl
    walk_at "s"
    refine ⟨x_lt (Nat.le_of_ble_eq_true rfl), fun q4 H10 nq4 => ?_⟩
    obtain ⟨F11, g11, e11⟩ := nq4.fix G10.fh
    refine k _ _ _ (G10.trans g11) ⟨(z20, (srcF (g xs 1) f m).map (·.2), [n0, n1, n2, n3, n4, n5, n6, n7, n8]), ⟨q4, _, _, _, rfl, e11, rfl, kLI' (g11.ff _ _ (g10.ff _ _ (g9.ff _ _ (g8.ff _ _ ew)))), kLI' (g11.ff _ _ e10')⟩, ?_⟩
    refine pl_ok hm1 hm3 hfb hn0 ⟨hn1.1, by omega⟩ hn2 hn3 hn4 hn5 hn6 hn7 hn8 hz (Nat.le_trans lz20 (by decide))
/-! D_law11.src -/
/-! the end: what is left, the flat order -/
theorem phs_len {ws : List Int} {ls : List Int} {rows : List (List Int)} (h : Phs ws ls rows) : (rows.flatten.length : Int) ≤ ls.sum := by
  induction h with
  | nil W h =>
    rename_i ls
    have := sum_S ls
    have h2 : 0 ≤ ls.sum := by
      rw [this, W.len]
      exact S_nn W.l
    simpa using h2
  | cons W P t ih =>
    obtain ⟨_, w2, _⟩ := after_wf W P
    rw [List.flatten_cons, List.length_append]
    omega
theorem phs_cnt {ws : List Int} {ls : List Int} {rows : List (List Int)} (h : Phs ws ls rows) : ∀ k, k < ws.length → (rows.flatten.count (k : Int) : Int) = g ls k := by
  induction h with
  | nil W h =>
    intro k hk
    rename_i ls
    have e := sum_S ls
    rw [W.len] at e
    have h1 := S_le W.l hk
    have h2 := W.l k hk
    simp
    omega
  | cons W P t ih =>
    intro k hk
    obtain ⟨_, _, _, _, w5⟩ := after_wf W P
    rw [List.flatten_cons, List.count_append]
    have e1 := ih k hk
    have e2 := w5 k hk
    omega
theorem phs_rg {ws : List Int} {ls : List Int} {rows : List (List Int)} (h : Phs ws ls rows) : ∀ s ∈ rows.flatten, ∃ k : Nat, k < ws.length ∧ s = (k : Int) := by
  induction h with
  | nil W h => intro s hs; simp at hs
  | cons W P t ih =>
    intro s hs
    rw [List.flatten_cons] at hs
    rcases List.mem_append.mp hs with h | h
    · obtain ⟨k, h1, h2, _⟩ := P.mem s h
      exact ⟨k, h1, h2⟩
    · exact ih s h
theorem list_g {xs ys : List Int} (h : xs.length = ys.length) (e : ∀ k, k < ys.length → g xs k = g ys k) : xs = ys := by
  refine List.ext_getElem h fun i h1 h2 => ?_
  have := e i h2
  unfold g at this
  rw [List.getD_eq_getElem?_getD, List.getD_eq_getElem?_getD, List.getElem?_eq_getElem h1, List.getElem?_eq_getElem h2] at this
  exact this
theorem phs_wf {ws : List Int} {ls : List Int} {rows : List (List Int)} (h : Phs ws ls rows) : Wf ws ls := by cases h <;> assumption
theorem phs_end {ws : List Int} {ls : List Int} (h : Phs ws ls []) : ls.sum = 0 := by
  cases h with
  | nil W h =>
    have e := sum_S ls
    rw [W.len] at e
    have := S_nn W.l
    omega
theorem dpAll_ints {K : PySem.W.Frag} {H : Hp} : ∀ ns : List Int, DpAll K H (ns.map V.int) (ns.map PyData.int)
  | [] => .nil
  | n :: ns => .cons (.int n) (dpAll_ints ns)
theorem lay_ints : ∀ ns : List Int, PyData.canLayAll0 (ns.map PyData.int) = true ∧ PyData.depthAll (ns.map PyData.int) = 0
  | [] => ⟨rfl, rfl⟩
  | n :: ns => by
    obtain ⟨h1, h2⟩ := lay_ints ns
    refine ⟨?_, ?_⟩
    · show (PyData.canLay0 (.int n) && PyData.canLayAll0 (ns.map PyData.int)) = true
      rw [h1]; rfl
    · show max (PyData.depth (.int n)) (PyData.depthAll (ns.map PyData.int)) = 0
      rw [h2]; rfl
theorem x_neL {K : PySem.W.Frag} {a b : Addr} {ns : List Int} {H : Hp} {Q : VK} (ha : H a = some (.lst (ns.map V.int))) (hb : H b = some (.lst (ns.map V.int))) (q : Q (.bl false) H) : rNeD K (.ref a) (.ref b) H Q := by
  obtain ⟨h1, h2⟩ := lay_ints ns
  have c : (PyData.list (ns.map PyData.int)).canLay0 = true := h1
  have s : SeqAt.shaped (.list (ns.map PyData.int)) = true := by
    unfold SeqAt.shaped
    rw [c]
    have d : (PyData.list (ns.map PyData.int)).depth = 1 := by
      show PyData.depthAll (ns.map PyData.int) + 1 = 1
      rw [h2]
    rw [d]; rfl
  refine ⟨_, _, .lst (SqL.of ha) (dpAll_ints ns), .lst (SqL.of hb) (dpAll_ints ns), s, s, ?_⟩
  rw [SeqAt.eqv_refl _ c]
  exact q
theorem x_isT {K : PySem.W.Frag} {a : Addr} {xs : List V} {H : Hp} {Q : VK} (h : H a = some (.tup xs)) (q : Q (.bl true) H) : rIsi K [.ref a, .ty "tuple"] H Q :=
  ⟨_, _, _, _, true, rfl, .ty _, .base (.tup h), rfl, q⟩
/-! D_law12.src -/
theorem take_snoc {α : Type} {l : List α} {i : Nat} {x : α} (h : l[i]? = some x) : l.take (i + 1) = l.take i ++ [x] := by
  rw [List.take_succ, h]
  rfl
theorem drop_cons' {L : List (List Int)} {i : Nat} {row : List Int} (hx : L[i]? = some row) : L.drop i = row :: L.drop (i + 1) := by
  obtain ⟨hi, e⟩ := List.getElem?_eq_some_iff.mp hx
  rw [List.drop_eq_getElem_cons hi, e]
theorem flatT_le {L : List (List Int)} {i j : Nat} {row : List Int} (hx : L[i]? = some row) : ((L.take i).flatten ++ row.take j).length ≤ L.flatten.length := by
  have e1 : L = L.take i ++ (row :: L.drop (i + 1)) := by rw [← drop_cons' hx, List.take_append_drop]
  have e : L.flatten = (L.take i).flatten ++ (row ++ (L.drop (i + 1)).flatten) := by
    have e2 := congrArg List.flatten e1
    rw [List.flatten_append, List.flatten_cons] at e2
    exact e2
  have h := congrArg List.length e
  rw [List.length_append, List.length_append] at h
  rw [List.length_append, List.length_take]
  omega
theorem flat_snoc {L : List (List Int)} {i : Nat} {row : List Int} (hx : L[i]? = some row) : (L.take (i + 1)).flatten = (L.take i).flatten ++ row := by
  rw [take_snoc hx, List.flatten_append, List.flatten_cons, List.flatten_nil, List.append_nil]
theorem x_nt {A B : Prop} (h : B) : if (!true) = true then A else B := by
  rw [if_neg (by decide)]
  exact h
theorem x_nf {A B : Prop} (h : A) : if (!false) = true then A else B := by
  rw [if_pos (by decide)]
  exact h
def sp_law (K : PySem.W.Frag) : Sp := fun vs H Q _ => ∃ (a : Addr) (ns : List Int), vs = [.ref a] ∧ SqL K H a (ns.map V.int) ∧ ∀ H', Q (.bl true) H'
theorem len_law {K : PySem.W.Frag} {vs : List V} {H : Hp} {Q : VK} {E : XK} (h : sp_law K vs H Q E) : vs.length = ["_law_script"].length := by
  obtain ⟨_, _, rfl, _⟩ := h
  rfl
theorem ok_law {P : Program} {w : World} {K : PySem.W.Frag} {mg : Str → Option Value} (T : Tx K mg) : ∃ fd : FuncData, (∀ (s : Shared) (v : Value), BindsTo s fd ⟨[v], []⟩ [("_law_script", v)]) ∧ ∀ base : Heap, FnOk P w K mg base CX0 8 (He.fAd K ("law", none)) fd ["_law_script"] (sp_law K) := by
  obtain ⟨fd, F⟩ : ∃ fd, FunD K "law" "law" (defArgs s_law) (defBody s_law) (defScope s_law) [] [] (He.fAd K ("law", none)) fd := T.says.d.def_ 87 rfl
  have b := FunD.bindsA (ps := ["_law_script"]) F fun _ _ _ _ _ _ us hl => match us, hl with | [_], _ => rfl
  refine ⟨fd, fun s v => b s [v] rfl, fun base => ?_⟩
  have O_law_plain := ok_law_plain (P := P) (w := w) (base := base) T
  have O_law_documents := ok_law_documents (P := P) (w := w) (base := base) T
  have O_law_exams := ok_law_exams (P := P) (w := w) (base := base) T
  have O_make_corpus := ok_make_corpus (P := P) (w := w) (base := base) T
  have O_Contents_init := ok_Contents_init (P := P) (w := w) (base := base) T
  have O_law_phase := ok_law_phase (P := P) (w := w) (base := base) T
  refine F.ok sc_law (fun vs H Q E h => ?_) (fun cdv A outer s H vs Q E hr h => ?_)
  · exact len_law h
  · refine ⟨_, PSs.nox (pss_cons (ps_set (i := 1) sc_law.nd rfl (by first | exact Or.inl rfl | exact Or.inr rfl) (pe_ok O_law_plain T.n_law_plain hr (by decide) (by rfl) (pa_cons (pv 0) (pa_cons pe_int pa_nil))))
    (pss_cons (ps_set (i := 2) sc_law.nd rfl (by first | exact Or.inl rfl | exact Or.inr rfl) (pe_ok O_law_documents T.n_law_documents hr (by decide) (by rfl) (pa_cons (pv 0) (pa_cons (pe_callB (call_lenK K) (by rfl) T.f_len (by decide +kernel) (pa_cons (pe_ix (ix_listK K) (pv 1) pe_int (fun _ _ => rfl)) pa_nil)) pa_nil))))
    (pss_cons (ps_set (i := 3) sc_law.nd rfl (by first | exact Or.inl rfl | exact Or.inr rfl) (pe_ok O_law_exams T.n_law_exams hr (by decide) (by rfl) (pa_cons (pv 0) pa_nil)))
    (pss_cons (ps_set (i := 4) sc_law.nd rfl (by first | exact Or.inl rfl | exact Or.inr rfl) (pe_ix (ix_listK K) (pv 1) pe_int (fun _ _ => rfl)))
    (pss_cons (ps_set (i := 5) sc_law.nd rfl (by first | exact Or.inl rfl | exact Or.inr rfl) (pe_ok O_make_corpus T.n_make_corpus hr (by decide) (by rfl) (pa_cons (pe_mk O_Contents_init T.mk_Contents T.n_Contents hr (by decide) (by rfl) (pa_cons (pe_ix (ix_listK K) (pv 1) pe_int (fun _ _ => rfl)) (pa_cons (pe_callTy (call_listofK K) (by rfl) T.f_list (by decide +kernel) (pa_cons (pv 2) pa_nil)) (pa_cons (pe_callTy (call_listofK K) (by rfl) T.f_list (by decide +kernel) (pa_cons (pv 3) pa_nil)) pa_nil)))) pa_nil)))
    (pss_cons (ps_set (i := 6) sc_law.nd rfl (by first | exact Or.inl rfl | exact Or.inr rfl) (pe_op op_rep (pe_lst (pa_cons pe_int pa_nil)) (pe_callB (call_lenK K) (by rfl) T.f_len (by decide +kernel) (pa_cons (pe_ix (ix_listK K) (pv 1) pe_int (fun _ _ => rfl)) pa_nil))))
    (pss_cons (ps_set (i := 7) sc_law.nd rfl (by first | exact Or.inl rfl | exact Or.inr rfl) (pe_lst pa_nil))
    (pss_cons (ps_for PassesOwn.never rfl (pi_listK K (pe_fldK K (pv 5))) (pg_name (i := 8) sc_law.nd rfl (by first | exact Or.inl rfl | exact Or.inr rfl)) (pss_cons (ps_if (PW.pt (pw_or (pt_not (pt_val (pe_callB (call_isiK' K) (by rfl) T.f_isinstance (by decide +kernel) (pa_cons (pv 8) (pa_cons (pe_bltn (by rfl) T.f_tuple (by decide +kernel) (v := .ty "tuple") rfl) pa_nil))))) (pw_or (pt_cmpR op_notin_rng (pe_ix (ix_tupK K) (pv 8) pe_int (fun _ _ => rfl)) (pe_callTy cr_range1 (by rfl) T.f_range (by decide +kernel) (pa_cons (pe_callB (call_lenK K) (by rfl) T.f_len (by decide +kernel) (pa_cons (pv 6) pa_nil)) pa_nil)) rfl) (pw_or1 (pt_cmpR op_ne (pe_callB (call_lenK K) (by rfl) T.f_len (by decide +kernel) (pa_cons (pe_ix (ix_tupK K) (pv 8) pe_int (fun _ _ => rfl)) pa_nil)) (pe_ix (ix_listK K) (pv 4) pe_int (fun _ _ => rfl)) (nomark _)))))) (pss_one (ps_ret pe_bl)) pss_nil)
    (pss_cons (ps_asg (pe_op op_add (pe_ix (ix_listK K) (pv 6) (pe_ix (ix_tupK K) (pv 8) pe_int (fun _ _ => rfl)) (fun _ _ => rfl)) pe_int) (pg_sub (pv 6) (pe_ix (ix_tupK K) (pv 8) pe_int (fun _ _ => rfl)) set_list))
    (pss_one (ps_expr (pe_bmK K PySem.F.plainAttrs_list PySem.F.slot_list_append PySem.F.type_list_append mt_append (pv 7) (pa_cons (pe_ix (ix_tupK K) (pv 8) pe_int (fun _ _ => rfl)) pa_nil)))))))
    (pss_cons (ps_set (i := 9) sc_law.nd rfl (by first | exact Or.inl rfl | exact Or.inr rfl) (pe_lst pa_nil))
    (pss_cons (ps_for PassesOwn.never rfl (pi_listK K (pe_fldK K (pv 5))) (pg_name (i := 10) sc_law.nd rfl (by first | exact Or.inl rfl | exact Or.inr rfl)) (pss_one (ps_for PassesOwn.never rfl (pi_listK K (pv 10)) (pg_name (i := 11) sc_law.nd rfl (by first | exact Or.inl rfl | exact Or.inr rfl)) (pss_one (ps_expr (pe_bmK K PySem.F.plainAttrs_list PySem.F.slot_list_append PySem.F.type_list_append mt_append (pv 9) (pa_cons (pv 11) pa_nil)))))))
    (pss_cons (ps_if (pt_cmpR (op_neDK K hr.units) (pv 9) (pv 7) (nomark _)) (pss_one (ps_ret pe_bl)) pss_nil)
    (pss_cons (ps_for PassesOwn.never rfl (pi_listK K (pe_fldK K (pv 5))) (pg_name (i := 10) sc_law.nd rfl (by first | exact Or.inl rfl | exact Or.inr rfl)) (pss_cons (ps_if (PW.pt (pw_or (pt_cmpR op_eq (pe_callB (call_lenK K) (by rfl) T.f_len (by decide +kernel) (pa_cons (pv 10) pa_nil)) pe_int (nomark _)) (pw_or1 (pt_not (pt_val (pe_ok O_law_phase T.n_law_phase hr (by decide) (by rfl) (pa_cons (pe_ix (ix_listK K) (pv 1) pe_int (fun _ _ => rfl)) (pa_cons (pv 6) (pa_cons (pv 10) pa_nil))))))))) (pss_one (ps_ret pe_bl)) pss_nil)
    (pss_one (ps_for PassesOwn.never rfl (pi_listK K (pv 10)) (pg_name (i := 11) sc_law.nd rfl (by first | exact Or.inl rfl | exact Or.inr rfl)) (pss_one (ps_asg (pe_op op_sub (pe_ix (ix_listK K) (pv 6) (pv 11) (fun _ _ => rfl)) pe_int) (pg_sub (pv 6) (pv 11) set_list)))))))
    (pss_one (ps_ret (pe_cmpR op_eq (pe_callB (cr_sumK K rfl) (by rfl) T.f_sum (by decide +kernel) (pa_cons (pv 6) pa_nil)) pe_int (nomark _)))))))))))))))), ?_⟩
    obtain ⟨a, ns, rfl, ha, k⟩ := h
    have hscr : (kScr K).p H (.ref a) ns := ⟨a, rfl, ha⟩
    walk_at "s"
    refine ⟨(.ref a, ns), H, rfl, Same.refl _, hscr, fun v F1 H1 g1 hv => ?_⟩
    obtain ⟨⟨z, ws, nums⟩, hpl, hok⟩ := hv
    obtain ⟨ap, y1, y2, y3, rfl, hap, e1, hy2, hy3⟩ := hpl
    dsimp only at e1 hy2 hy3
    obtain rfl : y1 = .str z := e1
    obtain ⟨aw, rfl, haw⟩ := kLI hy2
    obtain ⟨an, rfl, han⟩ := kLI hy3
    obtain ⟨ts, r, vp, hP, hru, hws, hpc, hnl⟩ := hok
    dsimp only at hP hws hpc hnl
    have hwl : ws.length = r.src.length := by rw [← hws, List.length_map]
    have hn1 := hru.n1
    have hn3 := hru.n3
    walk_at "s"
    refine x_ixL (g1.fh _ _ hap) (at_lst (j := 1) rfl rfl) ?_
    walk_at "s"
    refine x_lenK (g1.fh _ _ haw) ?_
    rw [List.length_map]
    walk_at "s"
    refine ⟨(.ref a, ws.length, ns), F1, rfl, g1.fh, ⟨(kScr K).mono g1.ff hscr, by omega, by omega⟩, fun v F2 H2 g2 hv => ?_⟩
    obtain ⟨docs, hdocs, hdl, hdt⟩ := hv
    have G2 := g1.trans g2
    walk_at "s"
    refine ⟨(.ref a, ns), F2, rfl, G2.fh, (kScr K).mono G2.ff hscr, fun v2 F3 H3 g3 hv => ?_⟩
    obtain ⟨exs, hexs, hel, het⟩ := hv
    have G3 := G2.trans g3
    have s13 := g2.ff.trans g3.ff
    walk_at "s"
    refine x_ixL (G3.fh _ _ (s13 _ _ hap)) (at_lst (j := 2) rfl rfl) ?_
    walk_at "s"
    refine x_ixL (G3.fh _ _ (s13 _ _ hap)) (at_lst (j := 0) rfl rfl) ?_
    obtain ⟨ad, vsd, rfl, had, hpd⟩ := (kL kDoc).mono g3.ff hdocs
    obtain ⟨ae, rfl, hae⟩ := kLS hexs
    walk_at "s"
    refine x_listof (G3.fh _ _ had) fun p1 H4 np1 => ?_
    obtain ⟨F4, g4, e4⟩ := np1.fix G3.fh
    have G4 := G3.trans g4
    walk_at "s"
    refine x_listof (G4.fh _ _ (g4.ff _ _ hae)) fun p2 H5 np2 => ?_
    obtain ⟨F5, g5, e5⟩ := np2.fix G4.fh
    have G5 := G4.trans g5
    walk_at "s"
    intro x dx nx ndx nxd
    have gA : Gr F5 H5 F5 (upd H5 dx (.own x)) := Gr.newM G5.fh ndx
    have fx : (upd H5 dx (.own x)) x = none := by rw [upd_ne nxd.symm]; exact nx
    have gB : Gr F5 (upd H5 dx (.own x)) F5 (upd (upd H5 dx (.own x)) x (.ins (He.ga K "Contents") dx [])) := Gr.newM gA.fh fx
    have ox : Own F5 (upd (upd H5 dx (.own x)) x (.ins (He.ga K "Contents") dx [])) x (.ins (He.ga K "Contents") dx []) := ⟨upd_same, G5.fh.free nx⟩
    have G6 := G5.trans (gA.trans gB)
    have zx : H x = none := G5.hh.free nx
    have hd5 : (kL kDoc).p F5 (.ref p1) docs := ⟨p1, vsd, rfl, g5.ff _ _ e4, L2.Paired.mapP hpd fun _ _ h => kDoc.mono (g4.ff.trans g5.ff) h⟩
    have he5 : (kL kS).p F5 (.ref p2) exs := kLS' e5
    refine ⟨x, dx, F5, z, ts, r, vp, _, _, docs, exs, rfl, G6.fh, ox, hP, hd5, he5, fun F7 H7 fs7 g7 o7 hco => ⟨rfl, ?_⟩⟩
    have G7' := gr_undel G6 zx g7 o7.f
    have G7 := G7'.fix o7.h zx o7.f
    have hkc : (kCo K).p (upd F7 x (.ins (He.ga K "Contents") dx fs7)) (.ref x) ⟨r, docs, exs⟩ := ⟨x, dx, fs7, rfl, upd_same, hco.up (same_new o7.f)⟩
    have s17 : Same F1 (upd F7 x (.ins (He.ga K "Contents") dx fs7)) := (((s13.trans g4.ff).trans g5.ff).trans g7.ff).trans (same_new o7.f)
    generalize upd F7 x (.ins (He.ga K "Contents") dx fs7) = F8 at G7 hkc s17
    clear G7' g7 o7 hco
    walk_at "s"
    refine ⟨(.ref x, ⟨r, docs, exs⟩), F8, rfl, G7.fh, ⟨hkc, ⟨by show docs.length ≤ 20; omega, hdt, by show exs.length ≤ 100; omega, fun t ht => by have := het t ht; omega⟩, hru⟩, fun v3 F9 H9 g9 hv => ?_⟩
    obtain ⟨xc, dxc, fsc, vph, vpg, cs, rows, rfl, hxc, lph, hph, lpg, hpg, hr1, hr2, hWO⟩ := hv
    dsimp only at hph hr1 hr2 hWO
    rw [hws] at hph hr1 hWO
    have G9 := G7.trans g9
    have s19 := s17.trans g9.ff
    obtain ⟨aph, vsph, rfl, haph, hpph⟩ := hph
    obtain ⟨apg, vspg, rfl, hapg, hppg⟩ := hpg
    have PH := phases_ok hWO.1
    have hcl : cs.length = ws.length := hWO.1.len
    have hfl := phs_len PH
    have hcs : cs.sum ≤ 10000000 := hWO.2.2.2.2
    have hrl : rows.length ≤ 10000000 := by
      have e := congrArg List.length hr1
      rw [List.length_map] at e
      omega
    walk_at "s"
    refine ⟨x_lt (by decide), fun l0 H10 n0 => ?_⟩
    obtain ⟨F10, g10, e10⟩ := n0.fix G9.fh
    have G10 := G9.trans g10
    walk_at "s"
    refine x_ixL (G10.fh _ _ (g10.ff _ _ (s19 _ _ hap))) (at_lst (j := 1) rfl rfl) ?_
    walk_at "s"
    refine x_lenK (G10.fh _ _ (g10.ff _ _ (s19 _ _ haw))) ?_
    rw [List.length_map]
    walk_at "s"
    refine x_rep (g10.at e10) (by omega) (by omega) rfl fun l1 H11 n1 => ?_
    rw [rep_one, Int.toNat_natCast, rep0] at n1
    obtain ⟨g11, o1⟩ := n1.own G10.fh
    have G11 := G10.trans g11
    have z1 : H l1 = none := G10.hh.free n1.fr
    walk_at "s"
    refine ⟨x_lt (by decide), fun l2 H12 n2 => ?_⟩
    obtain ⟨g12, o2⟩ := n2.own G11.fh
    have G12 := G11.trans g12
    have z2 : H l2 = none := G11.hh.free n2.fr
    have n12 : l1 ≠ l2 := ne_of_none o1.h n2.fr
    have o1 := o1.go g12
    have s9 := g10.ff.trans (g11.ff.trans g12.ff)
    have s1 := s19.trans s9
    walk_at "s"
    refine ⟨_, _, _, _, _, rfl, G12.fh _ _ (s9 _ _ hxc), T.c_Corpus, T.a_Corpus_pages, lpg, ?_⟩
    walk_at "s"
    refine ⟨apg, rfl, ⟨_, SqL.of (G12.fh _ _ (s9 _ _ hapg))⟩, ?_⟩
    refine for_kL (r := k2 kI (kL kI)) (xs := rows) G12 (s9 _ _ hapg) (L2.Paired.mapP hppg fun _ _ h => (k2 kI (kL kI)).mono s9 h) (fun i σ F H' => ∃ (xs : List Int) (x8 : Option V), σ = [some (.ref a), some (.ref ap), some (.ref ad), some (.ref ae), some (.ref an), some (.ref xc), some (.ref l1), some (.ref l2), x8, none, none, none] ∧
      Own F H' l1 (.lst (xs.map V.int)) ∧ Own F H' l2 (.lst (((rows.take i).map (·.1)).map V.int)) ∧ xs.length = ws.length ∧ ∀ k, k < ws.length → g xs k = (((rows.take i).map (·.1)).count (k : Int) : Int)) ⟨List.replicate ws.length 0, _, rfl, o1, o2, List.length_replicate, fun k _ => ?_⟩ ?_ ?_
    · unfold g
      rw [List.getD_eq_getElem?_getD, List.getElem?_replicate]
      split <;> rfl
    · rintro i pg v σ1 F13 H13 N hx hi hv G13 s13 ⟨xs, x8, rfl, o1, o2, hxl, hcnt⟩ kN
      obtain ⟨b, y1, y2, rfl, hb, hy1, hy2⟩ := hv
      obtain rfl : y1 = .int pg.1 := hy1
      obtain ⟨ac, rfl, hac⟩ := kLI hy2
      have hpm := List.mem_of_getElem? hx
      obtain ⟨kk, hkk, ekk⟩ : ∃ k : Nat, k < ws.length ∧ pg.1 = (k : Int) := phs_rg PH pg.1 (by rw [← hr1]; exact List.mem_map.mpr ⟨pg, hpm, rfl⟩)
      have hbH : H13 b = some (.tup [.int (kk : Int), .ref ac]) := by rw [← ekk]; exact G13.fh _ _ hb
      walk_at "s"
      refine x_isT hbH ?_
      walk_at "s"
      refine x_nt ?_
      walk_at "s"
      refine x_ixT hbH (at_lst (j := 0) rfl rfl) ?_
      walk_at "s"
      refine x_lenK o1.h ?_
      rw [List.length_map]
      walk_at "s"
      intro pr npr
      have g14 : Gr F13 H13 F13 (upd H13 pr (.rng 0 (xs.length : Int))) := Gr.newM G13.fh npr
      have G14 := G13.trans g14
      have o1 := o1.go g14
      have o2 := o2.go g14
      have hbH := g14.hh _ _ hbH
      refine ⟨_, pr, _, _, rfl, rfl, upd_same, ?_⟩
      generalize upd H13 pr (.rng 0 (xs.length : Int)) = H14 at g14 G14 o1 o2 hbH
      refine ⟨_, rfl, ?_⟩
      refine x_nd (fun _ => ?_) (fun hne => absurd ⟨by omega, by omega⟩ hne)
      walk_at "s"
      refine x_ixT hbH (at_lst (j := 1) rfl rfl) ?_
      walk_at "s"
      refine x_lenK (G14.fh _ _ hac) ?_
      rw [List.length_map]
      walk_at "s"
      refine x_ixL (G14.fh _ _ (s13 _ _ (s9 _ _ (s19 _ _ han)))) (at_g (k := 7) (by rw [hnl]; decide)) ?_
      rw [hpc]
      walk_at "s"
      refine x_nd (fun _ => ?_) (fun hne => absurd (hr2 pg hpm) hne)
      walk_at "s"
      have hkx : kk < xs.length := by omega
      refine x_ixT hbH (at_lst (j := 0) rfl rfl) ?_
      refine x_ixL o1.h (at_g hkx) ?_
      walk_at "s"
      refine r_gSub ?_
      walk_at "s"
      refine x_ixT hbH (at_lst (j := 0) rfl rfl) ?_
      refine x_setL o1.h (ixN_g hkx) fun H15 c15 => ?_
      have G15 := c15.gr G14 o1.f z1
      have o2 := c15.ne o2 n12.symm
      have o1 := c15.own o1
      rw [map_set] at o1
      have hbH : H15 b = some (.tup [.int (kk : Int), .ref ac]) := by rw [← ekk]; exact G15.fh _ _ hb
      walk_at "s"
      refine ⟨x_tyL o2.h, ?_⟩
      walk_at "s"
      refine x_ixT hbH (at_lst (j := 0) rfl rfl) ?_
      have hil : (List.take i rows).length ≤ rows.length := by rw [List.length_take]; omega
      walk_at "s"
      refine x_app o2.h (by rw [sizeLine_eq, List.length_map, List.length_map]; omega) fun H16 c16 => ?_
      have e16 : ((rows.take i).map (·.1)).map V.int ++ [V.int (kk : Int)] = ((rows.take (i + 1)).map (·.1)).map V.int := by
        rw [take_snoc hx, List.map_append, List.map_append, ← ekk]
        rfl
      rw [e16] at c16
      walk_at "s"
      refine kN _ _ _ (c16.gr G15 o2.f z2) (Same.refl _) ⟨_, _, rfl, c16.ne o1 n12, c16.own o2, by rw [List.length_set]; exact hxl, fun k hk => ?_⟩
      have e17 : (rows.take (i + 1)).map (·.1) = (rows.take i).map (·.1) ++ [(kk : Int)] := by
        rw [take_snoc hx, List.map_append, ← ekk]
        rfl
      rw [e17, count_snoc]
      by_cases e : k = kk
      · subst e
        rw [g_set_same hkx, hcnt k hk, if_pos rfl]
      · rw [g_set_ne e, hcnt k hk, if_neg (by omega), Int.add_zero]
    rintro σ1 F13 H13 G13 s13 ⟨xs, x8, rfl, o1, o2, hxl, hcnt⟩
    rw [List.take_length, hr1] at o2 hcnt
    obtain rfl : xs = cs := list_g (by omega) fun k hk => by rw [hcnt k (by omega), phs_cnt PH k (by omega)]
    walk_at "s"
    refine ⟨x_lt (by decide), fun l3 H14 n3 => ?_⟩
    obtain ⟨g14, o3⟩ := n3.own G13.fh
    have G14 := G13.trans g14
    have z3 : H l3 = none := G13.hh.free n3.fr
    have n13 : l1 ≠ l3 := ne_of_none o1.h n3.fr
    have n23 : l2 ≠ l3 := ne_of_none o2.h n3.fr
    have o1 := o1.go g14
    have o2 := o2.go g14
    have s913 := s9.trans s13
    walk_at "s"
    refine ⟨_, _, _, _, _, rfl, G14.fh _ _ (s913 _ _ hxc), T.c_Corpus, T.a_Corpus_phases, lph, ?_⟩
    walk_at "s"
    refine ⟨aph, rfl, ⟨_, SqL.of (G14.fh _ _ (s913 _ _ haph))⟩, ?_⟩
    refine for_kL (r := kL kI) (xs := phasesF ws xs) G14 (s913 _ _ haph) (L2.Paired.mapP hpph fun _ _ h => (kL kI).mono s913 h) (fun i σ F H' => ∃ (x10 x11 : Option V), σ = [some (.ref a), some (.ref ap), some (.ref ad), some (.ref ae), some (.ref an), some (.ref xc), some (.ref l1), some (.ref l2), x8, some (.ref l3), x10, x11] ∧
      Own F H' l1 (.lst (xs.map V.int)) ∧ Own F H' l2 (.lst ((phasesF ws xs).flatten.map V.int)) ∧ Own F H' l3 (.lst (((phasesF ws xs).take i).flatten.map V.int))) ⟨_, _, rfl, o1, o2, o3⟩ ?_ ?_
    · rintro i row v σ1 F15 H15 N hx hi hv G15 s15 ⟨x10, x11, rfl, o1, o2, o3⟩ kN
      obtain ⟨ar, rfl, har⟩ := kLI hv
      walk_at "s"
      refine ⟨ar, rfl, ⟨_, SqL.of (G15.fh _ _ har)⟩, ?_⟩
      refine for_kL (r := kI) (xs := row) G15 har (kI_all row) (fun j σ F H' => ∃ (x11 : Option V), σ = [some (.ref a), some (.ref ap), some (.ref ad), some (.ref ae), some (.ref an), some (.ref xc), some (.ref l1), some (.ref l2), x8, some (.ref l3), some (.ref ar), x11] ∧
        Own F H' l1 (.lst (xs.map V.int)) ∧ Own F H' l2 (.lst ((phasesF ws xs).flatten.map V.int)) ∧ Own F H' l3 (.lst ((((phasesF ws xs).take i).flatten ++ row.take j).map V.int))) ⟨_, rfl, o1, o2, by rw [List.take_zero, List.append_nil]; exact o3⟩ ?_ ?_
      · rintro j s0 v σ2 F16 H16 N2 hx2 hj hv2 G16 s16 ⟨x12, rfl, o1, o2, o3⟩ kN2
        obtain rfl : v = .int s0 := hv2
        have hfl2 := flatT_le (j := j) hx
        walk_at "s"
        refine ⟨x_tyL o3.h, ?_⟩
        walk_at "s"
        refine x_app o3.h (by rw [sizeLine_eq, List.length_map]; omega) fun H17 c17 => ?_
        rw [map_snoc, List.append_assoc, ← take_snoc hx2] at c17
        walk_at "s"
        exact kN2 _ _ _ (c17.gr G16 o3.f z3) (Same.refl _) ⟨_, rfl, c17.ne o1 n13, c17.ne o2 n23, c17.own o3⟩
      · rintro σ2 F16 H16 G16 s16 ⟨x12, rfl, o1, o2, o3⟩
        rw [List.take_length, ← flat_snoc hx] at o3
        walk_at "s"
        exact kN _ _ _ G16 s16 ⟨_, _, rfl, o1, o2, o3⟩
    · rintro σ1 F15 H15 G15 s15 ⟨x10, x11, rfl, o1, o2, o3⟩
      rw [List.take_length] at o3
      walk_at "s"
      refine x_neL o3.h o2.h ?_
      have s915 := s913.trans s15
      walk_at "s"
      refine ⟨_, _, _, _, _, rfl, G15.fh _ _ (s915 _ _ hxc), T.c_Corpus, T.a_Corpus_phases, lph, ?_⟩
      walk_at "s"
      refine ⟨aph, rfl, ⟨_, SqL.of (G15.fh _ _ (s915 _ _ haph))⟩, ?_⟩
      refine for_kL (r := kL kI) (xs := phasesF ws xs) G15 (s915 _ _ haph) (L2.Paired.mapP hpph fun _ _ h => (kL kI).mono s915 h) (fun i σ F H' => ∃ (ls : List Int) (x10 x11 : Option V), σ = [some (.ref a), some (.ref ap), some (.ref ad), some (.ref ae), some (.ref an), some (.ref xc), some (.ref l1), some (.ref l2), x8, some (.ref l3), x10, x11] ∧
        Own F H' l1 (.lst (ls.map V.int)) ∧ WsOk ws ls ∧ Phs ws ls ((phasesF ws xs).drop i)) ⟨xs, _, _, rfl, o1, hWO, PH⟩ ?_ ?_
      · rintro i row v σ2 F16 H16 N hx hi hv G16 s16 ⟨ls, y10, y11, rfl, o1, WL, PL⟩ kN
        obtain ⟨ar, rfl, har⟩ := kLI hv
        rw [drop_cons' hx] at PL
        cases PL with
        | cons W P PT =>
        have hrow : (row.length : Int) ≤ 10000000 := by
          obtain ⟨w1, w2, _⟩ := after_wf W P
          have e := sum_S (after ws.length ls row)
          rw [w1.len] at e
          have h0 := S_nn w1.l
          have h1 := WL.2.2.2.2
          omega
        have hne : 0 < row.length := List.length_pos_iff.mpr P.ne
        have s16a := s915.trans s16
        walk_at "s"
        refine x_lenK (G16.fh _ _ har) ?_
        rw [List.length_map]
        walk_at "s"
        refine x_d (fun hz => absurd hz (by omega)) (fun _ => ?_)
        walk_at "s"
        refine x_ixL (G16.fh _ _ (s16a _ _ (s19 _ _ hap))) (at_lst (j := 1) rfl rfl) ?_
        walk_at "s"
        have sx : Same F16 (upd F16 l1 (.lst (ls.map V.int))) := same_new o1.f
        refine ⟨(.ref aw, .ref l1, .ref ar, ws, ls, row), upd F16 l1 (.lst (ls.map V.int)), rfl, (Gr.fix G16 o1.h z1 o1.f).fh, ⟨kLI' (sx _ _ (s16a _ _ (s19 _ _ haw))), kLI' upd_same, kLI' (sx _ _ har), WL, P, by omega⟩, fun v F17 H17 g17 hv => ?_⟩
        dsimp only at hv
        subst hv
        have gk : Gr F16 H16 F16 H17 := Gr.keep G16.fh g17.hh
        have G17 := G16.trans gk
        have o1 := o1.go gk
        walk_at "s"
        refine x_nt ?_
        walk_at "s"
        refine ⟨ar, rfl, ⟨_, SqL.of (G17.fh _ _ har)⟩, ?_⟩
        refine for_kL (r := kI) (xs := row) G17 har (kI_all row) (fun j σ F H' => ∃ (y11 : Option V), σ = [some (.ref a), some (.ref ap), some (.ref ad), some (.ref ae), some (.ref an), some (.ref xc), some (.ref l1), some (.ref l2), x8, some (.ref l3), some (.ref ar), y11] ∧
          Own F H' l1 (.lst ((after ws.length ls (row.take j)).map V.int))) ⟨_, rfl, o1⟩ ?_ ?_
        · rintro j s0 v σ3 F18 H18 N2 hx2 hj hv2 G18 s18 ⟨y12, rfl, o1⟩ kN2
          obtain rfl : v = .int s0 := hv2
          obtain ⟨b, hb, rfl⟩ := P.rng W.len s0 (List.mem_of_getElem? hx2)
          have hb2 : b < (after ws.length ls (row.take j)).length := by rw [after_len]; exact hb
          walk_at "s"
          refine x_ixL o1.h (at_g hb2) ?_
          walk_at "s"
          refine r_gSub ?_
          walk_at "s"
          refine x_setL o1.h (ixN_g hb2) fun H19 c19 => ?_
          have o1' := c19.own o1
          rw [map_set] at o1'
          walk_at "s"
          refine kN2 _ _ _ (c19.gr G18 o1.f z1) (Same.refl _) ⟨_, rfl, ?_⟩
          rw [after_take hx2]
          exact o1'
        · rintro σ3 F18 H18 G18 s18 ⟨y12, rfl, o1⟩
          rw [List.take_length] at o1
          walk_at "s"
          exact kN _ _ _ G18 s18 ⟨_, _, _, rfl, o1, wsok_after WL P, PT⟩
      · rintro σ2 F16 H16 G16 s16 ⟨ls, y10, y11, rfl, o1, WL, PL⟩
        rw [List.drop_length] at PL
        have hs := phs_end PL
        walk_at "s"
        refine x_sum o1.h ?_
        rw [hs]
        walk_at "s"
        exact k _
end Ck
namespace Ck
open PySem PySem.Spec PyProof.Rows L2
theorem law_left : Left 8 sp_law := by
  intro w K hp mg f X c G hf
  have T := Tx.of c X G
  obtain ⟨fd, hb, hF⟩ := ok_law (P := (PySem.Challenge.rw_corpuskeep_k60_corpora_whole_shares_of_p).prog) (w := w) T
  have e := hf.symm.trans T.n_law
  cases e
  exact ⟨fd, hb, fun base _ _ => hF base⟩
end Ck
theorem PySem.Challenge.cw_corpuskeep_k60_corpora_whole_shares_of_p_holds : PySem.Challenge.rw_corpuskeep_k60_corpora_whole_shares_of_p.Holds :=
  Ck.holds_of (k := 8) ⟨rfl, by decide, by decide⟩ Ck.law_left fun _ _ a ns h => ⟨a, ns, rfl, h, fun _ => rfl⟩

