import PyProof.Rows.All
import Wide.All
import OpenK.AllK
import Wide.FinOn
import HandS.ForMost
import HandS.Evl
import HandS.IsInst
import HandS.Walk
import HandS.SortRule
import KE.KSortTupAny
import PySem.Challenge.RW_greedycuts_k59_whole_repeated_rounds
set_option Elab.async false
set_option linter.all false
/-! The plain law: texts as lists of codes, word lists as lists of pairs. No program in sight. -/
namespace Gc
abbrev Tx := List Nat
abbrev WL := List (Tx × Int)

def names (ws : WL) : List Tx := ws.map (·.1)
def beg (w t : Tx) : Bool := t.take w.length == w
def lwF (t : Tx) (b : Tx) (p : Tx × Int) : Tx := if (decide (b.length < p.1.length) && beg p.1 t) = true then p.1 else b
/-- the longest word that begins t -/
def lw (ws : WL) (t : Tx) : Tx := ws.foldl (lwF t) []
def growP (t : Tx) (p : Tx × Int) : Bool := decide (t.length < p.1.length) && (p.1.take t.length == t)
def grow (ws : WL) (t : Tx) : Bool := ws.any (growP t)
/-- the longest match -/
def mt (ws : WL) (t : Tx) : List Tx :=
  if h : t = [] then [] else lw ws t :: mt ws (t.drop (max 1 (lw ws t).length))
termination_by t.length
decreasing_by
  have : 0 < t.length := List.length_pos_iff.mpr h
  rw [List.length_drop]
  omega
/-- what the reader gives out of held letters, and what it holds then -/
def drain (ws : WL) (t : Tx) : List Tx × Tx :=
  if h : t = [] then ([], t) else
  if grow ws t = true then ([], t) else
    (lw ws t :: (drain ws (t.drop (max 1 (lw ws t).length))).1, (drain ws (t.drop (max 1 (lw ws t).length))).2)
termination_by t.length
decreasing_by
  all_goals
    have : 0 < t.length := List.length_pos_iff.mpr h
    rw [List.length_drop]
    omega
/-- the reader over a text -/
def rd (ws : WL) (h : Tx) : Tx → List Tx × Tx
  | [] => ([], h)
  | c :: t => ((drain ws (h ++ [c])).1 ++ (rd ws (drain ws (h ++ [c])).2 t).1, (rd ws (drain ws (h ++ [c])).2 t).2)

structure Ok (ws : WL) : Prop where
  len1 : 1 ≤ ws.length
  len8 : ws.length ≤ 8
  word : ∀ p ∈ ws, 1 ≤ p.1.length ∧ p.1.length ≤ 4
  alph : ∀ p ∈ ws, ∀ c ∈ p.1, 97 ≤ c ∧ c ≤ 99
  cost : ∀ p ∈ ws, 1 ≤ p.2 ∧ p.2 ≤ 9
  sort : (names ws).Pairwise (· < ·)
  lets : ∀ p ∈ ws, ∀ c ∈ p.1, [c] ∈ names ws
/-- a text over the letters -/
def Ov (ws : WL) (t : Tx) : Prop := ∀ c ∈ t, [c] ∈ names ws

theorem beg_len {w t : Tx} (h : beg w t = true) : w.length ≤ t.length := by
  have e := eq_of_beq h
  have := congrArg List.length e
  rw [List.length_take] at this
  omega
theorem beg_eq {w t : Tx} (h : beg w t = true) : t.take w.length = w := eq_of_beq h
theorem beg_drop {w t : Tx} (h : beg w t = true) : t = w ++ t.drop w.length := by
  have e := beg_eq h
  conv => lhs; rw [← List.take_append_drop w.length t, e]
theorem beg_uniq {a b t : Tx} (ha : beg a t = true) (hb : beg b t = true) (e : a.length = b.length) : a = b := by
  rw [← beg_eq ha, ← beg_eq hb, e]

/-! ### the longest word -/
theorem lwF_fold (t : Tx) : ∀ (ws : WL) (b : Tx), beg b t = true ∨ b = [] →
    (ws.foldl (lwF t) b = b ∨ (ws.foldl (lwF t) b ∈ names ws)) ∧ (beg (ws.foldl (lwF t) b) t = true ∨ ws.foldl (lwF t) b = []) ∧
    b.length ≤ (ws.foldl (lwF t) b).length ∧ ∀ p ∈ ws, beg p.1 t = true → p.1.length ≤ (ws.foldl (lwF t) b).length
  | [], b, hb => ⟨.inl rfl, hb, Nat.le_refl _, fun p hp => nomatch hp⟩
  | q :: ws, b, hb => by
    have hb2 : beg (lwF t b q) t = true ∨ lwF t b q = [] := by
      unfold lwF
      split
      · rename_i h
        rw [Bool.and_eq_true] at h
        exact .inl h.2
      · exact hb
    obtain ⟨h1, h2, h3, h4⟩ := lwF_fold t ws (lwF t b q) hb2
    have hle : b.length ≤ (lwF t b q).length := by
      unfold lwF
      split
      · rename_i h
        rw [Bool.and_eq_true, decide_eq_true_eq] at h
        omega
      · exact Nat.le_refl _
    refine ⟨?_, h2, Nat.le_trans hle h3, fun p hp hbp => ?_⟩
    · rw [List.foldl_cons]
      rcases h1 with h1 | h1
      · rw [h1]
        unfold lwF
        split
        · exact .inr (by simp [names])
        · exact .inl rfl
      · exact .inr (by
          unfold names at h1 ⊢
          rw [List.map_cons]
          exact List.mem_cons_of_mem _ h1)
    · rw [List.foldl_cons]
      rcases List.mem_cons.mp hp with rfl | hp
      · refine Nat.le_trans ?_ h3
        unfold lwF
        split
        · exact Nat.le_refl _
        · rename_i h
          rw [hbp, Bool.and_true, decide_eq_true_eq] at h
          omega
      · exact h4 p hp hbp
theorem lw_max {ws : WL} {t : Tx} {p : Tx × Int} (hp : p ∈ ws) (h : beg p.1 t = true) : p.1.length ≤ (lw ws t).length := (lwF_fold t ws [] (.inr rfl)).2.2.2 p hp h
theorem lw_beg (ws : WL) (t : Tx) : beg (lw ws t) t = true := by
  rcases (lwF_fold t ws [] (.inr rfl)).2.1 with h | h
  · exact h
  · unfold lw
    rw [h]
    unfold beg
    simp
theorem lw_mem {ws : WL} {t : Tx} (h : lw ws t ≠ []) : lw ws t ∈ names ws := (lwF_fold t ws [] (.inr rfl)).1.resolve_left h
theorem lw_len (ws : WL) (t : Tx) : (lw ws t).length ≤ t.length := beg_len (lw_beg ws t)
/-- a word that begins t and is at least as long as all that do is the longest -/
theorem lw_is {ws : WL} {t w : Tx} (hw : w ∈ names ws) (hb : beg w t = true) (hm : ∀ p ∈ ws, beg p.1 t = true → p.1.length ≤ w.length) : lw ws t = w := by
  obtain ⟨p, hp, e⟩ := List.mem_map.mp hw
  have h1 : w.length ≤ (lw ws t).length := by
    rw [← e]
    exact lw_max hp (by rw [e]; exact hb)
  have h2 : (lw ws t).length ≤ w.length := by
    by_cases h0 : lw ws t = []
    · rw [h0]
      exact Nat.zero_le _
    · obtain ⟨q, hq, e2⟩ := List.mem_map.mp (lw_mem h0)
      rw [← e2]
      exact hm q hq (by rw [e2]; exact lw_beg ws t)
  exact beg_uniq (lw_beg ws t) hb (by omega)
theorem lw_pos {ws : WL} {c : Nat} {t : Tx} (hc : [c] ∈ names ws) : 1 ≤ (lw ws (c :: t)).length := by
  obtain ⟨p, hp, e⟩ := List.mem_map.mp hc
  have h := lw_max (t := c :: t) hp (by rw [e]; unfold beg; simp)
  rw [e] at h
  exact h
theorem ov_cons {ws : WL} {c : Nat} {t : Tx} (h : Ov ws (c :: t)) : [c] ∈ names ws ∧ Ov ws t := ⟨h c List.mem_cons_self, fun d hd => h d (List.mem_cons_of_mem _ hd)⟩
theorem ov_drop {ws : WL} {t : Tx} (n : Nat) (h : Ov ws t) : Ov ws (t.drop n) := fun c hc => h c (List.mem_of_mem_drop hc)
theorem ov_take {ws : WL} {t : Tx} (n : Nat) (h : Ov ws t) : Ov ws (t.take n) := fun c hc => h c (List.mem_of_mem_take hc)
theorem ov_app {ws : WL} {a b : Tx} (h1 : Ov ws a) (h2 : Ov ws b) : Ov ws (a ++ b) := fun c hc => (List.mem_append.mp hc).elim (h1 c) (h2 c)
theorem ov_app_inv {ws : WL} {a b : Tx} (h : Ov ws (a ++ b)) : Ov ws a ∧ Ov ws b := ⟨fun c hc => h c (List.mem_append_left _ hc), fun c hc => h c (List.mem_append_right _ hc)⟩
theorem ov_nil {ws : WL} : Ov ws [] := fun c hc => nomatch hc
theorem ov_word {ws : WL} (ok : Ok ws) {w : Tx} (h : w ∈ names ws) : Ov ws w := by
  obtain ⟨p, hp, e⟩ := List.mem_map.mp h
  intro c hc
  exact ok.lets p hp c (by rw [e]; exact hc)
theorem lw_ok {ws : WL} {t : Tx} (h : Ov ws t) (ht : t ≠ []) : 1 ≤ (lw ws t).length ∧ lw ws t ∈ names ws := by
  cases t with
  | nil => exact absurd rfl ht
  | cons c t =>
    have h1 := lw_pos (t := t) (ov_cons h).1
    refine ⟨h1, lw_mem fun e => ?_⟩
    rw [e] at h1
    exact absurd h1 (by simp)
theorem lw_ne {ws : WL} {t : Tx} (h : Ov ws t) (ht : t ≠ []) : lw ws t ≠ [] := fun e => by
  have := (lw_ok h ht).1
  rw [e] at this
  exact absurd this (by simp)

/-! ### the longest match -/
theorem mt_nil (ws : WL) : mt ws [] = [] := by
  rw [mt]
  exact dif_pos rfl
theorem mt_step {ws : WL} {t : Tx} (ht : t ≠ []) : mt ws t = lw ws t :: mt ws (t.drop (max 1 (lw ws t).length)) := by
  rw [mt]
  exact dif_neg ht
theorem mt_ov {ws : WL} {t : Tx} (h : Ov ws t) (ht : t ≠ []) : mt ws t = lw ws t :: mt ws (t.drop (lw ws t).length) := by
  have h1 := (lw_ok h ht).1
  rw [mt_step ht, show max 1 (lw ws t).length = (lw ws t).length by omega]
theorem drain_nil (ws : WL) : drain ws [] = ([], []) := by
  rw [drain]
  exact dif_pos rfl
theorem drain_grow {ws : WL} {t : Tx} (h : grow ws t = true) : drain ws t = ([], t) := by
  rw [drain]
  split
  · rfl
  · first
    | rfl
    | rw [if_pos h]
theorem drain_step {ws : WL} {t : Tx} (ht : t ≠ []) (h : grow ws t = false) : drain ws t =
    (lw ws t :: (drain ws (t.drop (max 1 (lw ws t).length))).1, (drain ws (t.drop (max 1 (lw ws t).length))).2) := by
  rw [drain, dif_neg ht, if_neg (by rw [h]; decide)]
theorem drain_ov {ws : WL} {t : Tx} (ho : Ov ws t) (ht : t ≠ []) (h : grow ws t = false) : drain ws t =
    (lw ws t :: (drain ws (t.drop (lw ws t).length)).1, (drain ws (t.drop (lw ws t).length)).2) := by
  have h1 := (lw_ok ho ht).1
  rw [drain_step ht h, show max 1 (lw ws t).length = (lw ws t).length by omega]
theorem grow_not {ws : WL} {t : Tx} (h : grow ws t = false) {p : Tx × Int} (hp : p ∈ ws) (hl : t.length < p.1.length) : p.1.take t.length ≠ t := fun e => by
  have h1 : grow ws t = true := List.any_eq_true.mpr ⟨p, hp, by
    unfold growP
    rw [Bool.and_eq_true, decide_eq_true_eq]
    exact ⟨hl, by rw [e]; exact beq_self_eq_true t⟩⟩
  rw [h] at h1
  cases h1
/-- where no word extends t, what follows t does not matter -/
theorem lw_app {ws : WL} {t : Tx} (h : grow ws t = false) (u : Tx) : lw ws (t ++ u) = lw ws t := by
  have hle : (lw ws (t ++ u)).length ≤ t.length := by
    by_cases h0 : lw ws (t ++ u) = []
    · rw [h0]
      exact Nat.zero_le _
    · obtain ⟨p, hp, e⟩ := List.mem_map.mp (lw_mem h0)
      apply Nat.le_of_not_lt
      intro hl
      refine grow_not h hp (by rw [e]; exact hl) ?_
      rw [e, ← beg_eq (lw_beg ws (t ++ u)), List.take_take, show min t.length (lw ws (t ++ u)).length = t.length by omega, List.take_append_of_le_length (Nat.le_refl _), List.take_length]
  have hb : beg (lw ws (t ++ u)) t = true := by
    have e := beg_eq (lw_beg ws (t ++ u))
    rw [List.take_append_of_le_length hle] at e
    unfold beg
    rw [e]
    exact beq_self_eq_true _
  by_cases h0 : lw ws (t ++ u) = []
  · by_cases h1 : lw ws t = []
    · rw [h0, h1]
    · obtain ⟨p, hp, e⟩ := List.mem_map.mp (lw_mem h1)
      have hb2 : beg p.1 (t ++ u) = true := by
        have hle2 := lw_len ws t
        unfold beg
        rw [e, List.take_append_of_le_length hle2, beg_eq (lw_beg ws t)]
        exact beq_self_eq_true _
      have := lw_max hp hb2
      rw [h0, e] at this
      exact absurd (List.length_eq_zero_iff.mp (Nat.le_zero.mp this)) h1
  · refine (lw_is (lw_mem h0) hb fun p hp hbp => ?_).symm
    refine lw_max hp ?_
    unfold beg at hbp ⊢
    rw [List.take_append_of_le_length (beg_len hbp)]
    exact hbp
theorem drain_mt (ws : WL) : ∀ (n : Nat) (t u : Tx), t.length ≤ n → mt ws (t ++ u) = (drain ws t).1 ++ mt ws ((drain ws t).2 ++ u)
  | n, [], u, _ => by
    rw [drain_nil]
    rfl
  | 0, c :: t, u, h => absurd h (by simp)
  | n + 1, c :: t, u, h => by
    cases hg : grow ws (c :: t) with
    | true =>
      rw [drain_grow hg]
      rfl
    | false =>
      have hle := lw_len ws (c :: t)
      have h1 : max 1 (lw ws (c :: t)).length ≤ (c :: t).length := by
        rw [List.length_cons] at hle ⊢
        omega
      rw [drain_step (List.cons_ne_nil c t) hg, mt_step (by simp), lw_app hg u, List.drop_append_of_le_length h1]
      show _ :: mt ws _ = _ :: (_ ++ _)
      rw [drain_mt ws n _ u (by
        rw [List.length_drop]
        rw [List.length_cons] at h ⊢
        omega)]
theorem rd_mt (ws : WL) : ∀ (t h u : Tx), mt ws (h ++ (t ++ u)) = (rd ws h t).1 ++ mt ws ((rd ws h t).2 ++ u)
  | [], h, u => rfl
  | c :: t, h, u => by
    have e : h ++ (c :: t ++ u) = (h ++ [c]) ++ (t ++ u) := by simp
    rw [e, drain_mt ws _ (h ++ [c]) (t ++ u) (Nat.le_refl _), rd_mt ws t _ u]
    show _ = (_ ++ _) ++ _
    rw [List.append_assoc]
    rfl
theorem rd_app (ws : WL) : ∀ (a h b : Tx), rd ws h (a ++ b) = ((rd ws h a).1 ++ (rd ws (rd ws h a).2 b).1, (rd ws (rd ws h a).2 b).2)
  | [], h, b => rfl
  | c :: a, h, b => by
    show ((drain ws (h ++ [c])).1 ++ (rd ws (drain ws (h ++ [c])).2 (a ++ b)).1, (rd ws (drain ws (h ++ [c])).2 (a ++ b)).2) = _
    rw [rd_app ws a _ b]
    show (_ ++ (_ ++ _), _) = ((_ ++ _) ++ _, _)
    rw [List.append_assoc]
    rfl
theorem rd_snoc (ws : WL) (h a : Tx) (c : Nat) : rd ws h (a ++ [c]) = ((rd ws h a).1 ++ (drain ws ((rd ws h a).2 ++ [c])).1, (drain ws ((rd ws h a).2 ++ [c])).2) := by
  rw [rd_app]
  show (_ ++ (_ ++ []), _) = _
  rw [List.append_nil]
  rfl
/-- what is held stands at the end of what was read -/
theorem drain_join {ws : WL} : ∀ (n : Nat) (t : Tx), t.length ≤ n → Ov ws t → (drain ws t).1.flatten ++ (drain ws t).2 = t ∧ (∀ w ∈ (drain ws t).1, w ∈ names ws) ∧ (drain ws t).2.length ≤ t.length
  | n, [], _, _ => by
    rw [drain_nil]
    exact ⟨rfl, fun w hw => (nomatch hw), Nat.le_refl _⟩
  | 0, c :: t, h, _ => absurd h (by simp)
  | n + 1, c :: t, h, ho => by
    cases hg : grow ws (c :: t) with
    | true =>
      rw [drain_grow hg]
      exact ⟨rfl, fun w hw => (nomatch hw), Nat.le_refl _⟩
    | false =>
      have h1 := (lw_ok ho (List.cons_ne_nil c t)).1
      obtain ⟨i1, i2, i3⟩ := drain_join n ((c :: t).drop (lw ws (c :: t)).length) (by
        rw [List.length_drop]
        rw [List.length_cons] at h ⊢
        omega) (ov_drop _ ho)
      rw [drain_ov ho (List.cons_ne_nil c t) hg]
      refine ⟨?_, fun w hw => ?_, ?_⟩
      · show (lw ws (c :: t) :: _).flatten ++ _ = _
        rw [List.flatten_cons, List.append_assoc, i1]
        exact (beg_drop (lw_beg ws (c :: t))).symm
      · rcases List.mem_cons.mp hw with rfl | hw
        · exact (lw_ok ho (List.cons_ne_nil c t)).2
        · exact i2 w hw
      · refine Nat.le_trans i3 ?_
        rw [List.length_drop]
        omega
theorem drain_facts {ws : WL} {t : Tx} (ho : Ov ws t) : (drain ws t).1.flatten ++ (drain ws t).2 = t ∧ (∀ w ∈ (drain ws t).1, w ∈ names ws) ∧ (drain ws t).2.length ≤ t.length := drain_join _ t (Nat.le_refl _) ho
theorem drain_hold {ws : WL} {t : Tx} (ho : Ov ws t) : Ov ws (drain ws t).2 := by
  have h := (drain_facts ho).1
  rw [← h] at ho
  exact (ov_app_inv ho).2
/-- what the reader holds is short: nothing, or less than a word -/
def Held (ws : WL) (h : Tx) : Prop := h = [] ∨ grow ws h = true
theorem drain_held (ws : WL) : ∀ (n : Nat) (t : Tx), t.length ≤ n → Held ws (drain ws t).2
  | n, [], _ => by
    rw [drain_nil]
    exact .inl rfl
  | 0, c :: t, h => absurd h (by simp)
  | n + 1, c :: t, h => by
    cases hg : grow ws (c :: t) with
    | true =>
      rw [drain_grow hg]
      exact .inr hg
    | false =>
      rw [drain_step (List.cons_ne_nil c t) hg]
      exact drain_held ws n _ (by
        rw [List.length_drop]
        rw [List.length_cons] at h ⊢
        omega)
theorem held_len {ws : WL} (ok : Ok ws) {h : Tx} (hh : Held ws h) : h.length ≤ 3 := by
  rcases hh with rfl | hh
  · exact Nat.zero_le _
  · obtain ⟨p, hp, hq⟩ := List.any_eq_true.mp hh
    unfold growP at hq
    rw [Bool.and_eq_true, decide_eq_true_eq] at hq
    have := (ok.word p hp).2
    omega
theorem rd_held {ws : WL} : ∀ (t h : Tx), Held ws h → Held ws (rd ws h t).2
  | [], h, hh => hh
  | c :: t, h, hh => rd_held t _ (drain_held ws _ _ (Nat.le_refl _))
theorem rd_hold {ws : WL} : ∀ (t h : Tx), Ov ws h → Ov ws t → Ov ws (rd ws h t).2
  | [], h, hh, _ => hh
  | c :: t, h, hh, ht => rd_hold t _ (drain_hold (ov_app hh fun d hd => by
      rw [List.mem_singleton] at hd
      rw [hd]
      exact (ov_cons ht).1)) (ov_cons ht).2
theorem rd_names {ws : WL} : ∀ (t h : Tx), Ov ws h → Ov ws t → ∀ w ∈ (rd ws h t).1, w ∈ names ws
  | [], h, _, _, w, hw => nomatch hw
  | c :: t, h, hh, ht, w, hw => by
    have ho : Ov ws (h ++ [c]) := ov_app hh fun d hd => by
      rw [List.mem_singleton] at hd
      rw [hd]
      exact (ov_cons ht).1
    rcases List.mem_append.mp hw with hw | hw
    · exact (drain_facts ho).2.1 w hw
    · exact rd_names t _ (drain_hold ho) (ov_cons ht).2 w hw
theorem mt_facts {ws : WL} : ∀ (n : Nat) (t : Tx), t.length ≤ n → Ov ws t → (mt ws t).flatten = t ∧ (∀ w ∈ mt ws t, w ∈ names ws) ∧ (mt ws t).length ≤ t.length
  | n, [], _, _ => by
    rw [mt_nil]
    exact ⟨rfl, fun w hw => (nomatch hw), Nat.le_refl _⟩
  | 0, c :: t, h, _ => absurd h (by simp)
  | n + 1, c :: t, h, ho => by
    have h1 := (lw_ok ho (List.cons_ne_nil c t)).1
    have h2 := lw_len ws (c :: t)
    obtain ⟨i1, i2, i3⟩ := mt_facts n ((c :: t).drop (lw ws (c :: t)).length) (by
      rw [List.length_drop]
      rw [List.length_cons] at h ⊢
      omega) (ov_drop _ ho)
    rw [mt_ov ho (List.cons_ne_nil c t)]
    refine ⟨?_, fun w hw => ?_, ?_⟩
    · rw [List.flatten_cons, i1]
      exact (beg_drop (lw_beg ws (c :: t))).symm
    · rcases List.mem_cons.mp hw with rfl | hw
      · exact (lw_ok ho (List.cons_ne_nil c t)).2
      · exact i2 w hw
    · rw [List.length_drop] at i3
      rw [List.length_cons]
      omega
theorem mt_join {ws : WL} {t : Tx} (ho : Ov ws t) : (mt ws t).flatten = t := (mt_facts _ t (Nat.le_refl _) ho).1
theorem mt_names {ws : WL} {t : Tx} (ho : Ov ws t) : ∀ w ∈ mt ws t, w ∈ names ws := (mt_facts _ t (Nat.le_refl _) ho).2.1
theorem mt_len {ws : WL} {t : Tx} (ho : Ov ws t) : (mt ws t).length ≤ t.length := (mt_facts _ t (Nat.le_refl _) ho).2.2

/-! ### costs -/
def cst (ws : WL) (w : Tx) : Int := ((ws.find? fun p => decide (p.1 = w)).map (·.2)).getD 0
def csum (ws : WL) (r : List Tx) : Int := (r.map (cst ws)).sum
theorem csum_app (ws : WL) (a b : List Tx) : csum ws (a ++ b) = csum ws a + csum ws b := by
  unfold csum
  rw [List.map_append, List.sum_append]
theorem csum_cons (ws : WL) (w : Tx) (b : List Tx) : csum ws (w :: b) = cst ws w + csum ws b := by
  unfold csum
  rw [List.map_cons, List.sum_cons]
theorem csum_nil (ws : WL) : csum ws [] = 0 := rfl

/-! ### least costs -/
def minL (l : List Int) : Int := l.min?.getD 0
theorem minL_is {l : List Int} {m : Int} (hm : m ∈ l) (hl : ∀ y ∈ l, m ≤ y) : minL l = m := by
  unfold minL
  rw [List.min?_eq_some_iff.mpr ⟨hm, hl⟩]
  rfl
theorem minL_le {l : List Int} {y : Int} (hy : y ∈ l) : minL l ≤ y := by
  cases h : l.min? with
  | none =>
    rw [List.min?_eq_none_iff] at h
    rw [h] at hy
    cases hy
  | some m =>
    have h2 := List.min?_eq_some_iff.mp h
    unfold minL
    rw [h]
    exact h2.2 y hy
def candP (t : Tx) (e : Nat) (p : Tx × Int) : Bool := (t.take e).drop (e - p.1.length) == p.1
def cand (ws : WL) (t : Tx) (bs : List Int) (e : Nat) : List Int := (ws.filter (candP t e)).map fun p => bs.getD (e - p.1.length) 0 + p.2
def bl (ws : WL) (t : Tx) : Nat → List Int
  | 0 => [0]
  | e + 1 => bl ws t e ++ [minL (cand ws t (bl ws t e) (e + 1))]
def least (ws : WL) (t : Tx) : Int := (bl ws t t.length).getD t.length 0
theorem bl_len (ws : WL) (t : Tx) : ∀ e, (bl ws t e).length = e + 1
  | 0 => rfl
  | e + 1 => by
    show (bl ws t e ++ [_]).length = _
    rw [List.length_append, bl_len ws t e]
    rfl
theorem bl_get (ws : WL) (t : Tx) {i : Nat} : ∀ {e : Nat}, i ≤ e → (bl ws t e).getD i 0 = (bl ws t i).getD i 0
  | 0, h => by
    have : i = 0 := Nat.le_zero.mp h
    subst this
    rfl
  | e + 1, h => by
    by_cases hi : i = e + 1
    · subst hi
      rfl
    · have hle : i ≤ e := by omega
      show (bl ws t e ++ [_]).getD i 0 = _
      rw [← bl_get ws t hle, List.getD_eq_getElem?_getD, List.getD_eq_getElem?_getD, List.getElem?_append_left (by rw [bl_len]; omega)]
def lc (ws : WL) (t : Tx) (e : Nat) : Int := (bl ws t e).getD e 0
theorem lc_succ (ws : WL) (t : Tx) (e : Nat) : lc ws t (e + 1) = minL (cand ws t (bl ws t e) (e + 1)) := by
  unfold lc
  show (bl ws t e ++ [_]).getD (e + 1) 0 = _
  rw [List.getD_eq_getElem?_getD, List.getElem?_append_right (by rw [bl_len]; exact Nat.le_refl _), bl_len, Nat.sub_self]
  rfl
theorem candP_len {t : Tx} {e : Nat} {p : Tx × Int} (he : e ≤ t.length) (h : candP t e p = true) : p.1.length ≤ e := by
  have e1 := congrArg List.length (eq_of_beq (show ((t.take e).drop (e - p.1.length) == p.1) = true from h))
  rw [List.length_drop, List.length_take] at e1
  omega
/-- one more word -/
theorem lc_word {ws : WL} {t : Tx} {e : Nat} {p : Tx × Int} (hp : p ∈ ws) (h1 : 1 ≤ p.1.length) (hle : e + p.1.length ≤ t.length) (hb : beg p.1 (t.drop e) = true) : lc ws t (e + p.1.length) ≤ lc ws t e + p.2 := by
  obtain ⟨k, hk⟩ : ∃ k, e + p.1.length = k + 1 := ⟨e + p.1.length - 1, by omega⟩
  rw [hk, lc_succ]
  refine minL_le ?_
  have hc : candP t (k + 1) p = true := by
    unfold candP
    rw [← hk, Nat.add_sub_cancel, List.drop_take, Nat.add_sub_cancel_left]
    exact hb
  have hm : (bl ws t k).getD (k + 1 - p.1.length) 0 + p.2 ∈ cand ws t (bl ws t k) (k + 1) := List.mem_map.mpr ⟨p, List.mem_filter.mpr ⟨hp, hc⟩, rfl⟩
  have e2 : k + 1 - p.1.length = e := by omega
  rw [e2, bl_get ws t (show e ≤ k by omega)] at hm
  exact hm
theorem cst_mem {ws : WL} {w : Tx} (h : w ∈ names ws) : ∃ p ∈ ws, p.1 = w ∧ p.2 = cst ws w := by
  cases hf : ws.find? fun p => decide (p.1 = w) with
  | none =>
    obtain ⟨p, hp, e⟩ := List.mem_map.mp h
    have := List.find?_eq_none.mp hf p hp
    rw [decide_eq_true_eq] at this
    exact absurd e this
  | some p =>
    refine ⟨p, List.mem_of_find?_eq_some hf, ?_, ?_⟩
    · have := List.find?_some hf
      exact of_decide_eq_true this
    · unfold cst
      rw [hf]
      rfl
/-- a cut from e on -/
theorem lc_row {ws : WL} (ok : Ok ws) {t : Tx} : ∀ (r : List Tx) (e : Nat), (∀ w ∈ r, w ∈ names ws) → e ≤ t.length → t.drop e = r.flatten → lc ws t t.length ≤ lc ws t e + csum ws r
  | [], e, _, he, h => by
    have h0 : t.length - e = 0 := by
      have := congrArg List.length h
      rw [List.length_drop] at this
      exact this
    have e1 : t.length = e := by omega
    rw [e1, csum_nil]
    omega
  | w :: r, e, hr, he, h => by
    obtain ⟨p, hp, e1, e2⟩ := cst_mem (hr w List.mem_cons_self)
    have hl := congrArg List.length h
    rw [List.length_drop, List.flatten_cons, List.length_append] at hl
    have hle : e + p.1.length ≤ t.length := by
      rw [e1]
      omega
    have hb : beg p.1 (t.drop e) = true := by
      unfold beg
      rw [h, e1, List.flatten_cons, List.take_append_of_le_length (Nat.le_refl _), List.take_length]
      exact beq_self_eq_true _
    have h1 := lc_word hp (ok.word p hp).1 hle hb
    have h2 := lc_row ok r (e + p.1.length) (fun v hv => hr v (List.mem_cons_of_mem _ hv)) hle (by
      rw [← List.drop_drop, h, e1, List.flatten_cons, List.drop_append_of_le_length (Nat.le_refl _), List.drop_length]
      rfl)
    rw [csum_cons, ← e2]
    omega
/-- what stands behind does not matter for the least costs of a beginning -/
theorem bl_app (ws : WL) (a b : Tx) : ∀ e, e ≤ a.length → bl ws (a ++ b) e = bl ws a e
  | 0, _ => rfl
  | e + 1, h => by
    show bl ws (a ++ b) e ++ [_] = bl ws a e ++ [_]
    rw [bl_app ws a b e (by omega)]
    have hc : candP (a ++ b) (e + 1) = candP a (e + 1) := by
      funext p
      unfold candP
      rw [List.take_append_of_le_length h]
    unfold cand
    rw [hc]
theorem least_app {ws : WL} (ok : Ok ws) {a : Tx} {r : List Tx} (hr : ∀ w ∈ r, w ∈ names ws) : least ws (a ++ r.flatten) ≤ least ws a + csum ws r := by
  have h := lc_row ok (t := a ++ r.flatten) r a.length hr (by rw [List.length_append]; omega) (by
    rw [List.drop_append_of_le_length (Nat.le_refl _), List.drop_length]
    rfl)
  have e : lc ws (a ++ r.flatten) a.length = least ws a := by
    unfold lc least
    rw [bl_app ws a _ _ (Nat.le_refl _)]
  rw [e] at h
  exact h

/-! ### repeated texts -/
def rep (n : Nat) (t : Tx) : Tx := (List.replicate n t).flatten
theorem rep_zero (t : Tx) : rep 0 t = [] := rfl
theorem rep_succ (n : Nat) (t : Tx) : rep (n + 1) t = t ++ rep n t := by
  unfold rep
  rw [List.replicate_succ, List.flatten_cons]
theorem rep_snoc (n : Nat) (t : Tx) : rep (n + 1) t = rep n t ++ t := by
  unfold rep
  rw [List.replicate_succ', List.flatten_append]
  simp
theorem rep_add (m n : Nat) (t : Tx) : rep (m + n) t = rep m t ++ rep n t := by
  unfold rep
  rw [← List.replicate_append_replicate, List.flatten_append]
theorem rep_len (n : Nat) (t : Tx) : (rep n t).length = n * t.length := by
  unfold rep
  rw [List.length_flatten, List.map_replicate, List.sum_replicate_nat]
theorem rep_one (t : Tx) : rep 1 t = t := by
  rw [rep_succ, rep_zero, List.append_nil]
theorem ov_rep {ws : WL} {t : Tx} (h : Ov ws t) (n : Nat) : Ov ws (rep n t) := fun c hc => by
  unfold rep at hc
  obtain ⟨l, hl, hc⟩ := List.mem_flatten.mp hc
  rw [(List.mem_replicate.mp hl).2] at hc
  exact h c hc
theorem flat_rep (n : Nat) (r : List Tx) : ((List.replicate n r).flatten).flatten = rep n r.flatten := by
  induction n with
  | zero => rfl
  | succ n ih => rw [List.replicate_succ, List.flatten_cons, List.flatten_append, ih, rep_succ]
theorem csum_rep (ws : WL) (n : Nat) (r : List Tx) : csum ws (List.replicate n r).flatten = (n : Int) * csum ws r := by
  induction n with
  | zero =>
    show (0 : Int) = ((0 : Nat) : Int) * _
    rw [show ((0 : Nat) : Int) = 0 from rfl, Int.zero_mul]
  | succ n ih =>
    rw [List.replicate_succ, List.flatten_cons, csum_app, ih, show ((n + 1 : Nat) : Int) = (n : Int) + 1 from rfl, Int.add_mul, Int.one_mul]
    omega

/-! ### the law -/
/-- reading the cycle again and again from what it leaves held -/
theorem rd_rep {ws : WL} {h c : Tx} (hc : (rd ws h c).2 = h) : ∀ n, (rd ws h (rep n c)).2 = h ∧ csum ws (rd ws h (rep n c)).1 = (n : Int) * csum ws (rd ws h c).1
  | 0 => ⟨rfl, by
    show csum ws [] = _
    rw [csum_nil, show ((0 : Nat) : Int) = 0 from rfl, Int.zero_mul]⟩
  | n + 1 => by
    obtain ⟨i1, i2⟩ := rd_rep hc n
    rw [rep_succ, rd_app, hc]
    refine ⟨i1, ?_⟩
    show csum ws (_ ++ _) = _
    rw [csum_app, i2, show ((n + 1 : Nat) : Int) = (n : Int) + 1 from rfl, Int.add_mul, Int.one_mul]
    omega
/-- the cost of the longest match of the text before with n copies of the cycle -/
theorem cost_rep {ws : WL} {b c : Tx} (hc : (rd ws (rd ws [] b).2 c).2 = (rd ws [] b).2) (n : Nat) :
    csum ws (mt ws (b ++ rep n c)) = csum ws (rd ws [] b).1 + (n : Int) * csum ws (rd ws (rd ws [] b).2 c).1 + csum ws (mt ws (rd ws [] b).2) := by
  have h := rd_mt ws (b ++ rep n c) [] []
  rw [List.append_nil, List.append_nil, List.nil_append] at h
  obtain ⟨i1, i2⟩ := rd_rep hc n
  rw [h, rd_app]
  show csum ws ((_ ++ _) ++ mt ws (rd ws (rd ws [] b).2 (rep n c)).2) = _
  rw [csum_app, csum_app, i1, i2]
theorem least_rep {ws : WL} (ok : Ok ws) {b c : Tx} (hc : Ov ws c) (n : Nat) : least ws (b ++ rep n c) ≤ least ws b + (n : Int) * csum ws (mt ws c) := by
  have h := least_app ok (a := b) (r := (List.replicate n (mt ws c)).flatten) fun w hw => by
    obtain ⟨l, hl, hw⟩ := List.mem_flatten.mp hw
    rw [(List.mem_replicate.mp hl).2] at hw
    exact mt_names hc w hw
  rw [flat_rep, mt_join hc, csum_rep] at h
  exact h
/-- the states of the reader behind the text before and n copies of the piece -/
def hs (ws : WL) (b p : Tx) (n : Nat) : Tx := (rd ws [] (b ++ rep n p)).2
theorem hs_cycle {ws : WL} {b p : Tx} {i n : Nat} (hi : i ≤ n) (e : hs ws b p i = hs ws b p n) :
    (rd ws (rd ws [] (b ++ rep n p)).2 (rep (n - i) p)).2 = (rd ws [] (b ++ rep n p)).2 := by
  show (rd ws (hs ws b p n) (rep (n - i) p)).2 = hs ws b p n
  have h : hs ws b p n = (rd ws (hs ws b p i) (rep (n - i) p)).2 := by
    unfold hs
    rw [show b ++ rep n p = (b ++ rep i p) ++ rep (n - i) p by rw [List.append_assoc, ← rep_add, show i + (n - i) = n by omega], rd_app]
  rw [← e, ← h, e]
theorem hs_succ {ws : WL} {b p : Tx} (n : Nat) : hs ws b p (n + 1) = (rd ws (hs ws b p n) p).2 := by
  unfold hs
  rw [rep_snoc, ← List.append_assoc, rd_app]
/-! ### as the program says them -/
theorem beq_dec (a b : Tx) : (a == b) = decide (a = b) := by
  by_cases h : a = b
  · rw [h, decide_eq_true rfl]
    exact beq_self_eq_true b
  · rw [decide_eq_false h]
    exact beq_eq_false_iff_ne.mpr h
def lets (ws : WL) : List Tx := (ws.filter fun p => decide (p.1.length = 1)).map (·.1)
theorem lets_mem {ws : WL} {w : Tx} : w ∈ lets ws ↔ w ∈ names ws ∧ w.length = 1 := by
  unfold lets names
  constructor
  · intro h
    obtain ⟨p, hp, e⟩ := List.mem_map.mp h
    obtain ⟨h1, h2⟩ := List.mem_filter.mp hp
    rw [← e]
    exact ⟨List.mem_map.mpr ⟨p, h1, rfl⟩, of_decide_eq_true h2⟩
  · intro ⟨h, hl⟩
    obtain ⟨p, hp, e⟩ := List.mem_map.mp h
    exact List.mem_map.mpr ⟨p, List.mem_filter.mpr ⟨hp, decide_eq_true (by rw [e]; exact hl)⟩, e⟩
theorem lets_flat {ws : WL} {c : Nat} : c ∈ (lets ws).flatten ↔ [c] ∈ names ws := by
  constructor
  · intro h
    obtain ⟨w, hw, hc⟩ := List.mem_flatten.mp h
    obtain ⟨h1, h2⟩ := lets_mem.mp hw
    cases w with
    | nil => cases hc
    | cons d r =>
      cases r with
      | nil =>
        rw [List.mem_singleton] at hc
        rw [hc]
        exact h1
      | cons _ _ => simp at h2
  · intro h
    exact List.mem_flatten.mpr ⟨[c], lets_mem.mpr ⟨h, rfl⟩, by simp⟩
theorem flat_len {l : List Tx} {n : Nat} (h : ∀ w ∈ l, w.length ≤ n) : l.flatten.length ≤ n * l.length := by
  induction l with
  | nil => exact Nat.zero_le _
  | cons a r ih =>
    have h1 := h a List.mem_cons_self
    have h2 := ih fun q hq => h q (List.mem_cons_of_mem _ hq)
    rw [List.flatten_cons, List.length_append, List.length_cons, Nat.mul_add]
    omega
theorem lets_len (ws : WL) : (lets ws).length ≤ ws.length := by
  unfold lets
  rw [List.length_map]
  exact List.length_filter_le _ _
theorem lets_sz {ws : WL} (ok : Ok ws) : (lets ws).flatten.length ≤ 8 := by
  have h := flat_len (l := lets ws) (n := 1) fun w hw => by
    rw [(lets_mem.mp hw).2]
    exact Nat.le_refl _
  have h2 := lets_len ws
  have h3 := ok.len8
  omega
def wfrom (ws : WL) (t : Tx) (i : Nat) : List Tx := ((List.range (min 4 (t.length - i))).map fun s => (t.take (i + (1 + s))).drop i).filter fun x => decide (x ∈ names ws)
theorem wfrom_last {ws : WL} (ok : Ok ws) {t : Tx} {i : Nat} (ho : Ov ws t) (hi : i < t.length) : ∃ l, wfrom ws t i = l ++ [lw ws (t.drop i)] := by
  have hu : t.drop i ≠ [] := fun e => by
    have := congrArg List.length e
    rw [List.length_drop] at this
    simp at this
    omega
  obtain ⟨h1, h2⟩ := lw_ok (ov_drop i ho) hu
  obtain ⟨p, hp, e⟩ := List.mem_map.mp h2
  have h4 := (ok.word p hp).2
  rw [e] at h4
  have hlen := lw_len ws (t.drop i)
  rw [List.length_drop] at hlen
  have hpart : ∀ s, (t.take (i + (1 + s))).drop i = (t.drop i).take (1 + s) := fun s => by
    rw [List.drop_take]
    congr 1
    omega
  obtain ⟨k, hk⟩ : ∃ k, (lw ws (t.drop i)).length = k + 1 := ⟨(lw ws (t.drop i)).length - 1, by omega⟩
  obtain ⟨m, hm⟩ : ∃ m, min 4 (t.length - i) = (k + 1) + m := ⟨min 4 (t.length - i) - (k + 1), by omega⟩
  unfold wfrom
  rw [hm, List.range_add, List.map_append, List.filter_append]
  have hz : (List.map (fun s => (t.take (i + (1 + s))).drop i) (List.map (fun x => k + 1 + x) (List.range m))).filter (fun x => decide (x ∈ names ws)) = [] := by
    refine List.filter_eq_nil_iff.mpr fun x hx hd => ?_
    rw [List.map_map] at hx
    obtain ⟨s, hs, e2⟩ := List.mem_map.mp hx
    have e2 : (t.take (i + (1 + (k + 1 + s)))).drop i = x := e2
    rw [hpart] at e2
    have hs := List.mem_range.mp hs
    obtain ⟨q, hq, e3⟩ := List.mem_map.mp (of_decide_eq_true hd)
    have hxl : x.length = 1 + (k + 1 + s) := by
      rw [← e2, List.length_take, List.length_drop]
      omega
    have hb : beg q.1 (t.drop i) = true := by
      unfold beg
      rw [e3, hxl, e2]
      exact beq_self_eq_true x
    have hmx := lw_max hq hb
    rw [e3, hxl, hk] at hmx
    omega
  rw [hz, List.append_nil, List.range_succ, List.map_append, List.filter_append]
  refine ⟨_, congrArg _ ?_⟩
  show List.filter _ [(t.take (i + (1 + k))).drop i] = _
  have e4 : (t.take (i + (1 + k))).drop i = lw ws (t.drop i) := by
    rw [hpart, show 1 + k = (lw ws (t.drop i)).length by omega]
    exact beg_eq (lw_beg ws (t.drop i))
  rw [e4, List.filter_cons, if_pos (decide_eq_true h2)]
  rfl
theorem cst_head {ws : WL} {w : Tx} (h : w ∈ names ws) : ((ws.filter fun p => decide (p.1 = w)).map (·.2))[0]? = some (cst ws w) := by
  have e : (ws.filter fun p => decide (p.1 = w))[0]? = ws.find? fun p => decide (p.1 = w) := by
    rw [← List.head?_eq_getElem?, List.head?_filter]
  rw [List.getElem?_map, e]
  unfold cst
  cases hf : ws.find? fun p => decide (p.1 = w) with
  | none =>
    obtain ⟨p, hp, e⟩ := List.mem_map.mp h
    have := List.find?_eq_none.mp hf p hp
    rw [decide_eq_true_eq] at this
    exact absurd e this
  | some p => rfl
theorem wfrom_len (ws : WL) (t : Tx) (i : Nat) : (wfrom ws t i).length ≤ 4 := by
  unfold wfrom
  refine Nat.le_trans (List.length_filter_le _ _) ?_
  rw [List.length_map, List.length_range]
  omega
end Gc
set_option maxRecDepth 100000
set_option maxHeartbeats 2000000
/-! What is used for every def: texts as lists of codes, defs called, what evaluates to what. -/
namespace Gc
open PySem PySem.Spec PyProof.Rows L2 Evl

/-! ### texts -/
def mk (t : Tx) : Str := ⟨t.toArray⟩
/-- the letters a to z -/
def alph : Tx := [97, 98, 99, 100, 101, 102, 103, 104, 105, 106, 107, 108, 109, 110, 111, 112, 113, 114, 115, 116, 117, 118, 119, 120, 121, 122]
abbrev vS (t : Tx) : V := .str (mk t)
theorem mk_cps (t : Tx) : (mk t).cps.toList = t := by unfold mk; simp
theorem mk_len (t : Tx) : (mk t).length = t.length := by unfold mk Str.length; simp
theorem mk_inj {a b : Tx} (h : mk a = mk b) : a = b := by rw [← mk_cps a, h, mk_cps]
theorem mk_app (a b : Tx) : mk a ++ mk b = mk (a ++ b) := by
  show Str.append (mk a) (mk b) = mk (a ++ b)
  unfold Str.append mk
  simp
theorem mk_of (z : Str) : z = mk z.cps.toList := by unfold mk; simp
theorem s_nil : Str.ofString "" = mk [] := by decide +kernel
theorem mk_one (c : Nat) : (⟨#[c]⟩ : Str) = mk [c] := rfl
theorem vS_eq (a b : Tx) : decide (vS a = vS b) = decide (a = b) := by
  by_cases h : a = b
  · rw [h, decide_eq_true rfl, decide_eq_true rfl]
  · rw [decide_eq_false h, decide_eq_false fun e => h (mk_inj (V.str.inj e))]
theorem cut_nat (t : Tx) (i j : Nat) : cutS (mk t) (some (i : Int)) (some (j : Int)) = mk ((t.take j).drop i) := by
  unfold cutS
  rw [mk_len, mk_cps, HT.sIx_nat, HT.sIx_nat]
  unfold mk
  congr 2
  rw [List.drop_take]
  by_cases hi : i ≤ t.length
  · rw [Nat.min_eq_left hi]
    by_cases hj : j ≤ t.length
    · rw [Nat.min_eq_left hj]
    · rw [Nat.min_eq_right (by omega), List.take_of_length_le (by rw [List.length_drop]; omega), List.take_of_length_le (by rw [List.length_drop]; omega)]
  · rw [List.drop_eq_nil_of_le (show t.length ≤ min i t.length by omega), List.drop_eq_nil_of_le (show t.length ≤ i by omega)]
    simp
theorem cut_to (t : Tx) (j : Nat) : cutS (mk t) none (some (j : Int)) = mk (t.take j) := by
  unfold cutS
  rw [mk_len, mk_cps, HT.sIx_none, HT.sIx_nat]
  unfold mk
  congr 1
  rw [List.drop_zero, Nat.sub_zero]
  by_cases hj : j ≤ t.length
  · rw [Nat.min_eq_left hj]
  · rw [Nat.min_eq_right (by omega), List.take_length, List.take_of_length_le (by omega)]
theorem cut_from (t : Tx) (i : Nat) : cutS (mk t) (some (i : Int)) none = mk (t.drop i) := by
  unfold cutS
  rw [mk_len, mk_cps, HT.sIx_none, HT.sIx_nat]
  unfold mk
  congr 1
  by_cases hi : i ≤ t.length
  · rw [Nat.min_eq_left hi, List.take_of_length_le (by rw [List.length_drop]; omega)]
  · rw [List.drop_eq_nil_of_le (show t.length ≤ min i t.length by omega), List.drop_eq_nil_of_le (show t.length ≤ i by omega)]
    simp
theorem join_empty (ts : List Tx) : Txt.join (mk []) (ts.map mk) = mk ts.flatten := by
  unfold Txt.join
  rw [StrLaws.glued_eq_join]
  induction ts with
  | nil => rfl
  | cons x r ih =>
    cases r with
    | nil =>
      show mk x = mk [x].flatten
      simp
    | cons y r =>
      show mk x ++ mk [] ++ Str.join (mk []) (mk y :: r.map mk) = _
      rw [show Str.join (mk []) (mk y :: r.map mk) = mk (y :: r).flatten from ih, mk_app, mk_app, List.append_nil, List.flatten_cons, List.flatten_cons, List.flatten_cons]
theorem small {n : Nat} (h : n ≤ 1000) : n ≤ sizeLine := Nat.le_trans h (by decide)
theorem small_lt {n : Nat} (h : n ≤ 1000) : n < sizeLine := Nat.lt_of_le_of_lt h (by decide)

/-! ### a def of the text, called by its name -/
structure Cal (P : Program) (w : World) (K : PySem.W.Frag) (mg : Str → Option Value) (base : Heap) (x : Str) (k : Nat) (ps : List Str) (sp : Sp) : Prop where
  ex : ∃ f fd, FnOk P w K mg base CX0 k f fd ps sp ∧ mg x = some (.ref f) ∧ PySem.W.keepIn K (.ref f) = true ∧ Binds K fd ps []
theorem pe_own {X : Cx} {x : Str} {k j : Nat} {ps : List Str} {sp : Sp} {e : Expr} {es : List Expr} {t : TA} {p pos : Pos} (c : Cal X.prog X.w X.K X.mg X.base x k ps sp) (hr : Room j X.A) (hk : k ≤ j) (hg : Gl X x)
    (ha : PA X (e :: es) t) (hdb : (x == ("__debug__" : Str)) = false := by decide) (he : starEach (e :: es) X.env = (false, eval e X.env) :: starEach es X.env := by rfl) (hpl : (backTo pos (starEach es X.env)).any (·.1) = false := by rfl) :
    PE X (.Call (.Name x p) (e :: es) [] pos) (tCall sp [] E0 t) := by
  obtain ⟨f, fd, F, hm, hkp, hb⟩ := c.ex
  exact pe_call F (hr.mono hk) hg hm hkp hb .nil pass0 ha hdb he hpl
/-- a def that the top has laid under its name -/
def Def (K : PySem.W.Frag) (mg : Str → Option Value) (x : Str) (qual : Str) (st : Stmt) : Prop := ∃ f fd, Fun K x qual st f fd ∧ mg x = some (.ref f)

/-! ### operators by their readings' names -/
abbrev rAddI : R2 := rI0 fun i j => .int (i + j)
abbrev rSubI : R2 := rI0 fun i j => .int (i - j)
abbrev rMulI : R2 := rI CMul fun i j => .int (i * j)
abbrev rModI : R2 := rI (fun _ j => 0 < j) fun i j => .int (i % j)
abbrev rDivI : R2 := rI CDivN fun i j => .int (i.fdiv j)
abbrev rPowI : R2 := rI CPow fun i j => .int (i ^ j.toNat)
abbrev rLtI : R2 := rI0 fun i j => .bl (decide (i < j))
abbrev rLeI : R2 := rI0 fun i j => .bl (decide (i ≤ j))
abbrev rGtI : R2 := rI0 fun i j => .bl (decide (j < i))
abbrev rGeI : R2 := rI0 fun i j => .bl (decide (j ≤ i))
def rAbsI : List V → Hp → VK → Prop := fun xs H Q => ∃ i, xs = [.int i] ∧ Q (.int (if i < 0 then -i else i)) H
def rIntI : List V → Hp → VK → Prop := fun xs H Q => (∃ i, xs = [.int i] ∧ Q (.int i) H) ∨ ∃ k, xs = [.bl k] ∧ Q (.int (if k then 1 else 0)) H

/-! ### promises -/
def spV (Pre : List V → Hp → V → Prop) : Sp := fun vs H Q _ => ∃ v, Pre vs H v ∧ ∀ H2, Ex H H2 → Q v H2
def spL (Pre : List V → Hp → List V → Prop) : Sp := fun vs H Q _ => ∃ xs, Pre vs H xs ∧ ∀ p H2, H p = none → Ex H H2 → H2 p = some (.lst xs) → Q (.ref p) H2
def spU (Pre : List V → Hp → List V → Prop) : Sp := fun vs H Q _ => ∃ xs, Pre vs H xs ∧ ∀ p H2, H p = none → Ex H H2 → H2 p = some (.tup xs) → Q (.ref p) H2
section
variable {K : PySem.W.Frag} {σ : L2.St} {H H' : Hp} {ta tb tc te tx : TE} {t u : TT} {x y z v : V} {r r' : R2} {E : XK}
theorem ev_spV {Pre : List V → Hp → V → Prop} {ar : TA} {vs : List V} (h : EvA ar σ H vs) (hp : ∀ H1, Ex H H1 → Pre vs H1 v) : Ev (tCall (spV Pre) [] E ar) σ H v :=
  ev_call h fun H1 e Q q E => by
    rw [List.append_nil]
    exact ⟨v, hp H1 e, q⟩
theorem el_spL {Pre : List V → Hp → List V → Prop} {ar : TA} {vs xs : List V} (h : EvA ar σ H vs) (hp : ∀ H1, Ex H H1 → Pre vs H1 xs) : EvL (tCall (spL Pre) [] E ar) σ H xs :=
  el_call h fun H1 e Q q E => by
    rw [List.append_nil]
    exact ⟨xs, hp H1 e, q⟩
theorem eu_spU {Pre : List V → Hp → List V → Prop} {ar : TA} {vs xs : List V} (h : EvA ar σ H vs) (hp : ∀ H1, Ex H H1 → Pre vs H1 xs) : EvU (tCall (spU Pre) [] E ar) σ H xs := fun H1 e Q q =>
  h H1 e _ fun H2 e2 => by
    show spU Pre (vs ++ []) H2 Q E
    rw [List.append_nil]
    exact ⟨xs, hp H2 (e.trans e2), fun p H3 hp e3 h3 => q p H3 (fresh_back e2 hp) (e2.trans e3) h3⟩
theorem EvU.mono {xs : List V} (e : Ex H H') (h : EvU te σ H xs) : EvU te σ H' xs := fun H1 a Q q => h H1 (e.trans a) Q q

/-! ### what evaluates to what, further -/
theorem ev_nil : Ev (tC (.str (Str.ofString ""))) σ H (vS []) := by
  rw [s_nil]
  exact ev_c
theorem ea_1 (h : Ev ta σ H x) : EvA (tCons ta tNil) σ H [x] := ea_cons h ea_nil
theorem ea_2 (h1 : Ev ta σ H x) (h2 : Ev tb σ H y) : EvA (tCons ta (tCons tb tNil)) σ H [x, y] := ea_cons h1 (ea_1 h2)
theorem ea_3 (h1 : Ev ta σ H x) (h2 : Ev tb σ H y) (h3 : Ev tc σ H z) : EvA (tCons ta (tCons tb (tCons tc tNil))) σ H [x, y, z] := ea_cons h1 (ea_2 h2 h3)
theorem ev_chain {b1 b2 : Bool} (ha : Ev ta σ H x) (hb : Ev tb σ H y) (h1 : RV r x y H (.bl b1)) (hc : b1 = true → Ev tc σ H z) (h2 : b1 = true → RV r' y z H (.bl b2)) : Ev (tChain r r' ta tb tc) σ H (.bl (b1 && b2)) := fun H1 e Q q =>
  ha H1 e _ fun H2 e2 => hb H2 (e.trans e2) _ fun H3 e3 => h1 H3 ((e.trans e2).trans e3) _ fun H4 e4 => ⟨b1, rfl, by
    cases b1 with
    | true =>
      show tc σ H4 fun w' H5 => r' y w' H5 Q
      exact hc rfl H4 (((e.trans e2).trans e3).trans e4) _ fun H5 e5 => h2 rfl H5 ((((e.trans e2).trans e3).trans e4).trans e5) Q fun H6 e6 => q H6 ((((e2.trans e3).trans e4).trans e5).trans e6)
    | false =>
      show Q (.bl false) H4
      exact q H4 ((e2.trans e3).trans e4)⟩
theorem ev_isi {S T : String} {b : Bool} (ha : Ev ta σ H x) (ty : ∀ H1, Ex H H1 → TyX K H1 x (.type S)) (hk : kitB S T = some b) : Ev (tCB (rIsi K) (tCons ta (tCons (tC (.ty T)) tNil))) σ H (.bl b) := fun H1 e Q q =>
  ha H1 e _ fun H2 e2 => ⟨x, .ty T, .type S, .type T, b, rfl, .ty T, ty H2 (e.trans e2), kit_ty hk, q H2 e2⟩
theorem ty_int {i : Int} : TyX K H (.int i) (.type "int") := .base (.int i)
theorem ty_str {i : Str} : TyX K H (.str i) (.type "str") := .base (.str i)
/-- a tuple that H tells -/
theorem ty_tup {a : Addr} {xs : List V} (h : SqT K H a xs) : TyX K H (.ref a) (.type "tuple") := by
  rcases h with (h | ⟨o, h⟩) | ⟨o, _, _, h, hc, _⟩
  · exact .base (.tup h)
  · exact .fTuple h
  · exact .kTuple h hc
def rLenStr : List V → Hp → VK → Prop := fun xs H Q => ∃ z : Str, xs = [.str z] ∧ z.length ≤ sizeLine ∧ Q (.int z.length) H
theorem ev_lenS {t : Tx} (ha : Ev ta σ H (vS t)) (hz : t.length ≤ 1000) : Ev (tCB rLenStr (tCons ta tNil)) σ H (.int (t.length : Int)) := fun H1 e Q q =>
  ha H1 e _ fun H2 e2 => ⟨mk t, rfl, by rw [mk_len]; exact small hz, by rw [mk_len]; exact q H2 e2⟩
theorem ev_lenT {p : Addr} {xs : List V} (ha : Ev ta σ H (.ref p)) (h : SqT K H p xs) : Ev (tCB (rLenS K) (tCons ta tNil)) σ H (.int (xs.length : Int)) := fun H1 e Q q =>
  ha H1 e _ fun H2 e2 => ⟨p, xs, rfl, Or.inr (ex_t (e.trans e2) h), q H2 e2⟩
def rMin2 : List V → Hp → VK → Prop := fun xs H Q => ∃ i j, xs = [.int i, .int j] ∧ Q (.int (if j < i then j else i)) H
theorem ev_min2 {i j : Int} (ha : Ev ta σ H (.int i)) (hb : Ev tb σ H (.int j)) : Ev (tCB rMin2 (tCons ta (tCons tb tNil))) σ H (.int (if j < i then j else i)) := fun H1 e Q q =>
  ha H1 e _ fun H2 e2 => hb H2 (e.trans e2) _ fun H3 e3 => ⟨i, j, rfl, q H3 (e2.trans e3)⟩
theorem ev_all {bs : List Bool} (ha : EvL ta σ H (bs.map V.bl)) : Ev (tCB (rAll K) (tCons ta tNil)) σ H (.bl (bs.all id)) := fun H1 e Q q =>
  ha H1 e _ fun p H2 _ e2 h2 => ⟨p, bs, rfl, sq_of h2, q H2 e2⟩
theorem ev_any {bs : List Bool} (ha : EvL ta σ H (bs.map V.bl)) : Ev (tCB (rAny K) (tCons ta tNil)) σ H (.bl (bs.any id)) := fun H1 e Q q =>
  ha H1 e _ fun p H2 _ e2 h2 => ⟨p, bs, rfl, sq_of h2, q H2 e2⟩
theorem ev_sum {ns : List Int} (ha : EvL ta σ H (ns.map V.int)) : Ev (tCB (rSum K) (tCons ta tNil)) σ H (.int ns.sum) := fun H1 e Q q =>
  ha H1 e _ fun p H2 _ e2 h2 => ⟨p, ns, rfl, sq_of h2, q H2 e2⟩
theorem ev_minL {ns : List Int} {p : Addr} (ha : Ev ta σ H (.ref p)) (h : SqL K H p (ns.map V.int)) (hn : 0 < ns.length) : Ev (tCB (rMin K) (tCons ta tNil)) σ H (.int (minL ns)) := fun H1 e Q q =>
  ha H1 e _ fun H2 e2 => ⟨p, ns, rfl, ex_l (e.trans e2) h, hn, fun m hm hl => by
    rw [← minL_is hm hl]
    exact q H2 e2⟩
def rTupOf (K : PySem.W.Frag) : List V → Hp → VK → Prop := fun xs H Q => ∃ p ys, xs = [.ref p] ∧ ((SqL K H p ys ∧ ∀ l, H l = none → Q (.ref l) (upd H l (.tup ys))) ∨ (SqT K H p ys ∧ Q (.ref p) H))
theorem eu_tupOf {xs : List V} (ha : EvL ta σ H xs) : EvU (tCB (rTupOf K) (tCons ta tNil)) σ H xs := fun H1 e Q q =>
  ha H1 e _ fun p H2 _ e2 h2 => ⟨p, xs, rfl, .inl ⟨sq_of h2, fun l hl => q l _ (fresh_back e2 hl) (e2.trans (Ex.new hl)) upd_same⟩⟩
theorem eu_tupOfL {xs : List V} {p : Addr} (ha : Ev ta σ H (.ref p)) (h : SqL K H p xs) : EvU (tCB (rTupOf K) (tCons ta tNil)) σ H xs := fun H1 e Q q =>
  ha H1 e _ fun H2 e2 => ⟨p, xs, rfl, .inl ⟨ex_l (e.trans e2) h, fun l hl => q l _ (fresh_back e2 hl) (e2.trans (Ex.new hl)) upd_same⟩⟩
/-- a subscript of a new tuple, a new list -/
theorem ev_ixU {xs : List V} {i : Int} (ha : EvU ta σ H xs) (hb : Ev tb σ H (.int i)) (h : atI xs i = some v) : Ev (tOp (rIxT K) ta tb) σ H v := fun H1 e Q q =>
  ha H1 e _ fun p H2 _ e2 hp => hb H2 (e.trans e2) _ fun H3 e3 => ⟨p, xs, i, v, rfl, rfl, st_of (e3 p _ hp), h, q H3 (e2.trans e3)⟩
theorem ev_ixN {xs : List V} {i : Int} (ha : EvL ta σ H xs) (hb : Ev tb σ H (.int i)) (h : atI xs i = some v) : Ev (tOp (rIxL K) ta tb) σ H v := fun H1 e Q q =>
  ha H1 e _ fun p H2 _ e2 hp => hb H2 (e.trans e2) _ fun H3 e3 => ⟨p, xs, i, v, rfl, rfl, sq_of (e3 p _ hp), h, q H3 (e2.trans e3)⟩
theorem ev_ixL {p : Addr} {xs : List V} {i : Int} (ha : Ev ta σ H (.ref p)) (hb : Ev tb σ H (.int i)) (hs : SqL K H p xs) (h : atI xs i = some v) : Ev (tOp (rIxL K) ta tb) σ H v := ev_op ha hb (rv_ixL hs h)
theorem ev_ixT {p : Addr} {xs : List V} {i : Int} (ha : Ev ta σ H (.ref p)) (hb : Ev tb σ H (.int i)) (hs : SqT K H p xs) (h : atI xs i = some v) : Ev (tOp (rIxT K) ta tb) σ H v := ev_op ha hb (rv_ixT hs h)
/-- texts -/
def rAddStr : R2 := fun x y H Q => ∃ i j : Str, x = .str i ∧ y = .str j ∧ i.length + j.length ≤ sizeLine ∧ Q (.str (i ++ j)) H
theorem ev_addS {a b : Tx} (ha : Ev ta σ H (vS a)) (hb : Ev tb σ H (vS b)) (hz : a.length + b.length ≤ 1000) : Ev (tOp rAddStr ta tb) σ H (vS (a ++ b)) :=
  ev_op ha hb fun H1 _ _ q => ⟨mk a, mk b, rfl, rfl, by rw [mk_len, mk_len]; exact small hz, by rw [mk_app]; exact q H1 (Ex.refl H1)⟩
theorem ev_addI {i j : Int} (ha : Ev ta σ H (.int i)) (hb : Ev tb σ H (.int j)) : Ev (tOp rAddI ta tb) σ H (.int (i + j)) := ev_op ha hb (rv_I0 (g := fun i j => .int (i + j)))
theorem ev_subI {i j : Int} (ha : Ev ta σ H (.int i)) (hb : Ev tb σ H (.int j)) : Ev (tOp rSubI ta tb) σ H (.int (i - j)) := ev_op ha hb (rv_I0 (g := fun i j => .int (i - j)))
theorem ev_gtI {i j : Int} (ha : Ev ta σ H (.int i)) (hb : Ev tb σ H (.int j)) : Ev (tOp rGtI ta tb) σ H (.bl (decide (j < i))) := ev_op ha hb (rv_I0 (g := fun i j => .bl (decide (j < i))))
theorem ev_ltI {i j : Int} (ha : Ev ta σ H (.int i)) (hb : Ev tb σ H (.int j)) : Ev (tOp rLtI ta tb) σ H (.bl (decide (i < j))) := ev_op ha hb (rv_I0 (g := fun i j => .bl (decide (i < j))))
theorem ev_leI {i j : Int} (ha : Ev ta σ H (.int i)) (hb : Ev tb σ H (.int j)) : Ev (tOp rLeI ta tb) σ H (.bl (decide (i ≤ j))) := ev_op ha hb (rv_I0 (g := fun i j => .bl (decide (i ≤ j))))
theorem ev_eqS {a b : Tx} (ha : Ev ta σ H (vS a)) (hb : Ev tb σ H (vS b)) : Ev (tOp rEq ta tb) σ H (.bl (decide (a = b))) := by
  rw [← vS_eq]
  exact ev_op ha hb (rv_eq rfl)
theorem ev_neS {a b : Tx} (ha : Ev ta σ H (vS a)) (hb : Ev tb σ H (vS b)) : Ev (tOp rNe ta tb) σ H (.bl (!decide (a = b))) := by
  rw [← vS_eq]
  exact ev_op ha hb (rv_ne rfl)
theorem ev_eqI {i j : Int} (ha : Ev ta σ H (.int i)) (hb : Ev tb σ H (.int j)) : Ev (tOp rEq ta tb) σ H (.bl (decide (i = j))) := by
  have h : decide (V.int i = V.int j) = decide (i = j) := by simp
  rw [← h]
  exact ev_op ha hb (rv_eq rfl)
theorem ev_neI {i j : Int} (ha : Ev ta σ H (.int i)) (hb : Ev tb σ H (.int j)) : Ev (tOp rNe ta tb) σ H (.bl (!decide (i = j))) := by
  have h : decide (V.int i = V.int j) = decide (i = j) := by simp
  rw [← h]
  exact ev_op ha hb (rv_ne rfl)
def rInSg : R2 := fun x y H Q => ∃ (c : Nat) (z : Str), x = .str ⟨#[c]⟩ ∧ y = .str z ∧ Q (.bl (decide (c ∈ z.cps.toList))) H
theorem ev_inSign {c : Nat} {t : Tx} (ha : Ev ta σ H (vS [c])) (hb : Ev tb σ H (vS t)) : Ev (tOp rInSg ta tb) σ H (.bl (decide (c ∈ t))) :=
  ev_op ha hb fun H1 _ _ q => ⟨c, mk t, rfl, rfl, by rw [mk_cps]; exact q H1 (Ex.refl H1)⟩
def rLtStr : R2 := fun x y H Q => ∃ i j : Str, x = .str i ∧ y = .str j ∧ Q (.bl (decide (i.cps.toList < j.cps.toList))) H
theorem ev_ltS {a b : Tx} (ha : Ev ta σ H (vS a)) (hb : Ev tb σ H (vS b)) : Ev (tOp rLtStr ta tb) σ H (.bl (decide (a < b))) :=
  ev_op ha hb fun H1 _ _ q => ⟨mk a, mk b, rfl, rfl, by rw [mk_cps, mk_cps]; exact q H1 (Ex.refl H1)⟩
theorem inV_map (a : Tx) (ts : List Tx) : inV (vS a) (ts.map vS) = decide (a ∈ ts) := by
  unfold inV
  induction ts with
  | nil => rfl
  | cons x r ih =>
    rw [List.map_cons, List.any_cons, ih]
    show ((mk x == mk a) || decide (a ∈ r)) = decide (a ∈ x :: r)
    by_cases h : a = x
    · rw [h]
      simp
    · have h2 : (mk x == mk a) = false := beq_eq_false_iff_ne.mpr fun e => h (mk_inj e).symm
      rw [h2]
      simp [h]
theorem flat_map (ts : List Tx) : (ts.map vS).all flatV = true := by
  rw [List.all_map]
  exact List.all_eq_true.mpr fun _ _ => rfl
theorem ev_inL {a : Tx} {p : Addr} {ts : List Tx} (ha : Ev ta σ H (vS a)) (hb : Ev tb σ H (.ref p)) (h : SqL K H p (ts.map vS)) : Ev (tOp (rIn K false) ta tb) σ H (.bl (decide (a ∈ ts))) := by
  rw [← inV_map]
  exact ev_op ha hb (rv_isL h rfl (flat_map ts))
theorem ev_niL {a : Tx} {p : Addr} {ts : List Tx} (ha : Ev ta σ H (vS a)) (hb : Ev tb σ H (.ref p)) (h : SqL K H p (ts.map vS)) : Ev (tOp (rIn K true) ta tb) σ H (.bl (!decide (a ∈ ts))) := by
  rw [← inV_map]
  exact ev_op ha hb (rv_niL h rfl (flat_map ts))
theorem ev_inN {a : Tx} {ts : List Tx} (ha : Ev ta σ H (vS a)) (hb : EvL tb σ H (ts.map vS)) : Ev (tOp (rIn K false) ta tb) σ H (.bl (decide (a ∈ ts))) := by
  rw [← inV_map]
  exact ev_opL ha hb fun p H1 h1 _ => rv_isL (sq_of h1) rfl (flat_map ts)
theorem eo_nat {n : Nat} (h : Ev te σ H (.int (n : Int))) : EvO (tPart te) σ H (some (n : Int)) := eo_some h
theorem ev_slS {tl th : TO} {a : Tx} {lo hi : Option Int} {b : Tx} (h : Ev te σ H (vS a)) (h1 : EvO tl σ H lo) (h2 : EvO th σ H hi) (hz : a.length ≤ 1000) (hb : cutS (mk a) lo hi = mk b) : Ev (L2.tSl rSlS te tl th) σ H (vS b) := fun H1 e Q q =>
  h H1 e _ fun H2 e2 => h1 H2 (e.trans e2) _ fun H3 e3 => h2 H3 ((e.trans e2).trans e3) _ fun H4 e4 => ⟨mk a, rfl, by rw [mk_len]; exact small hz, by rw [hb]; exact q H4 ((e2.trans e3).trans e4)⟩
def rJoin (K : PySem.W.Frag) : V → List V → Hp → VK → Prop := fun x xs H Q => ∃ (a : Str) (p : Addr) (ys : List Str), x = .str a ∧ xs = [.ref p] ∧ (SqL K H p (ys.map V.str) ∨ SqT K H p (ys.map V.str)) ∧
  (ys.map (·.length)).sum + ys.length * a.length ≤ 16777216 ∧ Q (.str (Txt.join a ys)) H
theorem join_sz (ts : List Tx) : ((ts.map mk).map (·.length)).sum = ts.flatten.length := by
  induction ts with
  | nil => rfl
  | cons x r ih =>
    rw [List.map_cons, List.map_cons, List.sum_cons, ih, List.flatten_cons, List.length_append, mk_len]
theorem map_vS (ts : List Tx) : (ts.map mk).map V.str = ts.map vS := by rw [List.map_map]; rfl
theorem ev_joinN {ts : List Tx} (h0 : Ev ta σ H (vS [])) (h : EvL te σ H (ts.map vS)) (hz : ts.flatten.length ≤ 1000) : Ev (tM1 (rJoin K) ta te) σ H (vS ts.flatten) := fun H1 e Q q =>
  h0 H1 e _ fun H2 e2 => ⟨⟨mk [], rfl⟩, h H2 (e.trans e2) _ fun p H3 _ e3 h3 => ⟨mk [], p, ts.map mk, rfl, rfl, .inl (by rw [map_vS]; exact sq_of h3), by
    rw [join_sz, mk_len]
    show _ + _ * 0 ≤ _
    omega, by
    rw [join_empty]
    exact q H3 (e2.trans e3)⟩⟩
theorem ev_joinL {p : Addr} {ts : List Tx} (h0 : Ev ta σ H (vS [])) (h : Ev te σ H (.ref p)) (hs : SqL K H p (ts.map vS)) (hz : ts.flatten.length ≤ 1000) : Ev (tM1 (rJoin K) ta te) σ H (vS ts.flatten) := fun H1 e Q q =>
  h0 H1 e _ fun H2 e2 => ⟨⟨mk [], rfl⟩, h H2 (e.trans e2) _ fun H3 e3 => ⟨mk [], p, ts.map mk, rfl, rfl, .inl (by rw [map_vS]; exact ex_l ((e.trans e2).trans e3) hs), by
    rw [join_sz, mk_len]
    show _ + _ * 0 ≤ _
    omega, by
    rw [join_empty]
    exact q H3 (e2.trans e3)⟩⟩
theorem ev_joinT {p : Addr} {ts : List Tx} (h0 : Ev ta σ H (vS [])) (h : Ev te σ H (.ref p)) (hs : SqT K H p (ts.map vS)) (hz : ts.flatten.length ≤ 1000) : Ev (tM1 (rJoin K) ta te) σ H (vS ts.flatten) := fun H1 e Q q =>
  h0 H1 e _ fun H2 e2 => ⟨⟨mk [], rfl⟩, h H2 (e.trans e2) _ fun H3 e3 => ⟨mk [], p, ts.map mk, rfl, rfl, .inr (by rw [map_vS]; exact ex_t ((e.trans e2).trans e3) hs), by
    rw [join_sz, mk_len]
    show _ + _ * 0 ≤ _
    omega, by
    rw [join_empty]
    exact q H3 (e2.trans e3)⟩⟩

/-! ### comprehensions -/
/-- the walk of J is n turns while G stands; the turn i gives sg i as slots and leaves the heap -/
theorem el_lc {wi : TI} {g : TG} {tt : TT} {vs : List Nat} {n : Nat} {J : It} {G : Hp → Prop} {Y : Nat → Hp → V → Hp → Prop} (w : Walk J n G Y) (hn : n ≤ 50000) (f : Nat → Bool) (v : Nat → V) (sg : Nat → L2.St)
    (hwi : ∀ H1, Ex H H1 → ∀ R : It → Hp → Prop, (∀ H2, Ex H1 H2 → R J H2) → wi σ H1 R) (hG : ∀ H1, Ex H H1 → G H1)
    (hg : ∀ i x H1 H2, Ex H H1 → i < n → Y i H1 x H2 → H2 = H1 ∧ ∀ Q : L2.St → Hp → Prop, Q (sg i) H1 → g x (wipe σ vs) H1 Q) (hw : ∀ i, i < n → wipe (sg i) vs = wipe σ vs)
    (ht : ∀ i, i < n → EvT tt (sg i) H (f i)) (he : ∀ i, i < n → f i = true → Ev te (sg i) H (v i)) : EvL (tLc wi g tt te vs) σ H (given n f v) := fun H0 e Q q =>
  hwi H0 e _ fun H1 e1 Dl hD =>
    lc_it w (Cw H1 f v Dl) ⟨hD, Ex.new hD, upd_same⟩ (fun i H' _ p => hG H' ((e.trans e1).trans p.2.1)) (fun i x H' H2 hi p y => by
      obtain ⟨rfl, k⟩ := hg i x H' H2 ((e.trans e1).trans p.2.1) hi y
      exact k _ ⟨hw i hi, cw_turn p (by omega) ((ht i hi).mono (e.trans e1)) fun hf => (he i hi hf).mono (e.trans e1)⟩)
      (fun H' p => q Dl H' (fresh_back e1 p.1) (e1.trans p.2.1) p.2.2)
theorem given_list {α : Type} (l : List α) (F : α → Bool) (G : α → V) : given l.length (fun i => (l[i]?.map F).getD false) (fun i => (l[i]?.map G).getD .non) = (l.filter F).map G := by
  have main : ∀ n, n ≤ l.length → given n (fun i => (l[i]?.map F).getD false) (fun i => (l[i]?.map G).getD .non) = ((l.take n).filter F).map G := by
    intro n
    induction n with
    | zero => intro _; rfl
    | succ n ih =>
      intro hn
      have hlt : n < l.length := by omega
      have e : l[n]? = some l[n] := List.getElem?_eq_getElem hlt
      rw [List.take_add_one, e, List.filter_append, List.map_append, ← ih (by omega)]
      cases hf : F l[n] with
      | true =>
        rw [given_yes (by rw [e]; exact hf)]
        show _ ++ [(l[n]?.map G).getD .non] = _
        rw [e]
        show _ = _ ++ List.map G (List.filter F [l[n]])
        rw [List.filter_cons, hf]
        rfl
      | false =>
        rw [given_no (by rw [e]; exact hf)]
        show _ = _ ++ List.map G (List.filter F [l[n]])
        rw [List.filter_cons, hf]
        exact (List.append_nil _).symm
  have h := main l.length (Nat.le_refl _)
  rw [List.take_length] at h
  exact h
/-- .. told over a list of what the turns are about -/
theorem el_lcA {α : Type} {wi : TI} {g : TG} {tt : TT} {vs : List Nat} {J : It} {G : Hp → Prop} {Y : Nat → Hp → V → Hp → Prop} (l : List α) (w : Walk J l.length G Y) (hn : l.length ≤ 50000) (F : α → Bool) (V' : α → V) (sg : Nat → L2.St)
    (hwi : ∀ H1, Ex H H1 → ∀ R : It → Hp → Prop, (∀ H2, Ex H1 H2 → R J H2) → wi σ H1 R) (hG : ∀ H1, Ex H H1 → G H1)
    (hg : ∀ i x H1 H2, Ex H H1 → i < l.length → Y i H1 x H2 → H2 = H1 ∧ ∀ Q : L2.St → Hp → Prop, Q (sg i) H1 → g x (wipe σ vs) H1 Q) (hw : ∀ i, i < l.length → wipe (sg i) vs = wipe σ vs)
    (ht : ∀ i a, l[i]? = some a → EvT tt (sg i) H (F a)) (he : ∀ i a, l[i]? = some a → F a = true → Ev te (sg i) H (V' a)) : EvL (tLc wi g tt te vs) σ H ((l.filter F).map V') := by
  rw [← given_list]
  refine el_lc w hn _ _ sg hwi hG hg hw (fun i hi => ?_) fun i hi hf => ?_
  · have e : l[i]? = some l[i] := List.getElem?_eq_getElem hi
    show EvT tt (sg i) H ((l[i]?.map F).getD false)
    rw [e]
    exact ht i _ e
  · have e : l[i]? = some l[i] := List.getElem?_eq_getElem hi
    show Ev te (sg i) H ((l[i]?.map V').getD .non)
    rw [e]
    refine he i _ e ?_
    have hf : (l[i]?.map F).getD false = true := hf
    rw [e] at hf
    exact hf
theorem et_yes : EvT tYes σ H true := fun H1 _ _ q => q H1 (Ex.refl H1)
theorem filter_yes {α : Type} (l : List α) : l.filter (fun _ => true) = l := List.filter_eq_self.mpr fun _ _ => rfl
/-- over a text, sign by sign -/
theorem el_lcS {ts : TE} {tt : TT} {j : Nat} {vs : List Nat} {a : Tx} (F : Nat → Bool) (V' : Nat → V) (h : Ev ts σ H (vS a)) (hz : a.length ≤ 1000) (hw : ∀ x, wipe ((wipe σ vs).set j (some x)) vs = wipe σ vs)
    (ht : ∀ c, c ∈ a → EvT tt ((wipe σ vs).set j (some (vS [c]))) H (F c)) (he : ∀ c, c ∈ a → F c = true → Ev te ((wipe σ vs).set j (some (vS [c]))) H (V' c)) : EvL (tLc (iStr ts) (gName j) tt te vs) σ H ((a.filter F).map V') := by
  have hsz : (mk a).cps.size = a.length := mk_len a
  have w := walk_str (z := mk a)
  rw [hsz] at w
  refine el_lcA a w (by omega) F V' (fun i => (wipe σ vs).set j (some (vS [(a[i]?).getD 0]))) (fun H1 e1 R k => h H1 e1 _ fun H2 e2 => ⟨mk a, rfl, k H2 e2⟩) (fun _ _ => trivial)
    (fun i x H1 H2 e1 hi y => ?_) (fun i _ => hw _) (fun i c hc => ?_) fun i c hc hf => ?_
  · obtain ⟨rfl, c, hc, rfl⟩ := y
    refine ⟨rfl, fun Q q => ?_⟩
    have e : a[i]? = some c := by
      rw [← hc]
      unfold mk
      simp
    have q : Q ((wipe σ vs).set j (some (vS [(a[i]?).getD 0]))) H2 := q
    rw [e] at q
    exact q
  · show EvT tt ((wipe σ vs).set j (some (vS [(a[i]?).getD 0]))) H (F c)
    rw [hc]
    exact ht c (List.mem_of_getElem? hc)
  · show Ev te ((wipe σ vs).set j (some (vS [(a[i]?).getD 0]))) H (V' c)
    rw [hc]
    exact he c (List.mem_of_getElem? hc) hf
/-- over a list, a tuple that stands: the items by a list that tells them -/
theorem el_lcL {α : Type} {tl : TE} {tt : TT} {j : Nat} {vs : List Nat} {p : Addr} (l : List α) (it : α → V) (F : α → Bool) (V' : α → V) (h : Ev tl σ H (.ref p)) (hs : SqL K H p (l.map it)) (hz : l.length ≤ 1000) (hw : ∀ x, wipe ((wipe σ vs).set j (some x)) vs = wipe σ vs)
    (ht : ∀ a, a ∈ l → EvT tt ((wipe σ vs).set j (some (it a))) H (F a)) (he : ∀ a, a ∈ l → F a = true → Ev te ((wipe σ vs).set j (some (it a))) H (V' a)) : EvL (tLc (iList K tl) (gName j) tt te vs) σ H ((l.filter F).map V') := by
  have w := walk_list (K := K) (a := p) (xs := l.map it)
  rw [List.length_map] at w
  refine el_lcA l w (by omega) F V' (fun i => (wipe σ vs).set j (some ((l[i]?.map it).getD .non))) (fun H1 e1 R k => h H1 e1 _ fun H2 e2 => ⟨p, rfl, ⟨_, ex_l (e1.trans e2) hs⟩, k H2 e2⟩) (fun H1 e1 => ex_l e1 hs)
    (fun i x H1 H2 e1 hi y => ?_) (fun i _ => hw _) (fun i c hc => ?_) fun i c hc hf => ?_
  · obtain ⟨rfl, hx⟩ := y
    refine ⟨rfl, fun Q q => ?_⟩
    have e : l[i]?.map it = some x := by rw [← hx, List.getElem?_map]
    have q : Q ((wipe σ vs).set j (some ((l[i]?.map it).getD .non))) H2 := q
    rw [e] at q
    exact q
  · show EvT tt ((wipe σ vs).set j (some ((l[i]?.map it).getD .non))) H (F c)
    rw [hc]
    exact ht c (List.mem_of_getElem? hc)
  · show Ev te ((wipe σ vs).set j (some ((l[i]?.map it).getD .non))) H (V' c)
    rw [hc]
    exact he c (List.mem_of_getElem? hc) hf
theorem el_lcT {α : Type} {tl : TE} {tt : TT} {j : Nat} {vs : List Nat} {p : Addr} (l : List α) (it : α → V) (F : α → Bool) (V' : α → V) (h : Ev tl σ H (.ref p)) (hs : SqT K H p (l.map it)) (hz : l.length ≤ 1000) (hw : ∀ x, wipe ((wipe σ vs).set j (some x)) vs = wipe σ vs)
    (ht : ∀ a, a ∈ l → EvT tt ((wipe σ vs).set j (some (it a))) H (F a)) (he : ∀ a, a ∈ l → F a = true → Ev te ((wipe σ vs).set j (some (it a))) H (V' a)) : EvL (tLc (iTup K tl) (gName j) tt te vs) σ H ((l.filter F).map V') := by
  have w := walk_tup (K := K) (a := p) (xs := l.map it)
  rw [List.length_map] at w
  refine el_lcA l w (by omega) F V' (fun i => (wipe σ vs).set j (some ((l[i]?.map it).getD .non))) (fun H1 e1 R k => h H1 e1 _ fun H2 e2 => ⟨p, rfl, ⟨_, ex_t (e1.trans e2) hs⟩, k H2 e2⟩) (fun H1 e1 => ex_t e1 hs)
    (fun i x H1 H2 e1 hi y => ?_) (fun i _ => hw _) (fun i c hc => ?_) fun i c hc hf => ?_
  · obtain ⟨rfl, hx⟩ := y
    refine ⟨rfl, fun Q q => ?_⟩
    have e : l[i]?.map it = some x := by rw [← hx, List.getElem?_map]
    have q : Q ((wipe σ vs).set j (some ((l[i]?.map it).getD .non))) H2 := q
    rw [e] at q
    exact q
  · show EvT tt ((wipe σ vs).set j (some ((l[i]?.map it).getD .non))) H (F c)
    rw [hc]
    exact ht c (List.mem_of_getElem? hc)
  · show Ev te ((wipe σ vs).set j (some ((l[i]?.map it).getD .non))) H (V' c)
    rw [hc]
    exact he c (List.mem_of_getElem? hc) hf
/-- over range(n), range(a, b) -/
theorem el_lcR {ar : TA} {tt : TT} {j : Nat} {vs : List Nat} {n : Nat} (F : Nat → Bool) (V' : Nat → V) (h : EvA ar σ H [.int (n : Int)]) (hn : n ≤ 1000) (hw : ∀ x, wipe ((wipe σ vs).set j (some x)) vs = wipe σ vs)
    (ht : ∀ i, i < n → EvT tt ((wipe σ vs).set j (some (.int (i : Int)))) H (F i)) (he : ∀ i, i < n → F i = true → Ev te ((wipe σ vs).set j (some (.int (i : Int)))) H (V' i)) :
    EvL (tLc (iRng1 ar) (gName j) tt te vs) σ H (((List.range n).filter F).map V') := by
  have w := walk_range (lo := 0) (n := n)
  have el : (List.range n).length = n := List.length_range
  rw [← el] at w
  have er : ∀ i a, (List.range n)[i]? = some a → a = i ∧ i < n := fun i a hi => by
    obtain ⟨h1, h2⟩ := List.getElem?_eq_some_iff.mp hi
    rw [List.getElem_range] at h2
    rw [List.length_range] at h1
    exact ⟨h2.symm, h1⟩
  refine el_lcA (List.range n) w (by omega) F V' (fun i => (wipe σ vs).set j (some (.int (i : Int)))) (fun H1 e1 R k => h H1 e1 _ fun H2 e2 => ⟨(n : Int), rfl, by omega, by omega, ?_⟩) (fun _ _ => trivial)
    (fun i x H1 H2 e1 hi y => ?_) (fun i _ => hw _) (fun i c hc => ?_) fun i c hc hf => ?_
  · have k2 := k H2 e2
    rw [el] at k2
    exact k2
  · obtain ⟨rfl, rfl⟩ := y
    refine ⟨rfl, fun Q q => ?_⟩
    show Q ((wipe σ vs).set j (some (.int ((0 : Int) + (i : Int))))) H2
    rw [Int.zero_add]
    exact q
  · obtain ⟨rfl, hi⟩ := er i c hc
    exact ht c hi
  · obtain ⟨rfl, hi⟩ := er i c hc
    exact he c hi hf
theorem el_lcR2 {ar : TA} {tt : TT} {j : Nat} {vs : List Nat} {lo n : Nat} (F : Nat → Bool) (V' : Nat → V) (h : EvA ar σ H [.int (lo : Int), .int ((lo + n : Nat) : Int)]) (hn : lo + n ≤ 1000) (hw : ∀ x, wipe ((wipe σ vs).set j (some x)) vs = wipe σ vs)
    (ht : ∀ i, i < n → EvT tt ((wipe σ vs).set j (some (.int ((lo + i : Nat) : Int)))) H (F i)) (he : ∀ i, i < n → F i = true → Ev te ((wipe σ vs).set j (some (.int ((lo + i : Nat) : Int)))) H (V' i)) :
    EvL (tLc (iRng2 ar) (gName j) tt te vs) σ H (((List.range n).filter F).map V') := by
  have w := walk_range (lo := (lo : Int)) (n := n)
  have el : (List.range n).length = n := List.length_range
  rw [← el] at w
  have er : ∀ i a, (List.range n)[i]? = some a → a = i ∧ i < n := fun i a hi => by
    obtain ⟨h1, h2⟩ := List.getElem?_eq_some_iff.mp hi
    rw [List.getElem_range] at h2
    rw [List.length_range] at h1
    exact ⟨h2.symm, h1⟩
  refine el_lcA (List.range n) w (by omega) F V' (fun i => (wipe σ vs).set j (some (.int ((lo + i : Nat) : Int)))) (fun H1 e1 R k => h H1 e1 _ fun H2 e2 => ⟨(lo : Int), ((lo + n : Nat) : Int), rfl, ⟨by omega, by omega, by omega, by omega⟩, ?_⟩) (fun _ _ => trivial)
    (fun i x H1 H2 e1 hi y => ?_) (fun i _ => hw _) (fun i c hc => ?_) fun i c hc hf => ?_
  · have k2 := k H2 e2
    rw [el] at k2
    have e3 : (((lo + n : Nat) : Int) - (lo : Int)).toNat = n := by omega
    rw [e3]
    exact k2
  · obtain ⟨rfl, rfl⟩ := y
    refine ⟨rfl, fun Q q => ?_⟩
    show Q ((wipe σ vs).set j (some (.int ((lo : Int) + (i : Int))))) H2
    rw [show (lo : Int) + (i : Int) = ((lo + i : Nat) : Int) by omega]
    exact q
  · obtain ⟨rfl, hi⟩ := er i c hc
    exact ht c hi
  · obtain ⟨rfl, hi⟩ := er i c hc
    exact he c hi hf

/-! ### a word list in the heap -/
/-- the pairs at ts -/
def Prs (K : PySem.W.Frag) (H : Hp) (ts : List Addr) (ws : WL) : Prop := ts.length = ws.length ∧ ∀ (i : Nat) (t : Addr) (p : Tx × Int), ts[i]? = some t → ws[i]? = some p → SqT K H t [vS p.1, .int p.2]
def WA (K : PySem.W.Frag) (H : Hp) (a : Addr) (ws : WL) : Prop := ∃ ts : List Addr, SqT K H a (ts.map V.ref) ∧ Prs K H ts ws
theorem Prs.mono {ts : List Addr} {ws : WL} (e : Ex H H') (h : Prs K H ts ws) : Prs K H' ts ws := ⟨h.1, fun i t p h1 h2 => ex_t e (h.2 i t p h1 h2)⟩
theorem WA.mono {a : Addr} {ws : WL} (e : Ex H H') (h : WA K H a ws) : WA K H' a ws := by
  obtain ⟨ts, h1, h2⟩ := h
  exact ⟨ts, ex_t e h1, h2.mono e⟩
/-- a comprehension over a word list: for word, cost in words -/
theorem el_lcW {tl : TE} {tt : TT} {i1 i2 : Nat} {vs : List Nat} {a : Addr} {ws : WL} (F : Tx × Int → Bool) (V' : Tx × Int → V) (h : Ev tl σ H (.ref a)) (hs : WA K H a ws) (hz : ws.length ≤ 1000) (hw : ∀ x y, wipe (((wipe σ vs).set i1 (some x)).set i2 (some y)) vs = wipe σ vs)
    (ht : ∀ p, p ∈ ws → EvT tt (((wipe σ vs).set i1 (some (vS p.1))).set i2 (some (.int p.2))) H (F p)) (he : ∀ p, p ∈ ws → F p = true → Ev te (((wipe σ vs).set i1 (some (vS p.1))).set i2 (some (.int p.2))) H (V' p)) :
    EvL (tLc (iTup K tl) (gTup K 2 (gCons (gName i1) (gCons (gName i2) gNil))) tt te vs) σ H ((ws.filter F).map V') := by
  obtain ⟨ts, h1, h2, h3⟩ := hs
  have w := walk_tup (K := K) (a := a) (xs := ts.map V.ref)
  rw [List.length_map, h2] at w
  refine el_lcA ws w (by omega) F V' (fun i => ((wipe σ vs).set i1 (some ((ws[i]?.map fun p => vS p.1).getD .non))).set i2 (some ((ws[i]?.map fun p => V.int p.2).getD .non)))
    (fun H1 e1 R k => h H1 e1 _ fun H2 e2 => ⟨a, rfl, ⟨_, ex_t (e1.trans e2) h1⟩, k H2 e2⟩) (fun H1 e1 => ex_t e1 h1)
    (fun i x H1 H2 e1 hi y => ?_) (fun i _ => hw _ _) (fun i c hc => ?_) fun i c hc hf => ?_
  · obtain ⟨rfl, hx⟩ := y
    refine ⟨rfl, fun Q q => ?_⟩
    rw [List.getElem?_map] at hx
    obtain ⟨t, ht, rfl⟩ := Option.map_eq_some_iff.mp hx
    have e : ws[i]? = some ws[i] := List.getElem?_eq_getElem hi
    have q : Q (((wipe σ vs).set i1 (some ((ws[i]?.map fun p => vS p.1).getD .non))).set i2 (some ((ws[i]?.map fun p => V.int p.2).getD .non))) H2 := q
    rw [e] at q
    exact ⟨t, _, rfl, ex_t e1 (h3 i t _ ht e), rfl, _, _, rfl, _, _, rfl, rfl, q⟩
  · show EvT tt (((wipe σ vs).set i1 (some ((ws[i]?.map fun p => vS p.1).getD .non))).set i2 (some ((ws[i]?.map fun p => V.int p.2).getD .non))) H (F c)
    rw [hc]
    exact ht c (List.mem_of_getElem? hc)
  · show Ev te (((wipe σ vs).set i1 (some ((ws[i]?.map fun p => vS p.1).getD .non))).set i2 (some ((ws[i]?.map fun p => V.int p.2).getD .non))) H (V' c)
    rw [hc]
    exact he c (List.mem_of_getElem? hc) hf
/-- .. for entry in words -/
theorem el_lcE {tl : TE} {tt : TT} {j : Nat} {vs : List Nat} {a : Addr} {ws : WL} (F : Tx × Int → Bool) (V' : Tx × Int → V) (h : Ev tl σ H (.ref a)) (hs : WA K H a ws) (hz : ws.length ≤ 1000) (hw : ∀ x, wipe ((wipe σ vs).set j (some x)) vs = wipe σ vs)
    (ht : ∀ p t, p ∈ ws → SqT K H t [vS p.1, .int p.2] → EvT tt ((wipe σ vs).set j (some (.ref t))) H (F p)) (he : ∀ p t, p ∈ ws → SqT K H t [vS p.1, .int p.2] → F p = true → Ev te ((wipe σ vs).set j (some (.ref t))) H (V' p)) :
    EvL (tLc (iTup K tl) (gName j) tt te vs) σ H ((ws.filter F).map V') := by
  obtain ⟨ts, h1, h2, h3⟩ := hs
  have w := walk_tup (K := K) (a := a) (xs := ts.map V.ref)
  rw [List.length_map, h2] at w
  have at_ : ∀ i c, ws[i]? = some c → ∃ t, ts[i]? = some t := fun i c hc => by
    have hi : i < ts.length := by
      rw [h2]
      exact (List.getElem?_eq_some_iff.mp hc).1
    exact ⟨ts[i], List.getElem?_eq_getElem hi⟩
  refine el_lcA ws w (by omega) F V' (fun i => (wipe σ vs).set j (some ((ts[i]?.map V.ref).getD .non)))
    (fun H1 e1 R k => h H1 e1 _ fun H2 e2 => ⟨a, rfl, ⟨_, ex_t (e1.trans e2) h1⟩, k H2 e2⟩) (fun H1 e1 => ex_t e1 h1)
    (fun i x H1 H2 e1 hi y => ?_) (fun i _ => hw _) (fun i c hc => ?_) fun i c hc hf => ?_
  · obtain ⟨rfl, hx⟩ := y
    refine ⟨rfl, fun Q q => ?_⟩
    rw [List.getElem?_map] at hx
    have q : Q ((wipe σ vs).set j (some ((ts[i]?.map V.ref).getD .non))) H2 := q
    rw [hx] at q
    exact q
  · obtain ⟨t, et⟩ := at_ i c hc
    show EvT tt ((wipe σ vs).set j (some ((ts[i]?.map V.ref).getD .non))) H (F c)
    rw [et]
    exact ht c t (List.mem_of_getElem? hc) (h3 i t c et hc)
  · obtain ⟨t, et⟩ := at_ i c hc
    show Ev te ((wipe σ vs).set j (some ((ts[i]?.map V.ref).getD .non))) H (V' c)
    rw [et]
    exact he c t (List.mem_of_getElem? hc) (h3 i t c et hc) hf
/-! ### the same without a test; folds over what was made -/
theorem el_is {xs ys : List V} (h : EvL te σ H xs) (e : xs = ys) : EvL te σ H ys := e ▸ h
theorem el_lcSY {ts : TE} {j : Nat} {vs : List Nat} {a : Tx} (V' : Nat → V) (h : Ev ts σ H (vS a)) (hz : a.length ≤ 1000) (hw : ∀ x, wipe ((wipe σ vs).set j (some x)) vs = wipe σ vs)
    (he : ∀ c, c ∈ a → Ev te ((wipe σ vs).set j (some (vS [c]))) H (V' c)) : EvL (tLc (iStr ts) (gName j) tYes te vs) σ H (a.map V') := by
  have e := el_lcS (fun _ => true) V' h hz hw (fun _ _ => et_yes) fun c hc _ => he c hc
  rw [filter_yes] at e
  exact e
theorem el_lcLY {α : Type} {tl : TE} {j : Nat} {vs : List Nat} {p : Addr} (l : List α) (it : α → V) (V' : α → V) (h : Ev tl σ H (.ref p)) (hs : SqL K H p (l.map it)) (hz : l.length ≤ 1000) (hw : ∀ x, wipe ((wipe σ vs).set j (some x)) vs = wipe σ vs)
    (he : ∀ a, a ∈ l → Ev te ((wipe σ vs).set j (some (it a))) H (V' a)) : EvL (tLc (iList K tl) (gName j) tYes te vs) σ H (l.map V') := by
  have e := el_lcL l it (fun _ => true) V' h hs hz hw (fun _ _ => et_yes) fun c hc _ => he c hc
  rw [filter_yes] at e
  exact e
theorem el_lcTY {α : Type} {tl : TE} {j : Nat} {vs : List Nat} {p : Addr} (l : List α) (it : α → V) (V' : α → V) (h : Ev tl σ H (.ref p)) (hs : SqT K H p (l.map it)) (hz : l.length ≤ 1000) (hw : ∀ x, wipe ((wipe σ vs).set j (some x)) vs = wipe σ vs)
    (he : ∀ a, a ∈ l → Ev te ((wipe σ vs).set j (some (it a))) H (V' a)) : EvL (tLc (iTup K tl) (gName j) tYes te vs) σ H (l.map V') := by
  have e := el_lcT l it (fun _ => true) V' h hs hz hw (fun _ _ => et_yes) fun c hc _ => he c hc
  rw [filter_yes] at e
  exact e
/-- .. over a tuple that is made for it -/
theorem el_lcTUY {α : Type} {tl : TE} {j : Nat} {vs : List Nat} (l : List α) (it : α → V) (V' : α → V) (h : EvU tl σ H (l.map it)) (hz : l.length ≤ 1000) (hw : ∀ x, wipe ((wipe σ vs).set j (some x)) vs = wipe σ vs)
    (he : ∀ a, a ∈ l → Ev te ((wipe σ vs).set j (some (it a))) H (V' a)) : EvL (tLc (iTup K tl) (gName j) tYes te vs) σ H (l.map V') := fun H1 e Q q =>
  h H1 e _ fun p H2 hp e2 h2 => by
    have e3 := el_lcTY (K := K) (σ := σ) (H := H2) (te := te) (tl := fun _ H Q => Q (.ref p) H) l it V' (fun H1 _ Q q => q H1 (Ex.refl H1)) (st_of h2) hz hw fun a ha => (he a ha).mono (e.trans e2)
    obtain ⟨a, ea, ⟨xs, hx⟩, hR⟩ := e3 H2 (Ex.refl H2) Q fun q' H3 hq' e3 h3 => q q' H3 (fresh_back e2 hq') (e2.trans e3) h3
    exact ⟨a, ea, ⟨xs, hx⟩, hR⟩
theorem el_lcRY {ar : TA} {j : Nat} {vs : List Nat} {n : Nat} (V' : Nat → V) (h : EvA ar σ H [.int (n : Int)]) (hn : n ≤ 1000) (hw : ∀ x, wipe ((wipe σ vs).set j (some x)) vs = wipe σ vs)
    (he : ∀ i, i < n → Ev te ((wipe σ vs).set j (some (.int (i : Int)))) H (V' i)) : EvL (tLc (iRng1 ar) (gName j) tYes te vs) σ H ((List.range n).map V') := by
  have e := el_lcR (fun _ => true) V' h hn hw (fun _ _ => et_yes) fun c hc _ => he c hc
  rw [filter_yes] at e
  exact e
theorem el_lcR2Y {ar : TA} {j : Nat} {vs : List Nat} {lo n : Nat} (V' : Nat → V) (h : EvA ar σ H [.int (lo : Int), .int ((lo + n : Nat) : Int)]) (hn : lo + n ≤ 1000) (hw : ∀ x, wipe ((wipe σ vs).set j (some x)) vs = wipe σ vs)
    (he : ∀ i, i < n → Ev te ((wipe σ vs).set j (some (.int ((lo + i : Nat) : Int)))) H (V' i)) : EvL (tLc (iRng2 ar) (gName j) tYes te vs) σ H ((List.range n).map V') := by
  have e := el_lcR2 (fun _ => true) V' h hn hw (fun _ _ => et_yes) fun c hc _ => he c hc
  rw [filter_yes] at e
  exact e
theorem el_lcWY {tl : TE} {i1 i2 : Nat} {vs : List Nat} {a : Addr} {ws : WL} (V' : Tx × Int → V) (h : Ev tl σ H (.ref a)) (hs : WA K H a ws) (hz : ws.length ≤ 1000) (hw : ∀ x y, wipe (((wipe σ vs).set i1 (some x)).set i2 (some y)) vs = wipe σ vs)
    (he : ∀ p, p ∈ ws → Ev te (((wipe σ vs).set i1 (some (vS p.1))).set i2 (some (.int p.2))) H (V' p)) : EvL (tLc (iTup K tl) (gTup K 2 (gCons (gName i1) (gCons (gName i2) gNil))) tYes te vs) σ H (ws.map V') := by
  have e := el_lcW (fun _ => true) V' h hs hz hw (fun _ _ => et_yes) fun c hc _ => he c hc
  rw [filter_yes] at e
  exact e
theorem el_lcEY {tl : TE} {j : Nat} {vs : List Nat} {a : Addr} {ws : WL} (V' : Tx × Int → V) (h : Ev tl σ H (.ref a)) (hs : WA K H a ws) (hz : ws.length ≤ 1000) (hw : ∀ x, wipe ((wipe σ vs).set j (some x)) vs = wipe σ vs)
    (he : ∀ p t, p ∈ ws → SqT K H t [vS p.1, .int p.2] → Ev te ((wipe σ vs).set j (some (.ref t))) H (V' p)) : EvL (tLc (iTup K tl) (gName j) tYes te vs) σ H (ws.map V') := by
  have e := el_lcE (fun _ => true) V' h hs hz hw (fun _ _ _ _ => et_yes) fun c t hc ht _ => he c t hc ht
  rw [filter_yes] at e
  exact e
theorem ev_allY {α : Type} {l : List α} {f : α → Bool} (ha : EvL ta σ H (l.map fun x => .bl (f x))) (hf : ∀ x ∈ l, f x = true) : Ev (tCB (rAll K) (tCons ta tNil)) σ H (.bl true) := by
  have h := ev_all (K := K) (bs := l.map f) (el_is ha (by rw [List.map_map]; rfl))
  rw [List.all_map, show l.all (id ∘ f) = true from List.all_eq_true.mpr hf] at h
  exact h
theorem ev_anyM {α : Type} {l : List α} {f : α → Bool} (ha : EvL ta σ H (l.map fun x => .bl (f x))) : Ev (tCB (rAny K) (tCons ta tNil)) σ H (.bl (l.any f)) := by
  have h := ev_any (K := K) (bs := l.map f) (el_is ha (by rw [List.map_map]; rfl))
  rw [List.any_map, show id ∘ f = f from rfl] at h
  exact h
theorem ev_sumM {α : Type} {l : List α} {f : α → Int} (ha : EvL ta σ H (l.map fun x => .int (f x))) : Ev (tCB (rSum K) (tCons ta tNil)) σ H (.int (l.map f).sum) :=
  ev_sum (K := K) (ns := l.map f) (el_is ha (by rw [List.map_map]; rfl))
theorem eu_slT {tl th : TO} {a : Addr} {xs : List V} {lo hi : Option Int} (h : Ev te σ H (.ref a)) (h1 : EvO tl σ H lo) (h2 : EvO th σ H hi) (hs : SqT K H a xs) (hn : ¬ (HT.sIx xs.length 0 lo = 0 ∧ HT.sIx xs.length xs.length hi = xs.length)) : EvU (L2.tSl (rSlT K) te tl th) σ H (cutV xs lo hi) := fun H1 e _ q =>
  h H1 e _ fun H2 e2 => h1 H2 (e.trans e2) _ fun H3 e3 => h2 H3 ((e.trans e2).trans e3) _ fun H4 e4 =>
    ⟨a, xs, rfl, ex_t (((e.trans e2).trans e3).trans e4) hs, hn, fun p hp => q p _ (fresh_back ((e2.trans e3).trans e4) hp) (((e2.trans e3).trans e4).trans (Ex.new hp)) upd_same⟩

/-! ### statements, further -/
variable {D : Ends} {tu tw tz : TS}
/-- for letter in text -/
theorem s_forS {ts : TE} {j : Nat} {a : Tx} (h : Ev ts σ H (vS a)) (Pv : Nat → L2.St → Hp → Prop) (h0 : ∀ H1, Ex H H1 → Pv 0 σ H1)
    (hs : ∀ i c σ' H', a[i]? = some c → Pv i σ' H' → tu { D with nx := Pv (i + 1), ct := Pv (i + 1), bk := D.nx } (σ'.set j (some (vS [c]))) H') (hd : ∀ σ' H', Pv a.length σ' H' → D.nx σ' H') : tFor (iStr ts) (gName j) tu D σ H :=
  h H (Ex.refl H) _ fun H1 e => ⟨mk a, rfl, by
    have w := walk_str (z := mk a)
    rw [show (mk a).cps.size = a.length from mk_len a] at w
    refine for_it w Pv (h0 H1 e) (fun _ _ _ _ _ => trivial) (fun i x σ' H' H2 hi p y => ?_) hd
    obtain ⟨rfl, c, hc, rfl⟩ := y
    refine hs i c σ' H2 ?_ p
    rw [← hc]
    unfold mk
    simp⟩
theorem q_forS {ts : TE} {j : Nat} {a : Tx} (h : Ev ts σ H (vS a)) (Pv : Nat → L2.St → Hp → Prop) (h0 : ∀ H1, Ex H H1 → Pv 0 σ H1)
    (hs : ∀ i c σ' H', a[i]? = some c → Pv i σ' H' → tu { D with nx := Pv (i + 1), ct := Pv (i + 1), bk := tz D } (σ'.set j (some (vS [c]))) H') (hd : ∀ σ' H', Pv a.length σ' H' → tz D σ' H') : tSeq (tFor (iStr ts) (gName j) tu) tz D σ H :=
  s_forS (D := { D with nx := tz D }) h Pv h0 hs hd
/-- for word, cost in words; H0 is what stands all the while -/
theorem s_forW {tl : TE} {i1 i2 : Nat} {a : Addr} {ws : WL} {H0 : Hp} (h : Ev tl σ H (.ref a)) (hW : WA K H0 a ws) (e0 : Ex H0 H) (Pv : Nat → L2.St → Hp → Prop) (h0 : ∀ H1, Ex H H1 → Pv 0 σ H1) (hx : ∀ i σ' H', Pv i σ' H' → Ex H0 H')
    (hs : ∀ i p σ' H', ws[i]? = some p → Pv i σ' H' → tu { D with nx := Pv (i + 1), ct := Pv (i + 1), bk := D.nx } ((σ'.set i1 (some (vS p.1))).set i2 (some (.int p.2))) H') (hd : ∀ σ' H', Pv ws.length σ' H' → D.nx σ' H') :
    tFor (iTup K tl) (gTup K 2 (gCons (gName i1) (gCons (gName i2) gNil))) tu D σ H := by
  obtain ⟨ts, h1, h2, h3⟩ := hW
  refine s_forT h (ex_t e0 h1) Pv h0 (fun i σ' H' _ p => ex_t (hx i σ' H' p) h1) (fun i x σ' H' hi p => ?_) fun σ' H' p => hd σ' H' (by
    rw [List.length_map, h2] at p
    exact p)
  rw [List.getElem?_map] at hi
  obtain ⟨t, ht, rfl⟩ := Option.map_eq_some_iff.mp hi
  have hlt : i < ws.length := by
    rw [← h2]
    exact (List.getElem?_eq_some_iff.mp ht).1
  have e : ws[i]? = some ws[i] := List.getElem?_eq_getElem hlt
  exact ⟨t, _, rfl, ex_t (hx i σ' H' p) (h3 i t _ ht e), rfl, _, _, rfl, _, _, rfl, rfl, hs i _ σ' H' e p⟩
theorem q_forW {tl : TE} {i1 i2 : Nat} {a : Addr} {ws : WL} {H0 : Hp} (h : Ev tl σ H (.ref a)) (hW : WA K H0 a ws) (e0 : Ex H0 H) (Pv : Nat → L2.St → Hp → Prop) (h0 : ∀ H1, Ex H H1 → Pv 0 σ H1) (hx : ∀ i σ' H', Pv i σ' H' → Ex H0 H')
    (hs : ∀ i p σ' H', ws[i]? = some p → Pv i σ' H' → tu { D with nx := Pv (i + 1), ct := Pv (i + 1), bk := tz D } ((σ'.set i1 (some (vS p.1))).set i2 (some (.int p.2))) H') (hd : ∀ σ' H', Pv ws.length σ' H' → tz D σ' H') :
    tSeq (tFor (iTup K tl) (gTup K 2 (gCons (gName i1) (gCons (gName i2) gNil))) tu) tz D σ H := s_forW (D := { D with nx := tz D }) h hW e0 Pv h0 hx hs hd
/-- return (a new tuple, a value) -/
theorem s_retUU {xs : List V} (h : EvU ta σ H xs) (h2 : Ev tb σ H y) (k : ∀ p q H2, H p = none → Ex H H2 → H2 p = some (.tup [.ref q, y]) → H2 q = some (.tup xs) → D.rt (.ref p) H2) : tRet (tTup (tCons ta (tCons tb tNil))) D σ H :=
  h H (Ex.refl H) _ fun q H1 hq e1 h1 => h2 H1 e1 _ fun H2 e2 => ⟨by show 2 ≤ sizeLine; decide, fun p hp => by
    have e3 := Ex.new (o := .tup [.ref q, y]) hp
    exact k p q _ (fresh_back (e1.trans e2) hp) ((e1.trans e2).trans e3) upd_same (e3 q _ (e2 q _ h1))⟩
/-- x = f(..), f a def with a promise of its own form -/
theorem a_call {sp : Sp} {ar : TA} {vs : List V} {g : TG} (h : EvA ar σ H vs) (k : ∀ H1, Ex H H1 → sp vs H1 (fun x H2 => g x σ H2 D.nx) E) : tAsg (tCall sp [] E ar) g D σ H := h H (Ex.refl H) _ fun H1 e1 => by
  show sp (vs ++ []) H1 _ E
  rw [List.append_nil]
  exact k H1 e1
theorem aq_call {sp : Sp} {ar : TA} {vs : List V} {g : TG} (h : EvA ar σ H vs) (k : ∀ H1, Ex H H1 → sp vs H1 (fun x H2 => g x σ H2 (tz D)) E) : tSeq (tAsg (tCall sp [] E ar) g) tz D σ H := a_call (D := { D with nx := tz D }) h k
/-- a call whose second argument is a new tuple -/
theorem ev_spVU {Pre : List V → Hp → V → Prop} {xs : List V} (h : Ev ta σ H x) (hu : EvU tb σ H xs) (hp : ∀ p H1, Ex H H1 → SqT K H1 p xs → Pre [x, .ref p] H1 v) : Ev (tCall (spV Pre) [] E (tCons ta (tCons tb tNil))) σ H v := fun H1 e Q q =>
  h H1 e _ fun H2 e2 => hu H2 (e.trans e2) _ fun p H3 _ e3 h3 => ⟨v, hp p H3 ((e.trans e2).trans e3) (st_of h3), fun H4 e4 => q H4 ((e2.trans e3).trans e4)⟩
theorem eu_ifT {xs : List V} (h : EvT t σ H true) (h1 : EvU ta σ H xs) : EvU (tIf t ta tb) σ H xs := fun H1 e Q q => h H1 e _ fun H2 e2 => by
  show ta σ H2 Q
  exact h1 H2 (e.trans e2) Q fun p H3 hp e3 h3 => q p H3 (fresh_back e2 hp) (e2.trans e3) h3
/-- d[k] of a dict with text keys -/
theorem ev_dget {d : Addr} {kvs : List (L2.Key × V)} {k : Str} (hd : Ev ta σ H (.ref d)) (hk : Ev tb σ H (.str k)) (h : H d = some (.dK kvs)) (hv : valV kvs (Sum.inr k) = some v) : Ev (tDGet ta tb) σ H v := fun H1 e Q q =>
  hd H1 e _ fun H2 e2 => hk H2 (e.trans e2) _ fun H3 e3 => ⟨d, v, rfl, by
    have hh : DGet H3 d (kV (Sum.inr k)) (valV kvs (Sum.inr k)) := DGet.k (((e.trans e2).trans e3) d _ h)
    rw [hv] at hh
    exact hh, q H3 (e2.trans e3)⟩
/-- a word list as a dict's pairs -/
def dk (ws : WL) : List (L2.Key × V) := ws.map fun p => (Sum.inr (mk p.1), V.int p.2)
theorem dk_len (ws : WL) : (dk ws).length = ws.length := by
  unfold dk
  rw [List.length_map]
theorem dk_none {ws : WL} {t : Tx} (h : t ∉ names ws) : valV (dk ws) (Sum.inr (mk t)) = none := by
  unfold valV
  rw [List.find?_eq_none.mpr fun p hp he => ?_]
  · rfl
  · obtain ⟨q, hq, rfl⟩ := List.mem_map.mp hp
    have e : q.1 = t := mk_inj (Sum.inr.inj (of_decide_eq_true he))
    exact h (List.mem_map.mpr ⟨q, hq, e⟩)
theorem dk_get {ws : WL} {t : Tx} (h : t ∈ names ws) : valV (dk ws) (Sum.inr (mk t)) = some (.int (cst ws t)) := by
  unfold valV cst dk
  rw [List.find?_map]
  have e : ((fun kv : L2.Key × V => decide (kv.1 = Sum.inr (mk t))) ∘ fun p : Tx × Int => ((Sum.inr (mk p.1) : L2.Key), V.int p.2)) = fun p : Tx × Int => decide (p.1 = t) := by
    funext p
    refine decide_eq_decide.mpr ⟨fun e => mk_inj (Sum.inr.inj e), fun e => ?_⟩
    show (Sum.inr (mk p.1) : L2.Key) = Sum.inr (mk t)
    rw [e]
  rw [e]
  cases hf : ws.find? fun p => decide (p.1 = t) with
  | none =>
    obtain ⟨p, hp, e⟩ := List.mem_map.mp h
    have := List.find?_eq_none.mp hf p hp
    rw [decide_eq_true_eq] at this
    exact absurd e this
  | some p => rfl
theorem dk_put {ws : WL} {p : Tx × Int} (h : p.1 ∉ names ws) : putK (dk ws) (Sum.inr (mk p.1)) (.int p.2) = dk (ws ++ [p]) := by
  rw [putK_new _ (dk_none h)]
  unfold dk
  rw [List.map_append]
  rfl
end
end Gc
/-! sorted of pairs of a text and an int; a text times an int. -/
namespace Gc
open PySem PySem.Spec PyProof.Rows L2 Evl

/-! ### the order -/
def lexT (p q : Tx × Int) : Bool := if p.1 = q.1 then decide (p.2 < q.2) else decide (p.1 < q.1)
theorem tx_tri (a b : Tx) : a < b ∨ a = b ∨ b < a := by
  by_cases h1 : a < b
  · exact .inl h1
  · by_cases h2 : b < a
    · exact .inr (.inr h2)
    · exact .inr (.inl (List.le_antisymm (List.not_lt.mp h2) (List.not_lt.mp h1)))
theorem lexT_yes {p q : Tx × Int} : lexT p q = true ↔ p.1 < q.1 ∨ (p.1 = q.1 ∧ p.2 < q.2) := by
  unfold lexT
  by_cases e : p.1 = q.1
  · rw [if_pos e, decide_eq_true_eq]
    constructor
    · intro h
      exact .inr ⟨e, h⟩
    · intro h
      rcases h with h | h
      · rw [e] at h
        exact absurd h (List.lt_irrefl _)
      · exact h.2
  · rw [if_neg e, decide_eq_true_eq]
    constructor
    · intro h
      exact .inl h
    · intro h
      rcases h with h | h
      · exact h
      · exact absurd h.1 e
theorem lexT_none {p q : Tx × Int} (h : lexT p q = false) : q.1 < p.1 ∨ (p.1 = q.1 ∧ q.2 ≤ p.2) := by
  have hn : ¬ (p.1 < q.1 ∨ (p.1 = q.1 ∧ p.2 < q.2)) := fun z => by
    rw [lexT_yes.mpr z] at h
    cases h
  rcases tx_tri p.1 q.1 with z | z | z
  · exact absurd (.inl z) hn
  · exact .inr ⟨z, Int.not_lt.mp fun y => hn (.inr ⟨z, y⟩)⟩
  · exact .inl z
theorem lexT_no {p q : Tx × Int} (h : q.1 < p.1 ∨ (p.1 = q.1 ∧ q.2 ≤ p.2)) : lexT p q = false := by
  cases hh : lexT p q with
  | false => rfl
  | true =>
    rcases lexT_yes.mp hh with z | z
    · rcases h with y | y
      · exact absurd y (List.lt_asymm z)
      · rw [y.1] at z
        exact absurd z (List.lt_irrefl _)
    · rcases h with y | y
      · rw [z.1] at y
        exact absurd y (List.lt_irrefl _)
      · omega
theorem lexT_ord {α : Type} (k : α → Tx × Int) : SrtO.Swo fun v u => lexT (k v) (k u) := by
  refine ⟨fun x y h => ?_, fun x y z h1 h2 => ?_⟩
  · refine lexT_no ?_
    rcases lexT_yes.mp h with z | z
    · exact .inl z
    · exact .inr ⟨z.1.symm, by omega⟩
  · refine lexT_no ?_
    rcases lexT_none h1 with a | a
    · rcases lexT_none h2 with b | b
      · exact .inl (List.lt_trans a b)
      · rw [← b.1] at a
        exact .inl a
    · rcases lexT_none h2 with b | b
      · rw [a.1] at b
        exact .inl b
      · exact .inr ⟨b.1.trans a.1, by omega⟩

/-! ### such pairs in the heap -/
def PairTI (h : Heap) (v : Value) (p : Tx × Int) : Prop := ∃ (a : Addr) (o : Obj) (t u : Tok) (n : Nat), v = .ref a ∧ h.get? a = some o ∧ o.cls = .type "tuple" ∧ o.data = .seq #[.str (mk p.1) t, .int p.2 u] n
theorem PairTI.keep {h h' : Heap} {v : Value} {p : Tx × Int} (x : PairTI h v p) (k : ∀ b o, h.get? b = some o → o.cls = .type "tuple" → h'.get? b = some o) : PairTI h' v p := by
  obtain ⟨a, o, t, u, n, e1, e2, e3, e4⟩ := x
  exact ⟨a, o, t, u, n, e1, k a o e2 e3, e3, e4⟩
section
variable {P : Program} {w : World} {A : Around} {E : Value → Shared → Prop} {s : Shared}
theorem ti_cmp {vs : List Value} {k : Value → Tx × Int} (hp : ∀ v ∈ vs, PairTI s.heap v (k v)) : SrtO.Cmp P w A s (tuples' true) (fun p => p.1 ∈ vs) (SrtO.lt2 fun v u => lexT (k v) (k u)) := by
  intro p q mp mq
  have h1 := hp p.1 mp
  have h2 := hp q.1 mq
  show wpAny (model P w) A (keyLt' (tuples' true) p.1 q.1) (fun r s' => s' = s ∧ r = lexT (k p.1) (k q.1)) (fun _ _ => False) s
  generalize k p.1 = kp at h1 ⊢
  generalize k q.1 = kq at h2 ⊢
  obtain ⟨a, oa, t1, t2, n1, ea, ga, _, da⟩ := h1
  obtain ⟨b, ob, u1, u2, n2, eb, gb, _, db⟩ := h2
  rw [ea, eb]
  refine PySem.W.kat_lt ga da gb db ?_
  show PySem.W.KatLex P w A true (decide (2 < 2)) _ [(.str (mk kp.1) t1, .str (mk kq.1) u1), (.int kp.2 t2, .int kq.2 u2)] 0 s
  refine PySem.W.kat_cons (SeqAt.EqAt.str_str (mk kp.1) t1 (mk kq.1) u1 P w _ _ ?_)
  refine PySem.W.kat_go (fun y1 => ?_) (fun y1 => ?_)
  · have c1 : kp.1 = kq.1 := mk_inj (eq_of_beq y1)
    refine PySem.W.kat_yes (PySem.W.kat_cons (SeqAt.EqAt.int_int kp.2 t2 kq.2 u2 P w _ _ ?_))
    refine PySem.W.kat_go (fun y2 => ?_) (fun y2 => ?_)
    · have c2 : kp.2 = kq.2 := eq_of_beq y2
      exact PySem.W.kat_yes (PySem.W.kat_nil ⟨rfl, (lexT_no (.inr ⟨c1, by omega⟩)).symm⟩)
    · refine PySem.W.kat_no (oneLt_any_int ⟨rfl, ?_⟩)
      unfold lexT
      rw [if_pos c1]
  · have c1 : ¬ kp.1 = kq.1 := fun e => by
      rw [e] at y1
      exact absurd y1 (by simp)
    refine PySem.W.kat_no (oneLt_any_str ⟨rfl, ?_⟩)
    rw [mk_cps, mk_cps]
    unfold lexT
    rw [if_neg c1]
theorem ti_firsts {h : Heap} {k : Value → Tx × Int} : ∀ {vs : List Value}, (∀ v ∈ vs, PairTI h v (k v)) → ∃ fs : List Value, PySem.W.KatTups h vs fs ∧ fs.length = vs.length ∧ ∀ f ∈ fs, ∃ x t, f = Value.str x t
  | [], _ => ⟨[], PySem.W.KatTups.nil, rfl, fun _ hm => nomatch hm⟩
  | v :: vs, hp => by
    obtain ⟨fs, i1, i2, i3⟩ := ti_firsts (vs := vs) fun u hu => hp u (List.mem_cons_of_mem _ hu)
    obtain ⟨a, o, t, u, n, e1, e2, e3, e4⟩ := hp v List.mem_cons_self
    rw [e1]
    refine ⟨.str (mk (k v).1) t :: fs, PySem.W.KatTups.cons e2 e3 e4 rfl i1, by simp [i2], fun f hf => ?_⟩
    rcases List.mem_cons.mp hf with e | hf
    · exact ⟨_, t, e⟩
    · exact i3 f hf
theorem ti_sortable {a : Addr} {vs : List Value} {k : Value → Tx × Int} (h0 : 0 < vs.length) (hp : ∀ v ∈ vs, PairTI s.heap v (k v)) (ha : ∀ o, s.heap.get? a = some o → o.cls ≠ .type "tuple") : SrtO.SortableO P w A s a vs fun v u => lexT (k v) (k u) := by
  intro h' keep
  have hp' : ∀ v ∈ vs, PairTI h' v (k v) := fun v hv => (hp v hv).keep fun b o e c => keep b o (fun z => ha o (z ▸ e) c) e
  obtain ⟨fs, f1, f2, f3⟩ := ti_firsts hp'
  refine ⟨tuples' true, fun Q E hq => ?_, ti_cmp hp'⟩
  refine PySem.W.kat_kind (T := .type "str") f1 (by omega) (fun f hf => ?_) (by rfl) ?_
  · obtain ⟨x, t, rfl⟩ := f3 f hf
    exact PySem.W.Looks.now
  · rw [show (Value.type "str" != Value.type "tuple") = true by first | decide +kernel | rfl]
    exact hq
end

/-! ### the rule -/
abbrev ltT (k : V → Tx × Int) (x y : V) : Bool := lexT (k x) (k y)
def rSortedSI (K : PySem.W.Frag) : List V → Hp → VK → Prop := fun vs H Q => ∃ (a : Addr) (xs : List V) (k : V → Tx × Int), vs = [V.ref a] ∧ SqL K H a xs ∧ (∀ x ∈ xs, ∃ t, x = V.ref t ∧ H t = some (.tup [vS (k x).1, .int (k x).2])) ∧
  ∀ ys p, SrtO.Srtd (ltT k) ys → ys.Perm xs → H p = none → Q (.ref p) (upd H p (.lst ys))
section
variable {X : Cx}
theorem cr_sortedSI : CallR X (.builtin "sorted") (rSortedSI X.K) := by
  intro pins s σ H vs us Q I r h
  obtain ⟨a, xs, k, rfl, hs, hx, q⟩ := h
  obtain ⟨its, rv, hl, hz⟩ := I.list hs
  obtain ⟨u, rfl, ru⟩ := vals1 r
  have eu : u = Value.ref a := ru
  subst eu
  obtain ⟨e1, e2⟩ := refs_back rv fun x m => let ⟨t, e, _⟩ := hx x m; ⟨t, e⟩
  have hp : ∀ v ∈ its, PairTI s.heap v (k (backV v)) := fun v hv => by
    obtain ⟨t, rfl⟩ := e2 v hv
    have hm : V.ref t ∈ xs := by
      rw [e1]
      exact List.mem_map.mpr ⟨_, hv, rfl⟩
    obtain ⟨t', et, ht⟩ := hx _ hm
    cases et
    obtain ⟨_, js, rj, o, go, co, n, do_⟩ := I.hok _ _ ht
    obtain ⟨j1, j2, rfl, ⟨tk1, rfl⟩, ⟨tk2, rfl⟩⟩ := vals2 rj
    exact ⟨t, o, tk1, tk2, n, rfl, go, co, do_⟩
  refine SrtO.sorted_ord (lexT_ord fun v => k (backV v)) hl.isList (by rw [← rv.length]; exact hz) (fun h2 h1 b gb kk => ?_) fun out so sb => ?_
  · refine ti_sortable (s := { s with heap := h1 }) (by omega) (fun v hv => (hp v hv).keep fun c o e _ => (kk c o e).2) fun o e => ?_
    have eo := Option.some.inj (e.symm.trans gb)
    rw [eo]
    intro z
    exact absurd (Value.type.inj z) (by decide)
  · have kp : ∀ c o, s.heap.get? c = some o → (sortedAll s.heap its out.toArray).get? c = some o := fun c o e => sortedAll_old e
    have h3 : ∀ v ∈ out, ∃ c, v = Value.ref c := fun v hv => e2 v (sb.perm.mem_iff.mp hv)
    obtain ⟨n, hn⟩ := sortedAll_at s.heap its out.toArray
    have hperm : (out.map backV).Perm xs := by
      rw [e1]
      exact sb.perm.map backV
    refine ⟨.ref _, upd H _ (.lst (out.map backV)), I.laid (t' := s.toks) kp (Nat.le_succ _) ⟨?_, out, n, vals_back h3, hn⟩, rfl, q _ _ (SrtO.srtd_map so) hperm (I.hok.fresh (Nat.le_succ _))⟩
    rw [hperm.length_eq]
    exact hz

/-! ### a text times an int -/
def rMulStr : R2 := fun x y H Q => ∃ (t : Tx) (n : Nat), x = vS t ∧ y = .int (n : Int) ∧ n * t.length ≤ 1000 ∧ n ≤ 1000 ∧ Q (vS (rep n t)) H
theorem rep_fold (n : Nat) (t : Tx) : ∀ acc : Array Nat, ((List.replicate n t.toArray).foldl (· ++ ·) acc).toList = acc.toList ++ rep n t := by
  induction n with
  | zero =>
    intro acc
    show acc.toList = acc.toList ++ []
    rw [List.append_nil]
  | succ n ih =>
    intro acc
    rw [List.replicate_succ, List.foldl_cons, ih, rep_succ, Array.toList_append, List.append_assoc]
theorem mul_rep (t : Tx) (n : Nat) : Txt.mul (mk t) (n : Int) = mk (rep n t) := by
  unfold Txt.mul
  by_cases h0 : (n : Int) < 1
  · rw [if_pos h0]
    have : n = 0 := by omega
    rw [this]
    rfl
  · rw [if_neg h0]
    by_cases h1 : ((n : Int) == 1 || (mk t).length == 0) = true
    · rw [if_pos h1]
      rw [Bool.or_eq_true] at h1
      rcases h1 with h1 | h1
      · have hn : (n : Int) = 1 := eq_of_beq h1
        have : n = 1 := by omega
        rw [this, rep_one]
      · have h2 : (mk t).length = 0 := eq_of_beq h1
        rw [mk_len] at h2
        have h3 : t = [] := List.length_eq_zero_iff.mp h2
        rw [h3]
        have h4 : rep n ([] : Tx) = [] := List.length_eq_zero_iff.mp (by rw [rep_len]; simp)
        rw [h4]
    · rw [if_neg h1, Int.toNat_natCast]
      show (⟨(List.replicate n t.toArray).foldl (· ++ ·) #[]⟩ : Str) = mk (rep n t)
      have h := rep_fold n t #[]
      unfold mk
      congr 1
      refine Array.toList_inj.mp ?_
      rw [h]
      rfl
theorem op_mul_str : OpR X (binaryOp .Mult) rMulStr := by
  intro pins s σ H x y v u Q I rx ry h
  obtain ⟨t, n, rfl, rfl, hz, hn, q⟩ := h
  obtain ⟨t1, rfl⟩ := rx
  obtain ⟨t2, rfl⟩ := ry
  refine SB.mul ⟨?_, fun h1 h2 => ?_, fun h1 h2 => ?_⟩ fun t' k => ?_
  · rw [decide_eq_false (by omega), decide_eq_false (by omega)]
    rfl
  · rw [mk_len]
    have hb : (t.length : Int) ≤ 1000 := by
      have hn1 : 1 ≤ n := by omega
      have := Nat.le_trans (Nat.le_mul_of_pos_left t.length hn1) hz
      omega
    have hd : (1000 : Int) ≤ (2 ^ 63 - 1) / (n : Int) := by
      refine (Int.le_ediv_iff_mul_le (by omega)).mpr ?_
      have : (n : Int) ≤ 1000 := by omega
      have e : (2 : Int) ^ 63 = 9223372036854775808 := by decide
      omega
    omega
  · rw [mk_len, Int.toNat_natCast, Nat.mul_comm]
    refine decide_eq_false ?_
    have := small hz
    omega
  · rw [mul_rep]
    exact ⟨vS (rep n t), H, I.tok k, ⟨t', rfl⟩, q⟩
theorem ev_mulS {σ : L2.St} {H : Hp} {ta tb : TE} {t : Tx} {n : Nat} (ha : Ev ta σ H (vS t)) (hb : Ev tb σ H (.int (n : Int))) (hz : n * t.length ≤ 1000) (hn : n ≤ 1000) : Ev (tOp rMulStr ta tb) σ H (vS (rep n t)) :=
  ev_op ha hb fun H1 _ _ q => ⟨t, n, rfl, rfl, hz, hn, q H1 (Ex.refl H1)⟩
end
end Gc
/-! The defs of the text by their places, their scopes; what the top has laid. -/
namespace Gc
open PySem PySem.Spec PyProof.Rows L2 Evl
def topS (i : Nat) : Stmt := PySem.Challenge.pw_greedycuts_k59_whole_repeated_rounds.main.body.getD i (.Pass ⟨0, 0, 0, 0⟩)
abbrev s_is_between : Stmt := topS 8
theorem sc_is_between : FnScope ["value", "low", "high"] ["value", "low", "high"] (defScope s_is_between) := ⟨rfl, rfl, rfl, by decide +kernel, rfl, by decide +kernel, by decide +kernel⟩
abbrev s_is_word : Stmt := topS 9
theorem sc_is_word : FnScope ["value", "letter"] ["value"] (defScope s_is_word) := ⟨rfl, rfl, rfl, by decide +kernel, rfl, by decide +kernel, by decide +kernel⟩
abbrev s_is_entry : Stmt := topS 10
theorem sc_is_entry : FnScope ["value"] ["value"] (defScope s_is_entry) := ⟨rfl, rfl, rfl, by decide +kernel, rfl, by decide +kernel, by decide +kernel⟩
abbrev s_is_list : Stmt := topS 11
theorem sc_is_list : FnScope ["value", "names", "entry", "letter", "at", "one"] ["value"] (defScope s_is_list) := ⟨rfl, rfl, rfl, by decide +kernel, rfl, by decide +kernel, by decide +kernel⟩
abbrev s_letters_in : Stmt := topS 12
theorem sc_letters_in : FnScope ["words", "entry"] ["words"] (defScope s_letters_in) := ⟨rfl, rfl, rfl, by decide +kernel, rfl, by decide +kernel, by decide +kernel⟩
abbrev s_names_in : Stmt := topS 13
theorem sc_names_in : FnScope ["words", "entry"] ["words"] (defScope s_names_in) := ⟨rfl, rfl, rfl, by decide +kernel, rfl, by decide +kernel, by decide +kernel⟩
abbrev s_cost_in : Stmt := topS 14
theorem sc_cost_in : FnScope ["words", "word", "entry"] ["words", "word"] (defScope s_cost_in) := ⟨rfl, rfl, rfl, by decide +kernel, rfl, by decide +kernel, by decide +kernel⟩
abbrev s_has_word : Stmt := topS 15
theorem sc_has_word : FnScope ["words", "word"] ["words", "word"] (defScope s_has_word) := ⟨rfl, rfl, rfl, by decide +kernel, rfl, by decide +kernel, by decide +kernel⟩
abbrev s_words_from : Stmt := topS 17
theorem sc_words_from : FnScope ["words", "text", "index", "names", "parts", "size", "part"] ["words", "text", "index"] (defScope s_words_from) := ⟨rfl, rfl, rfl, by decide +kernel, rfl, by decide +kernel, by decide +kernel⟩
abbrev s_longest_from : Stmt := topS 18
theorem sc_longest_from : FnScope ["words", "text", "index"] ["words", "text", "index"] (defScope s_longest_from) := ⟨rfl, rfl, rfl, by decide +kernel, rfl, by decide +kernel, by decide +kernel⟩
abbrev s_check_words : Stmt := topS 20
theorem sc_check_words : FnScope ["words"] ["words"] (defScope s_check_words) := ⟨rfl, rfl, rfl, by decide +kernel, rfl, by decide +kernel, by decide +kernel⟩
abbrev s_cost_of_row : Stmt := topS 21
theorem sc_cost_of_row : FnScope ["words", "row", "word"] ["words", "row"] (defScope s_cost_of_row) := ⟨rfl, rfl, rfl, by decide +kernel, rfl, by decide +kernel, by decide +kernel⟩
abbrev s_can_grow : Stmt := topS 22
theorem sc_can_grow : FnScope ["words", "text", "word", "cost"] ["words", "text"] (defScope s_can_grow) := ⟨rfl, rfl, rfl, by decide +kernel, rfl, by decide +kernel, by decide +kernel⟩
abbrev s_read_on : Stmt := topS 23
theorem sc_read_on : FnScope ["words", "held", "letter", "given", "word"] ["words", "held", "letter"] (defScope s_read_on) := ⟨rfl, rfl, rfl, by decide +kernel, rfl, by decide +kernel, by decide +kernel⟩
abbrev s_is_row : Stmt := topS 25
theorem sc_is_row : FnScope ["words", "value", "one"] ["words", "value"] (defScope s_is_row) := ⟨rfl, rfl, rfl, by decide +kernel, rfl, by decide +kernel, by decide +kernel⟩
abbrev s_is_long_text : Stmt := topS 27
theorem sc_is_long_text : FnScope ["words", "value", "sign"] ["words", "value"] (defScope s_is_long_text) := ⟨rfl, rfl, rfl, by decide +kernel, rfl, by decide +kernel, by decide +kernel⟩
abbrev s_read_all : Stmt := topS 28
theorem sc_read_all : FnScope ["words", "held", "text", "cost", "letter", "given"] ["words", "held", "text"] (defScope s_read_all) := ⟨rfl, rfl, rfl, by decide +kernel, rfl, by decide +kernel, by decide +kernel⟩
abbrev s_sums_of : Stmt := topS 29
theorem sc_sums_of : FnScope ["words", "value", "before", "cycle", "tail", "row", "held", "gain", "rest", "one"] ["words", "value"] (defScope s_sums_of) := ⟨rfl, rfl, rfl, by decide +kernel, rfl, by decide +kernel, by decide +kernel⟩
abbrev s_round_sums : Stmt := topS 30
theorem sc_round_sums : FnScope ["words", "value"] ["words", "value"] (defScope s_round_sums) := ⟨rfl, rfl, rfl, by decide +kernel, rfl, by decide +kernel, by decide +kernel⟩
abbrev s__law_stream : Stmt := topS 32
theorem sc__law_stream : FnScope ["_law_script"] ["_law_script"] (defScope s__law_stream) := ⟨rfl, rfl, rfl, by decide +kernel, rfl, by decide +kernel, by decide +kernel⟩
abbrev s__law_next : Stmt := topS 33
theorem sc__law_next : FnScope ["_law_stream_here", "_law_many", "_law_k", "_law_cell", "_law_digit"] ["_law_stream_here", "_law_many"] (defScope s__law_next) := ⟨rfl, rfl, rfl, by decide +kernel, rfl, by decide +kernel, by decide +kernel⟩
abbrev s__law_cost : Stmt := topS 36
theorem sc__law_cost : FnScope ["_law_stream_here"] ["_law_stream_here"] (defScope s__law_cost) := ⟨rfl, rfl, rfl, by decide +kernel, rfl, by decide +kernel, by decide +kernel⟩
abbrev s__law_words : Stmt := topS 37
theorem sc__law_words : FnScope ["_law_stream_here", "_law_letters_here", "_law_found", "_law_letter", "_law_turn", "_law_word", "_law_k"] ["_law_stream_here"] (defScope s__law_words) := ⟨rfl, rfl, rfl, by decide +kernel, rfl, by decide +kernel, by decide +kernel⟩
abbrev s__law_letters : Stmt := topS 38
theorem sc__law_letters : FnScope ["_law_words_here", "_law_word", "_law_cost_here"] ["_law_words_here"] (defScope s__law_letters) := ⟨rfl, rfl, rfl, by decide +kernel, rfl, by decide +kernel, by decide +kernel⟩
abbrev s__law_text : Stmt := topS 39
theorem sc__law_text : FnScope ["_law_stream_here", "_law_words_here", "_law_most", "_law_letters_here", "_law_text_here", "_law_k"] ["_law_stream_here", "_law_words_here", "_law_most"] (defScope s__law_text) := ⟨rfl, rfl, rfl, by decide +kernel, rfl, by decide +kernel, by decide +kernel⟩
abbrev s__law_match : Stmt := topS 40
theorem sc__law_match : FnScope ["_law_words_here", "_law_text_here", "_law_found", "_law_at", "_law_turn", "_law_best", "_law_word", "_law_cost_here"] ["_law_words_here", "_law_text_here"] (defScope s__law_match) := ⟨rfl, rfl, rfl, by decide +kernel, rfl, by decide +kernel, by decide +kernel⟩
abbrev s__law_sum : Stmt := topS 41
theorem sc__law_sum : FnScope ["_law_words_here", "_law_row", "_law_costs", "_law_word", "_law_cost_here"] ["_law_words_here", "_law_row"] (defScope s__law_sum) := ⟨rfl, rfl, rfl, by decide +kernel, rfl, by decide +kernel, by decide +kernel⟩
abbrev s__law_least : Stmt := topS 43
theorem sc__law_least : FnScope ["_law_words_here", "_law_text_here", "_law_best", "_law_end", "_law_costs", "_law_word", "_law_cost_here"] ["_law_words_here", "_law_text_here"] (defScope s__law_least) := ⟨rfl, rfl, rfl, by decide +kernel, rfl, by decide +kernel, by decide +kernel⟩
abbrev s__law_grows : Stmt := topS 44
theorem sc__law_grows : FnScope ["_law_words_here", "_law_text_here", "_law_word", "_law_cost_here"] ["_law_words_here", "_law_text_here"] (defScope s__law_grows) := ⟨rfl, rfl, rfl, by decide +kernel, rfl, by decide +kernel, by decide +kernel⟩
abbrev s__law_read : Stmt := topS 45
theorem sc__law_read : FnScope ["_law_words_here", "_law_held", "_law_letter", "_law_rest_here", "_law_gain", "_law_turn", "_law_word"] ["_law_words_here", "_law_held", "_law_letter"] (defScope s__law_read) := ⟨rfl, rfl, rfl, by decide +kernel, rfl, by decide +kernel, by decide +kernel⟩
abbrev s_law : Stmt := topS 50
theorem sc_law : FnScope ["_law_script", "_law_stream_here", "_law_words_here", "_law_letters_here", "_law_piece", "_law_before", "_law_seen", "_law_held", "_law_letter", "_law_turn", "_law_cycle", "_law_told", "_law_left", "_law_costs", "_law_many", "_law_k"] ["_law_script"] (defScope s_law) := ⟨rfl, rfl, rfl, by decide +kernel, rfl, by decide +kernel, by decide +kernel⟩
structure Top (K : PySem.W.Frag) (mg : Str → Option Value) : Prop where
  n_len : mg "len" = none
  n_min : mg "min" = none
  n_max : mg "max" = none
  n_isinstance : mg "isinstance" = none
  n_all : mg "all" = none
  n_any : mg "any" = none
  n_sum : mg "sum" = none
  n_tuple : mg "tuple" = none
  n_range : mg "range" = none
  n_list : mg "list" = none
  n_abs : mg "abs" = none
  n_int : mg "int" = none
  n_sorted : mg "sorted" = none
  n_str : mg "str" = none
  n_bool : mg "bool" = none
  c_LONGEST : ∃ u, mg "LONGEST" = some u ∧ RelV (.int 4) u
  c_ALPHABET : ∃ u, mg "ALPHABET" = some u ∧ RelV (.str (mk alph)) u
  c_MOST_WORDS : ∃ u, mg "MOST_WORDS" = some u ∧ RelV (.int 8) u
  c_MOST_COST : ∃ u, mg "MOST_COST" = some u ∧ RelV (.int 9) u
  d_is_between : Def K mg "is_between" "is_between" s_is_between
  d_is_word : Def K mg "is_word" "is_word" s_is_word
  d_is_entry : Def K mg "is_entry" "is_entry" s_is_entry
  d_is_list : Def K mg "is_list" "is_list" s_is_list
  d_letters_in : Def K mg "letters_in" "letters_in" s_letters_in
  d_names_in : Def K mg "names_in" "names_in" s_names_in
  d_cost_in : Def K mg "cost_in" "cost_in" s_cost_in
  d_has_word : Def K mg "has_word" "has_word" s_has_word
  d_words_from : Def K mg "words_from" "words_from" s_words_from
  d_longest_from : Def K mg "longest_from" "longest_from" s_longest_from
  d_check_words : Def K mg "check_words" "check_words" s_check_words
  d_cost_of_row : Def K mg "cost_of_row" "cost_of_row" s_cost_of_row
  d_can_grow : Def K mg "can_grow" "can_grow" s_can_grow
  d_read_on : Def K mg "read_on" "read_on" s_read_on
  d_is_row : Def K mg "is_row" "is_row" s_is_row
  d_is_long_text : Def K mg "is_long_text" "is_long_text" s_is_long_text
  d_read_all : Def K mg "read_all" "read_all" s_read_all
  d_sums_of : Def K mg "sums_of" "sums_of" s_sums_of
  d_round_sums : Def K mg "round_sums" "round_sums" s_round_sums
  d__law_stream : Def K mg "_law_stream" "_law_stream" s__law_stream
  d__law_next : Def K mg "_law_next" "_law_next" s__law_next
  d__law_cost : Def K mg "_law_cost" "_law_cost" s__law_cost
  d__law_words : Def K mg "_law_words" "_law_words" s__law_words
  d__law_letters : Def K mg "_law_letters" "_law_letters" s__law_letters
  d__law_text : Def K mg "_law_text" "_law_text" s__law_text
  d__law_match : Def K mg "_law_match" "_law_match" s__law_match
  d__law_sum : Def K mg "_law_sum" "_law_sum" s__law_sum
  d__law_least : Def K mg "_law_least" "_law_least" s__law_least
  d__law_grows : Def K mg "_law_grows" "_law_grows" s__law_grows
  d__law_read : Def K mg "_law_read" "_law_read" s__law_read
  d_law : Def K mg "law" "law" s_law
end Gc
/-! Word lists are accepted. -/
namespace Gc
open PySem PySem.Spec PyProof.Rows L2 Evl
section
variable {P : Program} {w : World} {K : PySem.W.Frag} {mg : Str → Option Value} {base : Heap}

/-! ### is_between -/
def sp_is_between (K : PySem.W.Frag) : Sp := spV fun vs H v => ∃ x lo hi : Int, vs = [.int x, .int lo, .int hi] ∧ v = .bl (decide (lo ≤ x) && decide (x ≤ hi))
theorem ok_is_between (T : Top K mg) : Cal P w K mg base "is_between" 1 ["value", "low", "high"] (sp_is_between K) := by
  obtain ⟨f, fd, F, hg⟩ := T.d_is_between
  refine ⟨f, fd, F.ok sc_is_between (fun vs H Q E h => by
      obtain ⟨_, ⟨_, _, _, rfl, _⟩, _⟩ := h
      rfl) (fun cdv A outer s H vs Q E hr h => ?_), hg, F.kp, F.binds (ps := ["value", "low", "high"]) fun _ _ _ _ _ _ us hl => match us, hl with | [_, _, _], _ => rfl⟩
  have nd := sc_is_between.nd
  refine ⟨(tRet (tAndV (tCB (rIsi K) (tCons (tVar 0) (tCons (tC (.ty "int")) tNil))) (tAndV (tNotV (tCB (rIsi K) (tCons (tVar 0) (tCons (tC (.ty "bool")) tNil)))) (tChain rLeI rLeI (tVar 1) (tVar 0) (tVar 2))))), (pss_one (ps_ret (pe_and (pe_callB (r := (rIsi K)) call_isi (by rfl) T.n_isinstance (by decide +kernel) (pa_cons (pv 0) (pa_cons (pe_bltn (v := .ty "int") (by rfl) T.n_int (by decide +kernel) rfl) pa_nil))) (pe_and (pe_not (pe_callB (r := (rIsi K)) call_isi (by rfl) T.n_isinstance (by decide +kernel) (pa_cons (pv 0) (pa_cons (pe_bltn (v := .ty "bool") (by rfl) T.n_bool (by decide +kernel) rfl) pa_nil)))) (pe_one (pe_chain (r := rLeI) (r' := rLeI) op_le op_le (pv 1) (pv 0) (pv 2))))))), ?_⟩
  obtain ⟨v, ⟨x, lo, hi, rfl, rfl⟩, q⟩ := h
  refine s_ret (v := .bl (decide (lo ≤ x) && decide (x ≤ hi))) ?_ q
  exact ev_andV (a := true) (ev_isi (ev_var rfl) (fun _ _ => ty_int) (by decide +kernel)) fun _ => ev_andV (a := true) (ev_notV (a := false) (ev_isi (ev_var rfl) (fun _ _ => ty_int) (by decide +kernel))) fun _ =>
    ev_chain (ev_var rfl) (ev_var rfl) rv_I0 (fun _ => ev_var rfl) fun _ => rv_I0

/-! ### is_word -/
def WordOk (t : Tx) : Prop := (1 ≤ t.length ∧ t.length ≤ 4) ∧ ∀ c ∈ t, 97 ≤ c ∧ c ≤ 99
theorem alph_mem {c : Nat} (h : 97 ≤ c ∧ c ≤ 99) : c ∈ alph := by
  obtain ⟨h1, h2⟩ := h
  rcases (show c = 97 ∨ c = 98 ∨ c = 99 by omega) with rfl | rfl | rfl <;> decide
theorem all_true {α : Type} (l : List α) (f : α → Bool) (h : ∀ x ∈ l, f x = true) : (l.map f).all id = true := by
  rw [List.all_map]
  exact List.all_eq_true.mpr fun x hx => h x hx
def sp_is_word (K : PySem.W.Frag) : Sp := spV fun vs H v => ∃ t : Tx, vs = [vS t] ∧ WordOk t ∧ v = .bl true
theorem ok_is_word (T : Top K mg) : Cal P w K mg base "is_word" 1 ["value"] (sp_is_word K) := by
  obtain ⟨f, fd, F, hg⟩ := T.d_is_word
  obtain ⟨u_ALPHABET, g_ALPHABET, r_ALPHABET⟩ := T.c_ALPHABET
  obtain ⟨u_LONGEST, g_LONGEST, r_LONGEST⟩ := T.c_LONGEST
  refine ⟨f, fd, F.ok sc_is_word (fun vs H Q E h => by
      obtain ⟨_, ⟨_, rfl, _⟩, _⟩ := h
      rfl) (fun cdv A outer s H vs Q E hr h => ?_), hg, F.kp, F.binds (ps := ["value"]) fun _ _ _ _ _ _ us hl => match us, hl with | [_], _ => rfl⟩
  have nd := sc_is_word.nd
  refine ⟨(tSeq (tIfS (tOr (tNot (tB (tCB (rIsi K) (tCons (tVar 0) (tCons (tC (.ty "str")) tNil))))) (tNot (tTest (tChain rLeI rLeI (tC (.int 1)) (tCB rLenStr (tCons (tVar 0) tNil)) (tC (.int 4))))))
      (tRet (tC (.bl false))) tNext)
      (tRet (tCB (rAll K) (tCons (tLc (iStr (tVar 0)) (gName 1) tYes (tOp rInSg (tVar 1) (tC (.str (mk alph)))) [1]) tNil)))), (pss_cons (ps_if (PW.pt (pw_or (pt_not (pt_val (pe_callB (r := (rIsi K)) call_isi (by rfl) T.n_isinstance (by decide +kernel) (pa_cons (pv 0) (pa_cons (pe_bltn (v := .ty "str") (by rfl) T.n_str (by decide +kernel) rfl) pa_nil))))) (pw_or1 (pt_not (pt_chain (r := rLeI) (r' := rLeI) op_le op_le pe_int (pe_callB (r := rLenStr) call_len_str (by rfl) T.n_len PySem.boot_len (pa_cons (pv 0) pa_nil)) (pe_glob (v := .int 4) rfl g_LONGEST r_LONGEST))))))
      (pss_one (ps_ret pe_bl)) pss_nil)
      (pss_one (ps_ret (pe_callB (r := (rAll K)) (cr_all rfl) (by rfl) T.n_all (by decide +kernel) (pa_cons (pe_lc (own := [("letter", 1)]) (wi := (iStr (tVar 0))) (g := (gName 1)) (tt := tYes) (te := (tOp rInSg (tVar 1) (tC (.str (mk alph))))) rfl nd (pi_str (pv 0)) (blkOk_by (N := ["value", "letter"]) (sc := defScope s_is_word) (own := [("letter", 1)]) (by decide +kernel)) (fun _ _ _ _ _ => (pg_name (i := 1) nd rfl (Or.inl rfl))) (fun _ _ _ _ _ => pts_nil) (fun _ _ _ _ _ => (pe_cmpR (r := rInSg) op_in_sign (pv 1) (pe_glob (v := .str (mk alph)) rfl g_ALPHABET r_ALPHABET) rfl))) pa_nil))))), ?_⟩
  obtain ⟨v, ⟨t, rfl, ⟨⟨h1, h2⟩, h3⟩, rfl⟩, q⟩ := h
  refine q_when (b := false) (et_or (a := false) (et_not (a := true) (et_B (ev_isi (ev_var rfl) (fun _ _ => ty_str) (by decide +kernel)))) fun _ => et_not (a := true) ?_) (fun e => nomatch e) fun _ H1 e1 => ?_
  · refine et_test (ev_is (ev_chain (b1 := decide ((1 : Int) ≤ (t.length : Int))) (b2 := decide ((t.length : Int) ≤ 4)) ev_c (ev_lenS (ev_var rfl) (by omega)) rv_I0 (fun _ => ev_c) fun _ => rv_I0) ?_)
    rw [decide_eq_true (by omega), decide_eq_true (by omega)]
    rfl
  · refine s_ret (v := .bl true) ?_ fun H2 e2 => q H2 (e1.trans e2)
    have h := ev_all (K := K) (bs := t.map fun c => decide (c ∈ alph)) (by
      rw [List.map_map]
      have e := el_lcS (σ := [some (vS t), none]) (H := H1) (vs := [1]) (j := 1) (tt := tYes) (te := tOp rInSg (tVar 1) (tC (.str (mk alph)))) (ts := tVar 0) (a := t) (fun _ => true) (fun c => .bl (decide (c ∈ alph))) (ev_var rfl) (by omega) (fun _ => rfl) (fun _ _ => et_yes)
        (fun c hc _ => ev_inSign (ev_var rfl) ev_c)
      rw [filter_yes] at e
      exact e)
    rw [all_true t _ fun c hc => decide_eq_true (alph_mem (h3 c hc))] at h
    exact h

/-! ### is_entry -/
def sp_is_entry (K : PySem.W.Frag) : Sp := spV fun vs H v => ∃ (a : Addr) (t : Tx) (c : Int), vs = [.ref a] ∧ SqT K H a [vS t, .int c] ∧ WordOk t ∧ (1 ≤ c ∧ c ≤ 9) ∧ v = .bl true
theorem ok_is_entry (T : Top K mg) : Cal P w K mg base "is_entry" 2 ["value"] (sp_is_entry K) := by
  obtain ⟨f, fd, F, hg⟩ := T.d_is_entry
  have c_is_word : Cal P w K mg base "is_word" 1 ["value"] (sp_is_word K) := ok_is_word T
  have c_is_between : Cal P w K mg base "is_between" 1 ["value", "low", "high"] (sp_is_between K) := ok_is_between T
  obtain ⟨u_MOST_COST, g_MOST_COST, r_MOST_COST⟩ := T.c_MOST_COST
  refine ⟨f, fd, F.ok sc_is_entry (fun vs H Q E h => by
      obtain ⟨_, ⟨_, _, _, rfl, _⟩, _⟩ := h
      rfl) (fun cdv A outer s H vs Q E hr h => ?_), hg, F.kp, F.binds (ps := ["value"]) fun _ _ _ _ _ _ us hl => match us, hl with | [_], _ => rfl⟩
  have nd := sc_is_entry.nd
  refine ⟨(tRet (tAndV (tCB (rIsi K) (tCons (tVar 0) (tCons (tC (.ty "tuple")) tNil))) (tAndV (tOp rEq (tCB (rLenS K) (tCons (tVar 0) tNil)) (tC (.int 2))) (tAndV (tCall (sp_is_word K) [] E0 (tCons (tOp (rIxT K) (tVar 0) (tC (.int 0))) tNil)) (tCall (sp_is_between K) [] E0 (tCons (tOp (rIxT K) (tVar 0) (tC (.int 1))) (tCons (tC (.int 1)) (tCons (tC (.int 9)) tNil)))))))), (pss_one (ps_ret (pe_and (pe_callB (r := (rIsi K)) call_isi (by rfl) T.n_isinstance (by decide +kernel) (pa_cons (pv 0) (pa_cons (pe_bltn (v := .ty "tuple") (by rfl) T.n_tuple (by decide +kernel) rfl) pa_nil))) (pe_and (pe_cmpR (r := rEq) op_eq (pe_callB (r := (rLenS K)) call_len_seq (by rfl) T.n_len PySem.boot_len (pa_cons (pv 0) pa_nil)) pe_int (nomark _)) (pe_and (pe_own c_is_word hr (by decide) (by rfl) (pa_cons (pe_ix (r := (rIxT K)) ix_tup (pv 0) pe_int (fun _ _ => rfl)) pa_nil)) (pe_one (pe_own c_is_between hr (by decide) (by rfl) (pa_cons (pe_ix (r := (rIxT K)) ix_tup (pv 0) pe_int (fun _ _ => rfl)) (pa_cons pe_int (pa_cons (pe_glob (v := .int 9) rfl g_MOST_COST r_MOST_COST) pa_nil)))))))))), ?_⟩
  obtain ⟨v, ⟨a, t, c, rfl, ha, hw, hc, rfl⟩, q⟩ := h
  refine s_ret (v := .bl true) ?_ q
  refine ev_andV (a := true) (ev_isi (ev_var rfl) (fun _ e => ty_tup (ex_t e ha)) (by decide +kernel)) fun _ => ev_andV (a := true) (ev_is (ev_eqI (ev_lenT (ev_var rfl) ha) ev_c) rfl) fun _ => ev_andV (a := true) ?_ fun _ => ?_
  · exact ev_spV (ea_1 (ev_ixT (i := 0) (ev_var rfl) ev_c ha rfl)) fun H1 e => ⟨t, rfl, hw, rfl⟩
  · exact ev_spV (ea_3 (ev_ixT (i := 1) (ev_var rfl) ev_c ha rfl) ev_c ev_c) fun H1 e => ⟨c, 1, 9, rfl, by
      rw [decide_eq_true hc.1, decide_eq_true hc.2]
      rfl⟩

/-! ### is_list -/
def sp_is_list (K : PySem.W.Frag) : Sp := spV fun vs H v => ∃ (a : Addr) (ws : WL), vs = [.ref a] ∧ WA K H a ws ∧ Ok ws ∧ v = .bl true
theorem WA.len {K : PySem.W.Frag} {H : Hp} {a : Addr} {ws : WL} (h : WA K H a ws) : ∃ ts : List Addr, SqT K H a (ts.map V.ref) ∧ (ts.map V.ref).length = ws.length := by
  obtain ⟨ts, h1, h2, _⟩ := h
  exact ⟨ts, h1, by rw [List.length_map, h2]⟩
theorem Ok.wok {ws : WL} (ok : Ok ws) {p : Tx × Int} (hp : p ∈ ws) : WordOk p.1 := ⟨ok.word p hp, ok.alph p hp⟩
theorem names_sz {ws : WL} (h : ∀ p ∈ ws, p.1.length ≤ 4) : (names ws).flatten.length ≤ 4 * ws.length := by
  induction ws with
  | nil => exact Nat.zero_le _
  | cons p r ih =>
    have h1 := h p List.mem_cons_self
    have h2 := ih fun q hq => h q (List.mem_cons_of_mem _ hq)
    unfold names at h2 ⊢
    rw [List.map_cons, List.flatten_cons, List.length_append, List.length_cons]
    omega
theorem Ok.sz {ws : WL} (ok : Ok ws) : (names ws).flatten.length ≤ 32 := by
  have h1 := names_sz fun p hp => (ok.word p hp).2
  have h2 := ok.len8
  omega
theorem ok_is_list (T : Top K mg) : Cal P w K mg base "is_list" 3 ["value"] (sp_is_list K) := by
  obtain ⟨f, fd, F, hg⟩ := T.d_is_list
  have c_is_entry : Cal P w K mg base "is_entry" 2 ["value"] (sp_is_entry K) := ok_is_entry T
  obtain ⟨u_MOST_WORDS, g_MOST_WORDS, r_MOST_WORDS⟩ := T.c_MOST_WORDS
  refine ⟨f, fd, F.ok sc_is_list (fun vs H Q E h => by
      obtain ⟨_, ⟨_, _, rfl, _⟩, _⟩ := h
      rfl) (fun cdv A outer s H vs Q E hr h => ?_), hg, F.kp, F.binds (ps := ["value"]) fun _ _ _ _ _ _ us hl => match us, hl with | [_], _ => rfl⟩
  have nd := sc_is_list.nd
  refine ⟨(tSeq (tIfS (tOr (tNot (tB (tCB (rIsi K) (tCons (tVar 0) (tCons (tC (.ty "tuple")) tNil))))) (tOr (tNot (tTest (tChain rLeI rLeI (tC (.int 1)) (tCB (rLenS K) (tCons (tVar 0) tNil)) (tC (.int 8))))) (tNot (tB (tCB (rAll K) (tCons (tLc (iTup K (tVar 0)) (gName 5) tYes (tCall (sp_is_entry K) [] E0 (tCons (tVar 5) tNil)) [5]) tNil))))))
      (tRet (tC (.bl false))) tNext)
      (tSeq (tAsg (tLc (iTup K (tVar 0)) (gName 2) tYes (tOp (rIxT K) (tVar 2) (tC (.int 0))) [2]) (gName 1))
      (tSeq (tIfS (tNot (tB (tCB (rAll K) (tCons (tLc (iRng1 (tCons (tOp rSubI (tCB (rLenS K) (tCons (tVar 1) tNil)) (tC (.int 1))) tNil)) (gName 4) tYes (tOp rLtStr (tOp (rIxL K) (tVar 1) (tVar 4)) (tOp (rIxL K) (tVar 1) (tOp rAddI (tVar 4) (tC (.int 1))))) [4]) tNil))))
      (tRet (tC (.bl false))) tNext)
      (tRet (tCB (rAll K) (tCons (tLc (iStr (tM1 (rJoin K) (tC (.str (Str.ofString ""))) (tVar 1))) (gName 3) tYes (tOp (rIn K false) (tVar 3) (tVar 1)) [3]) tNil)))))), (pss_cons (ps_if (PW.pt (pw_or (pt_not (pt_val (pe_callB (r := (rIsi K)) call_isi (by rfl) T.n_isinstance (by decide +kernel) (pa_cons (pv 0) (pa_cons (pe_bltn (v := .ty "tuple") (by rfl) T.n_tuple (by decide +kernel) rfl) pa_nil))))) (pw_or (pt_not (pt_chain (r := rLeI) (r' := rLeI) op_le op_le pe_int (pe_callB (r := (rLenS K)) call_len_seq (by rfl) T.n_len PySem.boot_len (pa_cons (pv 0) pa_nil)) (pe_glob (v := .int 8) rfl g_MOST_WORDS r_MOST_WORDS))) (pw_or1 (pt_not (pt_val (pe_callB (r := (rAll K)) (cr_all rfl) (by rfl) T.n_all (by decide +kernel) (pa_cons (pe_lc (own := [("one", 5)]) (wi := (iTup K (tVar 0))) (g := (gName 5)) (tt := tYes) (te := (tCall (sp_is_entry K) [] E0 (tCons (tVar 5) tNil))) rfl nd (pi_tup (pv 0)) (blkOk_by (N := ["value", "names", "entry", "letter", "at", "one"]) (sc := defScope s_is_list) (own := [("one", 5)]) (by decide +kernel)) (fun _ _ _ _ _ => (pg_name (i := 5) nd rfl (Or.inl rfl))) (fun _ _ _ _ _ => pts_nil) (fun _ _ _ _ _ => (pe_own c_is_entry hr (by decide) (by rfl) (pa_cons (pv 5) pa_nil)))) pa_nil))))))))
      (pss_one (ps_ret pe_bl)) pss_nil)
      (pss_cons (ps_set (i := 1) nd rfl (Or.inr rfl) (pe_lc (own := [("entry", 2)]) (wi := (iTup K (tVar 0))) (g := (gName 2)) (tt := tYes) (te := (tOp (rIxT K) (tVar 2) (tC (.int 0)))) rfl nd (pi_tup (pv 0)) (blkOk_by (N := ["value", "names", "entry", "letter", "at", "one"]) (sc := defScope s_is_list) (own := [("entry", 2)]) (by decide +kernel)) (fun _ _ _ _ _ => (pg_name (i := 2) nd rfl (Or.inl rfl))) (fun _ _ _ _ _ => pts_nil) (fun _ _ _ _ _ => (pe_ix (r := (rIxT K)) ix_tup (pv 2) pe_int (fun _ _ => rfl)))))
      (pss_cons (ps_if (pt_not (pt_val (pe_callB (r := (rAll K)) (cr_all rfl) (by rfl) T.n_all (by decide +kernel) (pa_cons (pe_lc (own := [("at", 4)]) (wi := (iRng1 (tCons (tOp rSubI (tCB (rLenS K) (tCons (tVar 1) tNil)) (tC (.int 1))) tNil))) (g := (gName 4)) (tt := tYes) (te := (tOp rLtStr (tOp (rIxL K) (tVar 1) (tVar 4)) (tOp (rIxL K) (tVar 1) (tOp rAddI (tVar 4) (tC (.int 1)))))) rfl nd (pi_range1 (by rfl) T.n_range (pa_cons (pe_op (r := rSubI) op_sub (pe_callB (r := (rLenS K)) call_len_seq (by rfl) T.n_len PySem.boot_len (pa_cons (pv 1) pa_nil)) pe_int) pa_nil)) (blkOk_by (N := ["value", "names", "entry", "letter", "at", "one"]) (sc := defScope s_is_list) (own := [("at", 4)]) (by decide +kernel)) (fun _ _ _ _ _ => (pg_name (i := 4) nd rfl (Or.inl rfl))) (fun _ _ _ _ _ => pts_nil) (fun _ _ _ _ _ => (pe_cmpR (r := rLtStr) op_lt_str (pe_ix (r := (rIxL K)) ix_list (pv 1) (pv 4) (fun _ _ => rfl)) (pe_ix (r := (rIxL K)) ix_list (pv 1) (pe_op (r := rAddI) op_add (pv 4) pe_int) (fun _ _ => rfl)) (nomark _)))) pa_nil))))
      (pss_one (ps_ret pe_bl)) pss_nil)
      (pss_one (ps_ret (pe_callB (r := (rAll K)) (cr_all rfl) (by rfl) T.n_all (by decide +kernel) (pa_cons (pe_lc (own := [("letter", 3)]) (wi := (iStr (tM1 (rJoin K) (tC (.str (Str.ofString ""))) (tVar 1)))) (g := (gName 3)) (tt := tYes) (te := (tOp (rIn K false) (tVar 3) (tVar 1))) rfl nd (pi_str (pe_join pe_str (pv 1))) (blkOk_by (N := ["value", "names", "entry", "letter", "at", "one"]) (sc := defScope s_is_list) (own := [("letter", 3)]) (by decide +kernel)) (fun _ _ _ _ _ => (pg_name (i := 3) nd rfl (Or.inl rfl))) (fun _ _ _ _ _ => pts_nil) (fun _ _ _ _ _ => (pe_cmpR (r := (rIn K false)) op_in_seq (pv 3) (pv 1) rfl))) pa_nil))))))), ?_⟩
  obtain ⟨v, ⟨a, ws, rfl, hW, ok, rfl⟩, q⟩ := h
  have len1 := ok.len1
  have len8 := ok.len8
  obtain ⟨ts, hT, hl⟩ := hW.len
  refine q_when (b := false) (et_or (a := false) (et_not (a := true) (et_B (ev_isi (ev_var rfl) (fun _ e => ty_tup (ex_t e hT)) (by decide +kernel)))) fun _ => et_or (a := false) (et_not (a := true) ?_) fun _ => et_not (a := true) ?_) (fun e => nomatch e) fun _ H1 e1 => ?_
  · refine et_test (ev_is (ev_chain (b1 := decide ((1 : Int) ≤ ((ts.map V.ref).length : Int))) (b2 := decide (((ts.map V.ref).length : Int) ≤ 8)) ev_c (ev_lenT (ev_var rfl) hT) rv_I0 (fun _ => ev_c) fun _ => rv_I0) ?_)
    rw [hl, decide_eq_true (by omega), decide_eq_true (by omega)]
    rfl
  · refine et_B ?_
    have h := ev_all (K := K) (σ := [some (.ref a), none, none, none, none, none]) (H := H) (bs := ws.map fun _ => true) (by
      rw [List.map_map]
      have e := el_lcE (K := K) (σ := [some (.ref a), none, none, none, none, none]) (H := H) (vs := [5]) (j := 5) (tt := tYes) (te := tCall (sp_is_entry K) [] E0 (tCons (tVar 5) tNil)) (tl := tVar 0) (ws := ws) (fun _ => true) (fun _ => .bl true) (ev_var rfl) hW (by omega) (fun _ => rfl) (fun _ _ _ _ => et_yes)
        (fun p t hp ht _ => ev_spV (ea_1 (ev_var rfl)) fun H1 e => ⟨t, p.1, p.2, rfl, ex_t e ht, ok.wok hp, ok.cost p hp, rfl⟩)
      rw [filter_yes] at e
      exact e)
    rw [all_true ws _ fun _ _ => rfl] at h
    exact h
  · -- names
    have en := el_lcE (K := K) (σ := [some (.ref a), none, none, none, none, none]) (H := H1) (vs := [2]) (j := 2) (tt := tYes) (te := tOp (rIxT K) (tVar 2) (tC (.int 0))) (tl := tVar 0) (ws := ws) (fun _ => true) (fun p => vS p.1) (ev_var rfl) (hW.mono e1) (by omega) (fun _ => rfl) (fun _ _ _ _ => et_yes)
        (fun p t hp ht _ => ev_ixT (i := 0) (ev_var rfl) ev_c ht rfl)
    rw [filter_yes] at en
    refine q_asgL en fun n H2 hn e2 hN => ?_
    have hN : SqL K H2 n ((names ws).map vS) := by
      rw [show (names ws).map vS = ws.map fun p => vS p.1 by
        unfold names
        rw [List.map_map]
        rfl]
      exact sq_of hN
    have hnl : (names ws).length = ws.length := by
      unfold names
      rw [List.length_map]
    refine q_when (b := false) (et_not (a := true) (et_B ?_)) (fun e => nomatch e) fun _ H3 e3 => ?_
    · have h := ev_all (K := K) (σ := [some (.ref a), some (.ref n), none, none, none, none]) (H := H2) (bs := (List.range (ws.length - 1)).map fun i => decide (((names ws)[i]?).getD [] < ((names ws)[i + 1]?).getD [])) (by
        rw [List.map_map]
        have e := el_lcR (σ := [some (.ref a), some (.ref n), none, none, none, none]) (H := H2) (vs := [4]) (j := 4) (tt := tYes) (te := tOp rLtStr (tOp (rIxL K) (tVar 1) (tVar 4)) (tOp (rIxL K) (tVar 1) (tOp rAddI (tVar 4) (tC (.int 1))))) (ar := tCons (tOp rSubI (tCB (rLenS K) (tCons (tVar 1) tNil)) (tC (.int 1))) tNil) (n := ws.length - 1) (fun _ => true)
          (fun i => .bl (decide (((names ws)[i]?).getD [] < ((names ws)[i + 1]?).getD []))) (ea_1 (ev_is (ev_subI (ev_len (ev_var rfl) hN) ev_c) (by
            rw [List.length_map, hnl, show ((ws.length : Nat) : Int) - 1 = ((ws.length - 1 : Nat) : Int) by omega]))) (by omega) (fun _ => rfl) (fun _ _ => et_yes)
          (fun i hi _ => ev_ltS (ev_ixL (ev_var rfl) (ev_var rfl) hN (atI_nat (j := i) (by
              rw [List.getElem?_map, List.getElem?_eq_getElem (show i < (names ws).length by omega)]
              rfl))) (ev_ixL (ev_var rfl) (ev_addI (ev_var rfl) ev_c) hN (atI_nat (j := i + 1) (by
              rw [List.getElem?_map, List.getElem?_eq_getElem (show i + 1 < (names ws).length by omega)]
              rfl))))
        rw [filter_yes] at e
        exact e)
      rw [all_true _ _ fun i hi => by
        have hi := List.mem_range.mp hi
        rw [List.getElem?_eq_getElem (show i < (names ws).length by omega), List.getElem?_eq_getElem (show i + 1 < (names ws).length by omega)]
        exact decide_eq_true (List.pairwise_iff_getElem.mp ok.sort i (i + 1) (by omega) (by omega) (by omega))] at h
      exact h
    · refine s_ret (v := .bl true) ?_ fun H4 e4 => q H4 (((e1.trans e2).trans e3).trans e4)
      have hN3 := ex_l e3 hN
      have h := ev_all (K := K) (σ := [some (.ref a), some (.ref n), none, none, none, none]) (H := H3) (bs := ((names ws).flatten).map fun c => decide ([c] ∈ names ws)) (by
        rw [List.map_map]
        have e := el_lcS (σ := [some (.ref a), some (.ref n), none, none, none, none]) (H := H3) (vs := [3]) (j := 3) (tt := tYes) (te := tOp (rIn K false) (tVar 3) (tVar 1)) (ts := tM1 (rJoin K) (tC (.str (Str.ofString ""))) (tVar 1)) (a := (names ws).flatten) (fun _ => true) (fun c => .bl (decide ([c] ∈ names ws)))
          (ev_joinL ev_nil (ev_var rfl) hN3 (by have := ok.sz; omega)) (by have := ok.sz; omega) (fun _ => rfl) (fun _ _ => et_yes) (fun c hc _ => ev_inL (ev_var rfl) (ev_var rfl) hN3)
        rw [filter_yes] at e
        exact e)
      rw [all_true _ _ fun c hc => by
        obtain ⟨t, ht, hc⟩ := List.mem_flatten.mp hc
        obtain ⟨p, hp, e⟩ := List.mem_map.mp ht
        exact decide_eq_true (ok.lets p hp c (by rw [e]; exact hc))] at h
      exact h
end
end Gc
/-! Words, matches, the reader. -/
namespace Gc
open PySem PySem.Spec PyProof.Rows L2 Evl
section
variable {P : Program} {w : World} {K : PySem.W.Frag} {mg : Str → Option Value} {base : Heap}

/-! ### letters_in, names_in -/
def sp_letters_in (K : PySem.W.Frag) : Sp := spV fun vs H v => ∃ (a : Addr) (ws : WL), vs = [.ref a] ∧ WA K H a ws ∧ Ok ws ∧ v = vS (lets ws).flatten
theorem map_lets (ws : WL) : (ws.filter fun p => decide (p.1.length = 1)).map (fun p => vS p.1) = (lets ws).map vS := by
  unfold lets
  rw [List.map_map]
  rfl
theorem map_names (ws : WL) : ws.map (fun p => vS p.1) = (names ws).map vS := by
  unfold names
  rw [List.map_map]
  rfl
theorem dec_cast (a b : Nat) : decide ((a : Int) = (b : Int)) = decide (a = b) := decide_eq_decide.mpr (by omega)
theorem dec_lt (a b : Nat) : decide ((a : Int) < (b : Int)) = decide (a < b) := decide_eq_decide.mpr (by omega)
theorem ok_letters_in (T : Top K mg) : Cal P w K mg base "letters_in" 1 ["words"] (sp_letters_in K) := by
  obtain ⟨f, fd, F, hg⟩ := T.d_letters_in
  refine ⟨f, fd, F.ok sc_letters_in (fun vs H Q E h => by
      obtain ⟨_, ⟨_, _, rfl, _⟩, _⟩ := h
      rfl) (fun cdv A outer s H vs Q E hr h => ?_), hg, F.kp, F.binds (ps := ["words"]) fun _ _ _ _ _ _ us hl => match us, hl with | [_], _ => rfl⟩
  have nd := sc_letters_in.nd
  refine ⟨(tRet (tM1 (rJoin K) (tC (.str (Str.ofString ""))) (tLc (iTup K (tVar 0)) (gName 1) (tTest (tOp rEq (tCB rLenStr (tCons (tOp (rIxT K) (tVar 1) (tC (.int 0))) tNil)) (tC (.int 1)))) (tOp (rIxT K) (tVar 1) (tC (.int 0))) [1]))), (pss_one (ps_ret (pe_join pe_str (pe_lc (own := [("entry", 1)]) (wi := (iTup K (tVar 0))) (g := (gName 1)) (tt := (tTest (tOp rEq (tCB rLenStr (tCons (tOp (rIxT K) (tVar 1) (tC (.int 0))) tNil)) (tC (.int 1))))) (te := (tOp (rIxT K) (tVar 1) (tC (.int 0)))) rfl nd (pi_tup (pv 0)) (blkOk_by (N := ["words", "entry"]) (sc := defScope s_letters_in) (own := [("entry", 1)]) (by decide +kernel)) (fun _ _ _ _ _ => (pg_name (i := 1) nd rfl (Or.inl rfl))) (fun _ _ _ _ _ => pts_one (pt_cmpR (r := rEq) op_eq (pe_callB (r := rLenStr) call_len_str (by rfl) T.n_len PySem.boot_len (pa_cons (pe_ix (r := (rIxT K)) ix_tup (pv 1) pe_int (fun _ _ => rfl)) pa_nil)) pe_int (nomark _))) (fun _ _ _ _ _ => (pe_ix (r := (rIxT K)) ix_tup (pv 1) pe_int (fun _ _ => rfl))))))), ?_⟩
  obtain ⟨v, ⟨a, ws, rfl, hW, ok, rfl⟩, q⟩ := h
  have l8 := ok.len8
  refine s_ret (v := vS (lets ws).flatten) (ev_joinN ev_nil ?_ (by have := lets_sz ok; omega)) q
  rw [← map_lets]
  exact el_lcE _ _ (ev_var rfl) hW (by omega) (fun _ => rfl) (fun p t hp ht => et_test (ev_is (ev_eqI (ev_lenS (ev_ixT (i := 0) (ev_var rfl) ev_c ht rfl) (by have := (ok.word p hp).2; omega)) ev_c) (congrArg V.bl (dec_cast _ 1))))
    fun p t hp ht _ => ev_ixT (i := 0) (ev_var rfl) ev_c ht rfl

def sp_names_in (K : PySem.W.Frag) : Sp := spL fun vs H xs => ∃ (a : Addr) (ws : WL), vs = [.ref a] ∧ WA K H a ws ∧ Ok ws ∧ xs = (names ws).map vS
theorem ok_names_in (T : Top K mg) : Cal P w K mg base "names_in" 1 ["words"] (sp_names_in K) := by
  obtain ⟨f, fd, F, hg⟩ := T.d_names_in
  refine ⟨f, fd, F.ok sc_names_in (fun vs H Q E h => by
      obtain ⟨_, ⟨_, _, rfl, _⟩, _⟩ := h
      rfl) (fun cdv A outer s H vs Q E hr h => ?_), hg, F.kp, F.binds (ps := ["words"]) fun _ _ _ _ _ _ us hl => match us, hl with | [_], _ => rfl⟩
  have nd := sc_names_in.nd
  refine ⟨(tRet (tLc (iTup K (tVar 0)) (gName 1) tYes (tOp (rIxT K) (tVar 1) (tC (.int 0))) [1])), (pss_one (ps_ret (pe_lc (own := [("entry", 1)]) (wi := (iTup K (tVar 0))) (g := (gName 1)) (tt := tYes) (te := (tOp (rIxT K) (tVar 1) (tC (.int 0)))) rfl nd (pi_tup (pv 0)) (blkOk_by (N := ["words", "entry"]) (sc := defScope s_names_in) (own := [("entry", 1)]) (by decide +kernel)) (fun _ _ _ _ _ => (pg_name (i := 1) nd rfl (Or.inl rfl))) (fun _ _ _ _ _ => pts_nil) (fun _ _ _ _ _ => (pe_ix (r := (rIxT K)) ix_tup (pv 1) pe_int (fun _ _ => rfl)))))), ?_⟩
  obtain ⟨xs, ⟨a, ws, rfl, hW, ok, rfl⟩, q⟩ := h
  have l8 := ok.len8
  refine s_retL (xs := (names ws).map vS) ?_ q
  rw [← map_names]
  exact el_lcEY _ (ev_var rfl) hW (by omega) (fun _ => rfl) fun p t hp ht => ev_ixT (i := 0) (ev_var rfl) ev_c ht rfl

/-! ### cost_in, has_word -/
def sp_cost_in (K : PySem.W.Frag) : Sp := spV fun vs H v => ∃ (a : Addr) (ws : WL) (t : Tx), vs = [.ref a, vS t] ∧ WA K H a ws ∧ Ok ws ∧ t ∈ names ws ∧ v = .int (cst ws t)
theorem ok_cost_in (T : Top K mg) : Cal P w K mg base "cost_in" 1 ["words", "word"] (sp_cost_in K) := by
  obtain ⟨f, fd, F, hg⟩ := T.d_cost_in
  refine ⟨f, fd, F.ok sc_cost_in (fun vs H Q E h => by
      obtain ⟨_, ⟨_, _, _, rfl, _⟩, _⟩ := h
      rfl) (fun cdv A outer s H vs Q E hr h => ?_), hg, F.kp, F.binds (ps := ["words", "word"]) fun _ _ _ _ _ _ us hl => match us, hl with | [_, _], _ => rfl⟩
  have nd := sc_cost_in.nd
  refine ⟨(tRet (tOp (rIxL K) (tLc (iTup K (tVar 0)) (gName 2) (tTest (tOp rEq (tOp (rIxT K) (tVar 2) (tC (.int 0))) (tVar 1))) (tOp (rIxT K) (tVar 2) (tC (.int 1))) [2]) (tC (.int 0)))), (pss_one (ps_ret (pe_ix (r := (rIxL K)) ix_list (pe_lc (own := [("entry", 2)]) (wi := (iTup K (tVar 0))) (g := (gName 2)) (tt := (tTest (tOp rEq (tOp (rIxT K) (tVar 2) (tC (.int 0))) (tVar 1)))) (te := (tOp (rIxT K) (tVar 2) (tC (.int 1)))) rfl nd (pi_tup (pv 0)) (blkOk_by (N := ["words", "word", "entry"]) (sc := defScope s_cost_in) (own := [("entry", 2)]) (by decide +kernel)) (fun _ _ _ _ _ => (pg_name (i := 2) nd rfl (Or.inl rfl))) (fun _ _ _ _ _ => pts_one (pt_cmpR (r := rEq) op_eq (pe_ix (r := (rIxT K)) ix_tup (pv 2) pe_int (fun _ _ => rfl)) (pv 1) (nomark _))) (fun _ _ _ _ _ => (pe_ix (r := (rIxT K)) ix_tup (pv 2) pe_int (fun _ _ => rfl)))) pe_int (fun _ _ => rfl)))), ?_⟩
  obtain ⟨v, ⟨a, ws, t, rfl, hW, ok, ht, rfl⟩, q⟩ := h
  have l8 := ok.len8
  refine s_ret (v := .int (cst ws t)) ?_ q
  refine ev_ixN (i := 0) (xs := (ws.filter fun p => decide (p.1 = t)).map fun p => .int p.2) ?_ ev_c (atI_nat (j := 0) ?_)
  · exact el_lcE _ _ (ev_var rfl) hW (by omega) (fun _ => rfl) (fun p t hp ht => et_test (ev_eqS (ev_ixT (i := 0) (ev_var rfl) ev_c ht rfl) (ev_var rfl)))
      fun p t hp ht _ => ev_ixT (i := 1) (ev_var rfl) ev_c ht rfl
  · have h := cst_head ht
    rw [show (fun p : Tx × Int => V.int p.2) = V.int ∘ (·.2) from rfl, ← List.map_map, List.getElem?_map, h]
    rfl

def sp_has_word (K : PySem.W.Frag) : Sp := spV fun vs H v => ∃ (a : Addr) (ws : WL) (t : Tx), vs = [.ref a, vS t] ∧ WA K H a ws ∧ Ok ws ∧ v = .bl (decide (t ∈ names ws))
theorem ok_has_word (T : Top K mg) : Cal P w K mg base "has_word" 2 ["words", "word"] (sp_has_word K) := by
  obtain ⟨f, fd, F, hg⟩ := T.d_has_word
  have c_names_in : Cal P w K mg base "names_in" 1 ["words"] (sp_names_in K) := ok_names_in T
  refine ⟨f, fd, F.ok sc_has_word (fun vs H Q E h => by
      obtain ⟨_, ⟨_, _, _, rfl, _⟩, _⟩ := h
      rfl) (fun cdv A outer s H vs Q E hr h => ?_), hg, F.kp, F.binds (ps := ["words", "word"]) fun _ _ _ _ _ _ us hl => match us, hl with | [_, _], _ => rfl⟩
  have nd := sc_has_word.nd
  refine ⟨(tRet (tOp (rIn K false) (tVar 1) (tCall (sp_names_in K) [] E0 (tCons (tVar 0) tNil)))), (pss_one (ps_ret (pe_cmpR (r := (rIn K false)) op_in_seq (pv 1) (pe_own c_names_in hr (by decide) (by rfl) (pa_cons (pv 0) pa_nil)) rfl))), ?_⟩
  obtain ⟨v, ⟨a, ws, t, rfl, hW, ok, rfl⟩, q⟩ := h
  exact s_ret (v := .bl (decide (t ∈ names ws))) (ev_inN (ev_var rfl) (el_spL (ea_1 (ev_var rfl)) fun H1 e => ⟨a, ws, rfl, hW.mono e, ok, rfl⟩)) q

/-! ### words_from, longest_from -/
def sp_words_from (K : PySem.W.Frag) : Sp := spU fun vs H xs => ∃ (a : Addr) (ws : WL) (t : Tx) (i : Nat), vs = [.ref a, vS t, .int (i : Int)] ∧ WA K H a ws ∧ Ok ws ∧ t.length ≤ 900 ∧ i ≤ t.length ∧ xs = (wfrom ws t i).map vS
theorem ok_words_from (T : Top K mg) : Cal P w K mg base "words_from" 2 ["words", "text", "index"] (sp_words_from K) := by
  obtain ⟨f, fd, F, hg⟩ := T.d_words_from
  have c_names_in : Cal P w K mg base "names_in" 1 ["words"] (sp_names_in K) := ok_names_in T
  obtain ⟨u_LONGEST, g_LONGEST, r_LONGEST⟩ := T.c_LONGEST
  refine ⟨f, fd, F.ok sc_words_from (fun vs H Q E h => by
      obtain ⟨_, ⟨_, _, _, _, rfl, _⟩, _⟩ := h
      rfl) (fun cdv A outer s H vs Q E hr h => ?_), hg, F.kp, F.binds (ps := ["words", "text", "index"]) fun _ _ _ _ _ _ us hl => match us, hl with | [_, _, _], _ => rfl⟩
  have nd := sc_words_from.nd
  refine ⟨(tSeq (tAsg (tCall (sp_names_in K) [] E0 (tCons (tVar 0) tNil)) (gName 3))
      (tSeq (tAsg (tLc (iRng2 (tCons (tC (.int 1)) (tCons (tOp rAddI (tCB rMin2 (tCons (tC (.int 4)) (tCons (tOp rSubI (tCB rLenStr (tCons (tVar 1) tNil)) (tVar 2)) tNil))) (tC (.int 1))) tNil))) (gName 5) tYes (L2.tSl rSlS (tVar 1) (tPart (tVar 2)) (tPart (tOp rAddI (tVar 2) (tVar 5)))) [5]) (gName 4))
      (tRet (tCB (rTupOf K) (tCons (tLc (iList K (tVar 4)) (gName 6) (tTest (tOp (rIn K false) (tVar 6) (tVar 3))) (tVar 6) [6]) tNil))))), (pss_cons (ps_set (i := 3) nd rfl (Or.inr rfl) (pe_own c_names_in hr (by decide) (by rfl) (pa_cons (pv 0) pa_nil)))
      (pss_cons (ps_setLc (i := 4) (own := [("size", 5)]) (wi := (iRng2 (tCons (tC (.int 1)) (tCons (tOp rAddI (tCB rMin2 (tCons (tC (.int 4)) (tCons (tOp rSubI (tCB rLenStr (tCons (tVar 1) tNil)) (tVar 2)) tNil))) (tC (.int 1))) tNil)))) (g := (gName 5)) (tt := tYes) (te := (L2.tSl rSlS (tVar 1) (tPart (tVar 2)) (tPart (tOp rAddI (tVar 2) (tVar 5))))) rfl nd rfl rfl (sw_true rfl rfl rfl (by decide +kernel)) (pi_range2 (by rfl) T.n_range (pa_cons pe_int (pa_cons (pe_op (r := rAddI) op_add (pe_callB (r := rMin2) (call_min2 rfl) (by rfl) T.n_min (by decide +kernel) (pa_cons (pe_glob (v := .int 4) rfl g_LONGEST r_LONGEST) (pa_cons (pe_op (r := rSubI) op_sub (pe_callB (r := rLenStr) call_len_str (by rfl) T.n_len PySem.boot_len (pa_cons (pv 1) pa_nil)) (pv 2)) pa_nil))) pe_int) pa_nil))) (blkOk_by (N := ["words", "text", "index", "names", "parts", "size", "part"]) (sc := defScope s_words_from) (own := [("size", 5)]) (by decide +kernel)) (fun _ _ _ _ _ => (pg_name (i := 5) nd rfl (Or.inl rfl))) (fun _ _ _ _ _ => pts_nil) (fun _ _ _ _ _ => (pe_slice (r := rSlS) sl_str (pv 1) (po_some (pv 2)) (po_some (pe_op (r := rAddI) op_add (pv 2) (pv 5))))))
      (pss_one (ps_ret (pe_callTy (r := (rTupOf K)) call_tuple_of (by rfl) T.n_tuple (by decide +kernel) (pa_cons (pe_lc (own := [("part", 6)]) (wi := (iList K (tVar 4))) (g := (gName 6)) (tt := (tTest (tOp (rIn K false) (tVar 6) (tVar 3)))) (te := (tVar 6)) rfl nd (pi_list (pv 4)) (blkOk_by (N := ["words", "text", "index", "names", "parts", "size", "part"]) (sc := defScope s_words_from) (own := [("part", 6)]) (by decide +kernel)) (fun _ _ _ _ _ => (pg_name (i := 6) nd rfl (Or.inl rfl))) (fun _ _ _ _ _ => pts_one (pt_cmpR (r := (rIn K false)) op_in_seq (pv 6) (pv 3) rfl)) (fun _ _ _ _ _ => (pv 6))) pa_nil)))))), ?_⟩
  obtain ⟨xs, ⟨a, ws, t, i, rfl, hW, ok, hz, hi, rfl⟩, q⟩ := h
  have l8 := ok.len8
  refine q_asgL (xs := (names ws).map vS) (el_spL (ea_1 (ev_var rfl)) fun H1 e => ⟨a, ws, rfl, hW.mono e, ok, rfl⟩) fun n H1 _ e1 hN => ?_
  refine q_asgL (xs := ((List.range (min 4 (t.length - i))).map fun s => (t.take (i + (1 + s))).drop i).map vS) ?_ fun p H2 _ e2 hP => ?_
  · rw [List.map_map]
    refine el_lcR2Y (lo := 1) (n := min 4 (t.length - i)) _ (ea_2 ev_c (ev_is (ev_addI (ev_min2 ev_c (ev_subI (ev_lenS (ev_var rfl) (by omega)) (ev_var rfl))) ev_c) ?_)) (by omega) (fun _ => rfl) fun s hs => ?_
    · congr 1
      split <;> omega
    · refine ev_slS (a := t) (ev_var rfl) (eo_some (i := (i : Int)) (ev_var rfl)) (eo_some (i := ((i + (1 + s) : Nat) : Int)) (ev_is (ev_addI (ev_var rfl) (ev_var rfl)) ?_)) (by omega) (cut_nat t i (i + (1 + s)))
      congr 1
  · have hN2 : SqL K H2 n ((names ws).map vS) := ex_l e2 (sq_of hN)
    refine s_retU (xs := (wfrom ws t i).map vS) ?_ fun p H3 hp e3 h3 => q p H3 (fresh_back (e1.trans e2) hp) ((e1.trans e2).trans e3) h3
    refine eu_tupOf ?_
    unfold wfrom
    exact el_lcL (K := K) _ vS _ vS (ev_var rfl) (sq_of hP) (by rw [List.length_map, List.length_range]; omega) (fun _ => rfl) (fun x _ => et_test (ev_inL (ev_var rfl) (ev_var rfl) hN2)) fun x _ _ => ev_var rfl

def sp_longest_from (K : PySem.W.Frag) : Sp := spV fun vs H v => ∃ (a : Addr) (ws : WL) (t : Tx) (i : Nat), vs = [.ref a, vS t, .int (i : Int)] ∧ WA K H a ws ∧ Ok ws ∧ Ov ws t ∧ t.length ≤ 900 ∧ i < t.length ∧ v = vS (lw ws (t.drop i))
theorem ok_longest_from (T : Top K mg) : Cal P w K mg base "longest_from" 3 ["words", "text", "index"] (sp_longest_from K) := by
  obtain ⟨f, fd, F, hg⟩ := T.d_longest_from
  have c_words_from : Cal P w K mg base "words_from" 2 ["words", "text", "index"] (sp_words_from K) := ok_words_from T
  refine ⟨f, fd, F.ok sc_longest_from (fun vs H Q E h => by
      obtain ⟨_, ⟨_, _, _, _, rfl, _⟩, _⟩ := h
      rfl) (fun cdv A outer s H vs Q E hr h => ?_), hg, F.kp, F.binds (ps := ["words", "text", "index"]) fun _ _ _ _ _ _ us hl => match us, hl with | [_, _, _], _ => rfl⟩
  have nd := sc_longest_from.nd
  refine ⟨(tRet (tOp (rIxT K) (tCall (sp_words_from K) [] E0 (tCons (tVar 0) (tCons (tVar 1) (tCons (tVar 2) tNil)))) (tUn (rU fun i => .int (-i)) (tC (.int 1))))), (pss_one (ps_ret (pe_ix (r := (rIxT K)) ix_tup (pe_own c_words_from hr (by decide) (by rfl) (pa_cons (pv 0) (pa_cons (pv 1) (pa_cons (pv 2) pa_nil)))) (pe_un un_neg pe_int) (fun _ _ => rfl)))), ?_⟩
  obtain ⟨v, ⟨a, ws, t, i, rfl, hW, ok, ho, hz, hi, rfl⟩, q⟩ := h
  refine s_ret (v := vS (lw ws (t.drop i))) ?_ q
  obtain ⟨l, hl⟩ := wfrom_last ok ho hi
  refine ev_ixU (i := -1) (xs := (wfrom ws t i).map vS) (eu_spU (ea_3 (ev_var rfl) (ev_var rfl) (ev_var rfl)) fun H1 e => ⟨a, ws, t, i, rfl, hW.mono e, ok, hz, Nat.le_of_lt hi, rfl⟩) (ev_is (ev_un ev_c ru_neg) rfl) ?_
  rw [hl, List.map_append]
  exact atI_last _ _

/-! ### check_words -/
def sp_check_words (K : PySem.W.Frag) : Sp := spV fun vs H v => ∃ (a : Addr) (ws : WL), vs = [.ref a] ∧ WA K H a ws ∧ Ok ws ∧ v = .non
theorem ok_check_words (T : Top K mg) : Cal P w K mg base "check_words" 4 ["words"] (sp_check_words K) := by
  obtain ⟨f, fd, F, hg⟩ := T.d_check_words
  have c_is_list : Cal P w K mg base "is_list" 3 ["value"] (sp_is_list K) := ok_is_list T
  refine ⟨f, fd, F.ok sc_check_words (fun vs H Q E h => by
      obtain ⟨_, ⟨_, _, rfl, _⟩, _⟩ := h
      rfl) (fun cdv A outer s H vs Q E hr h => ?_), hg, F.kp, F.binds (ps := ["words"]) fun _ _ _ _ _ _ us hl => match us, hl with | [_], _ => rfl⟩
  have nd := sc_check_words.nd
  refine ⟨(tIfS (tNot (tB (tCall (sp_is_list K) [] E0 (tCons (tVar 0) tNil))))
      tNever tNext), (pss_one (ps_if (pt_not (pt_val (pe_own c_is_list hr (by decide) (by rfl) (pa_cons (pv 0) pa_nil))))
      (pss_one ps_never) pss_nil)), ?_⟩
  obtain ⟨v, ⟨a, ws, rfl, hW, ok, rfl⟩, q⟩ := h
  exact s_when (b := false) (et_not (a := true) (et_B (ev_spV (ea_1 (ev_var rfl)) fun H1 e => ⟨a, ws, rfl, hW.mono e, ok, rfl⟩))) (fun e => nomatch e) fun _ H1 e1 => q H1 e1

/-! ### cost_of_row, can_grow -/
def sp_cost_of_row (K : PySem.W.Frag) : Sp := spV fun vs H v => ∃ (a b : Addr) (ws : WL) (ts : List Tx), vs = [.ref a, .ref b] ∧ WA K H a ws ∧ Ok ws ∧ SqT K H b (ts.map vS) ∧ (∀ t ∈ ts, t ∈ names ws) ∧ ts.length ≤ 1000 ∧ v = .int (csum ws ts)
theorem ok_cost_of_row (T : Top K mg) : Cal P w K mg base "cost_of_row" 2 ["words", "row"] (sp_cost_of_row K) := by
  obtain ⟨f, fd, F, hg⟩ := T.d_cost_of_row
  have c_cost_in : Cal P w K mg base "cost_in" 1 ["words", "word"] (sp_cost_in K) := ok_cost_in T
  refine ⟨f, fd, F.ok sc_cost_of_row (fun vs H Q E h => by
      obtain ⟨_, ⟨_, _, _, _, rfl, _⟩, _⟩ := h
      rfl) (fun cdv A outer s H vs Q E hr h => ?_), hg, F.kp, F.binds (ps := ["words", "row"]) fun _ _ _ _ _ _ us hl => match us, hl with | [_, _], _ => rfl⟩
  have nd := sc_cost_of_row.nd
  refine ⟨(tRet (tCB (rSum K) (tCons (tLc (iTup K (tVar 1)) (gName 2) tYes (tCall (sp_cost_in K) [] E0 (tCons (tVar 0) (tCons (tVar 2) tNil))) [2]) tNil))), (pss_one (ps_ret (pe_callB (r := (rSum K)) (cr_sum rfl) (by rfl) T.n_sum (by decide +kernel) (pa_cons (pe_lc (own := [("word", 2)]) (wi := (iTup K (tVar 1))) (g := (gName 2)) (tt := tYes) (te := (tCall (sp_cost_in K) [] E0 (tCons (tVar 0) (tCons (tVar 2) tNil)))) rfl nd (pi_tup (pv 1)) (blkOk_by (N := ["words", "row", "word"]) (sc := defScope s_cost_of_row) (own := [("word", 2)]) (by decide +kernel)) (fun _ _ _ _ _ => (pg_name (i := 2) nd rfl (Or.inl rfl))) (fun _ _ _ _ _ => pts_nil) (fun _ _ _ _ _ => (pe_own c_cost_in hr (by decide) (by rfl) (pa_cons (pv 0) (pa_cons (pv 2) pa_nil))))) pa_nil)))), ?_⟩
  obtain ⟨v, ⟨a, b, ws, ts, rfl, hW, ok, hT, hn, hz, rfl⟩, q⟩ := h
  refine s_ret (v := .int (csum ws ts)) ?_ q
  exact ev_sumM (el_lcTY (K := K) ts vS _ (ev_var rfl) hT hz (fun _ => rfl) fun t ht => ev_spV (ea_2 (ev_var rfl) (ev_var rfl)) fun H1 e => ⟨a, ws, t, rfl, hW.mono e, ok, hn t ht, rfl⟩)

def sp_can_grow (K : PySem.W.Frag) : Sp := spV fun vs H v => ∃ (a : Addr) (ws : WL) (t : Tx), vs = [.ref a, vS t] ∧ WA K H a ws ∧ Ok ws ∧ t.length ≤ 900 ∧ v = .bl (grow ws t)
theorem ok_can_grow (T : Top K mg) : Cal P w K mg base "can_grow" 1 ["words", "text"] (sp_can_grow K) := by
  obtain ⟨f, fd, F, hg⟩ := T.d_can_grow
  refine ⟨f, fd, F.ok sc_can_grow (fun vs H Q E h => by
      obtain ⟨_, ⟨_, _, _, rfl, _⟩, _⟩ := h
      rfl) (fun cdv A outer s H vs Q E hr h => ?_), hg, F.kp, F.binds (ps := ["words", "text"]) fun _ _ _ _ _ _ us hl => match us, hl with | [_, _], _ => rfl⟩
  have nd := sc_can_grow.nd
  refine ⟨(tRet (tCB (rAny K) (tCons (tLc (iTup K (tVar 0)) (gTup K 2 (gCons (gName 2) (gCons (gName 3) gNil))) tYes (tAndV (tOp rGtI (tCB rLenStr (tCons (tVar 2) tNil)) (tCB rLenStr (tCons (tVar 1) tNil))) (tOp rEq (L2.tSl rSlS (tVar 2) tNoPart (tPart (tCB rLenStr (tCons (tVar 1) tNil)))) (tVar 1))) [2, 3]) tNil))), (pss_one (ps_ret (pe_callB (r := (rAny K)) (cr_any rfl) (by rfl) T.n_any (by decide +kernel) (pa_cons (pe_lc (own := [("word", 2), ("cost", 3)]) (wi := (iTup K (tVar 0))) (g := (gTup K 2 (gCons (gName 2) (gCons (gName 3) gNil)))) (tt := tYes) (te := (tAndV (tOp rGtI (tCB rLenStr (tCons (tVar 2) tNil)) (tCB rLenStr (tCons (tVar 1) tNil))) (tOp rEq (L2.tSl rSlS (tVar 2) tNoPart (tPart (tCB rLenStr (tCons (tVar 1) tNil)))) (tVar 1)))) rfl nd (pi_tup (pv 0)) (blkOk_by (N := ["words", "text", "word", "cost"]) (sc := defScope s_can_grow) (own := [("word", 2), ("cost", 3)]) (by decide +kernel)) (fun _ _ _ _ _ => (pg_tup rfl (pgs_cons (pg_name (i := 2) nd rfl (Or.inl rfl)) (pgs_cons (pg_name (i := 3) nd rfl (Or.inl rfl)) pgs_nil)))) (fun _ _ _ _ _ => pts_nil) (fun _ _ _ _ _ => (pe_and (pe_cmpR (r := rGtI) op_gt (pe_callB (r := rLenStr) call_len_str (by rfl) T.n_len PySem.boot_len (pa_cons (pv 2) pa_nil)) (pe_callB (r := rLenStr) call_len_str (by rfl) T.n_len PySem.boot_len (pa_cons (pv 1) pa_nil)) (nomark _)) (pe_one (pe_cmpR (r := rEq) op_eq (pe_slice (r := rSlS) sl_str (pv 2) po_none (po_some (pe_callB (r := rLenStr) call_len_str (by rfl) T.n_len PySem.boot_len (pa_cons (pv 1) pa_nil)))) (pv 1) (nomark _)))))) pa_nil)))), ?_⟩
  obtain ⟨v, ⟨a, ws, t, rfl, hW, ok, hz, rfl⟩, q⟩ := h
  have l8 := ok.len8
  refine s_ret (v := .bl (grow ws t)) ?_ q
  refine ev_anyM (f := growP t) (el_lcWY _ (ev_var rfl) hW (by omega) (fun _ _ => rfl) fun p hp => ?_)
  have hp4 := (ok.word p hp).2
  refine ev_is (ev_andV (a := decide (t.length < p.1.length)) (b := decide (p.1.take t.length = t)) (ev_is (ev_gtI (ev_lenS (ev_var rfl) (by omega)) (ev_lenS (ev_var rfl) (by omega))) (congrArg V.bl (dec_lt _ _))) fun _ => ev_eqS (ev_slS (a := p.1) (ev_var rfl) eo_none (eo_some (ev_lenS (ev_var rfl) (by omega))) (by omega) (cut_to _ _)) (ev_var rfl)) ?_
  unfold growP
  rw [beq_dec]

/-! ### read_on -/
def sp_read_on (K : PySem.W.Frag) : Sp := fun vs H Q _ => ∃ (a : Addr) (ws : WL) (t : Tx) (c : Nat), vs = [.ref a, vS t, vS [c]] ∧ WA K H a ws ∧ Ok ws ∧ Ov ws (t ++ [c]) ∧ t.length ≤ 800 ∧
  ∀ p r H2, H p = none → Ex H H2 → H2 p = some (.tup [.ref r, vS (drain ws (t ++ [c])).2]) → H2 r = some (.tup ((drain ws (t ++ [c])).1.map vS)) → Q (.ref p) H2
theorem ok_read_on (T : Top K mg) : Cal P w K mg base "read_on" 4 ["words", "held", "letter"] (sp_read_on K) := by
  obtain ⟨f, fd, F, hg⟩ := T.d_read_on
  have c_longest_from : Cal P w K mg base "longest_from" 3 ["words", "text", "index"] (sp_longest_from K) := ok_longest_from T
  have c_can_grow : Cal P w K mg base "can_grow" 1 ["words", "text"] (sp_can_grow K) := ok_can_grow T
  refine ⟨f, fd, F.ok sc_read_on (fun vs H Q E h => by
      obtain ⟨_, _, _, _, rfl, _⟩ := h
      rfl) (fun cdv A outer s H vs Q E hr h => ?_), hg, F.kp, F.binds (ps := ["words", "held", "letter"]) fun _ _ _ _ _ _ us hl => match us, hl with | [_, _, _], _ => rfl⟩
  have nd := sc_read_on.nd
  refine ⟨(tSeq (tAsg (tOp rAddStr (tVar 1) (tVar 2)) (gName 1))
      (tSeq (tAsg (tLst tNil) (gName 3))
      (tSeq (tWhile (tAnd (tTest (tOp rNe (tVar 1) (tC (.str (Str.ofString ""))))) (tNot (tB (tCall (sp_can_grow K) [] E0 (tCons (tVar 0) (tCons (tVar 1) tNil))))))
      (tSeq (tAsg (tCall (sp_longest_from K) [] E0 (tCons (tVar 0) (tCons (tVar 1) (tCons (tC (.int 0)) tNil)))) (gName 4))
      (tSeq (tDrop (tBM K "list" rAppend (tVar 3) (tCons (tVar 4) tNil)))
      (tAsg (L2.tSl rSlS (tVar 1) (tPart (tCB rLenStr (tCons (tVar 4) tNil))) tNoPart) (gName 1)))))
      (tRet (tTup (tCons (tCB (rTupOf K) (tCons (tVar 3) tNil)) (tCons (tVar 1) tNil))))))), (pss_cons (ps_set (i := 1) nd rfl (Or.inl rfl) (pe_op (r := rAddStr) op_add_str (pv 1) (pv 2)))
      (pss_cons (ps_set (i := 3) nd rfl (Or.inl rfl) (pe_lst pa_nil))
      (pss_cons (ps_while PassesOwn.never (PW.pt (pw_and (pt_cmpR (r := rNe) op_ne (pv 1) pe_str (nomark _)) (pw_and1 (pt_not (pt_val (pe_own c_can_grow hr (by decide) (by rfl) (pa_cons (pv 0) (pa_cons (pv 1) pa_nil))))))))
      (pss_cons (ps_set (i := 4) nd rfl (Or.inl rfl) (pe_own c_longest_from hr (by decide) (by rfl) (pa_cons (pv 0) (pa_cons (pv 1) (pa_cons pe_int pa_nil)))))
      (pss_cons (ps_expr (pe_bm (r := rAppend) PySem.F.plainAttrs_list PySem.F.slot_list_append PySem.F.type_list_append mt_append (pv 3) (pa_cons (pv 4) pa_nil)))
      (pss_one (ps_set (i := 1) nd rfl (Or.inl rfl) (pe_slice (r := rSlS) sl_str (pv 1) (po_some (pe_callB (r := rLenStr) call_len_str (by rfl) T.n_len PySem.boot_len (pa_cons (pv 4) pa_nil))) po_none))))))
      (pss_one (ps_ret (pe_tup (pa_cons (pe_callTy (r := (rTupOf K)) call_tuple_of (by rfl) T.n_tuple (by decide +kernel) (pa_cons (pv 3) pa_nil)) (pa_cons (pv 1) pa_nil)))))))), ?_⟩
  obtain ⟨a, ws, t, c, rfl, hW, ok, ho, hz, q⟩ := h
  refine q_asg (v := vS (t ++ [c])) (ev_addS (ev_var rfl) (ev_var rfl) (by simp; omega)) fun H1 e1 => ?_
  refine q_asgL (xs := []) (el_lst ea_nil (by simp)) fun g H2 hg e2 h2 => ?_
  have hg0 : H g = none := fresh_back e1 hg
  refine q_while (fun m σ' H' => ∃ (u : Tx) (acc : List Tx) (y : Option V), σ' = [some (.ref a), some (vS u), some (vS [c]), some (.ref g), y] ∧ m = u.length ∧ Ex H H' ∧ H' g = some (.lst (acc.map vS)) ∧ Ov ws u ∧
      acc.length + u.length ≤ t.length + 1 ∧ acc ++ (drain ws u).1 = (drain ws (t ++ [c])).1 ∧ (drain ws u).2 = (drain ws (t ++ [c])).2) _ ⟨t ++ [c], [], none, rfl, rfl, e1.trans e2, h2, ho, by simp, rfl, rfl⟩ fun m σ' H' hV => ?_
  obtain ⟨u, acc, y, rfl, rfl, e3, h3, hu, hl, d1, d2⟩ := hV
  have hul : u.length ≤ 900 := by omega
  have hW3 := hW.mono e3
  refine ⟨!decide (u = []) && !grow ws u, et_and (et_test (ev_neS (ev_var rfl) ev_nil)) fun _ => et_not (et_B (ev_spV (ea_2 (ev_var rfl) (ev_var rfl)) fun H4 e4 => ⟨a, ws, u, rfl, hW3.mono e4, ok, hul, rfl⟩)), fun hb H4 e4 => ?_, fun hb H4 e4 => ?_⟩
  · rw [Bool.and_eq_true, Bool.not_eq_true', Bool.not_eq_true', decide_eq_false_iff_not] at hb
    obtain ⟨hne, hgr⟩ := hb
    have h1 := (lw_ok hu hne).1
    have h2' := lw_len ws u
    have hpos : 0 < u.length := List.length_pos_iff.mpr hne
    have e4' := e3.trans e4
    refine ⟨fun σ2 H5 => ∃ (u' : Tx) (acc : List Tx) (y : Option V), σ2 = [some (.ref a), some (vS u'), some (vS [c]), some (.ref g), y] ∧ u'.length < u.length ∧ Ex H H5 ∧ H5 g = some (.lst (acc.map vS)) ∧ Ov ws u' ∧
      acc.length + u'.length ≤ t.length + 1 ∧ acc ++ (drain ws u').1 = (drain ws (t ++ [c])).1 ∧ (drain ws u').2 = (drain ws (t ++ [c])).2, fun σ2 H5 hn => ?_, ?_⟩
    · obtain ⟨u', acc', y', z1, z2, z3⟩ := hn
      exact ⟨_, z2, u', acc', y', z1, rfl, z3⟩
    · refine q_asg (v := vS (lw ws u)) (ev_spV (ea_3 (ev_var rfl) (ev_var rfl) ev_c) fun H5 e5 => ⟨a, ws, u, 0, rfl, hW.mono (e4'.trans e5), ok, hu, hul, hpos, by rw [List.drop_zero]⟩) fun H5 e5 => ?_
      have e5' := e4'.trans e5
      refine q_app (K := K) (l := g) (xs := acc.map vS) (v := vS (lw ws u)) (e5 g _ (e4 g _ h3)) (ev_var rfl) (ev_var rfl) (by rw [List.length_map]; omega) fun H6 e6 => ?_
      refine s_asg (v := vS (u.drop (lw ws u).length)) (ev_slS (a := u) (ev_var rfl) (eo_some (ev_lenS (ev_var rfl) (by omega))) eo_none (by omega) (cut_from u _)) fun H7 e7 => ?_
      have e6' : Ex H (upd H6 g (.lst (acc.map vS ++ [vS (lw ws u)]))) := Ex.mut (e5'.trans e6) hg0
      refine ⟨u.drop (lw ws u).length, acc ++ [lw ws u], some (vS (lw ws u)), rfl, ?_, e6'.trans e7, ?_, ov_drop _ hu, ?_, ?_, ?_⟩
      · rw [List.length_drop]
        omega
      · refine e7 g _ ?_
        rw [upd_same, List.map_append]
        rfl
      · rw [List.length_append, List.length_drop]
        show acc.length + 1 + _ ≤ _
        omega
      · rw [← d1, drain_ov hu hne hgr, List.append_assoc]
        rfl
      · rw [← d2, drain_ov hu hne hgr]
  · have hd : drain ws u = ([], u) := by
      cases u with
      | nil => exact drain_nil ws
      | cons d r =>
        have hgr : grow ws (d :: r) = true := by
          cases hh : grow ws (d :: r) with
          | true => rfl
          | false =>
            rw [hh, decide_eq_false (List.cons_ne_nil d r)] at hb
            cases hb
        exact drain_grow hgr
    rw [hd] at d1 d2
    have d1 : acc = (drain ws (t ++ [c])).1 := by rw [← d1, List.append_nil]
    have d2 : u = (drain ws (t ++ [c])).2 := d2
    refine s_retUU (xs := acc.map vS) (y := vS u) (eu_tupOfL (p := g) (ev_var rfl) (sq_of (e4 g _ h3))) (ev_var rfl) fun p r H5 hp e5 h5 h6 => ?_
    rw [d1] at h6
    rw [d2] at h5
    exact q p r H5 (fresh_back (e3.trans e4) hp) ((e3.trans e4).trans e5) h5 h6

/-! ### is_row, is_long_text -/
def sp_is_row (K : PySem.W.Frag) : Sp := spV fun vs H v => ∃ (a b : Addr) (ws : WL) (ts : List Tx), vs = [.ref a, .ref b] ∧ WA K H a ws ∧ Ok ws ∧ SqT K H b (ts.map vS) ∧ (∀ t ∈ ts, t ∈ names ws) ∧ ts.length ≤ 1000 ∧ v = .bl true
theorem ok_is_row (T : Top K mg) : Cal P w K mg base "is_row" 3 ["words", "value"] (sp_is_row K) := by
  obtain ⟨f, fd, F, hg⟩ := T.d_is_row
  have c_has_word : Cal P w K mg base "has_word" 2 ["words", "word"] (sp_has_word K) := ok_has_word T
  refine ⟨f, fd, F.ok sc_is_row (fun vs H Q E h => by
      obtain ⟨_, ⟨_, _, _, _, rfl, _⟩, _⟩ := h
      rfl) (fun cdv A outer s H vs Q E hr h => ?_), hg, F.kp, F.binds (ps := ["words", "value"]) fun _ _ _ _ _ _ us hl => match us, hl with | [_, _], _ => rfl⟩
  have nd := sc_is_row.nd
  refine ⟨(tRet (tAndV (tCB (rIsi K) (tCons (tVar 1) (tCons (tC (.ty "tuple")) tNil))) (tCB (rAll K) (tCons (tLc (iTup K (tVar 1)) (gName 2) tYes (tAndV (tCB (rIsi K) (tCons (tVar 2) (tCons (tC (.ty "str")) tNil))) (tCall (sp_has_word K) [] E0 (tCons (tVar 0) (tCons (tVar 2) tNil)))) [2]) tNil)))), (pss_one (ps_ret (pe_and (pe_callB (r := (rIsi K)) call_isi (by rfl) T.n_isinstance (by decide +kernel) (pa_cons (pv 1) (pa_cons (pe_bltn (v := .ty "tuple") (by rfl) T.n_tuple (by decide +kernel) rfl) pa_nil))) (pe_one (pe_callB (r := (rAll K)) (cr_all rfl) (by rfl) T.n_all (by decide +kernel) (pa_cons (pe_lc (own := [("one", 2)]) (wi := (iTup K (tVar 1))) (g := (gName 2)) (tt := tYes) (te := (tAndV (tCB (rIsi K) (tCons (tVar 2) (tCons (tC (.ty "str")) tNil))) (tCall (sp_has_word K) [] E0 (tCons (tVar 0) (tCons (tVar 2) tNil))))) rfl nd (pi_tup (pv 1)) (blkOk_by (N := ["words", "value", "one"]) (sc := defScope s_is_row) (own := [("one", 2)]) (by decide +kernel)) (fun _ _ _ _ _ => (pg_name (i := 2) nd rfl (Or.inl rfl))) (fun _ _ _ _ _ => pts_nil) (fun _ _ _ _ _ => (pe_and (pe_callB (r := (rIsi K)) call_isi (by rfl) T.n_isinstance (by decide +kernel) (pa_cons (pv 2) (pa_cons (pe_bltn (v := .ty "str") (by rfl) T.n_str (by decide +kernel) rfl) pa_nil))) (pe_one (pe_own c_has_word hr (by decide) (by rfl) (pa_cons (pv 0) (pa_cons (pv 2) pa_nil))))))) pa_nil)))))), ?_⟩
  obtain ⟨v, ⟨a, b, ws, ts, rfl, hW, ok, hT, hn, hz, rfl⟩, q⟩ := h
  refine s_ret (v := .bl true) ?_ q
  refine ev_andV (a := true) (b := true) (ev_isi (ev_var rfl) (fun _ e => ty_tup (ex_t e hT)) (by decide +kernel)) fun _ => ?_
  refine ev_allY (f := fun t => true && decide (t ∈ names ws)) (el_lcTY (K := K) ts vS _ (ev_var rfl) hT hz (fun _ => rfl) fun t ht => ?_) fun t ht => decide_eq_true (hn t ht)
  exact ev_andV (a := true) (ev_isi (ev_var rfl) (fun _ _ => ty_str) (by decide +kernel)) fun _ => ev_spV (ea_2 (ev_var rfl) (ev_var rfl)) fun H1 e => ⟨a, ws, t, rfl, hW.mono e, ok, rfl⟩

def sp_is_long_text (K : PySem.W.Frag) : Sp := spV fun vs H v => ∃ (a : Addr) (ws : WL) (t : Tx), vs = [.ref a, vS t] ∧ WA K H a ws ∧ Ok ws ∧ Ov ws t ∧ t.length ≤ 1000 ∧ v = .bl true
theorem ok_is_long_text (T : Top K mg) : Cal P w K mg base "is_long_text" 2 ["words", "value"] (sp_is_long_text K) := by
  obtain ⟨f, fd, F, hg⟩ := T.d_is_long_text
  have c_letters_in : Cal P w K mg base "letters_in" 1 ["words"] (sp_letters_in K) := ok_letters_in T
  refine ⟨f, fd, F.ok sc_is_long_text (fun vs H Q E h => by
      obtain ⟨_, ⟨_, _, _, rfl, _⟩, _⟩ := h
      rfl) (fun cdv A outer s H vs Q E hr h => ?_), hg, F.kp, F.binds (ps := ["words", "value"]) fun _ _ _ _ _ _ us hl => match us, hl with | [_, _], _ => rfl⟩
  have nd := sc_is_long_text.nd
  refine ⟨(tRet (tAndV (tCB (rIsi K) (tCons (tVar 1) (tCons (tC (.ty "str")) tNil))) (tCB (rAll K) (tCons (tLc (iStr (tVar 1)) (gName 2) tYes (tOp rInSg (tVar 2) (tCall (sp_letters_in K) [] E0 (tCons (tVar 0) tNil))) [2]) tNil)))), (pss_one (ps_ret (pe_and (pe_callB (r := (rIsi K)) call_isi (by rfl) T.n_isinstance (by decide +kernel) (pa_cons (pv 1) (pa_cons (pe_bltn (v := .ty "str") (by rfl) T.n_str (by decide +kernel) rfl) pa_nil))) (pe_one (pe_callB (r := (rAll K)) (cr_all rfl) (by rfl) T.n_all (by decide +kernel) (pa_cons (pe_lc (own := [("sign", 2)]) (wi := (iStr (tVar 1))) (g := (gName 2)) (tt := tYes) (te := (tOp rInSg (tVar 2) (tCall (sp_letters_in K) [] E0 (tCons (tVar 0) tNil)))) rfl nd (pi_str (pv 1)) (blkOk_by (N := ["words", "value", "sign"]) (sc := defScope s_is_long_text) (own := [("sign", 2)]) (by decide +kernel)) (fun _ _ _ _ _ => (pg_name (i := 2) nd rfl (Or.inl rfl))) (fun _ _ _ _ _ => pts_nil) (fun _ _ _ _ _ => (pe_cmpR (r := rInSg) op_in_sign (pv 2) (pe_own c_letters_in hr (by decide) (by rfl) (pa_cons (pv 0) pa_nil)) rfl))) pa_nil)))))), ?_⟩
  obtain ⟨v, ⟨a, ws, t, rfl, hW, ok, ho, hz, rfl⟩, q⟩ := h
  refine s_ret (v := .bl true) ?_ q
  refine ev_andV (a := true) (b := true) (ev_isi (ev_var rfl) (fun _ _ => ty_str) (by decide +kernel)) fun _ => ?_
  refine ev_allY (f := fun c => decide (c ∈ (lets ws).flatten)) (el_lcSY _ (ev_var rfl) hz (fun _ => rfl) fun c hc => ?_) fun c hc => decide_eq_true (lets_flat.mpr (ho c hc))
  exact ev_inSign (ev_var rfl) (ev_spV (ea_1 (ev_var rfl)) fun H1 e => ⟨a, ws, rfl, hW.mono e, ok, rfl⟩)

/-! ### read_all -/
def sp_read_all (K : PySem.W.Frag) : Sp := spU fun vs H xs => ∃ (a : Addr) (ws : WL) (h t : Tx), vs = [.ref a, vS h, vS t] ∧ WA K H a ws ∧ Ok ws ∧ Ov ws h ∧ Ov ws t ∧ Held ws h ∧ t.length ≤ 500 ∧ xs = [.int (csum ws (rd ws h t).1), vS (rd ws h t).2]
theorem take_at {α : Type} {l : List α} {i : Nat} {x : α} (h : l[i]? = some x) : l.take (i + 1) = l.take i ++ [x] := by
  rw [List.take_add_one, h]
  rfl
theorem ok_read_all (T : Top K mg) : Cal P w K mg base "read_all" 5 ["words", "held", "text"] (sp_read_all K) := by
  obtain ⟨f, fd, F, hg⟩ := T.d_read_all
  have c_read_on : Cal P w K mg base "read_on" 4 ["words", "held", "letter"] (sp_read_on K) := ok_read_on T
  have c_cost_of_row : Cal P w K mg base "cost_of_row" 2 ["words", "row"] (sp_cost_of_row K) := ok_cost_of_row T
  refine ⟨f, fd, F.ok sc_read_all (fun vs H Q E h => by
      obtain ⟨_, ⟨_, _, _, _, rfl, _⟩, _⟩ := h
      rfl) (fun cdv A outer s H vs Q E hr h => ?_), hg, F.kp, F.binds (ps := ["words", "held", "text"]) fun _ _ _ _ _ _ us hl => match us, hl with | [_, _, _], _ => rfl⟩
  have nd := sc_read_all.nd
  refine ⟨(tSeq (tAsg (tC (.int 0)) (gName 3))
      (tSeq (tFor (iStr (tVar 2)) (gName 4)
      (tSeq (tAsg (tCall (sp_read_on K) [] E0 (tCons (tVar 0) (tCons (tVar 1) (tCons (tVar 4) tNil)))) (gTup K 2 (gCons (gName 5) (gCons (gName 1) gNil))))
      (tAsg (tOp rAddI (tVar 3) (tCall (sp_cost_of_row K) [] E0 (tCons (tVar 0) (tCons (tVar 5) tNil)))) (gName 3))))
      (tRet (tTup (tCons (tVar 3) (tCons (tVar 1) tNil)))))), (pss_cons (ps_set (i := 3) nd rfl (Or.inl rfl) pe_int)
      (pss_cons (ps_for PassesOwn.never rfl (pi_str (pv 2)) (pg_name (i := 4) nd rfl (Or.inl rfl))
      (pss_cons (ps_asg (pe_own c_read_on hr (by decide) (by rfl) (pa_cons (pv 0) (pa_cons (pv 1) (pa_cons (pv 4) pa_nil)))) (pg_tup rfl (pgs_cons (pg_name (i := 5) nd rfl (Or.inl rfl)) (pgs_cons (pg_name (i := 1) nd rfl (Or.inl rfl)) pgs_nil))))
      (pss_one (ps_set (i := 3) nd rfl (Or.inl rfl) (pe_op (r := rAddI) op_add (pv 3) (pe_own c_cost_of_row hr (by decide) (by rfl) (pa_cons (pv 0) (pa_cons (pv 5) pa_nil))))))))
      (pss_one (ps_ret (pe_tup (pa_cons (pv 3) (pa_cons (pv 1) pa_nil))))))), ?_⟩
  obtain ⟨xs, ⟨a, ws, h0, t, rfl, hW, ok, hh, ht, hd, hz, rfl⟩, q⟩ := h
  refine q_asg (v := .int 0) ev_c fun H1 e1 => ?_
  refine q_forS (a := t) (ev_var rfl) (fun i σ' H' => ∃ y z, σ' = [some (.ref a), some (vS (rd ws h0 (t.take i)).2), some (vS t), some (.int (csum ws (rd ws h0 (t.take i)).1)), y, z] ∧ Ex H H') (fun H2 e2 => ⟨none, none, rfl, e1.trans e2⟩) (fun i c σ' H' hc hV => ?_) fun σ' H' hV => ?_
  · obtain ⟨y, z, rfl, e2⟩ := hV
    have hcm : [c] ∈ names ws := ht c (List.mem_of_getElem? hc)
    have hov : Ov ws (rd ws h0 (t.take i)).2 := rd_hold _ _ hh (ov_take i ht)
    have hhl := held_len ok (rd_held (t.take i) h0 hd)
    have hov2 : Ov ws ((rd ws h0 (t.take i)).2 ++ [c]) := ov_app hov fun d hd => by
      rw [List.mem_singleton] at hd
      rw [hd]
      exact hcm
    have hdf := drain_facts hov2
    have hdl : (drain ws ((rd ws h0 (t.take i)).2 ++ [c])).1.length ≤ 1000 := by
      have h5 := mt_len hov2
      have h6 := drain_mt ws _ _ [] (Nat.le_refl ((rd ws h0 (t.take i)).2 ++ [c]).length)
      rw [List.append_nil] at h6
      rw [h6, List.length_append] at h5
      rw [List.length_append] at h5
      have : ([c] : Tx).length = 1 := rfl
      omega
    refine aq_call (ea_3 (ev_var rfl) (ev_var rfl) (ev_var rfl)) fun H2 e3 => ?_
    refine ⟨a, ws, (rd ws h0 (t.take i)).2, c, rfl, hW.mono (e2.trans e3), ok, hov2, by omega, fun p r H3 hp e4 h3 h4 => ?_⟩
    refine ⟨p, _, rfl, st_of h3, rfl, _, _, rfl, _, _, rfl, rfl, ?_⟩
    have e4' := (e2.trans e3).trans e4
    refine s_asg (v := .int (csum ws (rd ws h0 (t.take i)).1 + csum ws (drain ws ((rd ws h0 (t.take i)).2 ++ [c])).1)) (ev_addI (ev_var rfl) (ev_spV (ea_2 (ev_var rfl) (ev_var rfl)) fun H4 e5 => ⟨a, r, ws, _, rfl, hW.mono (e4'.trans e5), ok, ex_t e5 (st_of h4), hdf.2.1, hdl, rfl⟩)) fun H4 e5 => ?_
    refine ⟨some (vS [c]), some (.ref r), ?_, e4'.trans e5⟩
    rw [take_at hc, rd_snoc, csum_app]
    rfl
  · obtain ⟨y, z, rfl, e2⟩ := hV
    rw [List.take_length]
    refine s_retU (eu_tup (ea_2 (ev_var rfl) (ev_var rfl)) (by show 2 ≤ 100000; decide)) fun p H3 hp e3 h3 => q p H3 (fresh_back e2 hp) (e2.trans e3) h3
end
end Gc
/-! Rounds; the law's own functions that change nothing. -/
namespace Gc
open PySem PySem.Spec PyProof.Rows L2 Evl
section
variable {P : Program} {w : World} {K : PySem.W.Frag} {mg : Str → Option Value} {base : Heap}

/-! ### sums_of, round_sums -/
structure Round (K : PySem.W.Frag) (H : Hp) (a b r : Addr) (ws : WL) (B C : Tx) : Prop where
  wa : WA K H a ws
  ok : Ok ws
  val : SqT K H b [vS B, vS C, vS [], .ref r]
  row : SqT K H r ((mt ws C).map vS)
  ob : Ov ws B
  oc : Ov ws C
  ne : C ≠ []
  lb : B.length ≤ 200
  lc : C.length ≤ 200
  hold : (rd ws (rd ws [] B).2 C).2 = (rd ws [] B).2
theorem Round.mono {H H' : Hp} {a b r : Addr} {ws : WL} {B C : Tx} (e : Ex H H') (h : Round K H a b r ws B C) : Round K H' a b r ws B C :=
  ⟨h.wa.mono e, h.ok, ex_t e h.val, ex_t e h.row, h.ob, h.oc, h.ne, h.lb, h.lc, h.hold⟩
def sp_sums_of (K : PySem.W.Frag) : Sp := spU fun vs H xs => ∃ (a b r : Addr) (ws : WL) (B C : Tx), vs = [.ref a, .ref b] ∧ Round K H a b r ws B C ∧ xs = [.int (csum ws (rd ws (rd ws [] B).2 C).1), .int (csum ws (mt ws C))]
theorem ok_sums_of (T : Top K mg) : Cal P w K mg base "sums_of" 6 ["words", "value"] (sp_sums_of K) := by
  obtain ⟨f, fd, F, hg⟩ := T.d_sums_of
  have c_read_all : Cal P w K mg base "read_all" 5 ["words", "held", "text"] (sp_read_all K) := ok_read_all T
  have c_is_row : Cal P w K mg base "is_row" 3 ["words", "value"] (sp_is_row K) := ok_is_row T
  have c_cost_of_row : Cal P w K mg base "cost_of_row" 2 ["words", "row"] (sp_cost_of_row K) := ok_cost_of_row T
  have c_is_long_text : Cal P w K mg base "is_long_text" 2 ["words", "value"] (sp_is_long_text K) := ok_is_long_text T
  refine ⟨f, fd, F.ok sc_sums_of (fun vs H Q E h => by
      obtain ⟨_, ⟨_, _, _, _, _, _, rfl, _⟩, _⟩ := h
      rfl) (fun cdv A outer s H vs Q E hr h => ?_), hg, F.kp, F.binds (ps := ["words", "value"]) fun _ _ _ _ _ _ us hl => match us, hl with | [_, _], _ => rfl⟩
  have nd := sc_sums_of.nd
  refine ⟨(tSeq (tIfS (tOr (tNot (tB (tCB (rIsi K) (tCons (tVar 1) (tCons (tC (.ty "tuple")) tNil))))) (tOr (tTest (tOp rNe (tCB (rLenS K) (tCons (tVar 1) tNil)) (tC (.int 4)))) (tNot (tB (tCB (rAll K) (tCons (tLc (iTup K (L2.tSl (rSlT K) (tVar 1) tNoPart (tPart (tC (.int 3))))) (gName 9) tYes (tCall (sp_is_long_text K) [] E0 (tCons (tVar 0) (tCons (tVar 9) tNil))) [9]) tNil))))))
      (tRet (tC .non)) tNext)
      (tSeq (tAsg (tVar 1) (gTup K 4 (gCons (gName 2) (gCons (gName 3) (gCons (gName 4) (gCons (gName 5) gNil))))))
      (tSeq (tIfS (tOr (tTest (tOp rEq (tVar 3) (tC (.str (Str.ofString ""))))) (tNot (tB (tCall (sp_is_row K) [] E0 (tCons (tVar 0) (tCons (tVar 5) tNil))))))
      (tRet (tC .non)) tNext)
      (tSeq (tIfS (tOr (tTest (tOp rNe (L2.tSl rSlS (tVar 2) (tPart (tCB rMax2 (tCons (tC (.int 0)) (tCons (tOp rSubI (tCB rLenStr (tCons (tVar 2) tNil)) (tCB rLenStr (tCons (tVar 4) tNil))) tNil)))) tNoPart) (tVar 4))) (tTest (tOp rNe (tOp rAddStr (tVar 4) (tVar 3)) (tOp rAddStr (tM1 (rJoin K) (tC (.str (Str.ofString ""))) (tVar 5)) (tVar 4)))))
      (tRet (tC .non)) tNext)
      (tSeq (tAsg (tOp (rIxT K) (tCall (sp_read_all K) [] E0 (tCons (tVar 0) (tCons (tC (.str (Str.ofString ""))) (tCons (tVar 2) tNil)))) (tC (.int 1))) (gName 6))
      (tSeq (tAsg (tCall (sp_read_all K) [] E0 (tCons (tVar 0) (tCons (tVar 6) (tCons (tVar 3) tNil)))) (gTup K 2 (gCons (gName 7) (gCons (gName 8) gNil))))
      (tRet (tIf (tTest (tOp rEq (tVar 8) (tVar 6))) (tTup (tCons (tVar 7) (tCons (tCall (sp_cost_of_row K) [] E0 (tCons (tVar 0) (tCons (tVar 5) tNil))) tNil))) (tC .non))))))))), (pss_cons (ps_if (PW.pt (pw_or (pt_not (pt_val (pe_callB (r := (rIsi K)) call_isi (by rfl) T.n_isinstance (by decide +kernel) (pa_cons (pv 1) (pa_cons (pe_bltn (v := .ty "tuple") (by rfl) T.n_tuple (by decide +kernel) rfl) pa_nil))))) (pw_or (pt_cmpR (r := rNe) op_ne (pe_callB (r := (rLenS K)) call_len_seq (by rfl) T.n_len PySem.boot_len (pa_cons (pv 1) pa_nil)) pe_int (nomark _)) (pw_or1 (pt_not (pt_val (pe_callB (r := (rAll K)) (cr_all rfl) (by rfl) T.n_all (by decide +kernel) (pa_cons (pe_lc (own := [("one", 9)]) (wi := (iTup K (L2.tSl (rSlT K) (tVar 1) tNoPart (tPart (tC (.int 3)))))) (g := (gName 9)) (tt := tYes) (te := (tCall (sp_is_long_text K) [] E0 (tCons (tVar 0) (tCons (tVar 9) tNil)))) rfl nd (pi_tup (pe_slice (r := (rSlT K)) sl_tup (pv 1) po_none (po_some pe_int))) (blkOk_by (N := ["words", "value", "before", "cycle", "tail", "row", "held", "gain", "rest", "one"]) (sc := defScope s_sums_of) (own := [("one", 9)]) (by decide +kernel)) (fun _ _ _ _ _ => (pg_name (i := 9) nd rfl (Or.inl rfl))) (fun _ _ _ _ _ => pts_nil) (fun _ _ _ _ _ => (pe_own c_is_long_text hr (by decide) (by rfl) (pa_cons (pv 0) (pa_cons (pv 9) pa_nil))))) pa_nil))))))))
      (pss_one (ps_ret pe_non)) pss_nil)
      (pss_cons (ps_asg (pv 1) (pg_tup rfl (pgs_cons (pg_name (i := 2) nd rfl (Or.inl rfl)) (pgs_cons (pg_name (i := 3) nd rfl (Or.inl rfl)) (pgs_cons (pg_name (i := 4) nd rfl (Or.inl rfl)) (pgs_cons (pg_name (i := 5) nd rfl (Or.inl rfl)) pgs_nil))))))
      (pss_cons (ps_if (PW.pt (pw_or (pt_cmpR (r := rEq) op_eq (pv 3) pe_str (nomark _)) (pw_or1 (pt_not (pt_val (pe_own c_is_row hr (by decide) (by rfl) (pa_cons (pv 0) (pa_cons (pv 5) pa_nil))))))))
      (pss_one (ps_ret pe_non)) pss_nil)
      (pss_cons (ps_if (PW.pt (pw_or (pt_cmpR (r := rNe) op_ne (pe_slice (r := rSlS) sl_str (pv 2) (po_some (pe_callB (r := rMax2) (call_max2 rfl) (by rfl) T.n_max (by decide +kernel) (pa_cons pe_int (pa_cons (pe_op (r := rSubI) op_sub (pe_callB (r := rLenStr) call_len_str (by rfl) T.n_len PySem.boot_len (pa_cons (pv 2) pa_nil)) (pe_callB (r := rLenStr) call_len_str (by rfl) T.n_len PySem.boot_len (pa_cons (pv 4) pa_nil))) pa_nil)))) po_none) (pv 4) (nomark _)) (pw_or1 (pt_cmpR (r := rNe) op_ne (pe_op (r := rAddStr) op_add_str (pv 4) (pv 3)) (pe_op (r := rAddStr) op_add_str (pe_join pe_str (pv 5)) (pv 4)) (nomark _)))))
      (pss_one (ps_ret pe_non)) pss_nil)
      (pss_cons (ps_set (i := 6) nd rfl (Or.inl rfl) (pe_ix (r := (rIxT K)) ix_tup (pe_own c_read_all hr (by decide) (by rfl) (pa_cons (pv 0) (pa_cons pe_str (pa_cons (pv 2) pa_nil)))) pe_int (fun _ _ => rfl)))
      (pss_cons (ps_asg (pe_own c_read_all hr (by decide) (by rfl) (pa_cons (pv 0) (pa_cons (pv 6) (pa_cons (pv 3) pa_nil)))) (pg_tup rfl (pgs_cons (pg_name (i := 7) nd rfl (Or.inl rfl)) (pgs_cons (pg_name (i := 8) nd rfl (Or.inl rfl)) pgs_nil))))
      (pss_one (ps_ret (pe_ifExp (pt_cmpR (r := rEq) op_eq (pv 8) (pv 6) (nomark _)) (pe_tup (pa_cons (pv 7) (pa_cons (pe_own c_cost_of_row hr (by decide) (by rfl) (pa_cons (pv 0) (pa_cons (pv 5) pa_nil))) pa_nil))) pe_non))))))))), ?_⟩
  obtain ⟨xs, ⟨a, b, r, ws, B, C, rfl, R, rfl⟩, q⟩ := h
  have ok := R.ok
  have lb := R.lb
  have lc := R.lc
  refine q_when (b := false) (et_or (a := false) (et_not (a := true) (et_B (ev_isi (ev_var rfl) (fun _ e => ty_tup (ex_t e R.val)) (by decide +kernel)))) fun _ => et_or (a := false) (et_is (et_test (ev_neI (ev_lenT (ev_var rfl) R.val) ev_c)) rfl) fun _ => et_not (a := true) (et_B ?_)) (fun e => nomatch e) fun _ H1 e1 => ?_
  · refine ev_allY (l := [B, C, []]) (f := fun _ => true) (el_lcTUY (K := K) [B, C, []] vS _ (eu_slT (lo := none) (hi := some ((3 : Nat) : Int)) (ev_var rfl) eo_none (eo_some ev_c) R.val ?_) (by show 3 ≤ 1000; decide) (fun _ => rfl) fun t ht => ?_) fun _ _ => rfl
    · rw [HT.sIx_nat]
      show ¬ (0 = 0 ∧ 3 = 4)
      omega
    · refine ev_spV (ea_2 (ev_var rfl) (ev_var rfl)) fun H1 e => ⟨a, ws, t, rfl, R.wa.mono e, ok, ?_, ?_, rfl⟩
      · rcases List.mem_cons.mp ht with rfl | ht
        · exact R.ob
        rcases List.mem_cons.mp ht with rfl | ht
        · exact R.oc
        rcases List.mem_cons.mp ht with rfl | ht
        · exact ov_nil
        · cases ht
      · rcases List.mem_cons.mp ht with rfl | ht
        · omega
        rcases List.mem_cons.mp ht with rfl | ht
        · omega
        rcases List.mem_cons.mp ht with rfl | ht
        · show 0 ≤ 1000
          omega
        · cases ht
  -- before, cycle, tail, row = value
  · refine ⟨.ref b, rfl, b, _, rfl, ex_t e1 R.val, rfl, _, _, rfl, _, _, rfl, _, _, rfl, _, _, rfl, rfl, ?_⟩
    have R1 := R.mono e1
    have hml := mt_len R.oc
    have hmn := mt_names R.oc
    refine q_when (b := false) (et_or (a := false) (et_is (et_test (ev_eqS (ev_var rfl) ev_nil)) (decide_eq_false R.ne)) fun _ => et_not (a := true) (et_B (ev_spV (ea_2 (ev_var rfl) (ev_var rfl)) fun H2 e2 => ⟨a, r, ws, mt ws C, rfl, R1.wa.mono e2, ok, ex_t e2 R1.row, hmn, by omega, rfl⟩))) (fun e => nomatch e) fun _ H2 e2 => ?_
    have R2 := R1.mono e2
    refine q_when (b := false) (et_or (a := false) (et_is (et_test (ev_neS (a := []) (b := []) ?_ (ev_var rfl))) rfl) fun _ => et_is (et_test (ev_neS (a := C) (b := C) ?_ ?_)) (by rw [decide_eq_true rfl]; rfl)) (fun e => nomatch e) fun _ H3 e3 => ?_
    · refine ev_slS (a := B) (ev_var rfl) (eo_some (i := (B.length : Int)) (ev_is (ev_max2 ev_c (ev_subI (ev_lenS (ev_var rfl) (by omega)) (ev_lenS (t := []) (ev_var rfl) (by show 0 ≤ 1000; omega)))) ?_)) eo_none (by omega) ?_
      · congr 1
        show (if (B.length : Int) - ((0 : Nat) : Int) > 0 then (B.length : Int) - ((0 : Nat) : Int) else 0) = _
        split <;> omega
      · rw [cut_from, List.drop_length]
    · exact ev_addS (a := []) (b := C) (ev_var rfl) (ev_var rfl) (by show 0 + _ ≤ 1000; omega)
    · have h := ev_addS (ta := tM1 (rJoin K) (tC (.str (Str.ofString ""))) (tVar 5)) (tb := tVar 4) (σ := [some (.ref a), some (.ref b), some (vS B), some (vS C), some (vS []), some (.ref r), none, none, none, none]) (H := H2) (a := (mt ws C).flatten) (b := [])
        (ev_joinT ev_nil (ev_var rfl) R2.row (by rw [mt_join R.oc]; omega)) (ev_var rfl) (by rw [mt_join R.oc]; show _ + 0 ≤ 1000; omega)
      rw [mt_join R.oc, List.append_nil] at h
      exact h
    · have R3 := R2.mono e3
      refine q_asg (v := vS (rd ws [] B).2) (ev_ixU (i := 1) (xs := [.int (csum ws (rd ws [] B).1), vS (rd ws [] B).2]) (eu_spU (ea_3 (ev_var rfl) ev_nil (ev_var rfl)) fun H4 e4 => ⟨a, ws, [], B, rfl, R3.wa.mono e4, ok, ov_nil, R.ob, .inl rfl, by omega, rfl⟩) ev_c rfl) fun H4 e4 => ?_
      have R4 := R3.mono e4
      refine aq_call (ea_3 (ev_var rfl) (ev_var rfl) (ev_var rfl)) fun H5 e5 => ?_
      have R5 := R4.mono e5
      refine ⟨_, ⟨a, ws, (rd ws [] B).2, C, rfl, R5.wa, ok, rd_hold _ _ ov_nil R.ob, R.oc, rd_held _ _ (.inl rfl), by omega, rfl⟩, fun p H6 hp e6 h6 => ?_⟩
      refine ⟨p, _, rfl, st_of h6, rfl, _, _, rfl, _, _, rfl, rfl, ?_⟩
      have R6 := R5.mono e6
      refine s_retU (eu_ifT (et_is (et_test (ev_eqS (ev_var rfl) (ev_var rfl))) (decide_eq_true R.hold)) (eu_tup (ea_2 (ev_var rfl) (ev_spV (ea_2 (ev_var rfl) (ev_var rfl)) fun H7 e7 => ⟨a, r, ws, mt ws C, rfl, R6.wa.mono e7, ok, ex_t e7 R6.row, hmn, by omega, rfl⟩)) (by show 2 ≤ 100000; decide))) fun p H7 hp e7 h7 => ?_
      have ee := ((((e1.trans e2).trans e3).trans e4).trans e5).trans e6
      exact q p H7 (fresh_back ee hp) (ee.trans e7) h7

def sp_round_sums (K : PySem.W.Frag) : Sp := spU fun vs H xs => ∃ (a b r : Addr) (ws : WL) (B C : Tx), vs = [.ref a, .ref b] ∧ Round K H a b r ws B C ∧ xs = [.int (csum ws (rd ws (rd ws [] B).2 C).1), .int (csum ws (mt ws C))]
theorem ok_round_sums (T : Top K mg) : Cal P w K mg base "round_sums" 7 ["words", "value"] (sp_round_sums K) := by
  obtain ⟨f, fd, F, hg⟩ := T.d_round_sums
  have c_check_words : Cal P w K mg base "check_words" 4 ["words"] (sp_check_words K) := ok_check_words T
  have c_sums_of : Cal P w K mg base "sums_of" 6 ["words", "value"] (sp_sums_of K) := ok_sums_of T
  refine ⟨f, fd, F.ok sc_round_sums (fun vs H Q E h => by
      obtain ⟨_, ⟨_, _, _, _, _, _, rfl, _⟩, _⟩ := h
      rfl) (fun cdv A outer s H vs Q E hr h => ?_), hg, F.kp, F.binds (ps := ["words", "value"]) fun _ _ _ _ _ _ us hl => match us, hl with | [_, _], _ => rfl⟩
  have nd := sc_round_sums.nd
  refine ⟨(tSeq (tDrop (tCall (sp_check_words K) [] E0 (tCons (tVar 0) tNil)))
      (tRet (tCall (sp_sums_of K) [] E0 (tCons (tVar 0) (tCons (tVar 1) tNil))))), (pss_cons (ps_expr (pe_own c_check_words hr (by decide) (by rfl) (pa_cons (pv 0) pa_nil)))
      (pss_one (ps_ret (pe_own c_sums_of hr (by decide) (by rfl) (pa_cons (pv 0) (pa_cons (pv 1) pa_nil)))))), ?_⟩
  obtain ⟨xs, ⟨a, b, r, ws, B, C, rfl, R, rfl⟩, q⟩ := h
  refine q_drop (v := .non) (ev_spV (ea_1 (ev_var rfl)) fun H1 e => ⟨a, ws, rfl, R.wa.mono e, R.ok, rfl⟩) fun H1 e1 => ?_
  exact s_retU (eu_spU (ea_2 (ev_var rfl) (ev_var rfl)) fun H2 e2 => ⟨a, b, r, ws, B, C, rfl, R.mono (e1.trans e2), rfl⟩) fun p H2 hp e2 h2 => q p H2 (fresh_back e1 hp) (e1.trans e2) h2

/-! ### the law's letters, grows -/
def sp__law_letters (K : PySem.W.Frag) : Sp := spL fun vs H xs => ∃ (a : Addr) (ws : WL), vs = [.ref a] ∧ WA K H a ws ∧ Ok ws ∧ xs = (lets ws).map vS
theorem ok__law_letters (T : Top K mg) : Cal P w K mg base "_law_letters" 1 ["_law_words_here"] (sp__law_letters K) := by
  obtain ⟨f, fd, F, hg⟩ := T.d__law_letters
  refine ⟨f, fd, F.ok sc__law_letters (fun vs H Q E h => by
      obtain ⟨_, ⟨_, _, rfl, _⟩, _⟩ := h
      rfl) (fun cdv A outer s H vs Q E hr h => ?_), hg, F.kp, F.binds (ps := ["_law_words_here"]) fun _ _ _ _ _ _ us hl => match us, hl with | [_], _ => rfl⟩
  have nd := sc__law_letters.nd
  refine ⟨(tRet (tLc (iTup K (tVar 0)) (gTup K 2 (gCons (gName 1) (gCons (gName 2) gNil))) (tTest (tOp rEq (tCB rLenStr (tCons (tVar 1) tNil)) (tC (.int 1)))) (tVar 1) [1, 2])), (pss_one (ps_ret (pe_lc (own := [("_law_word", 1), ("_law_cost_here", 2)]) (wi := (iTup K (tVar 0))) (g := (gTup K 2 (gCons (gName 1) (gCons (gName 2) gNil)))) (tt := (tTest (tOp rEq (tCB rLenStr (tCons (tVar 1) tNil)) (tC (.int 1))))) (te := (tVar 1)) rfl nd (pi_tup (pv 0)) (blkOk_by (N := ["_law_words_here", "_law_word", "_law_cost_here"]) (sc := defScope s__law_letters) (own := [("_law_word", 1), ("_law_cost_here", 2)]) (by decide +kernel)) (fun _ _ _ _ _ => (pg_tup rfl (pgs_cons (pg_name (i := 1) nd rfl (Or.inl rfl)) (pgs_cons (pg_name (i := 2) nd rfl (Or.inl rfl)) pgs_nil)))) (fun _ _ _ _ _ => pts_one (pt_cmpR (r := rEq) op_eq (pe_callB (r := rLenStr) call_len_str (by rfl) T.n_len PySem.boot_len (pa_cons (pv 1) pa_nil)) pe_int (nomark _))) (fun _ _ _ _ _ => (pv 1))))), ?_⟩
  obtain ⟨xs, ⟨a, ws, rfl, hW, ok, rfl⟩, q⟩ := h
  have l8 := ok.len8
  refine s_retL (xs := (lets ws).map vS) ?_ q
  rw [← map_lets]
  exact el_lcW _ _ (ev_var rfl) hW (by omega) (fun _ _ => rfl) (fun p hp => et_test (ev_is (ev_eqI (ev_lenS (ev_var rfl) (by have := (ok.word p hp).2; omega)) ev_c) (congrArg V.bl (dec_cast _ 1)))) fun p hp _ => ev_var rfl

def sp__law_grows (K : PySem.W.Frag) : Sp := spV fun vs H v => ∃ (a : Addr) (ws : WL) (t : Tx), vs = [.ref a, vS t] ∧ WA K H a ws ∧ Ok ws ∧ t.length ≤ 900 ∧ v = .bl (grow ws t)
theorem ok__law_grows (T : Top K mg) : Cal P w K mg base "_law_grows" 1 ["_law_words_here", "_law_text_here"] (sp__law_grows K) := by
  obtain ⟨f, fd, F, hg⟩ := T.d__law_grows
  refine ⟨f, fd, F.ok sc__law_grows (fun vs H Q E h => by
      obtain ⟨_, ⟨_, _, _, rfl, _⟩, _⟩ := h
      rfl) (fun cdv A outer s H vs Q E hr h => ?_), hg, F.kp, F.binds (ps := ["_law_words_here", "_law_text_here"]) fun _ _ _ _ _ _ us hl => match us, hl with | [_, _], _ => rfl⟩
  have nd := sc__law_grows.nd
  refine ⟨(tRet (tCB (rAny K) (tCons (tLc (iTup K (tVar 0)) (gTup K 2 (gCons (gName 2) (gCons (gName 3) gNil))) tYes (tAndV (tOp rGtI (tCB rLenStr (tCons (tVar 2) tNil)) (tCB rLenStr (tCons (tVar 1) tNil))) (tOp rEq (L2.tSl rSlS (tVar 2) tNoPart (tPart (tCB rLenStr (tCons (tVar 1) tNil)))) (tVar 1))) [2, 3]) tNil))), (pss_one (ps_ret (pe_callB (r := (rAny K)) (cr_any rfl) (by rfl) T.n_any (by decide +kernel) (pa_cons (pe_lc (own := [("_law_word", 2), ("_law_cost_here", 3)]) (wi := (iTup K (tVar 0))) (g := (gTup K 2 (gCons (gName 2) (gCons (gName 3) gNil)))) (tt := tYes) (te := (tAndV (tOp rGtI (tCB rLenStr (tCons (tVar 2) tNil)) (tCB rLenStr (tCons (tVar 1) tNil))) (tOp rEq (L2.tSl rSlS (tVar 2) tNoPart (tPart (tCB rLenStr (tCons (tVar 1) tNil)))) (tVar 1)))) rfl nd (pi_tup (pv 0)) (blkOk_by (N := ["_law_words_here", "_law_text_here", "_law_word", "_law_cost_here"]) (sc := defScope s__law_grows) (own := [("_law_word", 2), ("_law_cost_here", 3)]) (by decide +kernel)) (fun _ _ _ _ _ => (pg_tup rfl (pgs_cons (pg_name (i := 2) nd rfl (Or.inl rfl)) (pgs_cons (pg_name (i := 3) nd rfl (Or.inl rfl)) pgs_nil)))) (fun _ _ _ _ _ => pts_nil) (fun _ _ _ _ _ => (pe_and (pe_cmpR (r := rGtI) op_gt (pe_callB (r := rLenStr) call_len_str (by rfl) T.n_len PySem.boot_len (pa_cons (pv 2) pa_nil)) (pe_callB (r := rLenStr) call_len_str (by rfl) T.n_len PySem.boot_len (pa_cons (pv 1) pa_nil)) (nomark _)) (pe_one (pe_cmpR (r := rEq) op_eq (pe_slice (r := rSlS) sl_str (pv 2) po_none (po_some (pe_callB (r := rLenStr) call_len_str (by rfl) T.n_len PySem.boot_len (pa_cons (pv 1) pa_nil)))) (pv 1) (nomark _)))))) pa_nil)))), ?_⟩
  obtain ⟨v, ⟨a, ws, t, rfl, hW, ok, hz, rfl⟩, q⟩ := h
  have l8 := ok.len8
  refine s_ret (v := .bl (grow ws t)) ?_ q
  refine ev_anyM (f := growP t) (el_lcWY _ (ev_var rfl) hW (by omega) (fun _ _ => rfl) fun p hp => ?_)
  have hp4 := (ok.word p hp).2
  refine ev_is (ev_andV (a := decide (t.length < p.1.length)) (b := decide (p.1.take t.length = t)) (ev_is (ev_gtI (ev_lenS (ev_var rfl) (by omega)) (ev_lenS (ev_var rfl) (by omega))) (congrArg V.bl (dec_lt _ _))) fun _ => ev_eqS (ev_slS (a := p.1) (ev_var rfl) eo_none (eo_some (ev_lenS (ev_var rfl) (by omega))) (by omega) (cut_to _ _)) (ev_var rfl)) ?_
  unfold growP
  rw [beq_dec]

/-! ### the law's longest match -/
def sp__law_match (K : PySem.W.Frag) : Sp := spU fun vs H xs => ∃ (a : Addr) (ws : WL) (t : Tx), vs = [.ref a, vS t] ∧ WA K H a ws ∧ Ok ws ∧ Ov ws t ∧ t.length ≤ 900 ∧ xs = (mt ws t).map vS
theorem ok__law_match (T : Top K mg) : Cal P w K mg base "_law_match" 1 ["_law_words_here", "_law_text_here"] (sp__law_match K) := by
  obtain ⟨f, fd, F, hg⟩ := T.d__law_match
  refine ⟨f, fd, F.ok sc__law_match (fun vs H Q E h => by
      obtain ⟨_, ⟨_, _, _, rfl, _⟩, _⟩ := h
      rfl) (fun cdv A outer s H vs Q E hr h => ?_), hg, F.kp, F.binds (ps := ["_law_words_here", "_law_text_here"]) fun _ _ _ _ _ _ us hl => match us, hl with | [_, _], _ => rfl⟩
  have nd := sc__law_match.nd
  refine ⟨(tSeq (tAsg (tLst tNil) (gName 2))
      (tSeq (tAsg (tC (.int 0)) (gName 3))
      (tSeq (tFor (iRng1 (tCons (tCB rLenStr (tCons (tVar 1) tNil)) tNil)) (gName 4)
      (tIfS (tTest (tOp rLtI (tVar 3) (tCB rLenStr (tCons (tVar 1) tNil))))
      (tSeq (tAsg (tC (.str (Str.ofString ""))) (gName 5))
      (tSeq (tFor (iTup K (tVar 0)) (gTup K 2 (gCons (gName 6) (gCons (gName 7) gNil)))
      (tIfS (tAnd (tTest (tOp rGtI (tCB rLenStr (tCons (tVar 6) tNil)) (tCB rLenStr (tCons (tVar 5) tNil)))) (tTest (tOp rEq (L2.tSl rSlS (tVar 1) (tPart (tVar 3)) (tPart (tOp rAddI (tVar 3) (tCB rLenStr (tCons (tVar 6) tNil))))) (tVar 6))))
      (tAsg (tVar 6) (gName 5)) tNext))
      (tSeq (tDrop (tBM K "list" rAppend (tVar 2) (tCons (tVar 5) tNil)))
      (tAsg (tOp rAddI (tVar 3) (tCB rLenStr (tCons (tVar 5) tNil))) (gName 3))))) tNext))
      (tRet (tCB (rTupOf K) (tCons (tVar 2) tNil)))))), (pss_cons (ps_set (i := 2) nd rfl (Or.inl rfl) (pe_lst pa_nil))
      (pss_cons (ps_set (i := 3) nd rfl (Or.inl rfl) pe_int)
      (pss_cons (ps_for PassesOwn.never rfl (pi_range1 (by rfl) T.n_range (pa_cons (pe_callB (r := rLenStr) call_len_str (by rfl) T.n_len PySem.boot_len (pa_cons (pv 1) pa_nil)) pa_nil)) (pg_name (i := 4) nd rfl (Or.inl rfl))
      (pss_one (ps_if (pt_cmpR (r := rLtI) op_lt (pv 3) (pe_callB (r := rLenStr) call_len_str (by rfl) T.n_len PySem.boot_len (pa_cons (pv 1) pa_nil)) (nomark _))
      (pss_cons (ps_set (i := 5) nd rfl (Or.inl rfl) pe_str)
      (pss_cons (ps_for PassesOwn.never rfl (pi_tup (pv 0)) (pg_tup rfl (pgs_cons (pg_name (i := 6) nd rfl (Or.inl rfl)) (pgs_cons (pg_name (i := 7) nd rfl (Or.inl rfl)) pgs_nil)))
      (pss_one (ps_if (PW.pt (pw_and (pt_cmpR (r := rGtI) op_gt (pe_callB (r := rLenStr) call_len_str (by rfl) T.n_len PySem.boot_len (pa_cons (pv 6) pa_nil)) (pe_callB (r := rLenStr) call_len_str (by rfl) T.n_len PySem.boot_len (pa_cons (pv 5) pa_nil)) (nomark _)) (pw_and1 (pt_cmpR (r := rEq) op_eq (pe_slice (r := rSlS) sl_str (pv 1) (po_some (pv 3)) (po_some (pe_op (r := rAddI) op_add (pv 3) (pe_callB (r := rLenStr) call_len_str (by rfl) T.n_len PySem.boot_len (pa_cons (pv 6) pa_nil))))) (pv 6) (nomark _)))))
      (pss_one (ps_set (i := 5) nd rfl (Or.inl rfl) (pv 6))) pss_nil)))
      (pss_cons (ps_expr (pe_bm (r := rAppend) PySem.F.plainAttrs_list PySem.F.slot_list_append PySem.F.type_list_append mt_append (pv 2) (pa_cons (pv 5) pa_nil)))
      (pss_one (ps_set (i := 3) nd rfl (Or.inl rfl) (pe_op (r := rAddI) op_add (pv 3) (pe_callB (r := rLenStr) call_len_str (by rfl) T.n_len PySem.boot_len (pa_cons (pv 5) pa_nil)))))))) pss_nil)))
      (pss_one (ps_ret (pe_callTy (r := (rTupOf K)) call_tuple_of (by rfl) T.n_tuple (by decide +kernel) (pa_cons (pv 2) pa_nil))))))), ?_⟩
  obtain ⟨xs, ⟨a, ws, t, rfl, hW, ok, ho, hz, rfl⟩, q⟩ := h
  have l8 := ok.len8
  refine q_asgL (xs := []) (el_lst ea_nil (by simp)) fun g H1 hg e1 h1 => ?_
  refine q_asg (v := .int ((0 : Nat) : Int)) ev_c fun H2 e2 => ?_
  refine q_forR1 (ea_1 (ev_lenS (ev_var rfl) (by omega))) ⟨by omega, by omega⟩ (fun i σ' H' => ∃ (j : Nat) (acc : List Tx) (y4 y5 y6 y7 : Option V), σ' = [some (.ref a), some (vS t), some (.ref g), some (.int (j : Int)), y4, y5, y6, y7] ∧ Ex H H' ∧ H' g = some (.lst (acc.map vS)) ∧
      j ≤ t.length ∧ acc ++ mt ws (t.drop j) = mt ws t ∧ min i t.length ≤ j ∧ acc.length ≤ i) (fun H3 e3 => ⟨0, [], none, none, none, none, rfl, (e1.trans e2).trans e3, e3 g _ (e2 g _ h1), Nat.zero_le _, rfl, by omega, Nat.le_refl _⟩) (fun i σ' H' hi hV => ?_) fun σ' H' hV => ?_
  · obtain ⟨j, acc, y4, y5, y6, y7, rfl, e3, h3, hj, hm, hij, hl⟩ := hV
    refine s_when (b := decide (j < t.length)) (et_test (ev_is (ev_ltI (ev_var rfl) (ev_lenS (ev_var rfl) (by omega))) (congrArg V.bl (dec_lt _ _)))) (fun hb H4 e4 => ?_) fun hb H4 e4 => ?_
    · have hb := of_decide_eq_true hb
      have hne : t.drop j ≠ [] := fun e => by
        have := congrArg List.length e
        rw [List.length_drop] at this
        simp at this
        omega
      have hdo := ov_drop j ho
      have hk := (lw_ok hdo hne).1
      have hkl := lw_len ws (t.drop j)
      rw [List.length_drop] at hkl
      have hbeg := fun b => beg_len (w := b) (t := t.drop j)
      have e34 := e3.trans e4
      refine q_asg (v := vS []) ev_nil fun H5 e5 => ?_
      have e35 := e34.trans e5
      refine q_forW (a := a) (ws := ws) (ev_var rfl) (hW.mono e35) (Ex.refl H5) (fun m σ2 H6 => ∃ (y6 y7 : Option V), σ2 = [some (.ref a), some (vS t), some (.ref g), some (.int (j : Int)), some (.int (i : Int)), some (vS ((ws.take m).foldl (lwF (t.drop j)) [])), y6, y7] ∧ Ex H5 H6) (fun H6 e6 => ⟨y6, y7, rfl, e6⟩) (fun m σ2 H6 hV => by
          obtain ⟨_, _, _, e6⟩ := hV
          exact e6) (fun m p σ2 H6 hp hV => ?_) fun σ2 H6 hV => ?_
      · obtain ⟨z6, z7, rfl, e6⟩ := hV
        have hpl := (ok.word p (List.mem_of_getElem? hp)).2
        have hfl : ((ws.take m).foldl (lwF (t.drop j)) []).length ≤ t.length := by
          rcases (lwF_fold (t.drop j) (ws.take m) [] (.inr rfl)).2.1 with h | h
          · have := beg_len h
            rw [List.length_drop] at this
            omega
          · rw [h]
            exact Nat.zero_le _
        rw [take_at hp, List.foldl_append]
        generalize hbb : (ws.take m).foldl (lwF (t.drop j)) [] = bb at hfl ⊢
        refine s_ifAsg (b := decide (bb.length < p.1.length) && beg p.1 (t.drop j)) (v := vS (lwF (t.drop j) bb p)) (et_and (a := decide (bb.length < p.1.length)) (et_test (ev_is (ev_gtI (ev_lenS (t := p.1) (ev_var rfl) (by omega)) (ev_lenS (t := bb) (ev_var rfl) (by omega))) (congrArg V.bl (dec_lt _ _)))) fun _ => et_test ?_) (fun hc => ?_) (fun hc => ?_) fun H7 e7 => ⟨some (vS p.1), some (.int p.2), rfl, e6.trans e7⟩
        · unfold beg
          rw [beq_dec]
          refine ev_eqS (ev_slS (a := t) (ev_var rfl) (eo_some (i := (j : Int)) (ev_var rfl)) (eo_some (i := ((j + p.1.length : Nat) : Int)) (ev_is (ev_addI (ev_var rfl) (ev_lenS (t := p.1) (ev_var rfl) (by omega))) rfl)) (by omega) ?_) (ev_var rfl)
          rw [cut_nat, List.drop_take, Nat.add_sub_cancel_left]
        · unfold lwF
          rw [if_pos hc]
          exact ev_var rfl
        · unfold lwF
          rw [if_neg (by rw [hc]; decide)]
          rfl
      · obtain ⟨z6, z7, rfl, e6⟩ := hV
        rw [List.take_length]
        have hlw : ws.foldl (lwF (t.drop j)) [] = lw ws (t.drop j) := rfl
        rw [hlw]
        refine q_app (K := K) (l := g) (xs := acc.map vS) (v := vS (lw ws (t.drop j))) (e6 g _ (e5 g _ (e4 g _ h3))) (ev_var rfl) (ev_var rfl) (by rw [List.length_map]; omega) fun H7 e7 => ?_
        have e37 : Ex H (upd H7 g (.lst (acc.map vS ++ [vS (lw ws (t.drop j))]))) := Ex.mut ((e35.trans e6).trans e7) hg
        refine s_asg (v := .int ((j + (lw ws (t.drop j)).length : Nat) : Int)) (ev_is (ev_addI (ev_var rfl) (ev_lenS (t := lw ws (t.drop j)) (ev_var rfl) (by omega))) rfl) fun H8 e8 => ?_
        refine ⟨j + (lw ws (t.drop j)).length, acc ++ [lw ws (t.drop j)], _, _, _, _, rfl, e37.trans e8, ?_, by omega, ?_, by omega, ?_⟩
        · refine e8 g _ ?_
          rw [upd_same, List.map_append]
          rfl
        · rw [← hm, mt_ov hdo hne, List.append_assoc, List.drop_drop]
          rfl
        · rw [List.length_append]
          show acc.length + 1 ≤ i + 1
          omega
    · have hb := of_decide_eq_false hb
      exact ⟨j, acc, _, _, _, _, rfl, e3.trans e4, e4 g _ h3, hj, hm, by omega, by omega⟩
  · obtain ⟨j, acc, y4, y5, y6, y7, rfl, e3, h3, hj, hm, hij, hl⟩ := hV
    have ej : j = t.length := by omega
    rw [ej, List.drop_length, mt_nil, List.append_nil] at hm
    rw [← hm] at q
    exact s_retU (eu_tupOfL (p := g) (ev_var rfl) (sq_of h3)) fun p H4 hp e4 h4 => q p H4 (fresh_back e3 hp) (e3.trans e4) h4

/-! ### the law's sum -/
def sp__law_sum (K : PySem.W.Frag) : Sp := spV fun vs H v => ∃ (a b : Addr) (ws : WL) (ts : List Tx), vs = [.ref a, .ref b] ∧ WA K H a ws ∧ Ok ws ∧ SqT K H b (ts.map vS) ∧ (∀ t ∈ ts, t ∈ names ws) ∧ ts.length ≤ 1000 ∧ v = .int (csum ws ts)
theorem Ok.nodup {ws : WL} (ok : Ok ws) : (names ws).Nodup := ok.sort.imp fun {a b} h e => by
  rw [e] at h
  exact absurd h (List.lt_irrefl b)
theorem nodup_take {ws : WL} (ok : Ok ws) {i : Nat} {p : Tx × Int} (hp : ws[i]? = some p) : p.1 ∉ names (ws.take i) := by
  have h := ok.nodup
  have e : names ws = names (ws.take i) ++ names (ws.drop i) := by
    unfold names
    rw [← List.map_append, List.take_append_drop]
  rw [e] at h
  intro hm
  have hd : p.1 ∈ names (ws.drop i) := by
    unfold names
    refine List.mem_map.mpr ⟨p, ?_, rfl⟩
    refine List.mem_of_getElem? (i := 0) ?_
    rw [List.getElem?_drop]
    exact hp
  exact (List.nodup_append.mp h).2.2 _ hm _ hd rfl
theorem ok__law_sum (T : Top K mg) : Cal P w K mg base "_law_sum" 1 ["_law_words_here", "_law_row"] (sp__law_sum K) := by
  obtain ⟨f, fd, F, hg⟩ := T.d__law_sum
  refine ⟨f, fd, F.ok sc__law_sum (fun vs H Q E h => by
      obtain ⟨_, ⟨_, _, _, _, rfl, _⟩, _⟩ := h
      rfl) (fun cdv A outer s H vs Q E hr h => ?_), hg, F.kp, F.binds (ps := ["_law_words_here", "_law_row"]) fun _ _ _ _ _ _ us hl => match us, hl with | [_, _], _ => rfl⟩
  have nd := sc__law_sum.nd
  refine ⟨(tSeq (tAsg tDNewK (gName 2))
      (tSeq (tFor (iTup K (tVar 0)) (gTup K 2 (gCons (gName 3) (gCons (gName 4) gNil)))
      (sDPut (tVar 2) (tVar 3) (tVar 4)))
      (tRet (tCB (rSum K) (tCons (tLc (iTup K (tVar 1)) (gName 3) tYes (tDGet (tVar 2) (tVar 3)) [3]) tNil))))), (pss_cons (ps_set (i := 2) nd rfl (Or.inr rfl) pe_dnewK)
      (pss_cons (ps_for PassesOwn.never rfl (pi_tup (pv 0)) (pg_tup rfl (pgs_cons (pg_name (i := 3) nd rfl (Or.inl rfl)) (pgs_cons (pg_name (i := 4) nd rfl (Or.inl rfl)) pgs_nil)))
      (pss_one (ps_dput (hu_of hr) (pv 2) (pv 3) (pv 4) rfl)))
      (pss_one (ps_ret (pe_callB (r := (rSum K)) (cr_sum rfl) (by rfl) T.n_sum (by decide +kernel) (pa_cons (pe_lc (own := [("_law_word", 3)]) (wi := (iTup K (tVar 1))) (g := (gName 3)) (tt := tYes) (te := (tDGet (tVar 2) (tVar 3))) rfl nd (pi_tup (pv 1)) (blkOk_by (N := ["_law_words_here", "_law_row", "_law_costs", "_law_word", "_law_cost_here"]) (sc := defScope s__law_sum) (own := [("_law_word", 3)]) (by decide +kernel)) (fun _ _ _ _ _ => (pg_name (i := 3) nd rfl (Or.inl rfl))) (fun _ _ _ _ _ => pts_nil) (fun _ _ _ _ _ => (pe_dget (hu_of hr) (pv 2) (pv 3) (fun _ _ => rfl)))) pa_nil)))))), ?_⟩
  obtain ⟨v, ⟨a, b, ws, ts, rfl, hW, ok, hT, hn, hz, rfl⟩, q⟩ := h
  have l8 := ok.len8
  refine fun d hd => ?_
  have e1 : Ex H (upd H d (.dK [])) := Ex.new hd
  refine q_forW (a := a) (ws := ws) (ev_var rfl) hW e1 (fun i σ' H' => ∃ (y3 y4 : Option V), σ' = [some (.ref a), some (.ref b), some (.ref d), y3, y4] ∧ Ex H H' ∧ H' d = some (.dK (dk (ws.take i)))) (fun H2 e2 => ⟨none, none, rfl, e1.trans e2, e2 d _ upd_same⟩) (fun i σ' H' hV => ?_) (fun i p σ' H' hp hV => ?_) fun σ' H' hV => ?_
  · obtain ⟨_, _, _, e3, _⟩ := hV
    exact e3
  · obtain ⟨y3, y4, rfl, e3, h3⟩ := hV
    refine ⟨_, rfl, _, rfl, _, rfl, d, _, rfl, DPut.k (k := Sum.inr (mk p.1)) h3 (by rw [dk_len, List.length_take]; exact small_lt (by omega)), ?_⟩
    refine ⟨_, _, rfl, Ex.mut e3 hd, ?_⟩
    rw [upd_same, dk_put (nodup_take ok hp), take_at hp]
  · obtain ⟨y3, y4, rfl, e3, h3⟩ := hV
    rw [List.take_length] at h3
    refine s_ret (v := .int (csum ws ts)) ?_ fun H4 e4 => q H4 (e3.trans e4)
    exact ev_sumM (el_lcTY (K := K) ts vS _ (ev_var rfl) (ex_t e3 hT) hz (fun _ => rfl) fun t ht => ev_dget (ev_var rfl) (ev_var rfl) h3 (dk_get (hn t ht)))
end
end Gc
/-! The law's least cost, and its reader. -/
namespace Gc
open PySem PySem.Spec PyProof.Rows L2 Evl
section
variable {P : Program} {w : World} {K : PySem.W.Frag} {mg : Str → Option Value} {base : Heap}

/-! ### the least cost -/
def sp__law_least (K : PySem.W.Frag) : Sp := spV fun vs H v => ∃ (a : Addr) (ws : WL) (t : Tx), vs = [.ref a, vS t] ∧ WA K H a ws ∧ Ok ws ∧ Ov ws t ∧ t.length ≤ 900 ∧ v = .int (least ws t)
theorem cand_some {ws : WL} (ok : Ok ws) {t : Tx} (ho : Ov ws t) (bs : List Int) {e : Nat} (he : e < t.length) : 0 < (cand ws t bs (e + 1)).length := by
  have hc : [t[e]] ∈ names ws := ho _ (List.getElem_mem he)
  obtain ⟨p, hp, ep⟩ := List.mem_map.mp hc
  have h : candP t (e + 1) p = true := by
    unfold candP
    rw [ep]
    show ((t.take (e + 1)).drop e == [t[e]]) = true
    rw [take_at (List.getElem?_eq_getElem he), List.drop_append_of_le_length (by rw [List.length_take]; omega), List.drop_eq_nil_of_le (by rw [List.length_take]; omega)]
    exact beq_self_eq_true _
  unfold cand
  rw [List.length_map]
  exact List.length_pos_of_mem (List.mem_filter.mpr ⟨hp, h⟩)
theorem ok__law_least (T : Top K mg) : Cal P w K mg base "_law_least" 1 ["_law_words_here", "_law_text_here"] (sp__law_least K) := by
  obtain ⟨f, fd, F, hg⟩ := T.d__law_least
  refine ⟨f, fd, F.ok sc__law_least (fun vs H Q E h => by
      obtain ⟨_, ⟨_, _, _, rfl, _⟩, _⟩ := h
      rfl) (fun cdv A outer s H vs Q E hr h => ?_), hg, F.kp, F.binds (ps := ["_law_words_here", "_law_text_here"]) fun _ _ _ _ _ _ us hl => match us, hl with | [_, _], _ => rfl⟩
  have nd := sc__law_least.nd
  refine ⟨(tSeq (tAsg (tLst (tCons (tC (.int 0)) tNil)) (gName 2))
      (tSeq (tFor (iRng2 (tCons (tC (.int 1)) (tCons (tOp rAddI (tCB rLenStr (tCons (tVar 1) tNil)) (tC (.int 1))) tNil))) (gName 3)
      (tSeq (tAsg (tLc (iTup K (tVar 0)) (gTup K 2 (gCons (gName 5) (gCons (gName 6) gNil))) (tTest (tOp rEq (L2.tSl rSlS (tVar 1) (tPart (tCB rMax2 (tCons (tC (.int 0)) (tCons (tOp rSubI (tVar 3) (tCB rLenStr (tCons (tVar 5) tNil))) tNil)))) (tPart (tVar 3))) (tVar 5))) (tOp rAddI (tOp (rIxL K) (tVar 2) (tOp rSubI (tVar 3) (tCB rLenStr (tCons (tVar 5) tNil)))) (tVar 6)) [5, 6]) (gName 4))
      (tDrop (tBM K "list" rAppend (tVar 2) (tCons (tCB (rMin K) (tCons (tVar 4) tNil)) tNil)))))
      (tRet (tOp (rIxL K) (tVar 2) (tCB rLenStr (tCons (tVar 1) tNil)))))), (pss_cons (ps_set (i := 2) nd rfl (Or.inr rfl) (pe_lst (pa_cons pe_int pa_nil)))
      (pss_cons (ps_for PassesOwn.never rfl (pi_range2 (by rfl) T.n_range (pa_cons pe_int (pa_cons (pe_op (r := rAddI) op_add (pe_callB (r := rLenStr) call_len_str (by rfl) T.n_len PySem.boot_len (pa_cons (pv 1) pa_nil)) pe_int) pa_nil))) (pg_name (i := 3) nd rfl (Or.inr rfl))
      (pss_cons (ps_setLc (i := 4) (own := [("_law_word", 5), ("_law_cost_here", 6)]) (wi := (iTup K (tVar 0))) (g := (gTup K 2 (gCons (gName 5) (gCons (gName 6) gNil)))) (tt := (tTest (tOp rEq (L2.tSl rSlS (tVar 1) (tPart (tCB rMax2 (tCons (tC (.int 0)) (tCons (tOp rSubI (tVar 3) (tCB rLenStr (tCons (tVar 5) tNil))) tNil)))) (tPart (tVar 3))) (tVar 5)))) (te := (tOp rAddI (tOp (rIxL K) (tVar 2) (tOp rSubI (tVar 3) (tCB rLenStr (tCons (tVar 5) tNil)))) (tVar 6))) rfl nd rfl rfl (sw_true rfl rfl rfl (by decide +kernel)) (pi_tup (pv 0)) (blkOk_by (N := ["_law_words_here", "_law_text_here", "_law_best", "_law_end", "_law_costs", "_law_word", "_law_cost_here"]) (sc := defScope s__law_least) (own := [("_law_word", 5), ("_law_cost_here", 6)]) (by decide +kernel)) (fun _ _ _ _ _ => (pg_tup rfl (pgs_cons (pg_name (i := 5) nd rfl (Or.inl rfl)) (pgs_cons (pg_name (i := 6) nd rfl (Or.inl rfl)) pgs_nil)))) (fun _ _ _ _ _ => pts_one (pt_cmpR (r := rEq) op_eq (pe_slice (r := rSlS) sl_str (pv 1) (po_some (pe_callB (r := rMax2) (call_max2 rfl) (by rfl) T.n_max (by decide +kernel) (pa_cons pe_int (pa_cons (pe_op (r := rSubI) op_sub (pv 3) (pe_callB (r := rLenStr) call_len_str (by rfl) T.n_len PySem.boot_len (pa_cons (pv 5) pa_nil))) pa_nil)))) (po_some (pv 3))) (pv 5) (nomark _))) (fun _ _ _ _ _ => (pe_op (r := rAddI) op_add (pe_ix (r := (rIxL K)) ix_list (pv 2) (pe_op (r := rSubI) op_sub (pv 3) (pe_callB (r := rLenStr) call_len_str (by rfl) T.n_len PySem.boot_len (pa_cons (pv 5) pa_nil))) (fun _ _ => rfl)) (pv 6))))
      (pss_one (ps_expr (pe_bm (r := rAppend) PySem.F.plainAttrs_list PySem.F.slot_list_append PySem.F.type_list_append mt_append (pv 2) (pa_cons (pe_callB (r := (rMin K)) (cr_min rfl) (by rfl) T.n_min (by decide +kernel) (pa_cons (pv 4) pa_nil)) pa_nil))))))
      (pss_one (ps_ret (pe_ix (r := (rIxL K)) ix_list (pv 2) (pe_callB (r := rLenStr) call_len_str (by rfl) T.n_len PySem.boot_len (pa_cons (pv 1) pa_nil)) (fun _ _ => rfl)))))), ?_⟩
  obtain ⟨v, ⟨a, ws, t, rfl, hW, ok, ho, hz, rfl⟩, q⟩ := h
  have l8 := ok.len8
  refine q_asgL (xs := [.int 0]) (el_lst (ea_1 ev_c) (by show 1 ≤ 100000; decide)) fun g H1 hg e1 h1 => ?_
  refine q_forR2 (lo := 1) (n := (t.length : Int) + 1) (ea_2 ev_c (ev_addI (ev_lenS (ev_var rfl) (by omega)) ev_c)) ⟨by omega, by omega, by omega, by omega⟩ (fun i σ' H' => ∃ (y3 y4 y5 y6 : Option V), σ' = [some (.ref a), some (vS t), some (.ref g), y3, y4, y5, y6] ∧ Ex H H' ∧ H' g = some (.lst ((bl ws t i).map V.int)))
    (fun H2 e2 => ⟨none, none, none, none, rfl, e1.trans e2, e2 g _ h1⟩) (fun i σ' H' hi hV => ?_) fun σ' H' hV => ?_
  · obtain ⟨y3, y4, y5, y6, rfl, e3, h3⟩ := hV
    have hi : i < t.length := by omega
    have he : (1 : Int) + (i : Int) = ((i + 1 : Nat) : Int) := by omega
    rw [he]
    have hbl := bl_len ws t i
    refine q_asgL (xs := (cand ws t (bl ws t i) (i + 1)).map V.int) ?_ fun c H4 _ e4 h4 => ?_
    · unfold cand
      rw [List.map_map]
      refine el_lcW (K := K) (candP t (i + 1)) _ (ev_var rfl) (hW.mono e3) (by omega) (fun _ _ => rfl) (fun p hp => ?_) fun p hp hc => ?_
      · have hpl := (ok.word p hp).2
        refine et_test ?_
        unfold candP
        rw [beq_dec]
        refine ev_eqS (ev_slS (a := t) (ev_var rfl) (eo_some (i := ((i + 1 - p.1.length : Nat) : Int)) (ev_is (ev_max2 ev_c (ev_subI (ev_var rfl) (ev_lenS (t := p.1) (ev_var rfl) (by omega)))) ?_)) (eo_some (i := ((i + 1 : Nat) : Int)) (ev_var rfl)) (by omega) (cut_nat _ _ _)) (ev_var rfl)
        congr 1
        split <;> omega
      · have hpl := (ok.word p hp).2
        have hle := candP_len (t := t) (e := i + 1) (by omega) hc
        have hlt : i + 1 - p.1.length < (bl ws t i).length := by
          have := (ok.word p hp).1
          omega
        refine ev_is (ev_addI (ev_ixL (i := ((i + 1 - p.1.length : Nat) : Int)) (v := .int ((bl ws t i).getD (i + 1 - p.1.length) 0)) (ev_var rfl) (ev_is (ev_subI (ev_var rfl) (ev_lenS (t := p.1) (ev_var rfl) (by omega))) ?_) (sq_of h3) (atI_nat (j := i + 1 - p.1.length) ?_)) (ev_var rfl)) rfl
        · congr 1
          omega
        · rw [List.getElem?_map, List.getD_eq_getElem?_getD, List.getElem?_eq_getElem hlt]
          rfl
    · refine s_app (K := K) (l := g) (xs := (bl ws t i).map V.int) (v := .int (minL (cand ws t (bl ws t i) (i + 1)))) (e4 g _ h3) (ev_var rfl) (ev_minL (p := c) (ev_var rfl) (sq_of h4) (cand_some ok ho _ hi)) (by rw [List.length_map]; omega) fun H5 e5 => ?_
      refine ⟨_, _, _, _, rfl, Ex.mut ((e3.trans e4).trans e5) hg, ?_⟩
      rw [upd_same]
      show _ = some (HO.lst ((bl ws t i ++ [_]).map V.int))
      rw [List.map_append]
      rfl
  · obtain ⟨y3, y4, y5, y6, rfl, e3, h3⟩ := hV
    have en : ((t.length : Int) + 1 - 1).toNat = t.length := by omega
    rw [en] at h3
    refine s_ret (v := .int (least ws t)) ?_ fun H4 e4 => q H4 (e3.trans e4)
    refine ev_ixL (i := (t.length : Int)) (ev_var rfl) (ev_lenS (ev_var rfl) (by omega)) (sq_of h3) (atI_nat (j := t.length) ?_)
    unfold least
    rw [List.getElem?_map, List.getD_eq_getElem?_getD, List.getElem?_eq_getElem (by rw [bl_len]; omega)]
    rfl

/-! ### the law's reader -/
def sp__law_read (K : PySem.W.Frag) : Sp := spU fun vs H xs => ∃ (a : Addr) (ws : WL) (t : Tx) (c : Nat), vs = [.ref a, vS t, vS [c]] ∧ WA K H a ws ∧ Ok ws ∧ Ov ws (t ++ [c]) ∧ t.length ≤ 800 ∧ xs = [.int (csum ws (drain ws (t ++ [c])).1), vS (drain ws (t ++ [c])).2]
theorem ok__law_read (T : Top K mg) : Cal P w K mg base "_law_read" 2 ["_law_words_here", "_law_held", "_law_letter"] (sp__law_read K) := by
  obtain ⟨f, fd, F, hg⟩ := T.d__law_read
  have c__law_grows : Cal P w K mg base "_law_grows" 1 ["_law_words_here", "_law_text_here"] (sp__law_grows K) := ok__law_grows T
  have c__law_match : Cal P w K mg base "_law_match" 1 ["_law_words_here", "_law_text_here"] (sp__law_match K) := ok__law_match T
  have c__law_sum : Cal P w K mg base "_law_sum" 1 ["_law_words_here", "_law_row"] (sp__law_sum K) := ok__law_sum T
  refine ⟨f, fd, F.ok sc__law_read (fun vs H Q E h => by
      obtain ⟨_, ⟨_, _, _, _, rfl, _⟩, _⟩ := h
      rfl) (fun cdv A outer s H vs Q E hr h => ?_), hg, F.kp, F.binds (ps := ["_law_words_here", "_law_held", "_law_letter"]) fun _ _ _ _ _ _ us hl => match us, hl with | [_, _, _], _ => rfl⟩
  have nd := sc__law_read.nd
  refine ⟨(tSeq (tAsg (tOp rAddStr (tVar 1) (tVar 2)) (gName 3))
      (tSeq (tAsg (tC (.int 0)) (gName 4))
      (tSeq (tFor (iRng1 (tCons (tCB rLenStr (tCons (tVar 3) tNil)) tNil)) (gName 5)
      (tIfS (tAnd (tTest (tOp rNe (tVar 3) (tC (.str (Str.ofString ""))))) (tNot (tB (tCall (sp__law_grows K) [] E0 (tCons (tVar 0) (tCons (tVar 3) tNil))))))
      (tSeq (tAsg (tOp (rIxT K) (tCall (sp__law_match K) [] E0 (tCons (tVar 0) (tCons (tVar 3) tNil))) (tC (.int 0))) (gName 6))
      (tSeq (tAsg (tOp rAddI (tVar 4) (tCall (sp__law_sum K) [] E0 (tCons (tVar 0) (tCons (tTup (tCons (tVar 6) tNil)) tNil)))) (gName 4))
      (tAsg (L2.tSl rSlS (tVar 3) (tPart (tCB rLenStr (tCons (tVar 6) tNil))) tNoPart) (gName 3)))) tNext))
      (tRet (tTup (tCons (tVar 4) (tCons (tVar 3) tNil))))))), (pss_cons (ps_set (i := 3) nd rfl (Or.inl rfl) (pe_op (r := rAddStr) op_add_str (pv 1) (pv 2)))
      (pss_cons (ps_set (i := 4) nd rfl (Or.inl rfl) pe_int)
      (pss_cons (ps_for PassesOwn.never rfl (pi_range1 (by rfl) T.n_range (pa_cons (pe_callB (r := rLenStr) call_len_str (by rfl) T.n_len PySem.boot_len (pa_cons (pv 3) pa_nil)) pa_nil)) (pg_name (i := 5) nd rfl (Or.inl rfl))
      (pss_one (ps_if (PW.pt (pw_and (pt_cmpR (r := rNe) op_ne (pv 3) pe_str (nomark _)) (pw_and1 (pt_not (pt_val (pe_own c__law_grows hr (by decide) (by rfl) (pa_cons (pv 0) (pa_cons (pv 3) pa_nil))))))))
      (pss_cons (ps_set (i := 6) nd rfl (Or.inl rfl) (pe_ix (r := (rIxT K)) ix_tup (pe_own c__law_match hr (by decide) (by rfl) (pa_cons (pv 0) (pa_cons (pv 3) pa_nil))) pe_int (fun _ _ => rfl)))
      (pss_cons (ps_set (i := 4) nd rfl (Or.inl rfl) (pe_op (r := rAddI) op_add (pv 4) (pe_own c__law_sum hr (by decide) (by rfl) (pa_cons (pv 0) (pa_cons (pe_tup (pa_cons (pv 6) pa_nil)) pa_nil)))))
      (pss_one (ps_set (i := 3) nd rfl (Or.inl rfl) (pe_slice (r := rSlS) sl_str (pv 3) (po_some (pe_callB (r := rLenStr) call_len_str (by rfl) T.n_len PySem.boot_len (pa_cons (pv 6) pa_nil))) po_none))))) pss_nil)))
      (pss_one (ps_ret (pe_tup (pa_cons (pv 4) (pa_cons (pv 3) pa_nil)))))))), ?_⟩
  obtain ⟨xs, ⟨a, ws, t, c, rfl, hW, ok, ho, hz, rfl⟩, q⟩ := h
  refine q_asg (v := vS (t ++ [c])) (ev_addS (ev_var rfl) (ev_var rfl) (by simp; omega)) fun H1 e1 => ?_
  refine q_asg (v := .int 0) ev_c fun H2 e2 => ?_
  have hfl : (t ++ [c]).length ≤ 900 := by simp; omega
  generalize hfull : t ++ [c] = full at ho hfl q ⊢
  refine q_forR1 (ea_1 (ev_lenS (t := full) (ev_var rfl) (by omega))) ⟨by omega, by omega⟩ (fun i σ' H' => ∃ (u : Tx) (G : Int) (y5 y6 : Option V), σ' = [some (.ref a), some (vS t), some (vS [c]), some (vS u), some (.int G), y5, y6] ∧ Ex H H' ∧ Ov ws u ∧ u.length ≤ full.length ∧
      G + csum ws (drain ws u).1 = csum ws (drain ws full).1 ∧ (drain ws u).2 = (drain ws full).2 ∧ (drain ws u = ([], u) ∨ u.length + i ≤ full.length))
    (fun H3 e3 => ⟨full, 0, none, none, rfl, (e1.trans e2).trans e3, ho, Nat.le_refl _, by omega, rfl, .inr (Nat.le_refl _)⟩) (fun i σ' H' hi hV => ?_) fun σ' H' hV => ?_
  · obtain ⟨u, G, y5, y6, rfl, e3, hu, hul, d1, d2, d3⟩ := hV
    refine s_when (b := !decide (u = []) && !grow ws u) (et_and (et_test (ev_neS (ev_var rfl) ev_nil)) fun _ => et_not (et_B (ev_spV (ea_2 (ev_var rfl) (ev_var rfl)) fun H4 e4 => ⟨a, ws, u, rfl, hW.mono (e3.trans e4), ok, by omega, rfl⟩))) (fun hb H4 e4 => ?_) fun hb H4 e4 => ?_
    · rw [Bool.and_eq_true, Bool.not_eq_true', Bool.not_eq_true', decide_eq_false_iff_not] at hb
      obtain ⟨hne, hgr⟩ := hb
      have h1 := lw_ok hu hne
      have h2' := lw_len ws u
      have e34 := e3.trans e4
      have hdr := drain_ov hu hne hgr
      have hmt := mt_ov hu hne
      refine q_asg (v := vS (lw ws u)) (ev_ixU (i := 0) (xs := (mt ws u).map vS) (eu_spU (ea_2 (ev_var rfl) (ev_var rfl)) fun H5 e5 => ⟨a, ws, u, rfl, hW.mono (e34.trans e5), ok, hu, by omega, rfl⟩) ev_c (by rw [hmt]; exact atI_nat (j := 0) rfl)) fun H5 e5 => ?_
      have e35 := e34.trans e5
      refine q_asg (v := .int (G + cst ws (lw ws u))) (ev_addI (ev_var rfl) (ev_spVU (ev_var rfl) (eu_tup (ea_1 (ev_var rfl)) (by show 1 ≤ 100000; decide)) fun p H6 e6 hp => ⟨a, p, ws, [lw ws u], rfl, hW.mono (e35.trans e6), ok, hp, fun x hx => by
          rw [List.mem_singleton] at hx
          rw [hx]
          exact h1.2, by show 1 ≤ 1000; decide, by
          rw [csum_cons, csum_nil, Int.add_zero]⟩)) fun H6 e6 => ?_
      refine s_asg (v := vS (u.drop (lw ws u).length)) (ev_slS (a := u) (ev_var rfl) (eo_some (ev_lenS (t := lw ws u) (ev_var rfl) (by omega))) eo_none (by omega) (cut_from u _)) fun H7 e7 => ?_
      refine ⟨u.drop (lw ws u).length, _, _, _, rfl, (e35.trans e6).trans e7, ov_drop _ hu, ?_, ?_, ?_, ?_⟩
      · rw [List.length_drop]
        omega
      · rw [← d1, hdr, csum_cons]
        omega
      · rw [← d2, hdr]
      · rcases d3 with d3 | d3
        · rw [hdr] at d3
          exact absurd (congrArg (fun x => x.1) d3) (by simp)
        · refine .inr ?_
          rw [List.length_drop]
          omega
    · have hd : drain ws u = ([], u) := by
        cases u with
        | nil => exact drain_nil ws
        | cons d r =>
          have hgr : grow ws (d :: r) = true := by
            cases hh : grow ws (d :: r) with
            | true => rfl
            | false =>
              rw [hh, decide_eq_false (List.cons_ne_nil d r)] at hb
              cases hb
          exact drain_grow hgr
      exact ⟨u, G, _, _, rfl, e3.trans e4, hu, hul, d1, d2, .inl hd⟩
  · obtain ⟨u, G, y5, y6, rfl, e3, hu, hul, d1, d2, d3⟩ := hV
    have hd : drain ws u = ([], u) := by
      rcases d3 with d3 | d3
      · exact d3
      · have e : u = [] := List.length_eq_zero_iff.mp (by omega)
        rw [e]
        exact drain_nil ws
    rw [hd] at d1 d2
    have d1 : G = csum ws (drain ws full).1 := by
      rw [← d1]
      show G = G + 0
      omega
    have d2 : u = (drain ws full).2 := d2
    rw [← d1, ← d2] at q
    exact s_retU (eu_tup (ea_2 (ev_var rfl) (ev_var rfl)) (by show 2 ≤ 100000; decide)) fun p H4 hp e4 h4 => q p H4 (fresh_back e3 hp) (e3.trans e4) h4
end
end Gc
/-! What is drawn from the script. -/
namespace Gc
open PySem PySem.Spec PyProof.Rows L2 Evl

/-! ### the stream -/
def Strm (H : Hp) (L : Addr) : Prop := ∃ (S : Addr) (ns : List Int) (c k : Int), H L = some (.lst [.ref S, .int c, .int k]) ∧ H S = some (.lst (ns.map V.int)) ∧ 0 ≤ k ∧ ns.length ≤ 63
/-- all but L stands -/
def ExB (L : Addr) (H H' : Hp) : Prop := ∀ b o, b ≠ L → H b = some o → H' b = some o
theorem ExB.refl (L : Addr) (H : Hp) : ExB L H H := fun _ _ _ h => h
theorem ExB.trans {L : Addr} {H H1 H2 : Hp} (a : ExB L H H1) (b : ExB L H1 H2) : ExB L H H2 := fun c o n h => b c o n (a c o n h)
theorem ExB.of {L : Addr} {H H' : Hp} (e : Ex H H') : ExB L H H' := fun b o _ h => e b o h
theorem Strm.mono {H H' : Hp} {L : Addr} (e : Ex H H') (h : Strm H L) : Strm H' L := by
  obtain ⟨S, ns, c, k, h1, h2, h3, h4⟩ := h
  exact ⟨S, ns, c, k, e L _ h1, e S _ h2, h3, h4⟩
theorem Strm.sqt {K : PySem.W.Frag} {H H' : Hp} {L b : Addr} {xs : List V} (s : Strm H L) (e : ExB L H H') (h : SqT K H b xs) : SqT K H' b xs := by
  obtain ⟨S, ns, c, k, h1, h2, h3, h4⟩ := s
  rcases h with (h | ⟨o, h⟩) | h
  · exact .inl (.inl (e b _ (ne_of h h1 (fun z => nomatch z)) h))
  · exact .inl (.inr ⟨o, e b _ (ne_of h h1 (fun z => nomatch z)) h⟩)
  · exact .inr h
theorem Strm.wa {K : PySem.W.Frag} {H H' : Hp} {L a : Addr} {ws : WL} (s : Strm H L) (e : ExB L H H') (h : WA K H a ws) : WA K H' a ws := by
  obtain ⟨ts, h1, h2, h3⟩ := h
  exact ⟨ts, s.sqt e h1, h2, fun i t p a b => s.sqt e (h3 i t p a b)⟩
section
variable {K : PySem.W.Frag} {σ : L2.St} {H : Hp} {ta tb : TE}
theorem ev_abs {i : Int} (h : Ev ta σ H (.int i)) : Ev (tCB rAbsI (tCons ta tNil)) σ H (.int (if i < 0 then -i else i)) := fun H1 e Q q => h H1 e _ fun H2 e2 => ⟨i, rfl, q H2 e2⟩
theorem ev_int {i : Int} (h : Ev ta σ H (.int i)) : Ev (tCB rIntI (tCons ta tNil)) σ H (.int i) := fun H1 e Q q => h H1 e _ fun H2 e2 => .inl ⟨i, rfl, q H2 e2⟩
theorem ev_mulI {i j : Int} (ha : Ev ta σ H (.int i)) (hb : Ev tb σ H (.int j)) (hc : CMul i j) : Ev (tOp rMulI ta tb) σ H (.int (i * j)) := ev_op ha hb (rv_I (g := fun i j => .int (i * j)) hc)
theorem ev_modI {i j : Int} (ha : Ev ta σ H (.int i)) (hb : Ev tb σ H (.int j)) (hc : 0 < j) : Ev (tOp rModI ta tb) σ H (.int (i % j)) := ev_op ha hb (rv_I (C := fun _ j => 0 < j) (g := fun i j => .int (i % j)) hc)
theorem ev_divI {i j : Int} (ha : Ev ta σ H (.int i)) (hb : Ev tb σ H (.int j)) (hc : CDivN i j) : Ev (tOp rDivI ta tb) σ H (.int (i.fdiv j)) := ev_op ha hb (rv_I (C := CDivN) (g := fun i j => .int (i.fdiv j)) hc)
theorem ev_powI {i j : Int} (ha : Ev ta σ H (.int i)) (hb : Ev tb σ H (.int j)) (hc : CPow i j) : Ev (tOp rPowI ta tb) σ H (.int (i ^ j.toNat)) := ev_op ha hb (rv_I (C := CPow) (g := fun i j => .int (i ^ j.toNat)) hc)
end
/-- a for over range(n), n come by a call -/
theorem loopR {σ : L2.St} {H : Hp} {j n : Nat} {tu : TS} {D : Ends} (Pv : Nat → L2.St → Hp → Prop) (h0 : Pv 0 σ H) (hs : ∀ (i : Nat) σ' H', i < n → Pv i σ' H' → tu { D with nx := Pv (i + 1), ct := Pv (i + 1), bk := D.nx } (σ'.set j (some (.int (i : Int)))) H')
    (hd : ∀ σ' H', Pv n σ' H' → D.nx σ' H') : ∃ W : Nat → Nat → L2.St → Hp → Prop, (∃ m, W 0 m σ H) ∧ ∀ i m σ H, W i m σ H → ((Itr 0 n).stop i H ∧ D.nx σ H) ∨
      ((Itr 0 n).go i H ∧ ∃ N : L2.St → Hp → Prop, (∀ σ' H', N σ' H' → ∃ m', m' < m ∧ W (i + 1) m' σ' H') ∧ ∀ x H', (Itr 0 n).yld i H x H' → gName j x σ H' fun σ2 H2 => tu { D with nx := N, ct := N, bk := D.nx } σ2 H2) :=
  for_range (lo := 0) (n := n) Pv h0 (fun i σ' H' hi p => by
    show tu { D with nx := Pv (i + 1), ct := Pv (i + 1), bk := D.nx } (σ'.set j (some (.int ((0 : Int) + (i : Int))))) H'
    rw [Int.zero_add]
    exact hs i σ' H' hi p) hd
section
variable {P : Program} {w : World} {K : PySem.W.Frag} {mg : Str → Option Value} {base : Heap}
def sp__law_stream (K : PySem.W.Frag) : Sp := fun vs H Q _ => ∃ (a : Addr) (ns : List Int), vs = [.ref a] ∧ SqL K H a (ns.map V.int) ∧ ns.length ≤ 63 ∧ ∀ p H2, Ex H H2 → Strm H2 p → Q (.ref p) H2
theorem ok__law_stream (T : Top K mg) : Cal P w K mg base "_law_stream" 1 ["_law_script"] (sp__law_stream K) := by
  obtain ⟨f, fd, F, hg⟩ := T.d__law_stream
  refine ⟨f, fd, F.ok sc__law_stream (fun vs H Q E h => by
      obtain ⟨_, _, rfl, _⟩ := h
      rfl) (fun cdv A outer s H vs Q E hr h => ?_), hg, F.kp, F.binds (ps := ["_law_script"]) fun _ _ _ _ _ _ us hl => match us, hl with | [_], _ => rfl⟩
  have nd := sc__law_stream.nd
  refine ⟨(tRet (tLst (tCons (tCB (rListS K) (tCons (tVar 0) tNil)) (tCons (tC (.int 0)) (tCons (tC (.int 0)) tNil))))), (pss_one (ps_ret (pe_lst (pa_cons (pe_callTy (r := (rListS K)) call_list_of (by rfl) T.n_list (by decide +kernel) (pa_cons (pv 0) pa_nil)) (pa_cons pe_int (pa_cons pe_int pa_nil)))))), ?_⟩
  obtain ⟨a, ns, rfl, hS, hn, q⟩ := h
  refine (el_list (K := K) (ta := tVar 0) (σ := [some (.ref a)]) (H := H) (p := a) (ev_var rfl) hS) H (Ex.refl H) _ fun l H1 hl e1 h1 => ⟨by show 3 ≤ sizeLine; decide, fun p hp => ?_⟩
  have e2 := Ex.new (o := .lst [.ref l, .int 0, .int 0]) hp
  exact q p _ (e1.trans e2) ⟨l, ns, 0, 0, upd_same, e2 l _ h1, Int.le_refl _, hn⟩

def sp__law_next (K : PySem.W.Frag) : Sp := fun vs H Q _ => ∃ (L : Addr) (n : Int), vs = [.ref L, .int n] ∧ (0 < n ∧ n < 1000) ∧ Strm H L ∧ ∀ d H2, 0 ≤ d → d < n → Strm H2 L → ExB L H H2 → Q (.int d) H2
theorem ok__law_next (T : Top K mg) : Cal P w K mg base "_law_next" 1 ["_law_stream_here", "_law_many"] (sp__law_next K) := by
  obtain ⟨f, fd, F, hg⟩ := T.d__law_next
  refine ⟨f, fd, F.ok sc__law_next (fun vs H Q E h => by
      obtain ⟨_, _, rfl, _⟩ := h
      rfl) (fun cdv A outer s H vs Q E hr h => ?_), hg, F.kp, F.binds (ps := ["_law_stream_here", "_law_many"]) fun _ _ _ _ _ _ us hl => match us, hl with | [_, _], _ => rfl⟩
  have nd := sc__law_next.nd
  refine ⟨(tSeq (tIfS (tTest (tOp rEq (tOp (rIxL K) (tVar 0) (tC (.int 1))) (tC (.int 0))))
      (tSeq (tAsg (tOp (rIxL K) (tVar 0) (tC (.int 2))) (gName 2))
      (tSeq (tAsg (tOp rAddI (tC (.int 7)) (tVar 2)) (gName 3))
      (tSeq (tIfS (tTest (tOp rLtI (tVar 2) (tCB (rLenS K) (tCons (tOp (rIxL K) (tVar 0) (tC (.int 0))) tNil))))
      (tAsg (tCB rAbsI (tCons (tOp (rIxL K) (tOp (rIxL K) (tVar 0) (tC (.int 0))) (tVar 2)) tNil)) (gName 3)) tNext)
      (tSeq (tIfS (tTest (tOp rLtI (tVar 3) (tOp rPowI (tC (.int 10)) (tC (.int 18)))))
      (tSeq (tAsg (tOp rModI (tCB rIntI (tCons (tOp rAddI (tOp rAddI (tOp rMulI (tVar 3) (tC (.int 48271))) (tOp rMulI (tVar 2) (tC (.int 69621)))) (tC (.int 11))) tNil)) (tC (.int 2147483647))) (gName 3))
      (tAsg (tOp rAddI (tOp rMulI (tOp rModI (tCB rIntI (tCons (tOp rAddI (tOp rMulI (tVar 3) (tC (.int 16807))) (tC (.int 13))) tNil)) (tC (.int 2147483647))) (tC (.int 65537))) (tVar 3)) (gName 3))) tNext)
      (tSeq (tAsg (tVar 3) (gSub (tVar 0) (tC (.int 1)) rSetL))
      (tAsg (tOp rAddI (tVar 2) (tC (.int 1))) (gSub (tVar 0) (tC (.int 2)) rSetL))))))) tNext)
      (tSeq (tAsg (tOp rModI (tCB rIntI (tCons (tOp (rIxL K) (tVar 0) (tC (.int 1))) tNil)) (tVar 1)) (gName 4))
      (tSeq (tAsg (tOp rDivI (tOp (rIxL K) (tVar 0) (tC (.int 1))) (tVar 1)) (gSub (tVar 0) (tC (.int 1)) rSetL))
      (tRet (tVar 4))))), (pss_cons (ps_if (pt_cmpR (r := rEq) op_eq (pe_ix (r := (rIxL K)) ix_list (pv 0) pe_int (fun _ _ => rfl)) pe_int (nomark _))
      (pss_cons (ps_set (i := 2) nd rfl (Or.inl rfl) (pe_ix (r := (rIxL K)) ix_list (pv 0) pe_int (fun _ _ => rfl)))
      (pss_cons (ps_set (i := 3) nd rfl (Or.inl rfl) (pe_op (r := rAddI) op_add pe_int (pv 2)))
      (pss_cons (ps_if (pt_cmpR (r := rLtI) op_lt (pv 2) (pe_callB (r := (rLenS K)) call_len_seq (by rfl) T.n_len PySem.boot_len (pa_cons (pe_ix (r := (rIxL K)) ix_list (pv 0) pe_int (fun _ _ => rfl)) pa_nil)) (nomark _))
      (pss_one (ps_set (i := 3) nd rfl (Or.inl rfl) (pe_callB (r := rAbsI) call_abs (by rfl) T.n_abs (by decide +kernel) (pa_cons (pe_ix (r := (rIxL K)) ix_list (pe_ix (r := (rIxL K)) ix_list (pv 0) pe_int (fun _ _ => rfl)) (pv 2) (fun _ _ => rfl)) pa_nil)))) pss_nil)
      (pss_cons (ps_if (pt_cmpR (r := rLtI) op_lt (pv 3) (pe_op (r := rPowI) op_pow pe_int pe_int) (nomark _))
      (pss_cons (ps_set (i := 3) nd rfl (Or.inl rfl) (pe_op (r := rModI) op_mod (pe_callTy (r := rIntI) call_int1 (by rfl) T.n_int (by decide +kernel) (pa_cons (pe_op (r := rAddI) op_add (pe_op (r := rAddI) op_add (pe_op (r := rMulI) op_mul (pv 3) pe_int) (pe_op (r := rMulI) op_mul (pv 2) pe_int)) pe_int) pa_nil)) pe_int))
      (pss_one (ps_set (i := 3) nd rfl (Or.inl rfl) (pe_op (r := rAddI) op_add (pe_op (r := rMulI) op_mul (pe_op (r := rModI) op_mod (pe_callTy (r := rIntI) call_int1 (by rfl) T.n_int (by decide +kernel) (pa_cons (pe_op (r := rAddI) op_add (pe_op (r := rMulI) op_mul (pv 3) pe_int) pe_int) pa_nil)) pe_int) pe_int) (pv 3))))) pss_nil)
      (pss_cons (ps_asg (pv 3) (pg_sub (pv 0) pe_int set_list))
      (pss_one (ps_asg (pe_op (r := rAddI) op_add (pv 2) pe_int) (pg_sub (pv 0) pe_int set_list)))))))) pss_nil)
      (pss_cons (ps_set (i := 4) nd rfl (Or.inl rfl) (pe_op (r := rModI) op_mod (pe_callTy (r := rIntI) call_int1 (by rfl) T.n_int (by decide +kernel) (pa_cons (pe_ix (r := (rIxL K)) ix_list (pv 0) pe_int (fun _ _ => rfl)) pa_nil)) (pv 1)))
      (pss_cons (ps_asg (pe_op (r := rDivI) op_fdivN (pe_ix (r := (rIxL K)) ix_list (pv 0) pe_int (fun _ _ => rfl)) (pv 1)) (pg_sub (pv 0) pe_int set_list))
      (pss_one (ps_ret (pv 4)))))), ?_⟩
  obtain ⟨L, n, rfl, hn, hs, q⟩ := h
  obtain ⟨S, ns, c, k, h1, h2, hk, hl⟩ := hs
  have hSL : S ≠ L := fun e => by
    rw [e, h1] at h2
    cases ns with
    | nil => cases h2
    | cons x r => cases h2
  -- what stands behind the first if
  have tail : ∀ (D : Ends) (y2 y3 : Option V) (c' k' : Int) (H' : Hp), ExB L H H' → H' L = some (.lst [.ref S, .int c', .int k']) → H' S = some (.lst (ns.map V.int)) → 0 ≤ k' → D.rt = Q →
      (tSeq (tAsg (tOp rModI (tCB rIntI (tCons (tOp (rIxL K) (tVar 0) (tC (.int 1))) tNil)) (tVar 1)) (gName 4))
        (tSeq (tAsg (tOp rDivI (tOp (rIxL K) (tVar 0) (tC (.int 1))) (tVar 1)) (gSub (tVar 0) (tC (.int 1)) rSetL)) (tRet (tVar 4)))) D [some (.ref L), some (.int n), y2, y3, none] H' := fun D y2 y3 c' k' H' eb g1 g2 hk' hD => by
    refine q_asg (v := .int (c' % n)) (ev_modI (ev_int (ev_ixL (i := 1) (ev_var rfl) ev_c (sq_of g1) rfl)) (ev_var rfl) hn.1) fun H1 e1 => ?_
    refine q_setL (l := L) (xs := [.ref S, .int c', .int k']) (j := 1) (v := .int (c'.fdiv n)) (e1 L _ g1) (ev_divI (ev_ixL (i := 1) (ev_var rfl) ev_c (sq_of (e1 L _ g1)) rfl) (ev_var rfl) ⟨by omega, by omega⟩) (ev_var rfl) ev_c (by show 1 < 3; decide) fun H2 e2 => ?_
    refine s_ret (v := .int (c' % n)) (ev_var rfl) fun H3 e3 => ?_
    rw [hD]
    refine q _ H3 (Int.emod_nonneg _ (by omega)) (Int.emod_lt_of_pos _ hn.1) ⟨S, ns, c'.fdiv n, k', e3 L _ upd_same, e3 S _ ?_, hk', hl⟩ fun b o hb hh => e3 b o ?_
    · rw [upd_ne hSL]
      exact e2 S _ (e1 S _ g2)
    · rw [upd_ne hb]
      exact e2 b o (e1 b o (eb b o hb hh))
  refine q_when (b := decide (c = 0)) (et_test (ev_eqI (ev_ixL (i := 1) (ev_var rfl) ev_c (sq_of h1) rfl) ev_c)) (fun hb H1 e1 => ?_) fun hb H1 e1 => tail _ none none c k H1 (ExB.of e1) (e1 L _ h1) (e1 S _ h2) hk rfl
  have h1 := e1 L _ h1
  have h2 := e1 S _ h2
  refine q_asg (v := .int k) (ev_ixL (i := 2) (ev_var rfl) ev_c (sq_of h1) rfl) fun H2 e2 => ?_
  refine q_asg (v := .int (7 + k)) (ev_addI ev_c (ev_var rfl)) fun H3 e3 => ?_
  have h1 := e3 L _ (e2 L _ h1)
  have h2 := e3 S _ (e2 S _ h2)
  -- behind the choice of the cell
  have mid : ∀ (D : Ends) (x : Int) (H' : Hp), Ex H3 H' → D.nx = (fun σ' H' => (tSeq (tAsg (tOp rModI (tCB rIntI (tCons (tOp (rIxL K) (tVar 0) (tC (.int 1))) tNil)) (tVar 1)) (gName 4))
        (tSeq (tAsg (tOp rDivI (tOp (rIxL K) (tVar 0) (tC (.int 1))) (tVar 1)) (gSub (tVar 0) (tC (.int 1)) rSetL)) (tRet (tVar 4)))) { nx := fun x H' => Q .non H', rt := Q } σ' H') →
      (tSeq (tIfS (tTest (tOp rLtI (tVar 3) (tOp rPowI (tC (.int 10)) (tC (.int 18)))))
        (tSeq (tAsg (tOp rModI (tCB rIntI (tCons (tOp rAddI (tOp rAddI (tOp rMulI (tVar 3) (tC (.int 48271))) (tOp rMulI (tVar 2) (tC (.int 69621)))) (tC (.int 11))) tNil)) (tC (.int 2147483647))) (gName 3))
          (tAsg (tOp rAddI (tOp rMulI (tOp rModI (tCB rIntI (tCons (tOp rAddI (tOp rMulI (tVar 3) (tC (.int 16807))) (tC (.int 13))) tNil)) (tC (.int 2147483647))) (tC (.int 65537))) (tVar 3)) (gName 3))) tNext)
        (tSeq (tAsg (tVar 3) (gSub (tVar 0) (tC (.int 1)) rSetL)) (tAsg (tOp rAddI (tVar 2) (tC (.int 1))) (gSub (tVar 0) (tC (.int 2)) rSetL)))) D [some (.ref L), some (.int n), some (.int k), some (.int x), none] H' := fun D x H' e4 hD => by
    have last : ∀ (x : Int) (H' : Hp), Ex H3 H' → (tSeq (tAsg (tVar 3) (gSub (tVar 0) (tC (.int 1)) rSetL)) (tAsg (tOp rAddI (tVar 2) (tC (.int 1))) (gSub (tVar 0) (tC (.int 2)) rSetL))) D [some (.ref L), some (.int n), some (.int k), some (.int x), none] H' := fun x H' e5 => by
      refine q_setL (l := L) (xs := [.ref S, .int c, .int k]) (j := 1) (v := .int x) (e5 L _ h1) (ev_var rfl) (ev_var rfl) ev_c (by show 1 < 3; decide) fun H5 e6 => ?_
      refine s_setL (l := L) (xs := [.ref S, .int x, .int k]) (j := 2) (v := .int (k + 1)) upd_same (ev_addI (ev_var rfl) ev_c) (ev_var rfl) ev_c (by show 2 < 3; decide) fun H6 e7 => ?_
      rw [hD]
      refine tail _ (some (.int k)) (some (.int x)) x (k + 1) _ (fun b o hb hh => ?_) upd_same ?_ (by omega) rfl
      · rw [upd_ne hb]
        refine e7 b o ?_
        rw [upd_ne hb]
        exact e6 b o (e5 b o (e3 b o (e2 b o (e1 b o hh))))
      · rw [upd_ne hSL]
        refine e7 S _ ?_
        rw [upd_ne hSL]
        exact e6 S _ (e5 S _ h2)
    refine q_when (b := decide (x < 10 ^ (18 : Int).toNat)) (et_test (ev_ltI (ev_var rfl) (ev_powI ev_c ev_c ⟨by decide, by decide, by decide⟩))) (fun hb H5 e5 => ?_) fun hb H5 e5 => last x H5 (e4.trans e5)
    refine q_asg (v := .int ((x * 48271 + k * 69621 + 11) % 2147483647)) (ev_modI (ev_int (ev_addI (ev_addI (ev_mulI (ev_var rfl) ev_c (.inr ⟨by decide, by decide⟩)) (ev_mulI (ev_var rfl) ev_c (.inr ⟨by decide, by decide⟩))) ev_c)) ev_c (by decide)) fun H6 e6 => ?_
    generalize (x * 48271 + k * 69621 + 11) % 2147483647 = x2
    refine s_asg (v := .int ((x2 * 16807 + 13) % 2147483647 * 65537 + x2)) (ev_addI (ev_mulI (ev_modI (ev_int (ev_addI (ev_mulI (ev_var rfl) ev_c (.inr ⟨by decide, by decide⟩)) ev_c)) ev_c (by decide)) ev_c (.inr ⟨by decide, by decide⟩)) (ev_var rfl)) fun H7 e7 => ?_
    exact last _ H7 (((e4.trans e5).trans e6).trans e7)
  refine q_when (b := decide (k < (ns.length : Int))) (et_test (ev_is (ev_ltI (ev_var rfl) (ev_len (ev_ixL (i := 0) (ev_var rfl) ev_c (sq_of h1) rfl) (sq_of h2))) (by rw [List.length_map]))) (fun hb H4 e4 => ?_) fun hb H4 e4 => mid _ _ H4 e4 rfl
  have hb := of_decide_eq_true hb
  obtain ⟨j, hj⟩ : ∃ j : Nat, k = (j : Int) := ⟨k.toNat, by omega⟩
  have hjl : j < ns.length := by omega
  refine s_asg (v := .int (if ns[j] < 0 then -ns[j] else ns[j])) (ev_abs (ev_ixL (i := k) (ev_ixL (i := 0) (ev_var rfl) ev_c (sq_of (e4 L _ h1)) rfl) (ev_var rfl) (sq_of (e4 S _ h2)) (at_of hj (by
    rw [List.getElem?_map, List.getElem?_eq_getElem hjl]
    rfl)))) fun H5 e5 => ?_
  exact mid _ _ H5 (e4.trans e5) rfl

/-! ### a cost -/
def sp__law_cost (K : PySem.W.Frag) : Sp := fun vs H Q _ => ∃ (L : Addr), vs = [.ref L] ∧ Strm H L ∧ ∀ c H2, 1 ≤ c → c ≤ 9 → Strm H2 L → ExB L H H2 → Q (.int c) H2
theorem ok__law_cost (T : Top K mg) : Cal P w K mg base "_law_cost" 2 ["_law_stream_here"] (sp__law_cost K) := by
  obtain ⟨f, fd, F, hg⟩ := T.d__law_cost
  have c__law_next : Cal P w K mg base "_law_next" 1 ["_law_stream_here", "_law_many"] (sp__law_next K) := ok__law_next T
  refine ⟨f, fd, F.ok sc__law_cost (fun vs H Q E h => by
      obtain ⟨_, rfl, _⟩ := h
      rfl) (fun cdv A outer s H vs Q E hr h => ?_), hg, F.kp, F.binds (ps := ["_law_stream_here"]) fun _ _ _ _ _ _ us hl => match us, hl with | [_], _ => rfl⟩
  have nd := sc__law_cost.nd
  refine ⟨(tRet (tOp (rIxL K) (tLst (tCons (tC (.int 1)) (tCons (tC (.int 1)) (tCons (tOp rAddI (tC (.int 1)) (tCall (sp__law_next K) [] E0 (tCons (tVar 0) (tCons (tC (.int 3)) tNil)))) (tCons (tOp rAddI (tC (.int 1)) (tCall (sp__law_next K) [] E0 (tCons (tVar 0) (tCons (tC (.int 9)) tNil)))) tNil))))) (tCall (sp__law_next K) [] E0 (tCons (tVar 0) (tCons (tC (.int 4)) tNil))))), (pss_one (ps_ret (pe_ix (r := (rIxL K)) ix_list (pe_lst (pa_cons pe_int (pa_cons pe_int (pa_cons (pe_op (r := rAddI) op_add pe_int (pe_own c__law_next hr (by decide) (by rfl) (pa_cons (pv 0) (pa_cons pe_int pa_nil)))) (pa_cons (pe_op (r := rAddI) op_add pe_int (pe_own c__law_next hr (by decide) (by rfl) (pa_cons (pv 0) (pa_cons pe_int pa_nil)))) pa_nil))))) (pe_own c__law_next hr (by decide) (by rfl) (pa_cons (pv 0) (pa_cons pe_int pa_nil))) (fun _ _ => rfl)))), ?_⟩
  obtain ⟨L, rfl, hs, q⟩ := h
  refine ⟨.ref L, rfl, L, 3, rfl, ⟨by decide, by decide⟩, hs, fun d3 H1 l3 u3 s1 x1 => ⟨1, d3, rfl, rfl, ?_⟩⟩
  refine ⟨.ref L, rfl, L, 9, rfl, ⟨by decide, by decide⟩, s1, fun d9 H2 l9 u9 s2 x2 => ⟨1, d9, rfl, rfl, by show 4 ≤ sizeLine; decide, fun p hp => ?_⟩⟩
  have e3 := Ex.new (o := .lst [.int 1, .int 1, .int (1 + d3), .int (1 + d9)]) hp
  have hpL : p ≠ L := fun e => by
    obtain ⟨S, ns, c, k, g1, _⟩ := s2
    rw [e, g1] at hp
    cases hp
  refine ⟨.ref L, rfl, L, 4, rfl, ⟨by decide, by decide⟩, s2.mono e3, fun d4 H4 l4 u4 s4 x4 => ?_⟩
  have hall := (x1.trans x2).trans ((ExB.of e3).trans x4)
  have hl : SqL K H4 p [.int 1, .int 1, .int (1 + d3), .int (1 + d9)] := sq_of (x4 p _ hpL upd_same)
  rcases (show d4 = 0 ∨ d4 = 1 ∨ d4 = 2 ∨ d4 = 3 by omega) with rfl | rfl | rfl | rfl
  · exact ⟨p, _, 0, .int 1, rfl, rfl, hl, rfl, q 1 H4 (by omega) (by omega) s4 hall⟩
  · exact ⟨p, _, 1, .int 1, rfl, rfl, hl, rfl, q 1 H4 (by omega) (by omega) s4 hall⟩
  · exact ⟨p, _, 2, .int (1 + d3), rfl, rfl, hl, rfl, q _ H4 (by omega) (by omega) s4 hall⟩
  · exact ⟨p, _, 3, .int (1 + d9), rfl, rfl, hl, rfl, q _ H4 (by omega) (by omega) s4 hall⟩

/-! ### a text -/
theorem lets_some {ws : WL} (ok : Ok ws) : 0 < (lets ws).length := by
  obtain ⟨p, hp⟩ : ∃ p, p ∈ ws := by
    cases ws with
    | nil => exact absurd ok.len1 (by simp)
    | cons p r => exact ⟨p, List.mem_cons_self⟩
  have h1 := (ok.word p hp).1
  obtain ⟨c, hc⟩ : ∃ c, c ∈ p.1 := by
    cases hh : p.1 with
    | nil =>
      rw [hh] at h1
      exact absurd h1 (by simp)
    | cons c r => exact ⟨c, List.mem_cons_self⟩
  exact List.length_pos_of_mem (lets_mem.mpr ⟨ok.lets p hp c hc, rfl⟩)
theorem lets_at {ws : WL} {i : Nat} {x : Tx} (h : (lets ws)[i]? = some x) : ∃ c, x = [c] ∧ [c] ∈ names ws := by
  obtain ⟨h1, h2⟩ := lets_mem.mp (List.mem_of_getElem? h)
  match x, h2 with
  | [c], _ => exact ⟨c, rfl, h1⟩
def sp__law_text (K : PySem.W.Frag) : Sp := fun vs H Q _ => ∃ (L a : Addr) (ws : WL) (m : Nat), vs = [.ref L, .ref a, .int (m : Int)] ∧ m ≤ 10 ∧ Strm H L ∧ WA K H a ws ∧ Ok ws ∧ ∀ t H2, Ov ws t → t.length ≤ m → Strm H2 L → ExB L H H2 → Q (vS t) H2
theorem ok__law_text (T : Top K mg) : Cal P w K mg base "_law_text" 2 ["_law_stream_here", "_law_words_here", "_law_most"] (sp__law_text K) := by
  obtain ⟨f, fd, F, hg⟩ := T.d__law_text
  have c__law_letters : Cal P w K mg base "_law_letters" 1 ["_law_words_here"] (sp__law_letters K) := ok__law_letters T
  have c__law_next : Cal P w K mg base "_law_next" 1 ["_law_stream_here", "_law_many"] (sp__law_next K) := ok__law_next T
  refine ⟨f, fd, F.ok sc__law_text (fun vs H Q E h => by
      obtain ⟨_, _, _, _, rfl, _⟩ := h
      rfl) (fun cdv A outer s H vs Q E hr h => ?_), hg, F.kp, F.binds (ps := ["_law_stream_here", "_law_words_here", "_law_most"]) fun _ _ _ _ _ _ us hl => match us, hl with | [_, _, _], _ => rfl⟩
  have nd := sc__law_text.nd
  refine ⟨(tSeq (tAsg (tCall (sp__law_letters K) [] E0 (tCons (tVar 1) tNil)) (gName 3))
      (tSeq (tAsg (tC (.str (Str.ofString ""))) (gName 4))
      (tSeq (tFor (iRng1 (tCons (tCall (sp__law_next K) [] E0 (tCons (tVar 0) (tCons (tOp rAddI (tVar 2) (tC (.int 1))) tNil))) tNil)) (gName 5)
      (tAsg (tOp rAddStr (tVar 4) (tOp (rIxL K) (tVar 3) (tCall (sp__law_next K) [] E0 (tCons (tVar 0) (tCons (tCB (rLenS K) (tCons (tVar 3) tNil)) tNil))))) (gName 4)))
      (tRet (tVar 4))))), (pss_cons (ps_set (i := 3) nd rfl (Or.inl rfl) (pe_own c__law_letters hr (by decide) (by rfl) (pa_cons (pv 1) pa_nil)))
      (pss_cons (ps_set (i := 4) nd rfl (Or.inl rfl) pe_str)
      (pss_cons (ps_for PassesOwn.never rfl (pi_range1 (by rfl) T.n_range (pa_cons (pe_own c__law_next hr (by decide) (by rfl) (pa_cons (pv 0) (pa_cons (pe_op (r := rAddI) op_add (pv 2) pe_int) pa_nil))) pa_nil)) (pg_name (i := 5) nd rfl (Or.inl rfl))
      (pss_one (ps_set (i := 4) nd rfl (Or.inl rfl) (pe_op (r := rAddStr) op_add_str (pv 4) (pe_ix (r := (rIxL K)) ix_list (pv 3) (pe_own c__law_next hr (by decide) (by rfl) (pa_cons (pv 0) (pa_cons (pe_callB (r := (rLenS K)) call_len_seq (by rfl) T.n_len PySem.boot_len (pa_cons (pv 3) pa_nil)) pa_nil))) (fun _ _ => rfl))))))
      (pss_one (ps_ret (pv 4)))))), ?_⟩
  obtain ⟨L, a, ws, m, rfl, hm, hs, hW, ok, q⟩ := h
  refine q_asgL (xs := (lets ws).map vS) (el_spL (ea_1 (ev_var rfl)) fun H1 e => ⟨a, ws, rfl, hW.mono e, ok, rfl⟩) fun l H1 hl e1 h1 => ?_
  have hlL : l ≠ L := fun e => by
    obtain ⟨S, ns, c, k, g1, _⟩ := hs
    rw [e, g1] at hl
    cases hl
  have l8 := ok.len8
  have ll := lets_len ws
  have lp := lets_some ok
  refine q_asg (v := vS []) ev_nil fun H2 e2 => ?_
  -- the number of letters
  have s2 := hs.mono (e1.trans e2)
  refine ⟨.ref L, rfl, .int (m : Int), rfl, (m : Int), 1, rfl, rfl, L, (m : Int) + 1, rfl, ⟨by omega, by omega⟩, s2, fun d H3 d0 d1 s3 x3 => ⟨d, rfl, by omega, by omega, ?_⟩⟩
  refine loopR (n := d.toNat) (fun i σ' H' => ∃ (t : Tx) (y5 : Option V), σ' = [some (.ref L), some (.ref a), some (.int (m : Int)), some (.ref l), some (vS t), y5] ∧ Ov ws t ∧ t.length ≤ i ∧ Strm H' L ∧ ExB L H H' ∧ H' l = some (.lst ((lets ws).map vS)))
    ⟨[], none, rfl, ov_nil, Nat.le_refl _, s3, (ExB.of (e1.trans e2)).trans x3, x3 l _ hlL (e2 l _ h1)⟩ (fun i σ' H' hi hV => ?_) fun σ' H' hV => ?_
  · obtain ⟨t, y5, rfl, ht, htl, s4, x4, h4⟩ := hV
    refine ⟨vS t, rfl, .ref l, rfl, .ref L, rfl, .ref l, rfl, l, _, rfl, .inl (sq_of h4), L, ((lets ws).map vS).length, rfl, ⟨by rw [List.length_map]; omega, by rw [List.length_map]; omega⟩, s4, fun x H5 x0 x1 s5 x5 => ?_⟩
    obtain ⟨j, rfl⟩ : ∃ j : Nat, x = (j : Int) := ⟨x.toNat, by omega⟩
    have hj : j < (lets ws).length := by
      rw [List.length_map] at x1
      omega
    obtain ⟨c, ec, hc⟩ := lets_at (List.getElem?_eq_getElem hj)
    refine ⟨l, _, (j : Int), vS [c], rfl, rfl, sq_of (x5 l _ hlL h4), atI_nat (by
      rw [List.getElem?_map, List.getElem?_eq_getElem hj, ec]
      rfl), mk t, mk [c], rfl, rfl, by rw [mk_len, mk_len]; exact small (by show _ + 1 ≤ 1000; omega), ?_⟩
    refine ⟨t ++ [c], some (.int (i : Int)), ?_, ov_app ht fun e he => ?_, ?_, s5, x4.trans x5, x5 l _ hlL h4⟩
    · rw [mk_app]
      rfl
    · rw [List.mem_singleton] at he
      rw [he]
      exact hc
    · rw [List.length_append]
      show _ + 1 ≤ _
      omega
  · obtain ⟨t, y5, rfl, ht, htl, s4, x4, h4⟩ := hV
    exact s_ret (v := vS t) (ev_var rfl) fun H5 e5 => q t H5 ht (by omega) (s4.mono e5) (x4.trans (ExB.of e5))
end
end Gc
/-! The word list that is drawn. -/
namespace Gc
open PySem PySem.Spec PyProof.Rows L2 Evl

/-! ### a word put into a list -/
def put (ws : WL) (t : Tx) (c : Int) : WL := if t ∈ names ws then ws.map (fun p => if p.1 = t then (p.1, c) else p) else ws ++ [(t, c)]
theorem dk_any (ws : WL) (t : Tx) : ((dk ws).any fun kv => decide (kv.1 = Sum.inr (mk t))) = decide (t ∈ names ws) := by
  by_cases h : t ∈ names ws
  · rw [decide_eq_true h]
    obtain ⟨p, hp, e⟩ := List.mem_map.mp h
    exact List.any_eq_true.mpr ⟨_, List.mem_map.mpr ⟨p, hp, rfl⟩, decide_eq_true (by rw [e])⟩
  · rw [decide_eq_false h]
    refine List.any_eq_false.mpr fun q hq hd => ?_
    obtain ⟨p, hp, rfl⟩ := List.mem_map.mp hq
    exact h (List.mem_map.mpr ⟨p, hp, mk_inj (Sum.inr.inj (of_decide_eq_true hd))⟩)
theorem dk_set (ws : WL) (t : Tx) (c : Int) : putK (dk ws) (Sum.inr (mk t)) (.int c) = dk (put ws t c) := by
  unfold putK put
  rw [dk_any]
  by_cases h : t ∈ names ws
  · rw [if_pos (decide_eq_true h), if_pos h]
    unfold dk
    rw [List.map_map, List.map_map]
    refine List.map_congr_left fun p _ => ?_
    show (if (Sum.inr (mk p.1) : L2.Key) = Sum.inr (mk t) then ((Sum.inr (mk p.1) : L2.Key), V.int c) else (Sum.inr (mk p.1), V.int p.2)) = ((Sum.inr (mk (if p.1 = t then (p.1, c) else p).1) : L2.Key), V.int (if p.1 = t then (p.1, c) else p).2)
    by_cases e : p.1 = t
    · rw [if_pos e, if_pos (by rw [e])]
    · rw [if_neg e, if_neg fun z => e (mk_inj (Sum.inr.inj z))]
  · rw [if_neg (by rw [decide_eq_false h]; decide), if_neg h]
    unfold dk
    rw [List.map_append]
    rfl
structure Drawn (A : Tx) (ws : WL) (n : Nat) : Prop where
  len : ws.length ≤ n
  nodup : (names ws).Nodup
  word : ∀ p ∈ ws, (1 ≤ p.1.length ∧ p.1.length ≤ 4) ∧ (∀ c ∈ p.1, c ∈ A) ∧ 1 ≤ p.2 ∧ p.2 ≤ 9
theorem put_names (ws : WL) (t : Tx) (c : Int) : names (put ws t c) = if t ∈ names ws then names ws else names ws ++ [t] := by
  unfold put
  by_cases h : t ∈ names ws
  · rw [if_pos h, if_pos h]
    unfold names
    rw [List.map_map]
    refine List.map_congr_left fun p _ => ?_
    show (if p.1 = t then (p.1, c) else p).1 = p.1
    split <;> rfl
  · rw [if_neg h, if_neg h]
    unfold names
    rw [List.map_append]
    rfl
theorem put_has (ws : WL) (t : Tx) (c : Int) : t ∈ names (put ws t c) := by
  rw [put_names]
  split
  · assumption
  · simp
theorem put_keeps {ws : WL} {x : Tx} (t : Tx) (c : Int) (h : x ∈ names ws) : x ∈ names (put ws t c) := by
  rw [put_names]
  split
  · exact h
  · exact List.mem_append_left _ h
theorem Drawn.put {A : Tx} {ws : WL} {n : Nat} (d : Drawn A ws n) {t : Tx} {c : Int} (ht : 1 ≤ t.length ∧ t.length ≤ 4) (hA : ∀ x ∈ t, x ∈ A) (hc : 1 ≤ c ∧ c ≤ 9) : Drawn A (put ws t c) (n + 1) := by
  refine ⟨?_, ?_, fun p hp => ?_⟩
  · have h := d.len
    unfold Gc.put
    split
    · rw [List.length_map]
      omega
    · rw [List.length_append]
      show _ + 1 ≤ _
      omega
  · rw [put_names]
    split
    · exact d.nodup
    · rename_i h
      refine List.nodup_append.mpr ⟨d.nodup, by simp, fun a ha b hb e => ?_⟩
      rw [List.mem_singleton] at hb
      rw [e, hb] at ha
      exact h ha
  · unfold Gc.put at hp
    split at hp
    · obtain ⟨q, hq, e⟩ := List.mem_map.mp hp
      have hw := d.word q hq
      by_cases e2 : q.1 = t
      · rw [if_pos e2] at e
        rw [← e]
        exact ⟨hw.1, hw.2.1, hc⟩
      · rw [if_neg e2] at e
        rw [← e]
        exact hw
    · rcases List.mem_append.mp hp with hp | hp
      · exact d.word p hp
      · rw [List.mem_singleton] at hp
        rw [hp]
        exact ⟨ht, hA, hc⟩
def abc : Tx := [97, 98, 99]
theorem s_abc : Str.ofString "abc" = mk abc := by decide +kernel
theorem drawn_ok {m : Nat} {ws ws' : WL} (hm : 1 ≤ m) (d : Drawn (abc.take m) ws 7) (hl : ∀ c ∈ abc.take m, [c] ∈ names ws) (hp : ws'.Perm ws) (hs : (names ws').Pairwise (· < ·)) : Ok ws' := by
  have hn : ∀ x, x ∈ names ws' ↔ x ∈ names ws := fun x => (hp.map (·.1)).mem_iff
  have hA : ∀ c ∈ abc.take m, 97 ≤ c ∧ c ≤ 99 := fun c hc => by
    have := List.mem_of_mem_take hc
    unfold abc at this
    simp at this
    omega
  refine ⟨?_, ?_, fun p h => (d.word p (hp.mem_iff.mp h)).1, fun p h c hc => hA c ((d.word p (hp.mem_iff.mp h)).2.1 c hc), fun p h => (d.word p (hp.mem_iff.mp h)).2.2, hs, fun p h c hc => (hn [c]).mpr (hl c ((d.word p (hp.mem_iff.mp h)).2.1 c hc))⟩
  · have h97 : 97 ∈ abc.take m := by
      obtain ⟨k, rfl⟩ : ∃ k, m = k + 1 := ⟨m - 1, by omega⟩
      exact List.mem_cons_self
    have := List.length_pos_of_mem ((hn [97]).mpr (hl 97 h97))
    unfold names at this
    rw [List.length_map] at this
    exact this
  · have := d.len
    rw [hp.length_eq]
    omega

/-! ### heaps -/
theorem Strm.upd {H : Hp} {L f : Addr} {o o' : HO} (s : Strm H L) (hf : H f = some o') (hn : ∀ xs, o' ≠ .lst xs) : Strm (upd H f o) L := by
  obtain ⟨S, ns, c, k, h1, h2, h3, h4⟩ := s
  have n1 : L ≠ f := ne_of h1 hf fun z => hn _ z.symm
  have n2 : S ≠ f := ne_of h2 hf fun z => hn _ z.symm
  exact ⟨S, ns, c, k, by rw [upd_ne n1]; exact h1, by rw [upd_ne n2]; exact h2, h3, h4⟩
theorem ExB.mut {L f : Addr} {H H' : Hp} {o : HO} (e : ExB L H H') (h : H f = none) : ExB L H (upd H' f o) := fun b u n hb => by
  rw [upd_ne (ne_of_none hb h)]
  exact e b u n hb
theorem Strm.ne {H : Hp} {L f : Addr} {o : HO} (s : Strm H L) (hf : H f = some o) (hn : ∀ xs, o ≠ .lst xs) : f ≠ L := by
  obtain ⟨S, ns, c, k, h1, _⟩ := s
  exact ne_of hf h1 fun z => hn _ z
def kOf (H : Hp) : V → Tx × Int
  | .ref t => match H t with
    | some (.tup [.str z, .int c]) => (z.cps.toList, c)
    | _ => ([], 0)
  | _ => ([], 0)
theorem kOf_at {H : Hp} {t : Addr} {p : Tx × Int} (h : H t = some (.tup [vS p.1, .int p.2])) : kOf H (.ref t) = p := by
  show (match H t with
    | some (.tup [.str z, .int c]) => (z.cps.toList, c)
    | _ => ([], 0)) = p
  rw [h]
  show ((mk p.1).cps.toList, p.2) = p
  rw [mk_cps]
theorem refs_of : ∀ {ys : List V}, (∀ y ∈ ys, ∃ t, y = V.ref t) → ∃ ts : List Addr, ys = ts.map V.ref
  | [], _ => ⟨[], rfl⟩
  | y :: r, h => by
    obtain ⟨t, e⟩ := h y List.mem_cons_self
    obtain ⟨ts, e2⟩ := refs_of (ys := r) fun z hz => h z (List.mem_cons_of_mem _ hz)
    exact ⟨t :: ts, by rw [e, e2]; rfl⟩
theorem kOf_map {H : Hp} {ts : List Addr} {ws : WL} (hl : ts.length = ws.length) (h : ∀ (j : Nat) (t : Addr) (p : Tx × Int), ts[j]? = some t → ws[j]? = some p → H t = some (.tup [vS p.1, .int p.2])) : (ts.map V.ref).map (kOf H) = ws := by
  refine List.ext_getElem? fun j => ?_
  rw [List.map_map, List.getElem?_map]
  by_cases hj : j < ts.length
  · have e1 : ts[j]? = some ts[j] := List.getElem?_eq_getElem hj
    have e2 : ws[j]? = some (ws[j]'(by omega)) := List.getElem?_eq_getElem (by omega)
    rw [e1, e2]
    exact congrArg some (kOf_at (h j _ _ e1 e2))
  · rw [List.getElem?_eq_none (by omega), List.getElem?_eq_none (by omega)]
    rfl
section
variable {P : Program} {w : World} {K : PySem.W.Frag} {mg : Str → Option Value} {base : Heap}
def sp__law_words (K : PySem.W.Frag) : Sp := fun vs H Q _ => ∃ (L : Addr), vs = [.ref L] ∧ Strm H L ∧ ∀ a ws H2, Ok ws → WA K H2 a ws → Strm H2 L → ExB L H H2 → Q (.ref a) H2
theorem ok__law_words (T : Top K mg) : Cal P w K mg base "_law_words" 3 ["_law_stream_here"] (sp__law_words K) := by
  obtain ⟨f, fd, F, hg⟩ := T.d__law_words
  have c__law_cost : Cal P w K mg base "_law_cost" 2 ["_law_stream_here"] (sp__law_cost K) := ok__law_cost T
  have c__law_next : Cal P w K mg base "_law_next" 1 ["_law_stream_here", "_law_many"] (sp__law_next K) := ok__law_next T
  refine ⟨f, fd, F.ok sc__law_words (fun vs H Q E h => by
      obtain ⟨_, rfl, _⟩ := h
      rfl) (fun cdv A outer s H vs Q E hr h => ?_), hg, F.kp, F.binds (ps := ["_law_stream_here"]) fun _ _ _ _ _ _ us hl => match us, hl with | [_], _ => rfl⟩
  have nd := sc__law_words.nd
  refine ⟨(tSeq (tAsg (L2.tSl rSlS (tC (.str (Str.ofString "abc"))) tNoPart (tPart (tOp rAddI (tC (.int 1)) (tCall (sp__law_next K) [] E0 (tCons (tVar 0) (tCons (tC (.int 3)) tNil)))))) (gName 1))
      (tSeq (tAsg tDNewK (gName 2))
      (tSeq (tFor (iStr (tVar 1)) (gName 3)
      (sDPut (tVar 2) (tVar 3) (tCall (sp__law_cost K) [] E0 (tCons (tVar 0) tNil))))
      (tSeq (tFor (iRng1 (tCons (tCall (sp__law_next K) [] E0 (tCons (tVar 0) (tCons (tC (.int 5)) tNil))) tNil)) (gName 4)
      (tSeq (tAsg (tC (.str (Str.ofString ""))) (gName 5))
      (tSeq (tFor (iRng1 (tCons (tOp rAddI (tC (.int 2)) (tCall (sp__law_next K) [] E0 (tCons (tVar 0) (tCons (tC (.int 3)) tNil)))) tNil)) (gName 6)
      (tAsg (tOp rAddStr (tVar 5) (tOp rIxS (tVar 1) (tCall (sp__law_next K) [] E0 (tCons (tVar 0) (tCons (tCB rLenStr (tCons (tVar 1) tNil)) tNil))))) (gName 5)))
      (sDPut (tVar 2) (tVar 5) (tCall (sp__law_cost K) [] E0 (tCons (tVar 0) tNil))))))
      (tRet (tCB (rTupOf K) (tCons (tCB (rSortedSI K) (tCons (tLockE (tLc (iKeys (tVar 2)) (gName 5) tYes (tTup (tCons (tVar 5) (tCons (tDGet (tVar 2) (tVar 5)) tNil))) [5])) tNil)) tNil))))))), (pss_cons (ps_set (i := 1) nd rfl (Or.inl rfl) (pe_slice (r := rSlS) sl_str pe_str po_none (po_some (pe_op (r := rAddI) op_add pe_int (pe_own c__law_next hr (by decide) (by rfl) (pa_cons (pv 0) (pa_cons pe_int pa_nil)))))))
      (pss_cons (ps_set (i := 2) nd rfl (Or.inr rfl) pe_dnewK)
      (pss_cons (ps_for PassesOwn.never rfl (pi_str (pv 1)) (pg_name (i := 3) nd rfl (Or.inl rfl))
      (pss_one (ps_dput (hu_of hr) (pv 2) (pv 3) (pe_own c__law_cost hr (by decide) (by rfl) (pa_cons (pv 0) pa_nil)) rfl)))
      (pss_cons (ps_for PassesOwn.never rfl (pi_range1 (by rfl) T.n_range (pa_cons (pe_own c__law_next hr (by decide) (by rfl) (pa_cons (pv 0) (pa_cons pe_int pa_nil))) pa_nil)) (pg_name (i := 4) nd rfl (Or.inl rfl))
      (pss_cons (ps_set (i := 5) nd rfl (Or.inl rfl) pe_str)
      (pss_cons (ps_for PassesOwn.never rfl (pi_range1 (by rfl) T.n_range (pa_cons (pe_op (r := rAddI) op_add pe_int (pe_own c__law_next hr (by decide) (by rfl) (pa_cons (pv 0) (pa_cons pe_int pa_nil)))) pa_nil)) (pg_name (i := 6) nd rfl (Or.inl rfl))
      (pss_one (ps_set (i := 5) nd rfl (Or.inl rfl) (pe_op (r := rAddStr) op_add_str (pv 5) (pe_ix (r := rIxS) ix_str (pv 1) (pe_own c__law_next hr (by decide) (by rfl) (pa_cons (pv 0) (pa_cons (pe_callB (r := rLenStr) call_len_str (by rfl) T.n_len PySem.boot_len (pa_cons (pv 1) pa_nil)) pa_nil))) (fun _ _ => rfl))))))
      (pss_one (ps_dput (hu_of hr) (pv 2) (pv 5) (pe_own c__law_cost hr (by decide) (by rfl) (pa_cons (pv 0) pa_nil)) rfl)))))
      (pss_one (ps_ret (pe_callTy (r := (rTupOf K)) call_tuple_of (by rfl) T.n_tuple (by decide +kernel) (pa_cons (pe_callB (r := (rSortedSI K)) cr_sortedSI (by rfl) T.n_sorted (by decide +kernel) (pa_cons (pe_lock (pe_lc (own := [("_law_word", 5)]) (wi := (iKeys (tVar 2))) (g := (gName 5)) (tt := tYes) (te := (tTup (tCons (tVar 5) (tCons (tDGet (tVar 2) (tVar 5)) tNil)))) rfl nd (pi_keys (pv 2)) (blkOk_by (N := ["_law_stream_here", "_law_letters_here", "_law_found", "_law_letter", "_law_turn", "_law_word", "_law_k"]) (sc := defScope s__law_words) (own := [("_law_word", 5)]) (by decide +kernel)) (fun _ _ _ _ _ => (pg_name (i := 5) nd rfl (Or.inl rfl))) (fun _ _ _ _ _ => pts_nil) (fun _ _ _ _ _ => (pe_tup (pa_cons (pv 5) (pa_cons (pe_dget (hu_of hr) (pv 2) (pv 5) (fun _ _ => rfl)) pa_nil)))))) pa_nil)) pa_nil)))))))), ?_⟩
  obtain ⟨L, rfl, hs, q⟩ := h
  -- the letters
  refine ⟨.ref L, rfl, L, 3, rfl, ⟨by decide, by decide⟩, hs, fun d H1 d0 d1 s1 x1 => ⟨1, d, rfl, rfl, _, rfl, Str.ofString "abc", rfl, by decide +kernel, ?_⟩⟩
  obtain ⟨m, rfl⟩ : ∃ m : Nat, d = (m : Int) := ⟨d.toNat, by omega⟩
  rw [s_abc, show (1 : Int) + (m : Int) = ((m + 1 : Nat) : Int) by omega, cut_to]
  have hA3 : (abc.take (m + 1)).length ≤ 3 := by
    rw [List.length_take]
    exact Nat.min_le_right _ _
  have hA1 : 1 ≤ (abc.take (m + 1)).length := by
    rw [List.length_take]
    show 1 ≤ min (m + 1) 3
    omega
  generalize hAA : abc.take (m + 1) = A at hA3 hA1
  -- the dict
  refine fun f hf => ?_
  have e2 := Ex.new (o := .dK []) hf
  have x2 : ExB L H (upd H1 f (.dK [])) := x1.trans (ExB.of e2)
  have hf0 : H f = none := by
    cases hh : H f with
    | none => rfl
    | some o =>
      have hfL : f ≠ L := fun e => by
        obtain ⟨S, ns, c, k, g1, _⟩ := s1
        rw [e, g1] at hf
        cases hf
      rw [x1 f o hfL hh] at hf
      cases hf
  have s2 := s1.mono e2
  refine q_forS (a := A) (ev_var rfl) (fun i σ' H' => ∃ (ws : WL) (y3 y4 y5 y6 : Option V), σ' = [some (.ref L), some (vS A), some (.ref f), y3, y4, y5, y6] ∧ Strm H' L ∧ ExB L H H' ∧ H' f = some (.dK (dk ws)) ∧ Drawn A ws i ∧ ∀ c ∈ A.take i, [c] ∈ names ws)
    (fun H3 e3 => ⟨[], none, none, none, none, rfl, s2.mono e3, x2.trans (ExB.of e3), e3 f _ upd_same, ⟨Nat.le_refl _, List.nodup_nil, fun p hp => (nomatch hp)⟩, fun c hc => (nomatch hc)⟩) (fun i c σ' H' hc hV => ?_) fun σ' H' hV => ?_
  · obtain ⟨ws, y3, y4, y5, y6, rfl, s3, x3, h3, dr, hl⟩ := hV
    have hi := (List.getElem?_eq_some_iff.mp hc).1
    have hcA := List.mem_of_getElem? hc
    refine ⟨.ref L, rfl, L, rfl, s3, fun z H4 z1 z9 s4 x4 => ?_⟩
    have h4 := x4 f _ (s3.ne h3 (fun _ y => nomatch y)) h3
    refine ⟨.ref f, rfl, _, rfl, f, _, rfl, DPut.k (k := Sum.inr (mk [c])) h4 (by rw [dk_len]; exact small_lt (by have := dr.len; omega)), ?_⟩
    rw [dk_set]
    refine ⟨put ws [c] z, _, y4, y5, y6, rfl, s4.upd h4 (fun _ y => nomatch y), (x3.trans x4).mut hf0, upd_same, dr.put ⟨by simp, by simp⟩ (fun x hx => ?_) ⟨z1, z9⟩, fun x hx => ?_⟩
    · rw [List.mem_singleton] at hx
      rw [hx]
      exact hcA
    · rw [take_at hc] at hx
      rcases List.mem_append.mp hx with hx | hx
      · exact put_keeps _ _ (hl x hx)
      · rw [List.mem_singleton] at hx
        rw [hx]
        exact put_has _ _ _
  · obtain ⟨ws, y3, y4, y5, y6, rfl, s3, x3, h3, dr, hl⟩ := hV
    rw [List.take_length] at hl
    -- the longer words
    refine ⟨.ref L, rfl, L, 5, rfl, ⟨by decide, by decide⟩, s3, fun d H4 e0 e1 s4 x4 => ⟨d, rfl, by omega, by omega, ?_⟩⟩
    have h4 := x4 f _ (s3.ne h3 (fun _ y => nomatch y)) h3
    refine loopR (n := d.toNat) (fun i σ' H' => ∃ (ws : WL) (y3 y4 y5 y6 : Option V), σ' = [some (.ref L), some (vS A), some (.ref f), y3, y4, y5, y6] ∧ Strm H' L ∧ ExB L H H' ∧ H' f = some (.dK (dk ws)) ∧ Drawn A ws (A.length + i) ∧ ∀ c ∈ A, [c] ∈ names ws)
      ⟨ws, y3, y4, y5, y6, rfl, s4, x3.trans x4, h4, dr, hl⟩ (fun i σ' H' hi hV => ?_) fun σ' H' hV => ?_
    · obtain ⟨ws, y3, y4, y5, y6, rfl, s5, x5, h5, dr, hl⟩ := hV
      refine q_asg (v := vS []) ev_nil fun H6 e6 => ?_
      have s6 := s5.mono e6
      have h6 := e6 f _ h5
      refine ⟨.ref L, rfl, L, 3, rfl, ⟨by decide, by decide⟩, s6, fun d3 H7 f0 f1 s7 x7 => ⟨2, d3, rfl, rfl, 2 + d3, rfl, by omega, by omega, ?_⟩⟩
      have h7 := x7 f _ (s6.ne h6 (fun _ y => nomatch y)) h6
      refine loopR (n := (2 + d3).toNat) (fun j σ' H' => ∃ (u : Tx) (y6 : Option V), σ' = [some (.ref L), some (vS A), some (.ref f), y3, some (.int (i : Int)), some (vS u), y6] ∧ Strm H' L ∧ ExB L H7 H' ∧ u.length = j ∧ ∀ c ∈ u, c ∈ A)
        ⟨[], y6, rfl, s7, ExB.refl L H7, rfl, fun c hc => (nomatch hc)⟩ (fun j σ' H' hj hV => ?_) fun σ' H' hV => ?_
      · obtain ⟨u, y6, rfl, s8, x8, hul, hu⟩ := hV
        refine ⟨vS u, rfl, vS A, rfl, .ref L, rfl, vS A, rfl, mk A, rfl, by rw [mk_len]; exact small (by omega), L, ((mk A).length : Int), rfl, ⟨by rw [mk_len]; omega, by rw [mk_len]; omega⟩, s8, fun x H9 g0 g1 s9 x9 => ?_⟩
        obtain ⟨k, rfl⟩ : ∃ k : Nat, x = (k : Int) := ⟨x.toNat, by omega⟩
        have hk : k < A.length := by
          rw [mk_len] at g1
          omega
        refine ⟨mk A, (k : Int), A[k], rfl, rfl, by rw [mk_len]; exact small (by omega), atI_nat (by rw [mk_cps]; exact List.getElem?_eq_getElem hk), mk u, mk [A[k]], rfl, rfl, by rw [mk_len, mk_len]; exact small (by show _ + 1 ≤ 1000; omega), ?_⟩
        refine ⟨u ++ [A[k]], some (.int (j : Int)), ?_, s9, x8.trans x9, ?_, fun c hc => ?_⟩
        · rw [mk_app]
          rfl
        · rw [List.length_append, hul]
          rfl
        · rcases List.mem_append.mp hc with hc | hc
          · exact hu c hc
          · rw [List.mem_singleton] at hc
            rw [hc]
            exact List.getElem_mem hk
      · obtain ⟨u, y6, rfl, s8, x8, hul, hu⟩ := hV
        have h8 := x8 f _ (s7.ne h7 (fun _ y => nomatch y)) h7
        refine ⟨.ref L, rfl, L, rfl, s8, fun z H9 z1 z9 s9 x9 => ?_⟩
        have h9 := x9 f _ (s8.ne h8 (fun _ y => nomatch y)) h8
        refine ⟨.ref f, rfl, _, rfl, f, _, rfl, DPut.k (k := Sum.inr (mk u)) h9 (by rw [dk_len]; exact small_lt (by have := dr.len; omega)), ?_⟩
        rw [dk_set]
        exact ⟨put ws u z, _, _, _, _, rfl, s9.upd h9 (fun _ y => nomatch y), ((((x5.trans (ExB.of e6)).trans x7).trans x8).trans x9).mut hf0, upd_same, dr.put ⟨by omega, by omega⟩ hu ⟨z1, z9⟩, fun c hc => put_keeps _ _ (hl c hc)⟩
    · obtain ⟨ws, y3, y4, y5, y6, rfl, s5, x5, h5, dr, hl⟩ := hV
      have hwl : ws.length ≤ 7 := by
        have := dr.len
        omega
      -- the pairs, the dict locked
      refine ⟨f, _, h5, trivial, fun od => ?_⟩
      have xl : ExB L H (upd H' f (.frz od (.dK (dk ws)))) := x5.mut hf0
      have sl : Strm (upd H' f (.frz od (.dK (dk ws)))) L := s5.upd h5 (fun _ y => nomatch y)
      generalize hHl : upd H' f (.frz od (.dK (dk ws))) = Hl at xl sl ⊢
      have hfl : Hl f = some (.frz od (.dK (dk ws))) := by
        rw [← hHl]
        exact upd_same
      refine ⟨.ref f, rfl, f, od, rfl, .inl ⟨dk ws, hfl, fun Dl hD => ?_⟩⟩
      refine lc_it walk_keys (fun i H3 => ∃ ts : List Addr, ts.length = i ∧ H3 Dl = some (.lst (ts.map V.ref)) ∧ (∀ (j : Nat) (t : Addr) (p : Tx × Int), ts[j]? = some t → ws[j]? = some p → H3 t = some (.tup [vS p.1, .int p.2])) ∧ Ex Hl H3)
        ⟨[], rfl, upd_same, fun j t p h => (by simp at h), Ex.new hD⟩ (fun i H3 _ hV => ?_) (fun i x H3 H4 hi hV hy => ?_) fun H3 hV => ?_
      · obtain ⟨ts, _, _, _, e3⟩ := hV
        exact e3 f _ hfl
      · obtain ⟨ts, tl, hDl, ht, e3⟩ := hV
        obtain ⟨rfl, k, v, hk, rfl⟩ := hy
        have hiw : i < ws.length := by
          rw [dk_len] at hi
          exact hi
        have ek : (dk ws)[i]? = some (Sum.inr (mk ws[i].1), V.int ws[i].2) := by
          unfold dk
          rw [List.getElem?_map, List.getElem?_eq_getElem hiw]
          rfl
        have ekk := Option.some.inj (hk.symm.trans ek)
        cases ekk
        have hmem : ws[i].1 ∈ names ws := List.mem_map.mpr ⟨ws[i], List.getElem_mem hiw, rfl⟩
        have hcst : cst ws ws[i].1 = ws[i].2 := by
          obtain ⟨p, hp, e1, e2⟩ := cst_mem hmem
          rw [← e2]
          obtain ⟨j, hj, ej⟩ := List.mem_iff_getElem.mp hp
          have hjn : (names ws)[j]'(by unfold names; rw [List.length_map]; exact hj) = (names ws)[i]'(by unfold names; rw [List.length_map]; exact hiw) := by
            unfold names
            rw [List.getElem_map, List.getElem_map, ej, e1]
          have := (List.getElem_inj dr.nodup).mp hjn
          subst this
          rw [ej]
        refine ⟨rfl, ?_⟩
        have hg : DGet H4 f (kV (Sum.inr (mk ws[i].1))) (some (.int ws[i].2)) := .inl ⟨dk ws, Sum.inr (mk ws[i].1), .inr ⟨od, e3 f _ hfl⟩, rfl, by rw [dk_get hmem, hcst]⟩
        refine ⟨_, rfl, .ref f, rfl, _, rfl, f, _, rfl, hg, by show 2 ≤ sizeLine; decide, fun t nt => ?_⟩
        have et := Ex.new (o := .tup [vS ws[i].1, .int ws[i].2]) nt
        have ntD : t ≠ Dl := fun e => by
          rw [e, hDl] at nt
          cases nt
        refine ⟨ts.map V.ref, et Dl _ hDl, by rw [List.length_map]; exact small_lt (by omega), ts ++ [t], by rw [List.length_append, tl]; rfl, ?_, fun j t' p h1 h2 => ?_, Ex.mut (e3.trans et) hD⟩
        · rw [upd_same, List.map_append]
          rfl
        · by_cases hj : j < ts.length
          · rw [List.getElem?_append_left hj] at h1
            have h3 := ht j t' p h1 h2
            have n1 : t' ≠ Dl := ne_of h3 hDl fun z => nomatch z
            rw [upd_ne n1]
            exact et t' _ h3
          · have hjl : j < (ts ++ [t]).length := (List.getElem?_eq_some_iff.mp h1).1
            rw [List.length_append] at hjl
            have hjl : j < ts.length + 1 := hjl
            have ej : j = ts.length := by omega
            subst ej
            rw [List.getElem?_append_right (Nat.le_refl _), Nat.sub_self] at h1
            have h1 : some t = some t' := h1
            cases h1
            rw [tl, List.getElem?_eq_getElem hiw] at h2
            cases h2
            rw [upd_ne ntD]
            exact upd_same
      · obtain ⟨ts, tl, hDl, ht, e3⟩ := hV
        rw [dk_len] at tl
        refine ⟨e3 f _ hfl, ?_⟩
        have hff := e3 f _ hfl
        have hDf : Dl ≠ f := ne_of hDl hff fun z => nomatch z
        have s6 : Strm (upd H3 f (.dK (dk ws))) L := (sl.mono e3).upd hff (fun _ y => nomatch y)
        have x6 : ExB L H (upd H3 f (.dK (dk ws))) := (xl.trans (ExB.of e3)).mut hf0
        have ht6 : ∀ (j : Nat) (t : Addr) (p : Tx × Int), ts[j]? = some t → ws[j]? = some p → (upd H3 f (.dK (dk ws))) t = some (.tup [vS p.1, .int p.2]) := fun j t p h1 h2 => by
          have h3 := ht j t p h1 h2
          rw [upd_ne (ne_of h3 hff fun z => nomatch z)]
          exact h3
        have hD6 : (upd H3 f (.dK (dk ws))) Dl = some (.lst (ts.map V.ref)) := by
          rw [upd_ne hDf]
          exact hDl
        generalize upd H3 f (.dK (dk ws)) = H6 at s6 x6 ht6 hD6 ⊢
        have hmap := kOf_map tl ht6
        have hat : ∀ t ∈ ts, ∃ p, H6 t = some (.tup [vS p.1, .int p.2]) ∧ kOf H6 (.ref t) = p := fun t htm => by
          obtain ⟨j, hj, ej⟩ := List.mem_iff_getElem.mp htm
          have h3 := ht6 j t (ws[j]'(by omega)) (by rw [List.getElem?_eq_getElem hj, ej]) (List.getElem?_eq_getElem (by omega))
          exact ⟨_, h3, kOf_at h3⟩
        refine ⟨Dl, ts.map V.ref, kOf H6, rfl, sq_of hD6, fun x hx => ?_, fun ys p hsr hpm hp => ?_⟩
        · obtain ⟨t, htm, rfl⟩ := List.mem_map.mp hx
          obtain ⟨p, h3, ek⟩ := hat t htm
          refine ⟨t, rfl, ?_⟩
          rw [ek]
          exact h3
        · obtain ⟨ts', rfl⟩ := refs_of (ys := ys) fun y hy => by
            obtain ⟨t, _, e⟩ := List.mem_map.mp (hpm.mem_iff.mp hy)
            exact ⟨t, e.symm⟩
          have hperm : ((ts'.map V.ref).map (kOf H6)).Perm ws := by
            rw [← hmap]
            exact hpm.map _
          have hnd : (names ((ts'.map V.ref).map (kOf H6))).Nodup := (hperm.map (fun p : Tx × Int => p.1)).nodup_iff.mpr dr.nodup
          have hsorted : (names ((ts'.map V.ref).map (kOf H6))).Pairwise (· < ·) := by
            have h1 : ((ts'.map V.ref).map (kOf H6)).Pairwise (fun a b => lexT b a = false) := List.pairwise_map.mpr hsr
            have h2 : (names ((ts'.map V.ref).map (kOf H6))).Pairwise (fun a b => a < b ∨ a = b) := by
              unfold names
              refine List.pairwise_map.mpr (h1.imp fun {a b} h => ?_)
              rcases lexT_none h with z | z
              · exact .inl z
              · exact .inr z.1.symm
            exact (h2.and hnd).imp fun {a b} h => h.1.resolve_right h.2
          have ok := drawn_ok (m := m + 1) (by omega) (by
            rw [hAA]
            exact ⟨hwl, dr.nodup, dr.word⟩) (by rw [hAA]; exact hl) hperm hsorted
          have e7 := Ex.new (o := .lst (ts'.map V.ref)) hp
          refine ⟨p, ts'.map V.ref, rfl, .inl ⟨sq_of upd_same, fun l hl' => ?_⟩⟩
          have e8 := Ex.new (o := .tup (ts'.map V.ref)) hl'
          have e78 := e7.trans e8
          refine q l _ _ ok ⟨ts', st_of upd_same, by rw [List.length_map, List.length_map], fun i t p h1 h2 => ?_⟩ (s6.mono e78) (x6.trans (ExB.of e78))
          rw [List.map_map, List.getElem?_map, h1] at h2
          have h2 : kOf H6 (.ref t) = p := Option.some.inj h2
          have htm : t ∈ ts := by
            have := hpm.mem_iff.mp (List.mem_map.mpr ⟨t, List.mem_of_getElem? h1, rfl⟩)
            obtain ⟨t2, ht2, e⟩ := List.mem_map.mp this
            cases e
            exact ht2
          obtain ⟨p', h3, ek⟩ := hat t htm
          rw [ek] at h2
          subst h2
          exact st_of (e78 t _ h3)
end
end Gc
set_option maxHeartbeats 4000000
/-! The law. -/
namespace Gc
open PySem PySem.Spec PyProof.Rows L2 Evl
theorem first_ix (f : Nat → Tx) (x : Tx) : ∀ n, (∃ m, m < n ∧ f m = x) → ∃ j, j < n ∧ f j = x ∧ ∀ m, m < j → f m ≠ x
  | 0, h => by
    obtain ⟨m, hm, _⟩ := h
    omega
  | n + 1, h => by
    by_cases h2 : ∃ m, m < n ∧ f m = x
    · obtain ⟨j, h3, h4, h5⟩ := first_ix f x n h2
      exact ⟨j, by omega, h4, h5⟩
    · obtain ⟨m, hm, e⟩ := h
      have em : m = n := by
        by_cases hl : m < n
        · exact absurd ⟨m, hl, e⟩ h2
        · omega
      exact ⟨n, by omega, by rw [← em]; exact e, fun k hk ek => h2 ⟨k, hk, ek⟩⟩
theorem eqV_vS (a b : Tx) : eqV (vS a) (vS b) = decide (a = b) := by
  show (mk a == mk b) = decide (a = b)
  by_cases h : a = b
  · rw [h]
    simp
  · rw [decide_eq_false h]
    exact beq_eq_false_iff_ne.mpr fun e => h (mk_inj e)
section
variable {K : PySem.W.Frag} {σ : L2.St} {H : Hp} {ta tb : TE}
theorem ev_index {v : Addr} {ts : List Tx} {x : Tx} {j : Nat} (ha : Ev ta σ H (.ref v)) (hb : Ev tb σ H (vS x)) (h : H v = some (.lst (ts.map vS))) (hj : ts[j]? = some x) (hf : ∀ (m : Nat) (y : Tx), m < j → ts[m]? = some y → y ≠ x) :
    Ev (tBM K "list" (rIndex K) ta (tCons tb tNil)) σ H (.int (j : Int)) := fun H1 e Q q =>
  ha H1 e _ fun H2 e2 => ⟨.inl ⟨rfl, _, sq_of (e2 v _ (e v _ h))⟩, hb H2 (e.trans e2) _ fun H3 e3 => ⟨v, ts.map vS, vS x, j, vS x, rfl, rfl, sq_of (e3 v _ (e2 v _ (e v _ h))), rfl, flat_map ts, by rw [List.getElem?_map, hj]; rfl, by rw [eqV_vS, decide_eq_true rfl],
    fun m z hm hz => by
      rw [List.getElem?_map] at hz
      obtain ⟨y, hy, rfl⟩ := Option.map_eq_some_iff.mp hz
      rw [eqV_vS, decide_eq_false (hf m y hm hy)], q H3 (e2.trans e3)⟩⟩
end
section
variable {P : Program} {w : World} {K : PySem.W.Frag} {mg : Str → Option Value} {base : Heap}
/-- the reader over a text, held letters in the slot 7 -/
theorem read_loop {a : Addr} {ws : WL} {h t : Tx} {H : Hp} {D : Ends} {ts : TE} {s0 s1 s3 s4 s5 s6 s8 s9 s10 s11 s12 s13 s14 s15 : Option V}
    (hsrc : Ev ts [s0, s1, some (.ref a), s3, s4, s5, s6, some (vS h), s8, s9, s10, s11, s12, s13, s14, s15] H (vS t)) (hW : WA K H a ws) (ok : Ok ws) (hh : Ov ws h) (hd : Held ws h) (ht : Ov ws t) (hz : t.length ≤ 500)
    (k : ∀ y8 H', Ex H H' → D.nx [s0, s1, some (.ref a), s3, s4, s5, s6, some (vS (rd ws h t).2), y8, s9, s10, s11, s12, s13, s14, s15] H') :
    tFor (iStr ts) (gName 8) (tAsg (tOp (rIxT K) (tCall (sp__law_read K) [] E0 (tCons (tVar 2) (tCons (tVar 7) (tCons (tVar 8) tNil)))) (tC (.int 1))) (gName 7)) D
      [s0, s1, some (.ref a), s3, s4, s5, s6, some (vS h), s8, s9, s10, s11, s12, s13, s14, s15] H := by
  refine s_forS hsrc (fun i σ' H' => ∃ y8, σ' = [s0, s1, some (.ref a), s3, s4, s5, s6, some (vS (rd ws h (t.take i)).2), y8, s9, s10, s11, s12, s13, s14, s15] ∧ Ex H H') (fun H1 e1 => ⟨s8, rfl, e1⟩) (fun i c σ' H' hc hV => ?_) fun σ' H' hV => ?_
  · obtain ⟨y8, rfl, e1⟩ := hV
    have hcm : [c] ∈ names ws := ht c (List.mem_of_getElem? hc)
    have hov := rd_hold (t.take i) h hh (ov_take i ht)
    have hhl := held_len ok (rd_held (t.take i) h hd)
    have hov2 : Ov ws ((rd ws h (t.take i)).2 ++ [c]) := ov_app hov fun d hd => by
      rw [List.mem_singleton] at hd
      rw [hd]
      exact hcm
    refine s_asg (v := vS (drain ws ((rd ws h (t.take i)).2 ++ [c])).2) (ev_ixU (i := 1) (xs := [.int (csum ws (drain ws ((rd ws h (t.take i)).2 ++ [c])).1), vS (drain ws ((rd ws h (t.take i)).2 ++ [c])).2]) (eu_spU (ea_3 (ev_var rfl) (ev_var rfl) (ev_var rfl)) fun H2 e2 => ⟨a, ws, (rd ws h (t.take i)).2, c, rfl, hW.mono (e1.trans e2), ok, hov2, by omega, rfl⟩) ev_c (atI_nat (j := 1) rfl)) fun H2 e2 => ?_
    refine ⟨some (vS [c]), ?_, e1.trans e2⟩
    rw [take_at hc, rd_snoc]
    rfl
  · obtain ⟨y8, rfl, e1⟩ := hV
    rw [List.take_length]
    exact k y8 H' e1
theorem q_read_loop {a : Addr} {ws : WL} {h t : Tx} {H : Hp} {D : Ends} {tz : TS} {ts : TE} {s0 s1 s3 s4 s5 s6 s8 s9 s10 s11 s12 s13 s14 s15 : Option V}
    (hsrc : Ev ts [s0, s1, some (.ref a), s3, s4, s5, s6, some (vS h), s8, s9, s10, s11, s12, s13, s14, s15] H (vS t)) (hW : WA K H a ws) (ok : Ok ws) (hh : Ov ws h) (hd : Held ws h) (ht : Ov ws t) (hz : t.length ≤ 500)
    (k : ∀ y8 H', Ex H H' → tz D [s0, s1, some (.ref a), s3, s4, s5, s6, some (vS (rd ws h t).2), y8, s9, s10, s11, s12, s13, s14, s15] H') :
    tSeq (tFor (iStr ts) (gName 8) (tAsg (tOp (rIxT K) (tCall (sp__law_read K) [] E0 (tCons (tVar 2) (tCons (tVar 7) (tCons (tVar 8) tNil)))) (tC (.int 1))) (gName 7))) tz D
      [s0, s1, some (.ref a), s3, s4, s5, s6, some (vS h), s8, s9, s10, s11, s12, s13, s14, s15] H := read_loop (D := { D with nx := tz D }) hsrc hW ok hh hd ht hz k
def sp_law (K : PySem.W.Frag) : Sp := fun vs H Q _ => ∃ (a : Addr) (ns : List Int), vs = [.ref a] ∧ SqL K H a (ns.map V.int) ∧ ns.length ≤ 63 ∧ ∀ H', Q (.bl true) H'
theorem ok_law (T : Top K mg) {f : Addr} {fd : FuncData} (F : Fun K "law" "law" s_law f fd) : FnOk P w K mg base CX0 8 f fd ["_law_script"] (sp_law K) := by
  have c__law_stream : Cal P w K mg base "_law_stream" 1 ["_law_script"] (sp__law_stream K) := ok__law_stream T
  have c__law_words : Cal P w K mg base "_law_words" 3 ["_law_stream_here"] (sp__law_words K) := ok__law_words T
  have c__law_letters : Cal P w K mg base "_law_letters" 1 ["_law_words_here"] (sp__law_letters K) := ok__law_letters T
  have c__law_text : Cal P w K mg base "_law_text" 2 ["_law_stream_here", "_law_words_here", "_law_most"] (sp__law_text K) := ok__law_text T
  have c_round_sums : Cal P w K mg base "round_sums" 7 ["words", "value"] (sp_round_sums K) := ok_round_sums T
  have c__law_sum : Cal P w K mg base "_law_sum" 1 ["_law_words_here", "_law_row"] (sp__law_sum K) := ok__law_sum T
  have c__law_match : Cal P w K mg base "_law_match" 1 ["_law_words_here", "_law_text_here"] (sp__law_match K) := ok__law_match T
  have c__law_least : Cal P w K mg base "_law_least" 1 ["_law_words_here", "_law_text_here"] (sp__law_least K) := ok__law_least T
  have c__law_next : Cal P w K mg base "_law_next" 1 ["_law_stream_here", "_law_many"] (sp__law_next K) := ok__law_next T
  have c__law_read : Cal P w K mg base "_law_read" 2 ["_law_words_here", "_law_held", "_law_letter"] (sp__law_read K) := ok__law_read T
  refine F.ok sc_law (fun vs H Q E h => by
      obtain ⟨_, _, rfl, _⟩ := h
      rfl) (fun cdv A outer s H vs Q E hr h => ?_)
  have nd := sc_law.nd
  refine ⟨(tSeq (tAsg (tCall (sp__law_stream K) [] E0 (tCons (tVar 0) tNil)) (gName 1))
      (tSeq (tAsg (tCall (sp__law_words K) [] E0 (tCons (tVar 1) tNil)) (gName 2))
      (tSeq (tAsg (tCall (sp__law_letters K) [] E0 (tCons (tVar 2) tNil)) (gName 3))
      (tSeq (tAsg (tOp rAddStr (tOp (rIxL K) (tVar 3) (tCall (sp__law_next K) [] E0 (tCons (tVar 1) (tCons (tCB (rLenS K) (tCons (tVar 3) tNil)) tNil)))) (tCall (sp__law_text K) [] E0 (tCons (tVar 1) (tCons (tVar 2) (tCons (tC (.int 2)) tNil))))) (gName 4))
      (tSeq (tAsg (tCall (sp__law_text K) [] E0 (tCons (tVar 1) (tCons (tVar 2) (tCons (tC (.int 3)) tNil)))) (gName 5))
      (tSeq (tAsg (tLst tNil) (gName 6))
      (tSeq (tAsg (tC (.str (Str.ofString ""))) (gName 7))
      (tSeq (tFor (iStr (tVar 5)) (gName 8)
      (tAsg (tOp (rIxT K) (tCall (sp__law_read K) [] E0 (tCons (tVar 2) (tCons (tVar 7) (tCons (tVar 8) tNil)))) (tC (.int 1))) (gName 7)))
      (tSeq (tFor (iRng1 (tCons (tC (.int 6)) tNil)) (gName 9)
      (tIfS (tTest (tOp (rIn K true) (tVar 7) (tVar 6)))
      (tSeq (tDrop (tBM K "list" rAppend (tVar 6) (tCons (tVar 7) tNil)))
      (tSeq (tAsg (tOp rAddStr (tVar 5) (tVar 4)) (gName 5))
      (tFor (iStr (tVar 4)) (gName 8)
      (tAsg (tOp (rIxT K) (tCall (sp__law_read K) [] E0 (tCons (tVar 2) (tCons (tVar 7) (tCons (tVar 8) tNil)))) (tC (.int 1))) (gName 7))))) tNext))
      (tSeq (tIfS (tTest (tOp (rIn K true) (tVar 7) (tVar 6)))
      (tRet (tC (.bl true))) tNext)
      (tSeq (tAsg (tOp rMulStr (tVar 4) (tOp rSubI (tCB (rLenS K) (tCons (tVar 6) tNil)) (tBM K "list" (rIndex K) (tVar 6) (tCons (tVar 7) tNil)))) (gName 10))
      (tSeq (tAsg (tCall (sp_round_sums K) [] E0 (tCons (tVar 2) (tCons (tTup (tCons (tVar 5) (tCons (tVar 10) (tCons (tC (.str (Str.ofString ""))) (tCons (tCall (sp__law_match K) [] E0 (tCons (tVar 2) (tCons (tVar 10) tNil))) tNil))))) tNil))) (gName 11))
      (tSeq (tIfS (tOr (tNot (tB (tCB (rIsi K) (tCons (tVar 11) (tCons (tC (.ty "tuple")) tNil))))) (tOr (tTest (tOp rNe (tCB (rLenS K) (tCons (tVar 11) tNil)) (tC (.int 2)))) (tTest (tOp rNe (tOp (rIxT K) (tVar 11) (tC (.int 1))) (tCall (sp__law_sum K) [] E0 (tCons (tVar 2) (tCons (tCall (sp__law_match K) [] E0 (tCons (tVar 2) (tCons (tVar 10) tNil))) tNil)))))))
      (tRet (tC (.bl false))) tNext)
      (tSeq (tAsg (tCall (sp__law_sum K) [] E0 (tCons (tVar 2) (tCons (tCall (sp__law_match K) [] E0 (tCons (tVar 2) (tCons (tVar 7) tNil))) tNil))) (gName 12))
      (tSeq (tAsg (tLc (iRng1 (tCons (tC (.int 4)) tNil)) (gName 14) tYes (tOp rSubI (tCall (sp__law_sum K) [] E0 (tCons (tVar 2) (tCons (tCall (sp__law_match K) [] E0 (tCons (tVar 2) (tCons (tOp rAddStr (tVar 5) (tOp rMulStr (tVar 10) (tVar 14))) tNil))) tNil))) (tVar 12)) [14]) (gName 13))
      (tSeq (tIfS (tNot (tB (tCB (rAll K) (tCons (tLc (iRng1 (tCons (tC (.int 3)) tNil)) (gName 15) tYes (tOp rEq (tOp rSubI (tOp (rIxL K) (tVar 13) (tOp rAddI (tVar 15) (tC (.int 1)))) (tOp (rIxL K) (tVar 13) (tVar 15))) (tOp (rIxT K) (tVar 11) (tC (.int 0)))) [15]) tNil))))
      (tRet (tC (.bl false))) tNext)
      (tRet (tOp rLeI (tCall (sp__law_least K) [] E0 (tCons (tVar 2) (tCons (tOp rAddStr (tVar 5) (tOp rMulStr (tVar 10) (tC (.int 3)))) tNil))) (tOp rAddI (tCall (sp__law_least K) [] E0 (tCons (tVar 2) (tCons (tVar 5) tNil))) (tOp rMulI (tC (.int 3)) (tOp (rIxT K) (tVar 11) (tC (.int 1))))))))))))))))))))))), (pss_cons (ps_set (i := 1) nd rfl (Or.inl rfl) (pe_own c__law_stream hr (by decide) (by rfl) (pa_cons (pv 0) pa_nil)))
      (pss_cons (ps_set (i := 2) nd rfl (Or.inr rfl) (pe_own c__law_words hr (by decide) (by rfl) (pa_cons (pv 1) pa_nil)))
      (pss_cons (ps_set (i := 3) nd rfl (Or.inl rfl) (pe_own c__law_letters hr (by decide) (by rfl) (pa_cons (pv 2) pa_nil)))
      (pss_cons (ps_set (i := 4) nd rfl (Or.inl rfl) (pe_op (r := rAddStr) op_add_str (pe_ix (r := (rIxL K)) ix_list (pv 3) (pe_own c__law_next hr (by decide) (by rfl) (pa_cons (pv 1) (pa_cons (pe_callB (r := (rLenS K)) call_len_seq (by rfl) T.n_len PySem.boot_len (pa_cons (pv 3) pa_nil)) pa_nil))) (fun _ _ => rfl)) (pe_own c__law_text hr (by decide) (by rfl) (pa_cons (pv 1) (pa_cons (pv 2) (pa_cons pe_int pa_nil))))))
      (pss_cons (ps_set (i := 5) nd rfl (Or.inr rfl) (pe_own c__law_text hr (by decide) (by rfl) (pa_cons (pv 1) (pa_cons (pv 2) (pa_cons pe_int pa_nil)))))
      (pss_cons (ps_set (i := 6) nd rfl (Or.inl rfl) (pe_lst pa_nil))
      (pss_cons (ps_set (i := 7) nd rfl (Or.inl rfl) pe_str)
      (pss_cons (ps_for PassesOwn.never rfl (pi_str (pv 5)) (pg_name (i := 8) nd rfl (Or.inl rfl))
      (pss_one (ps_set (i := 7) nd rfl (Or.inl rfl) (pe_ix (r := (rIxT K)) ix_tup (pe_own c__law_read hr (by decide) (by rfl) (pa_cons (pv 2) (pa_cons (pv 7) (pa_cons (pv 8) pa_nil)))) pe_int (fun _ _ => rfl)))))
      (pss_cons (ps_for PassesOwn.never rfl (pi_range1 (by rfl) T.n_range (pa_cons pe_int pa_nil)) (pg_name (i := 9) nd rfl (Or.inl rfl))
      (pss_one (ps_if (pt_cmpR (r := (rIn K true)) op_notIn_seq (pv 7) (pv 6) rfl)
      (pss_cons (ps_expr (pe_bm (r := rAppend) PySem.F.plainAttrs_list PySem.F.slot_list_append PySem.F.type_list_append mt_append (pv 6) (pa_cons (pv 7) pa_nil)))
      (pss_cons (ps_set (i := 5) nd rfl (Or.inr rfl) (pe_op (r := rAddStr) op_add_str (pv 5) (pv 4)))
      (pss_one (ps_for PassesOwn.never rfl (pi_str (pv 4)) (pg_name (i := 8) nd rfl (Or.inl rfl))
      (pss_one (ps_set (i := 7) nd rfl (Or.inl rfl) (pe_ix (r := (rIxT K)) ix_tup (pe_own c__law_read hr (by decide) (by rfl) (pa_cons (pv 2) (pa_cons (pv 7) (pa_cons (pv 8) pa_nil)))) pe_int (fun _ _ => rfl)))))))) pss_nil)))
      (pss_cons (ps_if (pt_cmpR (r := (rIn K true)) op_notIn_seq (pv 7) (pv 6) rfl)
      (pss_one (ps_ret pe_bl)) pss_nil)
      (pss_cons (ps_set (i := 10) nd rfl (Or.inr rfl) (pe_op (r := rMulStr) op_mul_str (pv 4) (pe_op (r := rSubI) op_sub (pe_callB (r := (rLenS K)) call_len_seq (by rfl) T.n_len PySem.boot_len (pa_cons (pv 6) pa_nil)) (pe_bm (r := (rIndex K)) PySem.F.plainAttrs_list PySem.F.slot_list_index PySem.F.type_list_index mt_index (pv 6) (pa_cons (pv 7) pa_nil)))))
      (pss_cons (ps_set (i := 11) nd rfl (Or.inr rfl) (pe_own c_round_sums hr (by decide) (by rfl) (pa_cons (pv 2) (pa_cons (pe_tup (pa_cons (pv 5) (pa_cons (pv 10) (pa_cons pe_str (pa_cons (pe_own c__law_match hr (by decide) (by rfl) (pa_cons (pv 2) (pa_cons (pv 10) pa_nil))) pa_nil))))) pa_nil))))
      (pss_cons (ps_if (PW.pt (pw_or (pt_not (pt_val (pe_callB (r := (rIsi K)) call_isi (by rfl) T.n_isinstance (by decide +kernel) (pa_cons (pv 11) (pa_cons (pe_bltn (v := .ty "tuple") (by rfl) T.n_tuple (by decide +kernel) rfl) pa_nil))))) (pw_or (pt_cmpR (r := rNe) op_ne (pe_callB (r := (rLenS K)) call_len_seq (by rfl) T.n_len PySem.boot_len (pa_cons (pv 11) pa_nil)) pe_int (nomark _)) (pw_or1 (pt_cmpR (r := rNe) op_ne (pe_ix (r := (rIxT K)) ix_tup (pv 11) pe_int (fun _ _ => rfl)) (pe_own c__law_sum hr (by decide) (by rfl) (pa_cons (pv 2) (pa_cons (pe_own c__law_match hr (by decide) (by rfl) (pa_cons (pv 2) (pa_cons (pv 10) pa_nil))) pa_nil))) (nomark _))))))
      (pss_one (ps_ret pe_bl)) pss_nil)
      (pss_cons (ps_set (i := 12) nd rfl (Or.inr rfl) (pe_own c__law_sum hr (by decide) (by rfl) (pa_cons (pv 2) (pa_cons (pe_own c__law_match hr (by decide) (by rfl) (pa_cons (pv 2) (pa_cons (pv 7) pa_nil))) pa_nil))))
      (pss_cons (ps_set (i := 13) nd rfl (Or.inr rfl) (pe_lc (own := [("_law_many", 14)]) (wi := (iRng1 (tCons (tC (.int 4)) tNil))) (g := (gName 14)) (tt := tYes) (te := (tOp rSubI (tCall (sp__law_sum K) [] E0 (tCons (tVar 2) (tCons (tCall (sp__law_match K) [] E0 (tCons (tVar 2) (tCons (tOp rAddStr (tVar 5) (tOp rMulStr (tVar 10) (tVar 14))) tNil))) tNil))) (tVar 12))) rfl nd (pi_range1 (by rfl) T.n_range (pa_cons pe_int pa_nil)) (blkOk_by (N := ["_law_script", "_law_stream_here", "_law_words_here", "_law_letters_here", "_law_piece", "_law_before", "_law_seen", "_law_held", "_law_letter", "_law_turn", "_law_cycle", "_law_told", "_law_left", "_law_costs", "_law_many", "_law_k"]) (sc := defScope s_law) (own := [("_law_many", 14)]) (by decide +kernel)) (fun _ _ _ _ _ => (pg_name (i := 14) nd rfl (Or.inl rfl))) (fun _ _ _ _ _ => pts_nil) (fun _ _ _ _ _ => (pe_op (r := rSubI) op_sub (pe_own c__law_sum hr (by decide) (by rfl) (pa_cons (pv 2) (pa_cons (pe_own c__law_match hr (by decide) (by rfl) (pa_cons (pv 2) (pa_cons (pe_op (r := rAddStr) op_add_str (pv 5) (pe_op (r := rMulStr) op_mul_str (pv 10) (pv 14))) pa_nil))) pa_nil))) (pv 12)))))
      (pss_cons (ps_if (pt_not (pt_val (pe_callB (r := (rAll K)) (cr_all rfl) (by rfl) T.n_all (by decide +kernel) (pa_cons (pe_lc (own := [("_law_k", 15)]) (wi := (iRng1 (tCons (tC (.int 3)) tNil))) (g := (gName 15)) (tt := tYes) (te := (tOp rEq (tOp rSubI (tOp (rIxL K) (tVar 13) (tOp rAddI (tVar 15) (tC (.int 1)))) (tOp (rIxL K) (tVar 13) (tVar 15))) (tOp (rIxT K) (tVar 11) (tC (.int 0))))) rfl nd (pi_range1 (by rfl) T.n_range (pa_cons pe_int pa_nil)) (blkOk_by (N := ["_law_script", "_law_stream_here", "_law_words_here", "_law_letters_here", "_law_piece", "_law_before", "_law_seen", "_law_held", "_law_letter", "_law_turn", "_law_cycle", "_law_told", "_law_left", "_law_costs", "_law_many", "_law_k"]) (sc := defScope s_law) (own := [("_law_k", 15)]) (by decide +kernel)) (fun _ _ _ _ _ => (pg_name (i := 15) nd rfl (Or.inl rfl))) (fun _ _ _ _ _ => pts_nil) (fun _ _ _ _ _ => (pe_cmpR (r := rEq) op_eq (pe_op (r := rSubI) op_sub (pe_ix (r := (rIxL K)) ix_list (pv 13) (pe_op (r := rAddI) op_add (pv 15) pe_int) (fun _ _ => rfl)) (pe_ix (r := (rIxL K)) ix_list (pv 13) (pv 15) (fun _ _ => rfl))) (pe_ix (r := (rIxT K)) ix_tup (pv 11) pe_int (fun _ _ => rfl)) (nomark _)))) pa_nil))))
      (pss_one (ps_ret pe_bl)) pss_nil)
      (pss_one (ps_ret (pe_cmpR (r := rLeI) op_le (pe_own c__law_least hr (by decide) (by rfl) (pa_cons (pv 2) (pa_cons (pe_op (r := rAddStr) op_add_str (pv 5) (pe_op (r := rMulStr) op_mul_str (pv 10) pe_int)) pa_nil))) (pe_op (r := rAddI) op_add (pe_own c__law_least hr (by decide) (by rfl) (pa_cons (pv 2) (pa_cons (pv 5) pa_nil))) (pe_op (r := rMulI) op_mul pe_int (pe_ix (r := (rIxT K)) ix_tup (pv 11) pe_int (fun _ _ => rfl)))) (nomark _)))))))))))))))))))), ?_⟩
  obtain ⟨a0, ns, rfl, hS, hn, q⟩ := h
  -- the stream, the words, the letters
  refine aq_call (ea_1 (ev_var rfl)) fun H1 e1 => ⟨a0, ns, rfl, ex_l e1 hS, hn, fun L H2 _ s2 => ?_⟩
  refine aq_call (ea_1 (ev_var rfl)) fun H3 e3 => ⟨L, rfl, s2.mono e3, fun a ws H4 ok hW s4 _ => ?_⟩
  refine q_asgL (xs := (lets ws).map vS) (el_spL (ea_1 (ev_var rfl)) fun H5 e5 => ⟨a, ws, rfl, hW.mono e5, ok, rfl⟩) fun l H5 hl e5 h5 => ?_
  have hlL : l ≠ L := fun e => by
    obtain ⟨S, ns, c, k, g1, _⟩ := s4
    rw [e, g1] at hl
    cases hl
  have hW := hW.mono e5
  have s5 := s4.mono e5
  have l8 := ok.len8
  have ll := lets_len ws
  have lp := lets_some ok
  -- the piece
  refine ⟨.ref l, rfl, .ref L, rfl, .ref l, rfl, l, _, rfl, .inl (sq_of h5), L, ((lets ws).map vS).length, rfl, ⟨by rw [List.length_map]; omega, by rw [List.length_map]; omega⟩, s5, fun x H6 x0 x1 s6 x6 => ?_⟩
  obtain ⟨j, rfl⟩ : ∃ j : Nat, x = (j : Int) := ⟨x.toNat, by omega⟩
  have hj : j < (lets ws).length := by
    rw [List.length_map] at x1
    omega
  obtain ⟨c, ec, hc⟩ := lets_at (List.getElem?_eq_getElem hj)
  have hW := s5.wa x6 hW
  refine ⟨l, _, (j : Int), vS [c], rfl, rfl, sq_of (x6 l _ hlL h5), atI_nat (by
      rw [List.getElem?_map, List.getElem?_eq_getElem hj, ec]
      rfl), .ref L, rfl, .ref a, rfl, L, a, ws, 2, rfl, by decide, s6, hW, ok, fun t H7 ht htl s7 x7 => ⟨mk [c], mk t, rfl, rfl, by rw [mk_len, mk_len]; exact small (by show 1 + _ ≤ 1000; omega), ?_⟩⟩
  rw [mk_app]
  have hW := s6.wa x7 hW
  have hp : Ov ws ([c] ++ t) := ov_app (fun d hd => by
    rw [List.mem_singleton] at hd
    rw [hd]
    exact hc) ht
  have hpl : ([c] ++ t).length ≤ 3 := by
    rw [List.length_append]
    show 1 + _ ≤ 3
    omega
  have hpn : 1 ≤ ([c] ++ t).length := by
    rw [List.length_append]
    show 1 ≤ 1 + _
    omega
  generalize [c] ++ t = p at hp hpl hpn ⊢
  -- the text before
  refine ⟨.ref L, rfl, .ref a, rfl, L, a, ws, 3, rfl, by decide, s7, hW, ok, fun b H8 hb hbl s8 x8 => ?_⟩
  have hW := s7.wa x8 hW
  refine q_asgL (xs := []) (el_lst ea_nil (by simp)) fun v H9 hv e9 h9 => ?_
  refine q_asg (v := vS []) ev_nil fun H10 e10 => ?_
  have e810 := e9.trans e10
  refine q_read_loop (ev_var rfl) (hW.mono e810) ok ov_nil (.inl rfl) hb (by omega) fun y8 H11 e11 => ?_
  have e811 := e810.trans e11
  -- round and round
  have hW8 := hW
  refine q_forR1 (n := 6) (ea_1 ev_c) ⟨by decide, by decide⟩ (fun i σ' H' => ∃ (n : Nat) (y8 y9 : Option V), σ' = [some (.ref a0), some (.ref L), some (.ref a), some (.ref l), some (vS p), some (vS (b ++ rep n p)), some (.ref v), some (vS (hs ws b p n)), y8, y9, none, none, none, none, none, none] ∧ n ≤ i ∧ Ex H8 H' ∧ H' v = some (.lst (((List.range n).map (hs ws b p)).map vS)))
    (fun H12 e12 => ⟨0, y8, none, ?_, Nat.le_refl _, e811.trans e12, e12 v _ (e11 v _ (e10 v _ h9))⟩) (fun i σ' H' hi hV => ?_) fun σ' H' hV => ?_
  · unfold hs
    rw [rep_zero, List.append_nil]
  · obtain ⟨n, y8, y9, rfl, hni, e12, h12⟩ := hV
    have hov : Ov ws (hs ws b p n) := rd_hold _ _ ov_nil (ov_app hb (ov_rep hp n))
    have hhd : Held ws (hs ws b p n) := rd_held _ _ (.inl rfl)
    have hrl := rep_len n p
    have hrl2 : (rep n p).length ≤ 18 := by
      rw [hrl]
      exact Nat.le_trans (Nat.mul_le_mul (show n ≤ 6 by omega) hpl) (by decide)
    refine s_when (b := !decide (hs ws b p n ∈ (List.range n).map (hs ws b p))) (et_test (ev_niL (ev_var rfl) (ev_var rfl) (sq_of h12))) (fun hb1 H13 e13 => ?_) fun hb1 H13 e13 => ⟨n, y8, _, rfl, by omega, e12.trans e13, e13 v _ h12⟩
    refine q_app (K := K) (l := v) (xs := ((List.range n).map (hs ws b p)).map vS) (v := vS (hs ws b p n)) (e13 v _ h12) (ev_var rfl) (ev_var rfl) (by rw [List.length_map, List.length_map, List.length_range]; omega) fun H14 e14 => ?_
    have e814 : Ex H8 (upd H14 v (.lst (((List.range n).map (hs ws b p)).map vS ++ [vS (hs ws b p n)]))) := Ex.mut ((e12.trans e13).trans e14) hv
    refine q_asg (v := vS (b ++ rep n p ++ p)) (ev_addS (ev_var rfl) (ev_var rfl) (by rw [List.length_append]; omega)) fun H15 e15 => ?_
    refine read_loop (ev_var rfl) (hW8.mono (e814.trans e15)) ok hov hhd hp (by omega) fun z8 H16 e16 => ?_
    refine ⟨n + 1, z8, some (.int (i : Int)), ?_, by omega, (e814.trans e15).trans e16, ?_⟩
    · rw [hs_succ, rep_snoc, List.append_assoc]
    · refine e16 v _ (e15 v _ ?_)
      rw [upd_same, List.range_succ, List.map_append, List.map_append]
      rfl
  · obtain ⟨n, y8, y9, rfl, hn6, e12, h12⟩ := hV
    have hn6 : n ≤ 6 := hn6
    have hrl : ∀ m, m ≤ 6 → (rep m p).length ≤ 18 := fun m hm => by
      rw [rep_len]
      exact Nat.le_trans (Nat.mul_le_mul hm hpl) (by decide)
    have hov : Ov ws (hs ws b p n) := rd_hold _ _ ov_nil (ov_app hb (ov_rep hp n))
    have hhd : Held ws (hs ws b p n) := rd_held _ _ (.inl rfl)
    have hhl := held_len ok hhd
    refine q_when (b := !decide (hs ws b p n ∈ (List.range n).map (hs ws b p))) (et_test (ev_niL (ev_var rfl) (ev_var rfl) (sq_of h12))) (fun _ H13 e13 => s_ret (v := .bl true) ev_c fun H14 _ => q H14) fun hb1 H13 e13 => ?_
    have hin : hs ws b p n ∈ (List.range n).map (hs ws b p) := by
      rw [Bool.not_eq_false', decide_eq_true_eq] at hb1
      exact hb1
    obtain ⟨m0, hm0, em0⟩ := List.mem_map.mp hin
    obtain ⟨j, hj, ej, hfirst⟩ := first_ix (hs ws b p) (hs ws b p n) n ⟨m0, List.mem_range.mp hm0, em0⟩
    have h13 := e13 v _ h12
    have e813 := e12.trans e13
    -- the cycle
    refine q_asg (v := vS (rep (n - j) p)) (ev_mulS (ev_var rfl) (ev_is (ev_subI (ev_len (ev_var rfl) (sq_of h13)) (ev_index (j := j) (ev_var rfl) (ev_var rfl) h13 (by
        rw [List.getElem?_map, List.getElem?_range hj]
        exact congrArg some ej) fun m y hm hy => by
          rw [List.getElem?_map, List.getElem?_range (by omega)] at hy
          have hy : hs ws b p m = y := Option.some.inj hy
          rw [← hy]
          exact hfirst m hm)) (by
        rw [List.length_map, List.length_map, List.length_range]
        congr 1
        omega)) (by
        rw [← rep_len]
        have := hrl (n - j) (by omega)
        omega) (by omega)) fun H14 e14 => ?_
    have hcyc := hs_cycle (ws := ws) (b := b) (p := p) (Nat.le_of_lt hj) ej
    have hB : Ov ws (b ++ rep n p) := ov_app hb (ov_rep hp n)
    have hBl : (b ++ rep n p).length ≤ 21 := by
      rw [List.length_append]
      have := hrl n hn6
      omega
    have hC : Ov ws (rep (n - j) p) := ov_rep hp _
    have hCl := hrl (n - j) (by omega)
    have hCn : rep (n - j) p ≠ [] := fun e => by
      have h1 := rep_len (n - j) p
      rw [e] at h1
      have h2 : 0 < (n - j) * p.length := Nat.mul_pos (by omega) (by omega)
      rw [← h1] at h2
      exact absurd h2 (by simp)
    have hhs : hs ws b p n = (rd ws [] (b ++ rep n p)).2 := rfl
    rw [hhs] at hov hhd hhl ⊢
    generalize b ++ rep n p = B at hcyc hB hBl hov hhd hhl ⊢
    generalize rep (n - j) p = C at hcyc hC hCl hCn ⊢
    have e814 := e813.trans e14
    have hW := hW8.mono e814
    -- the round
    refine ⟨.ref a, rfl, vS B, rfl, vS C, rfl, .ref a, rfl, vS C, rfl, _, ⟨a, ws, C, rfl, hW, ok, hC, by omega, rfl⟩, fun r H15 hr e15 h15 => ⟨by show 4 ≤ sizeLine; decide, fun bb hbb => ?_⟩⟩
    have e16 := Ex.new (o := .tup [vS B, vS C, .str (Str.ofString ""), .ref r]) hbb
    have e1416 := e15.trans e16
    refine ⟨_, ⟨a, bb, r, ws, B, C, rfl, ⟨hW.mono e1416, ok, by
      show SqT K _ bb [vS B, vS C, V.str (mk []), V.ref r]
      rw [← s_nil]
      exact st_of upd_same, st_of (e16 r _ h15), hB, hC, hCn, by omega, by omega, hcyc⟩, rfl⟩, fun t H17 ht e17 h17 => ?_⟩
    have hW := hW.mono (e1416.trans e17)
    have hT := st_of (K := K) h17
    have hml := mt_len hC
    have hmn := mt_names hC
    have hgain := hcyc
    generalize hG : csum ws (rd ws (rd ws [] B).2 C).1 = G at hT
    -- what is told
    refine q_when (b := false) (et_or (a := false) (et_not (a := true) (et_B (ev_isi (ev_var rfl) (fun _ e => ty_tup (ex_t e hT)) (by decide +kernel)))) fun _ => et_or (a := false) (et_is (et_test (ev_neI (ev_lenT (ev_var rfl) hT) ev_c)) rfl) fun _ =>
      et_is (et_test (ev_neI (j := csum ws (mt ws C)) (ev_ixT (i := 1) (ev_var rfl) ev_c hT rfl) (ev_spVU (ev_var rfl) (eu_spU (ea_2 (ev_var rfl) (ev_var rfl)) fun H e => ⟨a, ws, C, rfl, hW.mono e, ok, hC, by omega, rfl⟩) fun q1 H e hq => ⟨a, q1, ws, mt ws C, rfl, hW.mono e, ok, hq, hmn, by omega, rfl⟩)))
        (by rw [decide_eq_true rfl]; rfl)) (fun e => nomatch e) fun _ H18 e18 => ?_
    have hW := hW.mono e18
    have hT := ex_t e18 hT
    -- what the held letters cost
    have hhm := mt_len hov
    refine q_asg (v := .int (csum ws (mt ws (rd ws [] B).2))) (ev_spVU (ev_var rfl) (eu_spU (ea_2 (ev_var rfl) (ev_var rfl)) fun H e => ⟨a, ws, (rd ws [] B).2, rfl, hW.mono e, ok, hov, by omega, rfl⟩) fun q1 H e hq => ⟨a, q1, ws, mt ws (rd ws [] B).2, rfl, hW.mono e, ok, hq, mt_names hov, by omega, rfl⟩) fun H19 e19 => ?_
    have hW := hW.mono e19
    have hT := ex_t e19 hT
    have hrep : ∀ k, k ≤ 3 → (rep k C).length ≤ 54 ∧ Ov ws (B ++ rep k C) ∧ (B ++ rep k C).length ≤ 75 := fun k hk => by
      have h1 : (rep k C).length ≤ 54 := by
        rw [rep_len]
        exact Nat.le_trans (Nat.mul_le_mul hk hCl) (by decide)
      refine ⟨h1, ov_app hB (ov_rep hC k), ?_⟩
      rw [List.length_append]
      omega
    have hcost : ∀ k : Nat, csum ws (mt ws (B ++ rep k C)) - csum ws (mt ws (rd ws [] B).2) = csum ws (rd ws [] B).1 + (k : Int) * G := fun k => by
      rw [cost_rep hcyc k, hG]
      omega
    -- the costs
    refine q_asgL (xs := (List.range 4).map fun k : Nat => .int (csum ws (rd ws [] B).1 + (k : Int) * G)) (el_lcRY (n := 4) _ (ea_1 ev_c) (by decide) (fun _ => rfl) fun k hk => ?_) fun cs H20 _ e20 h20 => ?_
    · have h3 := hrep k (by omega)
      have hm3 := mt_len h3.2.1
      rw [← hcost k]
      exact ev_subI (ev_spVU (ev_var rfl) (eu_spU (ea_2 (ev_var rfl) (ev_addS (ev_var rfl) (ev_mulS (ev_var rfl) (ev_var rfl) (by rw [← rep_len]; omega) (by omega)) (by omega))) fun H e => ⟨a, ws, B ++ rep k C, rfl, hW.mono e, ok, h3.2.1, by omega, rfl⟩) fun q1 H e hq => ⟨a, q1, ws, mt ws (B ++ rep k C), rfl, hW.mono e, ok, hq, mt_names h3.2.1, by omega, rfl⟩) (ev_var rfl)
    · have hW := hW.mono e20
      have hT := ex_t e20 hT
      have hat : ∀ k, k < 4 → ((List.range 4).map fun k : Nat => V.int (csum ws (rd ws [] B).1 + (k : Int) * G))[k]? = some (.int (csum ws (rd ws [] B).1 + (k : Int) * G)) := fun k hk => by
        rw [List.getElem?_map, List.getElem?_range hk]
        rfl
      refine q_when (b := false) (et_not (a := true) (et_B (ev_allY (l := List.range 3) (f := fun _ => true) (el_lcRY (n := 3) _ (ea_1 ev_c) (by decide) (fun _ => rfl) fun k hk => ?_) fun _ _ => rfl))) (fun e => nomatch e) fun _ H21 e21 => ?_
      · refine ev_is (ev_eqI (ev_subI (ev_ixL (i := ((k + 1 : Nat) : Int)) (ev_var rfl) (ev_is (ev_addI (ev_var rfl) ev_c) rfl) (sq_of h20) (atI_nat (hat (k + 1) (by omega)))) (ev_ixL (i := (k : Int)) (ev_var rfl) (ev_var rfl) (sq_of h20) (atI_nat (hat k (by omega))))) (ev_ixT (i := 0) (ev_var rfl) ev_c hT (atI_nat (j := 0) rfl))) ?_
        congr 1
        refine decide_eq_true ?_
        rw [show ((k + 1 : Nat) : Int) = (k : Int) + 1 from rfl, Int.add_mul, Int.one_mul]
        omega
      · have hW := hW.mono e21
        have hT := ex_t e21 hT
        have h3 := hrep 3 (by omega)
        have hleast := least_rep ok (b := B) hC 3
        refine s_ret (v := .bl true) (ev_is (ev_leI (ev_spV (ea_2 (ev_var rfl) (ev_addS (ev_var rfl) (ev_mulS (n := 3) (ev_var rfl) ev_c (by rw [← rep_len]; omega) (by omega)) (by omega))) fun H e => ⟨a, ws, B ++ rep 3 C, rfl, hW.mono e, ok, h3.2.1, by omega, rfl⟩)
          (ev_addI (ev_spV (ea_2 (ev_var rfl) (ev_var rfl)) fun H e => ⟨a, ws, B, rfl, hW.mono e, ok, hB, by omega, rfl⟩) (ev_mulI ev_c (ev_ixT (i := 1) (ev_var rfl) ev_c hT (atI_nat (j := 1) rfl)) (.inl ⟨by decide, by decide⟩)))) ?_) fun H22 _ => q H22
        exact congrArg V.bl (decide_eq_true hleast)
end
end Gc
/-! What the top has laid; the end. -/
namespace Gc
open PySem PySem.Spec PyProof.Rows L2 Evl
theorem all_mk {l : PySem.W.OpenLaw} {w : World} {K : PySem.W.Frag} {h : Heap} {mg : Str → Option Value} {fa : Addr} (X : K.In h) (G : h.Ns mainGlobals mg) (hfa : mg "law" = some (.ref fa))
    {f0 f1 f2 f3 f4 f5 f6 f7 f8 f9 f10 f11 f12 f13 f14 f15 f16 f17 f18 f19 f20 f21 f22 f23 f24 f25 f26 f27 f28 f29 f30 : Addr}
    {od0 an0 od1 an1 od2 an2 od3 an3 od4 an4 od5 an5 od6 an6 od7 an7 od8 an8 od9 an9 od10 an10 od11 an11 od12 an12 od13 an13 od14 an14 od15 an15 od16 an16 od17 an17 od18 an18 od19 an19 od20 an20 od21 an21 od22 an22 od23 an23 od24 an24 od25 an25 od26 an26 od27 an27 od28 an28 od29 an29 od30 an30 : Option Addr}
    {sl0 sl1 sl2 sl3 sl4 sl5 sl6 sl7 sl8 sl9 sl10 sl11 sl12 sl13 sl14 sl15 sl16 sl17 sl18 sl19 sl20 sl21 sl22 sl23 sl24 sl25 sl26 sl27 sl28 sl29 sl30 : Array (Option Value)}
    {oc0 kV0 dc0 pm0 cd0 ct0 oc1 kV1 dc1 pm1 cd1 ct1 oc2 kV2 dc2 pm2 cd2 ct2 oc3 kV3 dc3 pm3 cd3 ct3 oc4 kV4 dc4 pm4 cd4 ct4 oc5 kV5 dc5 pm5 cd5 ct5 oc6 kV6 dc6 pm6 cd6 ct6 oc7 kV7 dc7 pm7 cd7 ct7 oc8 kV8 dc8 pm8 cd8 ct8 oc9 kV9 dc9 pm9 cd9 ct9 oc10 kV10 dc10 pm10 cd10 ct10 oc11 kV11 dc11 pm11 cd11 ct11 oc12 kV12 dc12 pm12 cd12 ct12 oc13 kV13 dc13 pm13 cd13 ct13 oc14 kV14 dc14 pm14 cd14 ct14 oc15 kV15 dc15 pm15 cd15 ct15 oc16 kV16 dc16 pm16 cd16 ct16 oc17 kV17 dc17 pm17 cd17 ct17 oc18 kV18 dc18 pm18 cd18 ct18 oc19 kV19 dc19 pm19 cd19 ct19 oc20 kV20 dc20 pm20 cd20 ct20 oc21 kV21 dc21 pm21 cd21 ct21 oc22 kV22 dc22 pm22 cd22 ct22 oc23 kV23 dc23 pm23 cd23 ct23 oc24 kV24 dc24 pm24 cd24 ct24 oc25 kV25 dc25 pm25 cd25 ct25 oc26 kV26 dc26 pm26 cd26 ct26 oc27 kV27 dc27 pm27 cd27 ct27 oc28 kV28 dc28 pm28 cd28 ct28 oc29 kV29 dc29 pm29 cd29 ct29 oc30 kV30 dc30 pm30 cd30 ct30 : Value}
    {tk0 tk1 tk2 tk3 : Tok} {zA : Str} (eA : zA = mk alph)
    (a0 : PySem.W.nsIn K mainGlobals "is_between" = some (some (.ref f0))) (l0 : K.lookup f0 = some ⟨oc0, od0, .func (PySem.W.fnOf "is_between" "is_between" (defArgs s_is_between) (defBody s_is_between) (defScope s_is_between) .none kV0 dc0 pm0 an0 cd0 ct0), sl0⟩) (c0 : PySem.W.codeIn K cd0 "is_between" = true) (k0 : PySem.W.keepIn K (.ref f0) = true)
    (a1 : PySem.W.nsIn K mainGlobals "is_word" = some (some (.ref f1))) (l1 : K.lookup f1 = some ⟨oc1, od1, .func (PySem.W.fnOf "is_word" "is_word" (defArgs s_is_word) (defBody s_is_word) (defScope s_is_word) .none kV1 dc1 pm1 an1 cd1 ct1), sl1⟩) (c1 : PySem.W.codeIn K cd1 "is_word" = true) (k1 : PySem.W.keepIn K (.ref f1) = true)
    (a2 : PySem.W.nsIn K mainGlobals "is_entry" = some (some (.ref f2))) (l2 : K.lookup f2 = some ⟨oc2, od2, .func (PySem.W.fnOf "is_entry" "is_entry" (defArgs s_is_entry) (defBody s_is_entry) (defScope s_is_entry) .none kV2 dc2 pm2 an2 cd2 ct2), sl2⟩) (c2 : PySem.W.codeIn K cd2 "is_entry" = true) (k2 : PySem.W.keepIn K (.ref f2) = true)
    (a3 : PySem.W.nsIn K mainGlobals "is_list" = some (some (.ref f3))) (l3 : K.lookup f3 = some ⟨oc3, od3, .func (PySem.W.fnOf "is_list" "is_list" (defArgs s_is_list) (defBody s_is_list) (defScope s_is_list) .none kV3 dc3 pm3 an3 cd3 ct3), sl3⟩) (c3 : PySem.W.codeIn K cd3 "is_list" = true) (k3 : PySem.W.keepIn K (.ref f3) = true)
    (a4 : PySem.W.nsIn K mainGlobals "letters_in" = some (some (.ref f4))) (l4 : K.lookup f4 = some ⟨oc4, od4, .func (PySem.W.fnOf "letters_in" "letters_in" (defArgs s_letters_in) (defBody s_letters_in) (defScope s_letters_in) .none kV4 dc4 pm4 an4 cd4 ct4), sl4⟩) (c4 : PySem.W.codeIn K cd4 "letters_in" = true) (k4 : PySem.W.keepIn K (.ref f4) = true)
    (a5 : PySem.W.nsIn K mainGlobals "names_in" = some (some (.ref f5))) (l5 : K.lookup f5 = some ⟨oc5, od5, .func (PySem.W.fnOf "names_in" "names_in" (defArgs s_names_in) (defBody s_names_in) (defScope s_names_in) .none kV5 dc5 pm5 an5 cd5 ct5), sl5⟩) (c5 : PySem.W.codeIn K cd5 "names_in" = true) (k5 : PySem.W.keepIn K (.ref f5) = true)
    (a6 : PySem.W.nsIn K mainGlobals "cost_in" = some (some (.ref f6))) (l6 : K.lookup f6 = some ⟨oc6, od6, .func (PySem.W.fnOf "cost_in" "cost_in" (defArgs s_cost_in) (defBody s_cost_in) (defScope s_cost_in) .none kV6 dc6 pm6 an6 cd6 ct6), sl6⟩) (c6 : PySem.W.codeIn K cd6 "cost_in" = true) (k6 : PySem.W.keepIn K (.ref f6) = true)
    (a7 : PySem.W.nsIn K mainGlobals "has_word" = some (some (.ref f7))) (l7 : K.lookup f7 = some ⟨oc7, od7, .func (PySem.W.fnOf "has_word" "has_word" (defArgs s_has_word) (defBody s_has_word) (defScope s_has_word) .none kV7 dc7 pm7 an7 cd7 ct7), sl7⟩) (c7 : PySem.W.codeIn K cd7 "has_word" = true) (k7 : PySem.W.keepIn K (.ref f7) = true)
    (a8 : PySem.W.nsIn K mainGlobals "words_from" = some (some (.ref f8))) (l8 : K.lookup f8 = some ⟨oc8, od8, .func (PySem.W.fnOf "words_from" "words_from" (defArgs s_words_from) (defBody s_words_from) (defScope s_words_from) .none kV8 dc8 pm8 an8 cd8 ct8), sl8⟩) (c8 : PySem.W.codeIn K cd8 "words_from" = true) (k8 : PySem.W.keepIn K (.ref f8) = true)
    (a9 : PySem.W.nsIn K mainGlobals "longest_from" = some (some (.ref f9))) (l9 : K.lookup f9 = some ⟨oc9, od9, .func (PySem.W.fnOf "longest_from" "longest_from" (defArgs s_longest_from) (defBody s_longest_from) (defScope s_longest_from) .none kV9 dc9 pm9 an9 cd9 ct9), sl9⟩) (c9 : PySem.W.codeIn K cd9 "longest_from" = true) (k9 : PySem.W.keepIn K (.ref f9) = true)
    (a10 : PySem.W.nsIn K mainGlobals "check_words" = some (some (.ref f10))) (l10 : K.lookup f10 = some ⟨oc10, od10, .func (PySem.W.fnOf "check_words" "check_words" (defArgs s_check_words) (defBody s_check_words) (defScope s_check_words) .none kV10 dc10 pm10 an10 cd10 ct10), sl10⟩) (c10 : PySem.W.codeIn K cd10 "check_words" = true) (k10 : PySem.W.keepIn K (.ref f10) = true)
    (a11 : PySem.W.nsIn K mainGlobals "cost_of_row" = some (some (.ref f11))) (l11 : K.lookup f11 = some ⟨oc11, od11, .func (PySem.W.fnOf "cost_of_row" "cost_of_row" (defArgs s_cost_of_row) (defBody s_cost_of_row) (defScope s_cost_of_row) .none kV11 dc11 pm11 an11 cd11 ct11), sl11⟩) (c11 : PySem.W.codeIn K cd11 "cost_of_row" = true) (k11 : PySem.W.keepIn K (.ref f11) = true)
    (a12 : PySem.W.nsIn K mainGlobals "can_grow" = some (some (.ref f12))) (l12 : K.lookup f12 = some ⟨oc12, od12, .func (PySem.W.fnOf "can_grow" "can_grow" (defArgs s_can_grow) (defBody s_can_grow) (defScope s_can_grow) .none kV12 dc12 pm12 an12 cd12 ct12), sl12⟩) (c12 : PySem.W.codeIn K cd12 "can_grow" = true) (k12 : PySem.W.keepIn K (.ref f12) = true)
    (a13 : PySem.W.nsIn K mainGlobals "read_on" = some (some (.ref f13))) (l13 : K.lookup f13 = some ⟨oc13, od13, .func (PySem.W.fnOf "read_on" "read_on" (defArgs s_read_on) (defBody s_read_on) (defScope s_read_on) .none kV13 dc13 pm13 an13 cd13 ct13), sl13⟩) (c13 : PySem.W.codeIn K cd13 "read_on" = true) (k13 : PySem.W.keepIn K (.ref f13) = true)
    (a14 : PySem.W.nsIn K mainGlobals "is_row" = some (some (.ref f14))) (l14 : K.lookup f14 = some ⟨oc14, od14, .func (PySem.W.fnOf "is_row" "is_row" (defArgs s_is_row) (defBody s_is_row) (defScope s_is_row) .none kV14 dc14 pm14 an14 cd14 ct14), sl14⟩) (c14 : PySem.W.codeIn K cd14 "is_row" = true) (k14 : PySem.W.keepIn K (.ref f14) = true)
    (a15 : PySem.W.nsIn K mainGlobals "is_long_text" = some (some (.ref f15))) (l15 : K.lookup f15 = some ⟨oc15, od15, .func (PySem.W.fnOf "is_long_text" "is_long_text" (defArgs s_is_long_text) (defBody s_is_long_text) (defScope s_is_long_text) .none kV15 dc15 pm15 an15 cd15 ct15), sl15⟩) (c15 : PySem.W.codeIn K cd15 "is_long_text" = true) (k15 : PySem.W.keepIn K (.ref f15) = true)
    (a16 : PySem.W.nsIn K mainGlobals "read_all" = some (some (.ref f16))) (l16 : K.lookup f16 = some ⟨oc16, od16, .func (PySem.W.fnOf "read_all" "read_all" (defArgs s_read_all) (defBody s_read_all) (defScope s_read_all) .none kV16 dc16 pm16 an16 cd16 ct16), sl16⟩) (c16 : PySem.W.codeIn K cd16 "read_all" = true) (k16 : PySem.W.keepIn K (.ref f16) = true)
    (a17 : PySem.W.nsIn K mainGlobals "sums_of" = some (some (.ref f17))) (l17 : K.lookup f17 = some ⟨oc17, od17, .func (PySem.W.fnOf "sums_of" "sums_of" (defArgs s_sums_of) (defBody s_sums_of) (defScope s_sums_of) .none kV17 dc17 pm17 an17 cd17 ct17), sl17⟩) (c17 : PySem.W.codeIn K cd17 "sums_of" = true) (k17 : PySem.W.keepIn K (.ref f17) = true)
    (a18 : PySem.W.nsIn K mainGlobals "round_sums" = some (some (.ref f18))) (l18 : K.lookup f18 = some ⟨oc18, od18, .func (PySem.W.fnOf "round_sums" "round_sums" (defArgs s_round_sums) (defBody s_round_sums) (defScope s_round_sums) .none kV18 dc18 pm18 an18 cd18 ct18), sl18⟩) (c18 : PySem.W.codeIn K cd18 "round_sums" = true) (k18 : PySem.W.keepIn K (.ref f18) = true)
    (a19 : PySem.W.nsIn K mainGlobals "_law_stream" = some (some (.ref f19))) (l19 : K.lookup f19 = some ⟨oc19, od19, .func (PySem.W.fnOf "_law_stream" "_law_stream" (defArgs s__law_stream) (defBody s__law_stream) (defScope s__law_stream) .none kV19 dc19 pm19 an19 cd19 ct19), sl19⟩) (c19 : PySem.W.codeIn K cd19 "_law_stream" = true) (k19 : PySem.W.keepIn K (.ref f19) = true)
    (a20 : PySem.W.nsIn K mainGlobals "_law_next" = some (some (.ref f20))) (l20 : K.lookup f20 = some ⟨oc20, od20, .func (PySem.W.fnOf "_law_next" "_law_next" (defArgs s__law_next) (defBody s__law_next) (defScope s__law_next) .none kV20 dc20 pm20 an20 cd20 ct20), sl20⟩) (c20 : PySem.W.codeIn K cd20 "_law_next" = true) (k20 : PySem.W.keepIn K (.ref f20) = true)
    (a21 : PySem.W.nsIn K mainGlobals "_law_cost" = some (some (.ref f21))) (l21 : K.lookup f21 = some ⟨oc21, od21, .func (PySem.W.fnOf "_law_cost" "_law_cost" (defArgs s__law_cost) (defBody s__law_cost) (defScope s__law_cost) .none kV21 dc21 pm21 an21 cd21 ct21), sl21⟩) (c21 : PySem.W.codeIn K cd21 "_law_cost" = true) (k21 : PySem.W.keepIn K (.ref f21) = true)
    (a22 : PySem.W.nsIn K mainGlobals "_law_words" = some (some (.ref f22))) (l22 : K.lookup f22 = some ⟨oc22, od22, .func (PySem.W.fnOf "_law_words" "_law_words" (defArgs s__law_words) (defBody s__law_words) (defScope s__law_words) .none kV22 dc22 pm22 an22 cd22 ct22), sl22⟩) (c22 : PySem.W.codeIn K cd22 "_law_words" = true) (k22 : PySem.W.keepIn K (.ref f22) = true)
    (a23 : PySem.W.nsIn K mainGlobals "_law_letters" = some (some (.ref f23))) (l23 : K.lookup f23 = some ⟨oc23, od23, .func (PySem.W.fnOf "_law_letters" "_law_letters" (defArgs s__law_letters) (defBody s__law_letters) (defScope s__law_letters) .none kV23 dc23 pm23 an23 cd23 ct23), sl23⟩) (c23 : PySem.W.codeIn K cd23 "_law_letters" = true) (k23 : PySem.W.keepIn K (.ref f23) = true)
    (a24 : PySem.W.nsIn K mainGlobals "_law_text" = some (some (.ref f24))) (l24 : K.lookup f24 = some ⟨oc24, od24, .func (PySem.W.fnOf "_law_text" "_law_text" (defArgs s__law_text) (defBody s__law_text) (defScope s__law_text) .none kV24 dc24 pm24 an24 cd24 ct24), sl24⟩) (c24 : PySem.W.codeIn K cd24 "_law_text" = true) (k24 : PySem.W.keepIn K (.ref f24) = true)
    (a25 : PySem.W.nsIn K mainGlobals "_law_match" = some (some (.ref f25))) (l25 : K.lookup f25 = some ⟨oc25, od25, .func (PySem.W.fnOf "_law_match" "_law_match" (defArgs s__law_match) (defBody s__law_match) (defScope s__law_match) .none kV25 dc25 pm25 an25 cd25 ct25), sl25⟩) (c25 : PySem.W.codeIn K cd25 "_law_match" = true) (k25 : PySem.W.keepIn K (.ref f25) = true)
    (a26 : PySem.W.nsIn K mainGlobals "_law_sum" = some (some (.ref f26))) (l26 : K.lookup f26 = some ⟨oc26, od26, .func (PySem.W.fnOf "_law_sum" "_law_sum" (defArgs s__law_sum) (defBody s__law_sum) (defScope s__law_sum) .none kV26 dc26 pm26 an26 cd26 ct26), sl26⟩) (c26 : PySem.W.codeIn K cd26 "_law_sum" = true) (k26 : PySem.W.keepIn K (.ref f26) = true)
    (a27 : PySem.W.nsIn K mainGlobals "_law_least" = some (some (.ref f27))) (l27 : K.lookup f27 = some ⟨oc27, od27, .func (PySem.W.fnOf "_law_least" "_law_least" (defArgs s__law_least) (defBody s__law_least) (defScope s__law_least) .none kV27 dc27 pm27 an27 cd27 ct27), sl27⟩) (c27 : PySem.W.codeIn K cd27 "_law_least" = true) (k27 : PySem.W.keepIn K (.ref f27) = true)
    (a28 : PySem.W.nsIn K mainGlobals "_law_grows" = some (some (.ref f28))) (l28 : K.lookup f28 = some ⟨oc28, od28, .func (PySem.W.fnOf "_law_grows" "_law_grows" (defArgs s__law_grows) (defBody s__law_grows) (defScope s__law_grows) .none kV28 dc28 pm28 an28 cd28 ct28), sl28⟩) (c28 : PySem.W.codeIn K cd28 "_law_grows" = true) (k28 : PySem.W.keepIn K (.ref f28) = true)
    (a29 : PySem.W.nsIn K mainGlobals "_law_read" = some (some (.ref f29))) (l29 : K.lookup f29 = some ⟨oc29, od29, .func (PySem.W.fnOf "_law_read" "_law_read" (defArgs s__law_read) (defBody s__law_read) (defScope s__law_read) .none kV29 dc29 pm29 an29 cd29 ct29), sl29⟩) (c29 : PySem.W.codeIn K cd29 "_law_read" = true) (k29 : PySem.W.keepIn K (.ref f29) = true)
    (a30 : PySem.W.nsIn K mainGlobals "law" = some (some (.ref f30))) (l30 : K.lookup f30 = some ⟨oc30, od30, .func (PySem.W.fnOf "law" "law" (defArgs s_law) (defBody s_law) (defScope s_law) .none kV30 dc30 pm30 an30 cd30 ct30), sl30⟩) (c30 : PySem.W.codeIn K cd30 "law" = true) (k30 : PySem.W.keepIn K (.ref f30) = true)
    (z0 : PySem.W.nsIn K mainGlobals "len" = some none)
    (z1 : PySem.W.nsIn K mainGlobals "min" = some none)
    (z2 : PySem.W.nsIn K mainGlobals "max" = some none)
    (z3 : PySem.W.nsIn K mainGlobals "isinstance" = some none)
    (z4 : PySem.W.nsIn K mainGlobals "all" = some none)
    (z5 : PySem.W.nsIn K mainGlobals "any" = some none)
    (z6 : PySem.W.nsIn K mainGlobals "sum" = some none)
    (z7 : PySem.W.nsIn K mainGlobals "tuple" = some none)
    (z8 : PySem.W.nsIn K mainGlobals "range" = some none)
    (z9 : PySem.W.nsIn K mainGlobals "list" = some none)
    (z10 : PySem.W.nsIn K mainGlobals "abs" = some none)
    (z11 : PySem.W.nsIn K mainGlobals "int" = some none)
    (z12 : PySem.W.nsIn K mainGlobals "sorted" = some none)
    (z13 : PySem.W.nsIn K mainGlobals "str" = some none)
    (z14 : PySem.W.nsIn K mainGlobals "bool" = some none)
    (q0 : PySem.W.nsIn K mainGlobals "LONGEST" = some (some (.int 4 tk0)))
    (q1 : PySem.W.nsIn K mainGlobals "ALPHABET" = some (some (.str zA tk1)))
    (q2 : PySem.W.nsIn K mainGlobals "MOST_WORDS" = some (some (.int 8 tk2)))
    (q3 : PySem.W.nsIn K mainGlobals "MOST_COST" = some (some (.int 9 tk3)))
    : ∃ fd : FuncData, (∀ (s : Shared) (v : Value), BindsTo s fd ⟨[v], []⟩ [("_law_script", v)]) ∧ ∀ base : Heap, K.In base → base.Ns mainGlobals mg → FnOk l.prog w K mg base CX0 8 fa fd ["_law_script"] (sp_law K) := by
  have e := hfa.symm.trans (PySem.W.mg_of X G a30)
  cases e
  have T : Top K mg := ⟨PySem.W.mg_none_of X G z0, PySem.W.mg_none_of X G z1, PySem.W.mg_none_of X G z2, PySem.W.mg_none_of X G z3, PySem.W.mg_none_of X G z4, PySem.W.mg_none_of X G z5, PySem.W.mg_none_of X G z6, PySem.W.mg_none_of X G z7, PySem.W.mg_none_of X G z8, PySem.W.mg_none_of X G z9, PySem.W.mg_none_of X G z10, PySem.W.mg_none_of X G z11, PySem.W.mg_none_of X G z12, PySem.W.mg_none_of X G z13, PySem.W.mg_none_of X G z14, ⟨_, PySem.W.mg_of X G q0, ⟨_, rfl⟩⟩, ⟨_, PySem.W.mg_of X G q1, ⟨_, by rw [eA]⟩⟩, ⟨_, PySem.W.mg_of X G q2, ⟨_, rfl⟩⟩, ⟨_, PySem.W.mg_of X G q3, ⟨_, rfl⟩⟩, ⟨_, _, fun_mk l0 c0 k0, PySem.W.mg_of X G a0⟩, ⟨_, _, fun_mk l1 c1 k1, PySem.W.mg_of X G a1⟩, ⟨_, _, fun_mk l2 c2 k2, PySem.W.mg_of X G a2⟩, ⟨_, _, fun_mk l3 c3 k3, PySem.W.mg_of X G a3⟩, ⟨_, _, fun_mk l4 c4 k4, PySem.W.mg_of X G a4⟩, ⟨_, _, fun_mk l5 c5 k5, PySem.W.mg_of X G a5⟩, ⟨_, _, fun_mk l6 c6 k6, PySem.W.mg_of X G a6⟩, ⟨_, _, fun_mk l7 c7 k7, PySem.W.mg_of X G a7⟩, ⟨_, _, fun_mk l8 c8 k8, PySem.W.mg_of X G a8⟩, ⟨_, _, fun_mk l9 c9 k9, PySem.W.mg_of X G a9⟩, ⟨_, _, fun_mk l10 c10 k10, PySem.W.mg_of X G a10⟩, ⟨_, _, fun_mk l11 c11 k11, PySem.W.mg_of X G a11⟩, ⟨_, _, fun_mk l12 c12 k12, PySem.W.mg_of X G a12⟩, ⟨_, _, fun_mk l13 c13 k13, PySem.W.mg_of X G a13⟩, ⟨_, _, fun_mk l14 c14 k14, PySem.W.mg_of X G a14⟩, ⟨_, _, fun_mk l15 c15 k15, PySem.W.mg_of X G a15⟩, ⟨_, _, fun_mk l16 c16 k16, PySem.W.mg_of X G a16⟩, ⟨_, _, fun_mk l17 c17 k17, PySem.W.mg_of X G a17⟩, ⟨_, _, fun_mk l18 c18 k18, PySem.W.mg_of X G a18⟩, ⟨_, _, fun_mk l19 c19 k19, PySem.W.mg_of X G a19⟩, ⟨_, _, fun_mk l20 c20 k20, PySem.W.mg_of X G a20⟩, ⟨_, _, fun_mk l21 c21 k21, PySem.W.mg_of X G a21⟩, ⟨_, _, fun_mk l22 c22 k22, PySem.W.mg_of X G a22⟩, ⟨_, _, fun_mk l23 c23 k23, PySem.W.mg_of X G a23⟩, ⟨_, _, fun_mk l24 c24 k24, PySem.W.mg_of X G a24⟩, ⟨_, _, fun_mk l25 c25 k25, PySem.W.mg_of X G a25⟩, ⟨_, _, fun_mk l26 c26 k26, PySem.W.mg_of X G a26⟩, ⟨_, _, fun_mk l27 c27 k27, PySem.W.mg_of X G a27⟩, ⟨_, _, fun_mk l28 c28 k28, PySem.W.mg_of X G a28⟩, ⟨_, _, fun_mk l29 c29 k29, PySem.W.mg_of X G a29⟩, ⟨_, _, fun_mk l30 c30 k30, PySem.W.mg_of X G a30⟩⟩
  exact ⟨PySem.W.fnOf "law" "law" (defArgs s_law) (defBody s_law) (defScope s_law) .none kV30 dc30 pm30 an30 cd30 ct30, fun s v => .of_eq rfl, fun base _ _ => ok_law T (fun_mk l30 c30 k30)⟩
end Gc
open PySem PySem.W PyProof.Rows
set_option maxHeartbeats 0 in
theorem PySem.Challenge.cw_greedycuts_k59_whole_repeated_rounds_holds : PySem.Challenge.rw_greedycuts_k59_whole_repeated_rounds.Holds := by
  w_on; o_law; k_head; (case hw => w_witness2)
  k_fill
  refine L2.walk_of (l := PySem.Challenge.rw_greedycuts_k59_whole_repeated_rounds) (n := 63) (k := 8) (x := "_law_script") (CX := fun _ => L2.CX0) (sp := fun w => Gc.sp_law _) rfl (by decide) rfl ⟨rfl, by decide, by decide⟩ (fun w h Y => PySem.W.kIn_of Y) ?F (fun _ _ a ns hl _ hS => ⟨a, ns, rfl, hS, hl, fun _ => rfl⟩) (fun _ _ _ _ _ h => h)
  case F =>
    intro w mg fa h KX G hmg
    refine' Gc.all_mk KX G hmg ?eA ?a0 ?l0 ?c0 ?k0 ?a1 ?l1 ?c1 ?k1 ?a2 ?l2 ?c2 ?k2 ?a3 ?l3 ?c3 ?k3 ?a4 ?l4 ?c4 ?k4 ?a5 ?l5 ?c5 ?k5 ?a6 ?l6 ?c6 ?k6 ?a7 ?l7 ?c7 ?k7 ?a8 ?l8 ?c8 ?k8 ?a9 ?l9 ?c9 ?k9 ?a10 ?l10 ?c10 ?k10 ?a11 ?l11 ?c11 ?k11 ?a12 ?l12 ?c12 ?k12 ?a13 ?l13 ?c13 ?k13 ?a14 ?l14 ?c14 ?k14 ?a15 ?l15 ?c15 ?k15 ?a16 ?l16 ?c16 ?k16 ?a17 ?l17 ?c17 ?k17 ?a18 ?l18 ?c18 ?k18 ?a19 ?l19 ?c19 ?k19 ?a20 ?l20 ?c20 ?k20 ?a21 ?l21 ?c21 ?k21 ?a22 ?l22 ?c22 ?k22 ?a23 ?l23 ?c23 ?k23 ?a24 ?l24 ?c24 ?k24 ?a25 ?l25 ?c25 ?k25 ?a26 ?l26 ?c26 ?k26 ?a27 ?l27 ?c27 ?k27 ?a28 ?l28 ?c28 ?k28 ?a29 ?l29 ?c29 ?k29 ?a30 ?l30 ?c30 ?k30 ?z0 ?z1 ?z2 ?z3 ?z4 ?z5 ?z6 ?z7 ?z8 ?z9 ?z10 ?z11 ?z12 ?z13 ?z14 ?q0 ?q1 ?q2 ?q3
    (case a0 => k_is); (case l0 => k_is); (case c0 => k_is); (case k0 => k_is); (case a1 => k_is); (case l1 => k_is); (case c1 => k_is); (case k1 => k_is); (case a2 => k_is); (case l2 => k_is); (case c2 => k_is); (case k2 => k_is); (case a3 => k_is); (case l3 => k_is); (case c3 => k_is); (case k3 => k_is); (case a4 => k_is); (case l4 => k_is); (case c4 => k_is); (case k4 => k_is); (case a5 => k_is); (case l5 => k_is); (case c5 => k_is); (case k5 => k_is); (case a6 => k_is); (case l6 => k_is); (case c6 => k_is); (case k6 => k_is); (case a7 => k_is); (case l7 => k_is); (case c7 => k_is); (case k7 => k_is); (case a8 => k_is); (case l8 => k_is); (case c8 => k_is); (case k8 => k_is); (case a9 => k_is); (case l9 => k_is); (case c9 => k_is); (case k9 => k_is); (case a10 => k_is); (case l10 => k_is); (case c10 => k_is); (case k10 => k_is); (case a11 => k_is); (case l11 => k_is); (case c11 => k_is); (case k11 => k_is); (case a12 => k_is); (case l12 => k_is); (case c12 => k_is); (case k12 => k_is); (case a13 => k_is); (case l13 => k_is); (case c13 => k_is); (case k13 => k_is); (case a14 => k_is); (case l14 => k_is); (case c14 => k_is); (case k14 => k_is); (case a15 => k_is); (case l15 => k_is); (case c15 => k_is); (case k15 => k_is); (case a16 => k_is); (case l16 => k_is); (case c16 => k_is); (case k16 => k_is); (case a17 => k_is); (case l17 => k_is); (case c17 => k_is); (case k17 => k_is); (case a18 => k_is); (case l18 => k_is); (case c18 => k_is); (case k18 => k_is); (case a19 => k_is); (case l19 => k_is); (case c19 => k_is); (case k19 => k_is); (case a20 => k_is); (case l20 => k_is); (case c20 => k_is); (case k20 => k_is); (case a21 => k_is); (case l21 => k_is); (case c21 => k_is); (case k21 => k_is); (case a22 => k_is); (case l22 => k_is); (case c22 => k_is); (case k22 => k_is); (case a23 => k_is); (case l23 => k_is); (case c23 => k_is); (case k23 => k_is); (case a24 => k_is); (case l24 => k_is); (case c24 => k_is); (case k24 => k_is); (case a25 => k_is); (case l25 => k_is); (case c25 => k_is); (case k25 => k_is); (case a26 => k_is); (case l26 => k_is); (case c26 => k_is); (case k26 => k_is); (case a27 => k_is); (case l27 => k_is); (case c27 => k_is); (case k27 => k_is); (case a28 => k_is); (case l28 => k_is); (case c28 => k_is); (case k28 => k_is); (case a29 => k_is); (case l29 => k_is); (case c29 => k_is); (case k29 => k_is); (case a30 => k_is); (case l30 => k_is); (case c30 => k_is); (case k30 => k_is); (case z0 => k_is); (case z1 => k_is); (case z2 => k_is); (case z3 => k_is); (case z4 => k_is); (case z5 => k_is); (case z6 => k_is); (case z7 => k_is); (case z8 => k_is); (case z9 => k_is); (case z10 => k_is); (case z11 => k_is); (case z12 => k_is); (case z13 => k_is); (case z14 => k_is); (case q0 => k_is); (case q1 => k_is); (case q2 => k_is); (case q3 => k_is)
    (case eA => decide +kernel)
