import PyProof.Rows.All
import Wide.All
import OpenK.AllK
import Wide.FinOn
import PyProof.Rows.StrCountLaw
import PyProof.Rows.StrFoldSign
import PyProof.Rows.StrJoinRep
import PyProof.Rows.StrFin3
import HandS.ForMost
import KE.KDictKeyed
import KE.KeyNested
import KE.GoesEnum
import HandS.Walk
import KE.KTupSum
import KE.KRevSl
import PyProof.CollectStr
import PyProof.Rows.StrStep
import HandS.More
import HandS.Style
import HandS.TupMul
import HandS.IsInst
import HandS.Defaults
import HandS.Zip
import HandS.TupAny
import HandS.Replace
import KE.KStateDown
import HandS.Ends
import HandS.Head0
import HandS.Head1
import HandS.Head2
import HandS.HeadEnd
import HandS.HeadHook1
import HandS.HeadHook2
import HandS.HeadHook3
import HandS.HeadHook4
import PySem.Challenge.RW_packrow_k16_whole_known_counts
set_option Elab.async false
set_option linter.all false
set_option maxRecDepth 100000
set_option maxHeartbeats 4000000
/-! Plain mathematics of packs: words of colours, their residue by a stack, completions. No program in sight. -/
namespace Pk
/-- the pack size of colour c -/
def siz (sz : List Nat) (c : Nat) : Nat := sz.getD c 1
abbrev Stk := List (Nat × Nat)
/-- one bead onto the stack of runs, the top first -/
def push (sz : List Nat) (c : Nat) : Stk → Stk
  | [] => if siz sz c = 1 then [] else [(c, 1)]
  | (d, k) :: r => if d = c then (if k + 1 = siz sz c then r else (d, k + 1) :: r) else (if siz sz c = 1 then (d, k) :: r else (c, 1) :: (d, k) :: r)
def act (sz : List Nat) (w : List Nat) (s : Stk) : Stk := w.foldl (fun s c => push sz c s) s
def word : Stk → List Nat
  | [] => []
  | (c, k) :: r => word r ++ List.replicate k c
/-- the residue -/
def red (sz : List Nat) (w : List Nat) : List Nat := word (act sz w [])
def SPos (sz : List Nat) : Prop := ∀ c, 1 ≤ siz sz c
def Top (c : Nat) (s : Stk) : Prop := ∀ p, s.head? = some p → p.1 ≠ c
def Val (sz : List Nat) : Stk → Prop
  | [] => True
  | (c, k) :: r => 1 ≤ k ∧ k < siz sz c ∧ Top c r ∧ Val sz r

section
variable {sz : List Nat}
theorem push_nil (c : Nat) : push sz c [] = if siz sz c = 1 then [] else [(c, 1)] := rfl
theorem push_cons (c d k : Nat) (r : Stk) : push sz c ((d, k) :: r) = if d = c then (if k + 1 = siz sz c then r else (d, k + 1) :: r) else (if siz sz c = 1 then (d, k) :: r else (c, 1) :: (d, k) :: r) := rfl
theorem val_nil : Val sz [] := by unfold Val; trivial
theorem word_nil : word [] = [] := rfl
theorem word_cons (c k : Nat) (r : Stk) : word ((c, k) :: r) = word r ++ List.replicate k c := rfl
theorem rep_add (a b : Nat) (c : Nat) : List.replicate (a + b) c = List.replicate a c ++ List.replicate b c := List.replicate_append_replicate.symm
theorem act_nil (s : Stk) : act sz [] s = s := rfl
theorem act_cons (c : Nat) (w : List Nat) (s : Stk) : act sz (c :: w) s = act sz w (push sz c s) := rfl
theorem act_append (u v : List Nat) (s : Stk) : act sz (u ++ v) s = act sz v (act sz u s) := List.foldl_append
theorem val_push (hp : SPos sz) (c : Nat) : ∀ {s : Stk}, Val sz s → Val sz (push sz c s)
  | [], _ => by
    rw [push_nil]
    split
    · trivial
    · have := hp c
      exact ⟨Nat.le_refl _, by omega, fun p h => (by cases h), trivial⟩
  | (d, k) :: r, h => by
    obtain ⟨h1, h2, h3, h4⟩ := h
    rw [push_cons]
    split
    · rename_i e
      subst e
      split
      · exact h4
      · exact ⟨by omega, by omega, h3, h4⟩
    · rename_i e
      split
      · exact ⟨h1, h2, h3, h4⟩
      · have := hp c
        refine ⟨Nat.le_refl _, by omega, fun p h => ?_, h1, h2, h3, h4⟩
        cases h
        exact e
theorem val_act (hp : SPos sz) : ∀ (w : List Nat) {s : Stk}, Val sz s → Val sz (act sz w s)
  | [], _, h => h
  | c :: w, _, h => val_act hp w (val_push hp c h)
theorem push_top {c : Nat} {s : Stk} (h : Top c s) : push sz c s = if siz sz c = 1 then s else (c, 1) :: s := by
  cases s with
  | nil => rfl
  | cons p r =>
    obtain ⟨d, k⟩ := p
    have e : ¬ d = c := h (d, k) rfl
    rw [push_cons]
    rw [if_neg e]
theorem push_run {c k : Nat} {r : Stk} : push sz c ((c, k) :: r) = if k + 1 = siz sz c then r else (c, k + 1) :: r := by
  rw [push_cons]
  rw [if_pos rfl]
/-- j beads of c onto a run of k -/
theorem act_run {c : Nat} {r : Stk} : ∀ (j k : Nat), k + j < siz sz c → act sz (List.replicate j c) ((c, k) :: r) = (c, k + j) :: r
  | 0, k, _ => rfl
  | j + 1, k, h => by
    rw [List.replicate_succ, act_cons, push_run, if_neg (by omega), act_run j (k + 1) (by omega)]
    congr 2
    omega
theorem act_fill {c : Nat} {r : Stk} (j k : Nat) (hj : 1 ≤ j) (h : k + j = siz sz c) : act sz (List.replicate j c) ((c, k) :: r) = r := by
  obtain ⟨i, rfl⟩ : ∃ i, j = i + 1 := ⟨j - 1, by omega⟩
  rw [List.replicate_succ', act_append, act_run i k (by omega), act_cons, act_nil, push_run, if_pos (by omega)]
theorem act_fresh {c j : Nat} {r : Stk} (ht : Top c r) (h1 : 1 ≤ j) (h : j < siz sz c) : act sz (List.replicate j c) r = (c, j) :: r := by
  obtain ⟨i, rfl⟩ : ∃ i, j = i + 1 := ⟨j - 1, by omega⟩
  rw [List.replicate_succ, act_cons, push_top ht, if_neg (by omega), act_run i 1 (by omega)]
  congr 2
  omega
theorem act_pack_top {c : Nat} {r : Stk} (hp : SPos sz) (ht : Top c r) : act sz (List.replicate (siz sz c) c) r = r := by
  have h1 := hp c
  by_cases e : siz sz c = 1
  · rw [e, List.replicate_one, act_cons, act_nil, push_top ht, if_pos e]
  · obtain ⟨i, hi⟩ : ∃ i, siz sz c = i + 1 := ⟨siz sz c - 1, by omega⟩
    rw [hi, List.replicate_succ', act_append, act_fresh ht (by omega) (by omega), act_cons, act_nil, push_run, if_pos (by omega)]
/-- a pack does nothing to a stack -/
theorem act_pack (hp : SPos sz) (c : Nat) {s : Stk} (h : Val sz s) : act sz (List.replicate (siz sz c) c) s = s := by
  cases s with
  | nil => exact act_pack_top hp (fun p h => by cases h)
  | cons p r =>
    obtain ⟨d, k⟩ := p
    obtain ⟨h1, h2, h3, h4⟩ := h
    by_cases e : d = c
    · subst e
      have e2 : siz sz d = (siz sz d - k) + k := by omega
      rw [e2, rep_add, act_append, act_fill _ _ (by omega) (by omega), act_fresh h3 h1 h2]
    · exact act_pack_top hp (fun p h => by cases h; exact e)
theorem act_word : ∀ {s : Stk}, Val sz s → act sz (word s) [] = s
  | [], _ => rfl
  | (c, k) :: r, ⟨h1, h2, h3, h4⟩ => by
    rw [word_cons]
    rw [act_append, act_word h4, act_fresh h3 h1 h2]
theorem word_push (hp : SPos sz) {c : Nat} {t s : Stk} (ht : Val sz t) (hs : Val sz s) : act sz (word (push sz c t)) s = push sz c (act sz (word t) s) := by
  have one : ∀ u : Stk, push sz c u = act sz [c] u := fun _ => rfl
  have top : Top c t → act sz (word (push sz c t)) s = push sz c (act sz (word t) s) := fun h => by
    rw [push_top h]
    by_cases e : siz sz c = 1
    · rw [if_pos e]
      have := act_pack hp c (val_act hp (word t) hs)
      rw [e, List.replicate_one] at this
      rw [one, this]
    · rw [if_neg e, word, act_append]
      rfl
  cases t with
  | nil => exact top (fun p h => by cases h)
  | cons p r =>
    obtain ⟨d, k⟩ := p
    obtain ⟨h1, h2, h3, h4⟩ := ht
    by_cases e : d = c
    · subst e
      rw [push_run]
      by_cases e2 : k + 1 = siz sz d
      · rw [if_pos e2, word, act_append, one, ← act_append, ← List.replicate_succ', e2, act_pack hp d (val_act hp _ hs)]
      · rw [if_neg e2, word, word, act_append, act_append, List.replicate_succ', act_append]
        rfl
    · exact top (fun p h => by cases h; exact e)
theorem act_word_act (hp : SPos sz) : ∀ (v : List Nat) {t s : Stk}, Val sz t → Val sz s → act sz (word (act sz v t)) s = act sz v (act sz (word t) s)
  | [], _, _, _, _ => rfl
  | c :: v, t, s, ht, hs => by
    rw [act_cons, act_word_act hp v (val_push hp c ht) hs, word_push hp ht hs]
    rfl
theorem act_red (hp : SPos sz) (v : List Nat) {s : Stk} (hs : Val sz s) : act sz (red sz v) s = act sz v s := act_word_act hp v val_nil hs
theorem act_red_nil (hp : SPos sz) (v : List Nat) : act sz (red sz v) [] = act sz v [] := act_word (val_act hp v val_nil)
theorem red_red (hp : SPos sz) (v : List Nat) : red sz (red sz v) = red sz v := by
  unfold red
  rw [act_word (val_act hp v val_nil)]
theorem red_append_left (hp : SPos sz) (u v : List Nat) : red sz (red sz u ++ v) = red sz (u ++ v) := by
  unfold red
  rw [act_append, act_append, act_word (val_act hp u val_nil)]
theorem red_append_right (hp : SPos sz) (u v : List Nat) : red sz (u ++ red sz v) = red sz (u ++ v) := by
  show word (act sz (u ++ red sz v) []) = word (act sz (u ++ v) [])
  rw [act_append, act_append, act_red hp v (val_act hp u val_nil)]

/-- the inverse of a stack's word -/
def inv (sz : List Nat) : Stk → List Nat
  | [] => []
  | (c, k) :: r => List.replicate (siz sz c - k) c ++ inv sz r
theorem act_inv_word (hp : SPos sz) : ∀ {t : Stk}, Val sz t → ∀ {s : Stk}, Val sz s → act sz (inv sz t ++ word t) s = s
  | [], _, _, _ => rfl
  | (c, k) :: r, ⟨h1, h2, h3, h4⟩, s, hs => by
    have e : inv sz ((c, k) :: r) ++ word ((c, k) :: r) = List.replicate (siz sz c - k) c ++ ((inv sz r ++ word r) ++ List.replicate k c) := by
      simp only [inv, word, List.append_assoc]
    rw [e, act_append, act_append, act_inv_word hp h4 (val_act hp _ hs), ← act_append, ← rep_add]
    have e2 : siz sz c - k + k = siz sz c := by omega
    rw [e2, act_pack hp c hs]
theorem count_push (c d : Nat) : ∀ (t : Stk), (word (push sz d t)).count c ≤ (word t).count c + (if d = c then 1 else 0)
  | [] => by
    rw [push_nil]
    split
    · exact Nat.le_add_right _ _
    · simp only [word, List.nil_append, List.replicate_one, List.count_nil, Nat.zero_add]
      rw [List.count_singleton]
      by_cases e : d = c
      · simp [e]
      · simp [e]
  | (f, k) :: r => by
    rw [push_cons]
    split
    · rename_i e
      subst e
      split
      · rw [word, List.count_append]; omega
      · rw [word, word, List.count_append, List.count_append, List.count_replicate, List.count_replicate]
        by_cases e : f = c
        · simp [e]
          omega
        · simp [e]
    · split
      · exact Nat.le_add_right _ _
      · rw [word, List.count_append, List.replicate_one, List.count_singleton]
        by_cases e : d = c
        · simp [e]
        · simp [e]
theorem count_act (c : Nat) : ∀ (w : List Nat) (t : Stk), (word (act sz w t)).count c ≤ (word t).count c + w.count c
  | [], t => Nat.le_refl _
  | d :: w, t => by
    rw [act_cons]
    have h1 := count_act c w (push sz d t)
    have h2 := count_push (sz := sz) c d t
    rw [List.count_cons]
    by_cases e : d = c
    · simp [e] at h2 ⊢
      rw [e] at h1
      omega
    · simp [e] at h2 ⊢
      omega
theorem count_red (c : Nat) (w : List Nat) : (red sz w).count c ≤ w.count c := by
  have := count_act (sz := sz) c w []
  simpa [word, red] using this
theorem length_push (d : Nat) : ∀ (t : Stk), (word (push sz d t)).length ≤ (word t).length + 1
  | [] => by
    rw [push_nil]
    split
    · exact Nat.le_add_right _ _
    · simp [word]
  | (f, k) :: r => by
    rw [push_cons]
    split
    · rename_i e
      subst e
      split
      · simp [word]; omega
      · simp [word]; omega
    · split
      · exact Nat.le_add_right _ _
      · simp [word]; omega
theorem length_act : ∀ (w : List Nat) (t : Stk), (word (act sz w t)).length ≤ (word t).length + w.length
  | [], t => Nat.le_refl _
  | d :: w, t => by
    rw [act_cons]
    have h1 := length_act w (push sz d t)
    have h2 := length_push (sz := sz) d t
    rw [List.length_cons]
    omega
theorem length_red (w : List Nat) : (red sz w).length ≤ w.length := by
  have := length_act (sz := sz) w []
  simpa [word, red] using this
theorem lt_push {n d : Nat} (hd : d < n) : ∀ (t : Stk), (∀ c ∈ word t, c < n) → ∀ c ∈ word (push sz d t), c < n
  | [], _, c, h => by
    rw [push_nil] at h
    split at h
    · cases h
    · simp [word] at h
      omega
  | (f, k) :: r, ht, c, h => by
    rw [push_cons] at h
    split at h
    · rename_i e
      subst e
      split at h
      · exact ht c (by rw [word]; exact List.mem_append_left _ h)
      · rw [word] at h
        rcases List.mem_append.mp h with h | h
        · exact ht c (by rw [word]; exact List.mem_append_left _ h)
        · have := List.eq_of_mem_replicate h
          omega
    · split at h
      · exact ht c h
      · rw [word] at h
        rcases List.mem_append.mp h with h | h
        · exact ht c h
        · have := List.eq_of_mem_replicate h
          omega
theorem lt_act {n : Nat} : ∀ (w : List Nat) (t : Stk), (∀ c ∈ w, c < n) → (∀ c ∈ word t, c < n) → ∀ c ∈ word (act sz w t), c < n
  | [], t, _, ht, c, h => ht c h
  | d :: w, t, hw, ht, c, h => lt_act w (push sz d t) (fun c hc => hw c (List.mem_cons_of_mem _ hc)) (lt_push (hw d List.mem_cons_self) t ht) c h
theorem lt_red {n : Nat} {w : List Nat} (hw : ∀ c ∈ w, c < n) : ∀ c ∈ red sz w, c < n := lt_act w [] hw (fun c h => by cases h)
/-- a residue of the same length is the word itself -/
theorem act_len_eq : ∀ (w : List Nat) (t : Stk), (word (act sz w t)).length = (word t).length + w.length → word (act sz w t) = word t ++ w
  | [], t, _ => by simp [act_nil]
  | d :: w, t, h => by
    rw [act_cons] at h ⊢
    have h1 := length_act (sz := sz) w (push sz d t)
    have h2 := length_push (sz := sz) d t
    rw [List.length_cons] at h
    have h3 : (word (push sz d t)).length = (word t).length + 1 := by omega
    rw [act_len_eq w (push sz d t) (by omega)]
    have h4 : word (push sz d t) = word t ++ [d] := by
      cases t with
      | nil =>
        rw [push_nil] at h3 ⊢
        split at h3
        · simp [word] at h3
        · rename_i e
          rw [if_neg e]
          simp [word]
      | cons p r =>
        obtain ⟨f, k⟩ := p
        rw [push_cons] at h3 ⊢
        by_cases e : f = d
        · subst e
          rw [if_pos rfl] at h3 ⊢
          by_cases e2 : k + 1 = siz sz f
          · rw [if_pos e2] at h3
            simp [word] at h3
            omega
          · rw [if_neg e2]
            simp [word, List.replicate_succ']
        · rw [if_neg e] at h3 ⊢
          by_cases e2 : siz sz d = 1
          · rw [if_pos e2] at h3
            omega
          · rw [if_neg e2]
            simp [word]
    rw [h4]
    simp
theorem red_eq_self {w : List Nat} (h : (red sz w).length = w.length) : red sz w = w := by
  have := act_len_eq (sz := sz) w [] (by simpa [word, red] using h)
  simpa [word, red] using this
end
end Pk

/-! Completions of a state: the words that use up what is left and reach the target. -/
namespace Pk
def tal (n : Nat) (w : List Nat) : List Nat := (List.range n).map fun c => w.count c
def dec (rem : List Nat) (c : Nat) : List Nat := rem.set c (rem.getD c 0 - 1)
/-- the colours of which a bead is left -/
def succs (rem : List Nat) : List Nat := (List.range rem.length).filter fun c => decide (0 < rem.getD c 0)
/-- all completions, in order -/
def comps (sz tgt : List Nat) : Nat → List Nat → List Nat → List (List Nat)
  | 0, _, pl => if pl = tgt then [[]] else []
  | m + 1, rem, pl => (succs rem).flatMap fun c => (comps sz tgt m (dec rem c) (red sz (pl ++ [c]))).map (c :: ·)

theorem length_tal (n : Nat) (w : List Nat) : (tal n w).length = n := by simp [tal]
theorem tal_get {n i : Nat} (w : List Nat) (h : i < n) : (tal n w).getD i 0 = w.count i := by
  simp [tal, List.getD_eq_getElem?_getD, h]
theorem tal_iff {n : Nat} {w rem : List Nat} (hl : rem.length = n) : tal n w = rem ↔ ∀ i, i < n → w.count i = rem.getD i 0 := by
  constructor
  · intro h i hi
    rw [← h, tal_get w hi]
  · intro h
    apply List.ext_getElem
    · rw [length_tal, hl]
    · intro i h1 h2
      have hi : i < n := by omega
      have := h i hi
      simp [tal, this, List.getD_eq_getElem?_getD, h2]
theorem length_dec (rem : List Nat) (c : Nat) : (dec rem c).length = rem.length := by simp [dec]
theorem dec_get (rem : List Nat) (c i : Nat) (h : c < rem.length) : (dec rem c).getD i 0 = if i = c then rem.getD c 0 - 1 else rem.getD i 0 := by
  unfold dec
  simp only [List.getD_eq_getElem?_getD, List.getElem?_set]
  by_cases e : i = c
  · subst e; simp [h]
  · simp [e, Ne.symm e]
theorem sum_set : ∀ (rem : List Nat) (c : Nat), 0 < rem.getD c 0 → (rem.set c (rem.getD c 0 - 1)).sum + 1 = rem.sum
  | [], c, h => by simp at h
  | a :: r, 0, h => by
    simp at h ⊢
    omega
  | a :: r, c + 1, h => by
    have := sum_set r c (by simpa using h)
    simp at this ⊢
    omega
theorem sum_dec {rem : List Nat} {c : Nat} (h : 0 < rem.getD c 0) : (dec rem c).sum + 1 = rem.sum := sum_set rem c h
theorem lt_of_getD {rem : List Nat} {c : Nat} (h : 0 < rem.getD c 0) : c < rem.length := by
  by_cases e : c < rem.length
  · exact e
  · rw [List.getD_eq_getElem?_getD, List.getElem?_eq_none (by omega)] at h
    simp at h
theorem mem_succs {rem : List Nat} {c : Nat} : c ∈ succs rem ↔ 0 < rem.getD c 0 := by
  unfold succs
  rw [List.mem_filter, List.mem_range, decide_eq_true_eq]
  exact ⟨fun h => h.2, fun h => ⟨lt_of_getD h, h⟩⟩
theorem tal_cons {n c : Nat} {y rem : List Nat} (hl : rem.length = n) (hc : c < n) : tal n (c :: y) = rem ↔ 0 < rem.getD c 0 ∧ tal n y = dec rem c := by
  rw [tal_iff hl, tal_iff (by rw [length_dec, hl])]
  constructor
  · intro h
    have h0 := h c hc
    rw [List.count_cons_self] at h0
    refine ⟨by omega, fun i hi => ?_⟩
    rw [dec_get _ _ _ (by omega)]
    have h1 := h i hi
    by_cases e : i = c
    · subst e
      rw [if_pos rfl]
      omega
    · rw [if_neg e, ← h1, List.count_cons_of_ne (Ne.symm e)]
  · rintro ⟨h0, h⟩ i hi
    have h1 := h i hi
    rw [dec_get _ _ _ (by omega)] at h1
    by_cases e : i = c
    · subst e
      rw [if_pos rfl] at h1
      rw [List.count_cons_self]
      omega
    · rw [if_neg e] at h1
      rw [List.count_cons_of_ne (Ne.symm e), h1]
theorem length_of_tal {n : Nat} : ∀ {x rem : List Nat}, rem.length = n → (∀ c ∈ x, c < n) → tal n x = rem → x.length = rem.sum
  | [], rem, hl, _, h => by
    have h0 : ∀ i, rem.getD i 0 = 0 := fun i => by
      by_cases hi : i < n
      · rw [← (tal_iff hl).mp h i hi]; rfl
      · rw [List.getD_eq_getElem?_getD, List.getElem?_eq_none (by omega)]; rfl
    have : ∀ r : List Nat, (∀ i, r.getD i 0 = 0) → r.sum = 0 := by
      intro r
      induction r with
      | nil => intro _; rfl
      | cons a r ih =>
        intro h
        have h1 := h 0
        have h2 := ih fun i => by simpa using h (i + 1)
        simp at h1
        simp [h1, h2]
    rw [this rem h0]
    rfl
  | c :: y, rem, hl, hx, h => by
    obtain ⟨h1, h2⟩ := (tal_cons hl (hx c List.mem_cons_self)).mp h
    have := length_of_tal (by rw [length_dec, hl]) (fun d hd => hx d (List.mem_cons_of_mem _ hd)) h2
    have h3 := sum_dec h1
    rw [List.length_cons]
    omega
section
variable {sz tgt : List Nat}
theorem mem_comps (hp : SPos sz) : ∀ (m : Nat) (rem pl x : List Nat), rem.sum = m → red sz pl = pl →
    (x ∈ comps sz tgt m rem pl ↔ (∀ c ∈ x, c < rem.length) ∧ tal rem.length x = rem ∧ red sz (pl ++ x) = tgt)
  | 0, rem, pl, x, hm, hr => by
    unfold comps
    constructor
    · intro h
      by_cases e : pl = tgt
      · rw [if_pos e] at h
        have hx : x = [] := by simpa using h
        subst hx
        refine ⟨(fun c h => by cases h), (tal_iff rfl).mpr fun i hi => ?_, by rw [List.append_nil, hr, e]⟩
        have : ∀ r : List Nat, r.sum = 0 → ∀ i, r.getD i 0 = 0 := by
          intro r
          induction r with
          | nil => intro _ _; rfl
          | cons a r ih =>
            intro h i
            simp at h
            cases i with
            | zero => simp [h]
            | succ i => simpa using ih (by simpa using h.2) i
        rw [this rem hm i]
        rfl
      · rw [if_neg e] at h
        cases h
    · rintro ⟨h1, h2, h3⟩
      have := length_of_tal rfl h1 h2
      have hx : x = [] := List.eq_nil_of_length_eq_zero (by omega)
      subst hx
      rw [List.append_nil, hr] at h3
      rw [if_pos h3]
      exact List.mem_singleton.mpr rfl
  | m + 1, rem, pl, x, hm, hr => by
    unfold comps
    rw [List.mem_flatMap]
    constructor
    · rintro ⟨c, hc, h⟩
      have hc := mem_succs.mp hc
      obtain ⟨y, hy, rfl⟩ := List.mem_map.mp h
      have hs := sum_dec hc
      obtain ⟨h1, h2, h3⟩ := (mem_comps hp m (dec rem c) (red sz (pl ++ [c])) y (by omega) (red_red hp _)).mp hy
      rw [length_dec] at h1 h2
      have hlt := lt_of_getD hc
      refine ⟨fun d hd => ?_, (tal_cons rfl hlt).mpr ⟨hc, h2⟩, ?_⟩
      · rcases List.mem_cons.mp hd with rfl | hd
        · exact hlt
        · exact h1 d hd
      · rw [red_append_left hp] at h3
        rw [← h3]
        simp
    · rintro ⟨h1, h2, h3⟩
      cases x with
      | nil =>
        have := length_of_tal rfl h1 h2
        simp at this
        omega
      | cons c y =>
        have hlt := h1 c List.mem_cons_self
        obtain ⟨h4, h5⟩ := (tal_cons rfl hlt).mp h2
        have hs := sum_dec h4
        refine ⟨c, mem_succs.mpr h4, List.mem_map.mpr ⟨y, ?_, rfl⟩⟩
        refine (mem_comps hp m (dec rem c) (red sz (pl ++ [c])) y (by omega) (red_red hp _)).mpr ⟨fun d hd => ?_, ?_, ?_⟩
        · rw [length_dec]; exact h1 d (List.mem_cons_of_mem _ hd)
        · rw [length_dec]; exact h5
        · rw [red_append_left hp, ← h3]
          simp
theorem nodup_succs (rem : List Nat) : (succs rem).Nodup := List.nodup_range.filter _
theorem nodup_comps : ∀ (m : Nat) (rem pl : List Nat), (comps sz tgt m rem pl).Nodup
  | 0, rem, pl => by
    unfold comps
    split
    · simp
    · simp
  | m + 1, rem, pl => by
    unfold comps
    rw [List.nodup_iff_pairwise_ne, List.pairwise_flatMap]
    refine ⟨fun c _ => ?_, ?_⟩
    · rw [List.pairwise_map]
      exact (nodup_comps m _ _).imp fun h e => h (by simpa using e)
    · refine (nodup_succs rem).imp fun {a b} h x hx y hy e => ?_
      obtain ⟨x', _, rfl⟩ := List.mem_map.mp hx
      obtain ⟨y', _, rfl⟩ := List.mem_map.mp hy
      injection e with e1 _
      exact h e1
theorem comps_succ (m : Nat) (rem pl : List Nat) : comps sz tgt (m + 1) rem pl = (succs rem).flatMap fun c => (comps sz tgt m (dec rem c) (red sz (pl ++ [c]))).map (c :: ·) := rfl
theorem length_comps (m : Nat) (rem pl : List Nat) : (comps sz tgt (m + 1) rem pl).length = ((succs rem).map fun c => (comps sz tgt m (dec rem c) (red sz (pl ++ [c]))).length).sum := by
  rw [comps_succ, List.length_flatMap]
  congr 1
  refine List.map_congr_left fun c _ => ?_
  rw [List.length_map]
/-- the beads from which the target can be reached -/
def via (sz tgt : List Nat) (m : Nat) (rem pl : List Nat) : List Nat := (succs rem).filter fun c => decide (0 < (comps sz tgt m (dec rem c) (red sz (pl ++ [c]))).length)
theorem flatMap_some {α β : Type} (f : α → List β) : ∀ l : List α, l.flatMap f = (l.filter fun a => decide (0 < (f a).length)).flatMap f
  | [] => rfl
  | a :: l => by
    rw [List.flatMap_cons, flatMap_some f l, List.filter_cons]
    by_cases h : 0 < (f a).length
    · rw [if_pos (decide_eq_true h), List.flatMap_cons]
    · rw [if_neg (by simpa using h)]
      have : f a = [] := List.eq_nil_of_length_eq_zero (by omega)
      rw [this, List.nil_append]
theorem comps_via (m : Nat) (rem pl : List Nat) : comps sz tgt (m + 1) rem pl = (via sz tgt m rem pl).flatMap fun c => (comps sz tgt m (dec rem c) (red sz (pl ++ [c]))).map (c :: ·) := by
  rw [comps_succ, flatMap_some]
  unfold via
  simp only [List.length_map]
theorem via_pos {m : Nat} {rem pl : List Nat} {c : Nat} (h : c ∈ via sz tgt m rem pl) : 0 < rem.getD c 0 ∧ comps sz tgt m (dec rem c) (red sz (pl ++ [c])) ≠ [] := by
  obtain ⟨h1, h2⟩ := List.mem_filter.mp h
  refine ⟨mem_succs.mp h1, fun e => ?_⟩
  rw [e] at h2
  simp at h2
theorem mem_via {m : Nat} {rem pl : List Nat} {c : Nat} (h1 : 0 < rem.getD c 0) (h2 : comps sz tgt m (dec rem c) (red sz (pl ++ [c])) ≠ []) : c ∈ via sz tgt m rem pl :=
  List.mem_filter.mpr ⟨mem_succs.mpr h1, decide_eq_true (List.length_pos_iff.mpr h2)⟩
theorem via_ne {m : Nat} {rem pl : List Nat} (h : comps sz tgt (m + 1) rem pl ≠ []) : via sz tgt m rem pl ≠ [] := fun e => by
  rw [comps_via, e] at h
  exact h rfl
/-- the first, the last completion -/
def fstW (sz tgt : List Nat) (m : Nat) (rem pl : List Nat) : List Nat := (comps sz tgt m rem pl).head?.getD []
def lstW (sz tgt : List Nat) (m : Nat) (rem pl : List Nat) : List Nat := (comps sz tgt m rem pl).getLast?.getD []
theorem fst_step {m : Nat} {rem pl : List Nat} {c : Nat} {r : List Nat} (h : via sz tgt m rem pl = c :: r) :
    fstW sz tgt (m + 1) rem pl = c :: fstW sz tgt m (dec rem c) (red sz (pl ++ [c])) := by
  have hne := (via_pos (c := c) (by rw [h]; exact List.mem_cons_self)).2
  unfold fstW
  rw [comps_via, h, List.flatMap_cons]
  cases e : comps sz tgt m (dec rem c) (red sz (pl ++ [c])) with
  | nil => exact absurd e hne
  | cons a l => simp
theorem lst_step {m : Nat} {rem pl : List Nat} {c : Nat} {r : List Nat} (h : via sz tgt m rem pl = r ++ [c]) :
    lstW sz tgt (m + 1) rem pl = c :: lstW sz tgt m (dec rem c) (red sz (pl ++ [c])) := by
  have hne := (via_pos (c := c) (by rw [h]; simp)).2
  unfold lstW
  rw [comps_via, h, List.flatMap_append, List.flatMap_cons, List.flatMap_nil, List.append_nil]
  cases e : (comps sz tgt m (dec rem c) (red sz (pl ++ [c]))).getLast? with
  | none => exact absurd (List.getLast?_eq_none_iff.mp e) hne
  | some a =>
    rw [List.getLast?_append, List.getLast?_map, e]
    simp
/-- what a state still needs, at the least -/
def missing (sz tgt : List Nat) (n : Nat) (pl : List Nat) : List Nat := tal n (red sz (inv sz (act sz pl []) ++ tgt))
def feas (sz tgt rem pl : List Nat) : Bool := ((List.zip rem (missing sz tgt rem.length pl)).map fun p => decide (p.2 ≤ p.1)).all id
theorem missing_le (hp : SPos sz) {pl x : List Nat} (hr : red sz pl = pl) (h : red sz (pl ++ x) = tgt) (c : Nat) : (red sz (inv sz (act sz pl []) ++ tgt)).count c ≤ x.count c := by
  have e : red sz (inv sz (act sz pl []) ++ tgt) = red sz x := by
    have hv := val_act hp pl (s := []) val_nil
    rw [← h, red_append_right hp]
    have e1 : inv sz (act sz pl []) ++ (pl ++ x) = (inv sz (act sz pl []) ++ word (act sz pl [])) ++ x := by
      rw [List.append_assoc]
      congr 2
      exact hr.symm
    unfold red
    rw [e1, act_append, act_inv_word hp hv val_nil]
  rw [e]
  exact count_red c x
theorem feas_of (hp : SPos sz) {rem pl : List Nat} (hr : red sz pl = pl) (h : comps sz tgt rem.sum rem pl ≠ []) : feas sz tgt rem pl = true := by
  obtain ⟨x, hx⟩ := List.exists_mem_of_ne_nil _ h
  obtain ⟨h1, h2, h3⟩ := (mem_comps hp rem.sum rem pl x rfl hr).mp hx
  unfold feas
  rw [List.all_map, List.all_eq_true]
  intro p hp'
  obtain ⟨i, hi, e⟩ := List.mem_iff_getElem.mp hp'
  subst e
  simp only [List.length_zip, missing, length_tal] at hi
  have hi' : i < rem.length := by omega
  have q := (tal_iff rfl).mp h2 i hi'
  have q2 := missing_le hp hr h3 i
  simp only [Function.comp, id, List.getElem_zip, decide_eq_true_eq]
  have q3 : (missing sz tgt rem.length pl)[i]'(by simp [missing, length_tal]; omega) = (red sz (inv sz (act sz pl []) ++ tgt)).count i := by simp [missing, tal]
  rw [q3]
  have q4 : rem.getD i 0 = rem[i] := by simp [List.getD_eq_getElem?_getD, hi']
  omega
theorem infeas (hp : SPos sz) {rem pl : List Nat} (hr : red sz pl = pl) (h : feas sz tgt rem pl = false) : (comps sz tgt rem.sum rem pl).length = 0 := by
  cases e : comps sz tgt rem.sum rem pl with
  | nil => rfl
  | cons a l =>
    have := feas_of hp hr (by rw [e]; exact List.cons_ne_nil _ _)
    rw [h] at this
    cases this
end
end Pk

/-! States that a row of at most twelve beads can come to; how many there are. -/
namespace Pk
structure Good (sz wd rem pl : List Nat) : Prop where
  ex : ∃ u, (∀ c ∈ u, c < sz.length) ∧ pl = red sz u ∧ ∀ i, i < sz.length → u.count i + rem.getD i 0 = wd.count i
  len : rem.length = sz.length
theorem sum_add : ∀ {a b c : List Nat} (n : Nat), a.length = n → b.length = n → c.length = n → (∀ i, i < n → a.getD i 0 + b.getD i 0 = c.getD i 0) → a.sum + b.sum = c.sum
  | [], [], [], _, _, _, _, _ => rfl
  | x :: a, y :: b, z :: c, n + 1, h1, h2, h3, h => by
    have ih := sum_add (a := a) (b := b) (c := c) n (by simpa using h1) (by simpa using h2) (by simpa using h3) fun i hi => by simpa using h (i + 1) (by omega)
    have h0 := h 0 (by omega)
    simp at h0 ⊢
    omega
  | [], [], _ :: _, n, h1, _, h3, _ => by simp at h1 h3; omega
  | [], _ :: _, _, n, h1, h2, _, _ => by simp at h1 h2; omega
  | _ :: _, [], _, n, h1, h2, _, _ => by simp at h1 h2; omega
  | _ :: _, _ :: _, [], n, h1, _, h3, _ => by simp at h1 h3; omega
section
variable {sz wd rem pl : List Nat}
theorem Good.lens (g : Good sz wd rem pl) (hw : ∀ c ∈ wd, c < sz.length) : ∃ u, (∀ c ∈ u, c < sz.length) ∧ pl = red sz u ∧ u.length + rem.sum = wd.length := by
  obtain ⟨u, h1, h2, h3⟩ := g.ex
  refine ⟨u, h1, h2, ?_⟩
  rw [length_of_tal (n := sz.length) (x := u) (rem := tal sz.length u) (length_tal _ _) h1 rfl, length_of_tal (n := sz.length) (x := wd) (rem := tal sz.length wd) (length_tal _ _) hw rfl]
  exact sum_add sz.length (length_tal _ _) g.len (length_tal _ _) fun i hi => by rw [tal_get _ hi, tal_get _ hi]; exact h3 i hi
theorem Good.red (hp : SPos sz) (g : Good sz wd rem pl) : red sz pl = pl := by
  obtain ⟨u, _, h, _⟩ := g.ex
  rw [h, red_red hp]
theorem Good.lt (g : Good sz wd rem pl) : ∀ c ∈ pl, c < sz.length := by
  obtain ⟨u, h1, h, _⟩ := g.ex
  rw [h]
  exact lt_red h1
theorem Good.plen (g : Good sz wd rem pl) (hw : ∀ c ∈ wd, c < sz.length) : pl.length ≤ wd.length := by
  obtain ⟨u, h1, h, h2⟩ := g.lens hw
  have := length_red (sz := sz) u
  rw [h]
  omega
theorem Good.sum (g : Good sz wd rem pl) (hw : ∀ c ∈ wd, c < sz.length) : rem.sum ≤ wd.length := by
  obtain ⟨u, _, _, h2⟩ := g.lens hw
  omega
theorem Good.start (hw : ∀ c ∈ wd, c < sz.length) : Good sz wd (tal sz.length wd) [] :=
  ⟨⟨[], (fun c h => by cases h), rfl, fun i hi => by rw [tal_get _ hi]; simp⟩, length_tal _ _⟩
theorem Good.step (hp : SPos sz) (g : Good sz wd rem pl) {c : Nat} (hc : 0 < rem.getD c 0) : Good sz wd (dec rem c) (Pk.red sz (pl ++ [c])) := by
  obtain ⟨u, h1, h2, h3⟩ := g.ex
  have hlt := lt_of_getD hc
  have hlt' : c < sz.length := by rw [← g.len]; exact hlt
  refine ⟨⟨u ++ [c], fun d hd => ?_, ?_, fun i hi => ?_⟩, by rw [length_dec]; exact g.len⟩
  · rcases List.mem_append.mp hd with hd | hd
    · exact h1 d hd
    · rw [List.mem_singleton.mp hd]; exact hlt'
  · rw [h2, red_append_left hp]
  · rw [List.count_append, dec_get _ _ _ hlt, List.count_singleton]
    have h5 := h3 i hi
    by_cases e : i = c
    · subst e
      rw [if_pos rfl, if_pos (beq_self_eq_true _)]
      omega
    · have h6 : (c == i) = false := by simpa using Ne.symm e
      rw [if_neg e, h6, if_neg Bool.false_ne_true]
      omega
end
/-! ### how many -/
def wordsOf (n : Nat) : Nat → List (List Nat)
  | 0 => [[]]
  | m + 1 => (List.range n).flatMap fun c => (wordsOf n m).map (c :: ·)
theorem mem_wordsOf {n : Nat} : ∀ {u : List Nat}, (∀ c ∈ u, c < n) → u ∈ wordsOf n u.length
  | [], _ => List.mem_singleton.mpr rfl
  | c :: u, h => List.mem_flatMap.mpr ⟨c, List.mem_range.mpr (h c List.mem_cons_self), List.mem_map.mpr ⟨u, mem_wordsOf fun d hd => h d (List.mem_cons_of_mem _ hd), rfl⟩⟩
theorem length_wordsOf (n : Nat) : ∀ m, (wordsOf n m).length = n ^ m
  | 0 => rfl
  | m + 1 => by
    unfold wordsOf
    rw [List.length_flatMap]
    have : ((List.range n).map fun c => ((wordsOf n m).map (c :: ·)).length) = List.replicate n (n ^ m) := by
      apply List.ext_getElem
      · simp
      · intro i h1 h2
        simp [length_wordsOf n m]
    rw [this, List.sum_replicate_nat, Nat.pow_succ, Nat.mul_comm]
def shortOf (n : Nat) : List (List Nat) := (List.range 12).flatMap (wordsOf n)
theorem length_shortOf {n : Nat} (h : n ≤ 4) : (shortOf n).length ≤ 5592405 := by
  unfold shortOf
  rw [List.length_flatMap]
  have e : ((List.range 12).map fun m => (wordsOf n m).length) = (List.range 12).map fun m => n ^ m := List.map_congr_left fun m _ => length_wordsOf n m
  rw [e]
  have all : ∀ k, k < 5 → ((List.range 12).map fun m => k ^ m).sum ≤ 5592405 := by decide
  exact all n (by omega)
theorem mem_shortOf {n : Nat} {u : List Nat} (h : ∀ c ∈ u, c < n) (hl : u.length ≤ 11) : u ∈ shortOf n :=
  List.mem_flatMap.mpr ⟨u.length, List.mem_range.mpr (by omega), mem_wordsOf h⟩
theorem nodup_le {α : Type} [DecidableEq α] : ∀ {l m : List α}, l.Nodup → (∀ x ∈ l, x ∈ m) → l.length ≤ m.length
  | [], _, _, _ => Nat.zero_le _
  | x :: l, m, hn, hs => by
    rw [List.nodup_cons] at hn
    have hx := hs x List.mem_cons_self
    have ih := nodup_le (l := l) (m := m.erase x) hn.2 fun y hy => by
      have hne : y ≠ x := fun e => hn.1 (e ▸ hy)
      exact (List.mem_erase_of_ne hne).mpr (hs y (List.mem_cons_of_mem _ hy))
    have h1 := List.length_erase_of_mem hx
    have h2 := List.length_pos_of_mem hx
    rw [List.length_cons]
    omega
/-- keys that are told by short words are few -/
theorem few {α : Type} [DecidableEq α] {n : Nat} (hn : n ≤ 4) (f : List Nat → α) {l : List α} (hnd : l.Nodup) (h : ∀ x ∈ l, ∃ u, (∀ c ∈ u, c < n) ∧ u.length ≤ 11 ∧ x = f u) : l.length ≤ 5592405 := by
  refine Nat.le_trans (nodup_le (m := (shortOf n).map f) hnd fun x hx => ?_) (by rw [List.length_map]; exact length_shortOf hn)
  obtain ⟨u, h1, h2, rfl⟩ := h x hx
  exact List.mem_map.mpr ⟨u, mem_shortOf h1 h2, rfl⟩
/-- a good state is told by its word -/
theorem Good.told {sz wd rem pl : List Nat} (g : Good sz wd rem pl) (hw : ∀ c ∈ wd, c < sz.length) : ∃ u, (∀ c ∈ u, c < sz.length) ∧ u.length + rem.sum = wd.length ∧ pl = Pk.red sz u ∧ rem = (List.range sz.length).map fun i => wd.count i - u.count i := by
  obtain ⟨u, h1, h2, h3⟩ := g.ex
  refine ⟨u, h1, ?_, h2, ?_⟩
  · rw [length_of_tal (n := sz.length) (x := u) (rem := tal sz.length u) (length_tal _ _) h1 rfl, length_of_tal (n := sz.length) (x := wd) (rem := tal sz.length wd) (length_tal _ _) hw rfl]
    exact sum_add sz.length (length_tal _ _) g.len (length_tal _ _) fun i hi => by rw [tal_get _ hi, tal_get _ hi]; exact h3 i hi
  · apply List.ext_getElem
    · simp [g.len]
    · intro i hi h4
      have := h3 i (by rw [← g.len]; exact hi)
      rw [List.getD_eq_getElem?_getD, List.getElem?_eq_getElem hi] at this
      simp at this ⊢
      omega
/-! ### lengths of inverses -/
theorem stk_len {sz : List Nat} : ∀ (w : List Nat) (s : Stk), (act sz w s).length ≤ s.length + w.length
  | [], s => Nat.le_refl _
  | c :: w, s => by
    rw [act_cons]
    have h1 := stk_len (sz := sz) w (push sz c s)
    have h2 : (push sz c s).length ≤ s.length + 1 := by
      cases s with
      | nil => rw [push_nil]; split <;> simp
      | cons p r =>
        obtain ⟨d, k⟩ := p
        rw [push_cons]
        split
        · split <;> simp
          omega
        · split <;> simp
    rw [List.length_cons]
    omega
theorem inv_len {sz : List Nat} (h4 : ∀ c, siz sz c ≤ 4) : ∀ s : Stk, (inv sz s).length ≤ 4 * s.length
  | [] => Nat.le_refl _
  | (c, k) :: r => by
    have := inv_len h4 r
    have h := h4 c
    unfold inv
    rw [List.length_append, List.length_replicate, List.length_cons]
    omega
theorem inv_lt {sz : List Nat} {n : Nat} : ∀ {s : Stk}, Val sz s → (∀ c ∈ word s, c < n) → ∀ c ∈ inv sz s, c < n
  | [], _, _, c, h => by cases h
  | (d, k) :: r, ⟨h1, h2, h3, h4⟩, hw, c, h => by
    unfold inv at h
    rw [word_cons] at hw
    rcases List.mem_append.mp h with h | h
    · rw [List.eq_of_mem_replicate h]
      exact hw d (List.mem_append_right _ (List.mem_replicate.mpr ⟨by omega, rfl⟩))
    · exact inv_lt h4 (fun e he => hw e (List.mem_append_left _ he)) c h
end Pk

/-! Words of colours as texts. -/
namespace Pk
open PySem PySem.Spec L2
open PyProof.Rows hiding St

def sOf (w : List Nat) : Str := ⟨(w.map (· + 97)).toArray⟩
def one (c : Nat) : Str := ⟨#[c + 97]⟩
theorem sOf_one (c : Nat) : sOf [c] = one c := rfl
theorem sOf_nil : sOf [] = ("" : Str) := by decide +kernel
theorem sOf_cps (w : List Nat) : (sOf w).cps.toList = w.map (· + 97) := rfl
theorem sOf_len (w : List Nat) : (sOf w).length = w.length := by
  show ((w.map (· + 97)).toArray).size = w.length
  rw [List.size_toArray, List.length_map]
theorem sOf_size (w : List Nat) : (sOf w).cps.size = w.length := sOf_len w
theorem sOf_app (u v : List Nat) : sOf u ++ sOf v = sOf (u ++ v) := by
  show (⟨(u.map (· + 97)).toArray ++ (v.map (· + 97)).toArray⟩ : Str) = ⟨((u ++ v).map (· + 97)).toArray⟩
  rw [List.map_append]
  simp
theorem sOf_inj {u v : List Nat} (h : sOf u = sOf v) : u = v := by
  have h1 : (sOf u).cps.toList = (sOf v).cps.toList := by rw [h]
  rw [sOf_cps, sOf_cps] at h1
  exact (List.map_inj_right (fun a b e => by omega)).mp h1
theorem sOf_eq (u v : List Nat) : (sOf u = sOf v) ↔ u = v := ⟨sOf_inj, fun h => by rw [h]⟩
theorem sOf_at (w : List Nat) (i : Nat) : (sOf w).cps[i]? = (w[i]?).map (· + 97) := by
  show ((w.map (· + 97)).toArray)[i]? = _
  rw [List.getElem?_toArray, List.getElem?_map]
theorem one_inj {c d : Nat} (h : one c = one d) : c = d := by
  have := sOf_inj (u := [c]) (v := [d]) h
  simpa using this
theorem colours : ("abcdef" : Str) = sOf [0, 1, 2, 3, 4, 5] := by decide +kernel
theorem cut_sOf (w : List Nat) (lo hi : Option Int) : cutS (sOf w) lo hi = sOf ((w.drop (HT.sIx w.length 0 lo)).take (HT.sIx w.length w.length hi - HT.sIx w.length 0 lo)) := by
  unfold cutS
  rw [sOf_cps, sOf_len]
  unfold sOf
  rw [List.map_take, List.map_drop]
theorem cut_to (w : List Nat) (j : Nat) : cutS (sOf w) none (some (j : Int)) = sOf (w.take j) := by
  rw [cut_sOf, HT.sIx_none, HT.sIx_nat, List.drop_zero, Nat.sub_zero]
  congr 1
  rw [List.take_eq_take_iff]
  omega
theorem cut_from (w : List Nat) (i : Nat) : cutS (sOf w) (some (i : Int)) none = sOf (w.drop i) := by
  rw [cut_sOf, HT.sIx_none, HT.sIx_nat]
  congr 1
  by_cases h : i ≤ w.length
  · rw [Nat.min_eq_left h, List.take_of_length_le (by rw [List.length_drop]; omega)]
  · rw [Nat.min_eq_right (by omega), List.drop_eq_nil_of_le (Nat.le_refl _), List.drop_eq_nil_of_le (by omega), List.take_nil]
theorem cut_mid (w : List Nat) (i j : Nat) : cutS (sOf w) (some (i : Int)) (some (j : Int)) = sOf ((w.drop i).take (j - i)) := by
  rw [cut_sOf, HT.sIx_nat, HT.sIx_nat]
  congr 1
  by_cases h : i ≤ w.length
  · rw [Nat.min_eq_left h, List.take_eq_take_iff, List.length_drop]
    omega
  · rw [Nat.min_eq_right (by omega : w.length ≤ i), List.drop_eq_nil_of_le (Nat.le_refl _), List.drop_eq_nil_of_le (by omega), List.take_nil, List.take_nil]
theorem occ_colour : ∀ c, c < 6 → Builtin.Str.occurrences ("abcdef" : Str) (one c) 0 ("abcdef" : Str).length 1 = [c] := by
  have h : (List.range 6).all (fun c => decide (Builtin.Str.occurrences ("abcdef" : Str) (one c) 0 ("abcdef" : Str).length 1 = [c])) = true := by decide +kernel
  intro c hc
  exact of_decide_eq_true (List.all_eq_true.mp h c (List.mem_range.mpr hc))
theorem countIn_one (c : Nat) : ∀ l : List Nat, countIn (.str ⟨#[c]⟩) (l.map fun n => PyData.str ⟨#[n]⟩) = l.count c := by
  intro l
  rw [countIn_signs_sum]
  induction l with
  | nil => rfl
  | cons n l ih =>
    rw [List.map_cons, List.sum_cons, ih, List.count_cons]
    by_cases h : n = c
    · simp [h]
      omega
    · simp [h]
theorem count_sOf (w : List Nat) (c : Nat) : Txt.count (sOf w) (one c) = (w.count c : Nat) := by
  unfold one
  rw [count_is, countIn_one, sOf_cps]
  have : ∀ l : List Nat, (l.map (· + 97)).count (c + 97) = l.count c := by
    intro l
    induction l with
    | nil => rfl
    | cons a l ih =>
      rw [List.map_cons, List.count_cons, List.count_cons, ih]
      simp
  rw [this]
theorem mul_one (c : Nat) (n : Nat) : Txt.mul (one c) (n : Int) = sOf (List.replicate n c) := by
  have h := mul_one_list (c + 97) (n : Int)
  rw [Int.toNat_natCast] at h
  show Txt.mul ⟨#[c + 97]⟩ (n : Int) = ⟨((List.replicate n c).map (· + 97)).toArray⟩
  rw [List.map_replicate, ← h]
theorem join_sOf : ∀ ws : List (List Nat), Txt.join ("" : Str) (ws.map sOf) = sOf ws.flatten := by
  have e : ∀ l : List Str, Txt.join ("" : Str) l = Str.join ⟨#[]⟩ l := fun l => StrLaws.glued_eq_join _ l
  intro ws
  rw [e]
  induction ws with
  | nil => rfl
  | cons w r ih =>
    rw [List.map_cons, join_nil_cons, ih, List.flatten_cons, sOf_app]
theorem lt_one (c d : Nat) : decide ((one c).cps.toList < (one d).cps.toList) = decide (c < d) := by
  show decide ([c + 97] < [d + 97]) = decide (c < d)
  apply decide_eq_decide.mpr
  constructor
  · intro h
    rcases List.cons_lt_cons_iff.mp h with h | ⟨_, h⟩
    · omega
    · exact absurd h (by simp)
  · intro h
    exact List.cons_lt_cons_iff.mpr (.inl (by omega))
theorem mem_sOf (w : List Nat) (c : Nat) : decide (c + 97 ∈ (sOf w).cps.toList) = decide (c ∈ w) := by
  rw [sOf_cps]
  apply decide_eq_decide.mpr
  rw [List.mem_map]
  constructor
  · rintro ⟨a, h, e⟩
    have : a = c := by omega
    exact this ▸ h
  · intro h
    exact ⟨c, h, rfl⟩
theorem rev_sOf (w : List Nat) : (⟨(sOf w).cps.toList.reverse.toArray⟩ : Str) = sOf w.reverse := by
  rw [sOf_cps, ← List.map_reverse]
  rfl
theorem rising_one : ∀ (v : List Nat) (p : Nat), risingS (one p) (v.map one) = true → (∀ c ∈ v, p ≤ c) ∧ v.Pairwise (· ≤ ·)
  | [], p, _ => ⟨fun c h => (by cases h), .nil⟩
  | c :: v, p, h => by
    rw [List.map_cons] at h
    unfold risingS at h
    rw [Bool.and_eq_true, ltCps_eq, lt_one] at h
    obtain ⟨h1, h2⟩ := h
    have h1 : p ≤ c := by
      have : ¬ c < p := by simpa using h1
      omega
    obtain ⟨h3, h4⟩ := rising_one v c h2
    refine ⟨fun d hd => ?_, List.pairwise_cons.mpr ⟨h3, h4⟩⟩
    rcases List.mem_cons.mp hd with rfl | hd
    · exact h1
    · exact Nat.le_trans h1 (h3 d hd)
theorem sorted_one (v : List Nat) (h : sortedS (v.map one) = true) : v.Pairwise (· ≤ ·) := by
  cases v with
  | nil => exact .nil
  | cons c v =>
    obtain ⟨h1, h2⟩ := rising_one v c h
    exact List.pairwise_cons.mpr ⟨h1, h2⟩
theorem map_one_of {w : List Nat} : ∀ {ys : List Str}, (∀ y ∈ ys, ∃ c, y = one c) → ∃ v : List Nat, ys = v.map one
  | [], _ => ⟨[], rfl⟩
  | y :: ys, h => by
    obtain ⟨c, e⟩ := h y List.mem_cons_self
    obtain ⟨v, e2⟩ := map_one_of (w := w) fun z hz => h z (List.mem_cons_of_mem _ hz)
    exact ⟨c :: v, by rw [e, e2, List.map_cons]⟩
theorem perm_one {u v : List Nat} (h : (u.map one).Perm (v.map one)) : u.Perm v := by
  have h2 := h.map (fun s : Str => s.cps.getD 0 0 - 97)
  rw [List.map_map, List.map_map] at h2
  have e : ∀ l : List Nat, l.map ((fun s : Str => s.cps.getD 0 0 - 97) ∘ one) = l := by
    intro l
    induction l with
    | nil => rfl
    | cons a l ih =>
      rw [List.map_cons, ih]
      congr 1
  rw [e, e] at h2
  exact h2
theorem sorted_sOf {w : List Nat} {ys : List Str} (hp : ys.Perm ((sOf w).cps.toList.map fun c => (⟨#[c]⟩ : Str))) (hs : sortedS ys = true) : ∃ v : List Nat, ys = v.map one ∧ v.Perm w ∧ v.Pairwise (· ≤ ·) := by
  have e : ((sOf w).cps.toList.map fun c => (⟨#[c]⟩ : Str)) = w.map one := by
    rw [sOf_cps, List.map_map]
    rfl
  rw [e] at hp
  obtain ⟨v, hv⟩ := map_one_of (w := w) (ys := ys) fun y hy => by
    have := hp.mem_iff.mp hy
    obtain ⟨c, _, e⟩ := List.mem_map.mp this
    exact ⟨c, e.symm⟩
  subst hv
  exact ⟨v, rfl, perm_one hp, sorted_one v hs⟩
theorem join_one (v : List Nat) : Txt.join ("" : Str) (v.map one) = sOf v := by
  have h := join_sOf (v.map fun c => [c])
  rw [List.map_map] at h
  have e : (v.map fun c => [c]).flatten = v := by
    induction v with
    | nil => rfl
    | cons a v ih =>
      rw [List.map_cons, List.flatten_cons, ih (by rw [← List.map_map]; exact join_sOf _)]
      rfl
  rw [e] at h
  exact h
end Pk

/-! A dict whose keys are pairs of a tuple of ints and a text: tracked as HO.ext. -/
namespace Pk
open PySem PySem.Spec L2
open PyProof.Rows hiding St

/-- the dict at d holds exactly these entries (key, the key's own tuple, value) -/
def NDic (P : Program) (w : World) (d : Addr) (xs : List (NestedKey × Addr × Value)) : HO :=
  .ext fun h => (d == sysModules) = false ∧ ∃ o es ep, h.get? d = some o ∧ o.ExactDict ∧ o.data = .dict es ep ∧ es.toList = xs.map (entryOfKey (nestedKind P w)) ∧ (xs.map (·.1)).Nodup
/-- at b stands the key k: a tuple of ints and a text -/
def KeyAt (H : Hp) (b : Addr) (k : NestedKey) : Prop := ∃ (t : Addr) (ns : List Int) (z : Str), k = .tup [.tup (ns.map .num), .text z] ∧ H b = some (.tup [.ref t, .str z]) ∧ H t = some (.tup (ns.map V.int))
theorem KeyAt.keep {H H' : Hp} {b : Addr} {k : NestedKey} (x : KeyAt H b k) (h : ∀ b xs, H b = some (.tup xs) → H' b = some (.tup xs)) : KeyAt H' b k := by
  obtain ⟨t, ns, z, e, h1, h2⟩ := x
  exact ⟨t, ns, z, e, h _ _ h1, h _ _ h2⟩
theorem nested_ints {h : Heap} : ∀ {ns : List Int} {us : List Value}, Vals (ns.map V.int) us → NestedAll h (ns.map .num) us
  | [], _, r => by rw [List.map_nil] at r; cases r; exact .nil
  | n :: ns, _, r => by
    rw [List.map_cons] at r
    cases r with
    | cons r0 rr =>
      obtain ⟨t, e⟩ := r0
      rw [e]
      exact .cons (.int _ _) (nested_ints rr)
theorem depth_nums : ∀ ns : List Int, NestedKey.depthAll (ns.map .num) = 0
  | [] => rfl
  | n :: ns => by
    rw [List.map_cons, NestedKey.depthAll, depth_nums ns]
    rfl
theorem KeyAt.is {P : Program} {w : World} {H : Hp} {h : Heap} {b : Addr} {k : NestedKey} (x : KeyAt H b k) (ok : HOk P w H h) : (nestedKind P w).is h k b := by
  obtain ⟨t, ns, z, e, h1, h2⟩ := x
  subst e
  obtain ⟨_, its, r, o, g1, g2, n, g3⟩ := (show ObjOk P w H h b (.tup [.ref t, .str z]) from ok b _ h1)
  obtain ⟨_, its2, r2, o2, f1, f2, n2, f3⟩ := (show ObjOk P w H h t (.tup (ns.map V.int)) from ok t _ h2)
  cases r with
  | cons r0 rr =>
    cases rr with
    | cons r1 rr =>
      cases rr
      cases r0
      obtain ⟨tk, e⟩ := r1
      subst e
      refine ⟨.tup g1 g2 g3 ?_, ?_⟩
      · refine .cons (.tup f1 f2 f3 ?_) (.cons (.text _ _) .nil)
        exact nested_ints r2
      · show NestedKey.depth (.tup [.tup (ns.map .num), .text z]) ≤ 8
        rw [NestedKey.depth, NestedKey.depthAll, NestedKey.depth, depth_nums, NestedKey.depthAll, NestedKey.depth, NestedKey.depthAll]
        decide

abbrev KN (H : Hp) : List (NestedKey × V) → List (NestedKey × Addr × Value) → Prop := Paired fun p q => p.1 = q.1 ∧ KeyAt H q.2.1 p.1 ∧ RelV p.2 q.2.2
theorem KN.val {H : Hp} {kvs : List (NestedKey × V)} {xs : List (NestedKey × Addr × Value)} (r : KN H kvs xs) (k : NestedKey) : RelO (valV kvs k) ((atKey xs k).map (·.2)) := by
  induction r with
  | nil => exact True.intro
  | @cons p q ps qs h t ih =>
    obtain ⟨h1, _, h2⟩ := h
    by_cases e : p.1 = k
    · have e' : q.1 = k := h1.symm.trans e
      have b : atKey (q :: qs) k = some q.2 := by simp [atKey, List.find?_cons, e']
      rw [valV_pos e, b]; exact h2
    · have e' : ¬ q.1 = k := fun z => e (h1.trans z)
      have b : atKey (q :: qs) k = atKey qs k := by simp [atKey, List.find?_cons, e']
      rw [valV_neg e, b]; exact ih
theorem KN.repl {H : Hp} {kvs : List (NestedKey × V)} {xs : List (NestedKey × Addr × Value)} (r : KN H kvs xs) (k : NestedKey) {y : V} {u : Value} (ry : RelV y u) :
    KN H (kvs.map fun kv => if kv.1 = k then (kv.1, y) else kv) (xs.map (putAt k u)) := by
  induction r with
  | nil => exact .nil
  | @cons p q ps qs h t ih =>
    rw [List.map_cons, List.map_cons]
    refine .cons ?_ ih
    obtain ⟨h1, h2, h3⟩ := h
    unfold putAt
    by_cases e : p.1 = k
    · rw [if_pos e, if_pos (h1.symm.trans e)]; exact ⟨h1, h2, ry⟩
    · rw [if_neg e, if_neg (fun z => e (h1.trans z))]; exact ⟨h1, h2, h3⟩
theorem KN.put {H : Hp} {kvs : List (NestedKey × V)} {xs : List (NestedKey × Addr × Value)} (r : KN H kvs xs) (k : NestedKey) {b : Addr} {y : V} {u : Value} (hb : KeyAt H b k) (ry : RelV y u) :
    KN H (putK kvs k y) (storedH xs k b u) := by
  have e : (kvs.any fun kv => decide (kv.1 = k)) = (atKey xs k).isSome := by
    rw [valV_any, (r.val k).isSome_eq, Option.isSome_map]
  unfold putK storedH
  rw [e]
  by_cases q : (atKey xs k).isSome = true
  · rw [if_pos q, if_pos q]; exact r.repl k ry
  · rw [if_neg q, if_neg q]; exact Paired.snoc r ⟨rfl, hb, ry⟩
theorem KN.keeps {H H' : Hp} {kvs : List (NestedKey × V)} {xs : List (NestedKey × Addr × Value)} (r : KN H kvs xs) (ht : ∀ b ys, H b = some (.tup ys) → H' b = some (.tup ys)) : KN H' kvs xs :=
  Paired.mapP r fun _ _ z => ⟨z.1, z.2.1.keep ht, z.2.2⟩
theorem KN.keys {H : Hp} {kvs : List (NestedKey × V)} {xs : List (NestedKey × Addr × Value)} (r : KN H kvs xs) : kvs.map (·.1) = xs.map (·.1) := by
  induction r with
  | nil => rfl
  | cons h t ih => rw [List.map_cons, List.map_cons, ih, h.1]

/-- at d stands a dict with these keys and values -/
def DicN (P : Program) (w : World) (H : Hp) (d : Addr) (kvs : List (NestedKey × V)) : Prop := ∃ xs, H d = some (NDic P w d xs) ∧ KN H kvs xs ∧ (xs.map (·.1)).Nodup
theorem DicN.nodup {P : Program} {w : World} {H : Hp} {d : Addr} {kvs : List (NestedKey × V)} (x : DicN P w H d kvs) : (kvs.map (·.1)).Nodup := by
  obtain ⟨xs, _, r, n⟩ := x
  rw [r.keys]
  exact n
theorem DicN.keep {P : Program} {w : World} {H H' : Hp} {d : Addr} {kvs : List (NestedKey × V)} (x : DicN P w H d kvs) (h : Same H H') : DicN P w H' d kvs := by
  obtain ⟨xs, e, r, n⟩ := x
  exact ⟨xs, h _ _ e, r.keeps fun b ys q => h _ _ q, n⟩
theorem DicN.some {P : Program} {w : World} {H : Hp} {d : Addr} {kvs : List (NestedKey × V)} (x : DicN P w H d kvs) : ∃ o, H d = some o := let ⟨_, e, _⟩ := x; ⟨_, e⟩
section
variable {P : Program} {w : World} {H : Hp} {h : Heap} {a : Addr}
theorem dn_of {kvs : List (NestedKey × V)} (ok : HOk P w H h) (e : DicN P w H a kvs) : (a == sysModules) = false ∧ ∃ xs, H a = some (NDic P w a xs) ∧ KN H kvs xs ∧ h.DictOfH (nestedKind P w) a xs := by
  obtain ⟨xs, e, r, n⟩ := e
  obtain ⟨⟨y, o, es, ep, h1, h2, h3, h4, h5⟩, _⟩ := (show ObjOk P w H h a (NDic P w a xs) from ok a _ e)
  refine ⟨y, xs, e, r, o, es, ep, h1, h2, h3, h4, fun x hx => ?_, h5⟩
  have all : ∀ {l : List (NestedKey × V)} {m : List (NestedKey × Addr × Value)}, KN H l m → ∀ x ∈ m, (nestedKind P w).is h x.1 x.2.1 := by
    intro l m q
    induction q with
    | nil => intro x hx; exact nomatch hx
    | @cons p q ps qs hq t ih =>
      intro x hx
      rcases List.mem_cons.mp hx with e | hx
      · subst e
        have z := hq.2.1
        rw [hq.1] at z
        exact z.is ok
      · exact ih x hx
  exact all r x hx
theorem nd_ok {h' : Heap} {H' : Hp} {xs : List (NestedKey × Addr × Value)} (hd : (a == sysModules) = false) (dd : h'.DictOfH (nestedKind P w) a xs) : ObjOk P w H' h' a (NDic P w a xs) := by
  obtain ⟨o, es, ep, h1, h2, h3, h4, _, h5⟩ := dd
  exact ⟨⟨hd, o, es, ep, h1, h2, h3, h4, h5⟩, ⟨o, h1⟩, fun g1 g2 ⟨z, o', es', ep', q1, q2⟩ k => ⟨z, o', es', ep', k _ q1, q2⟩⟩
end
section
variable {X : Cx} {pins : List (Addr × Obj)} {σ : St} {H : Hp} {s : Shared} {a b : Addr} {k : NestedKey} {v : V} {u r : Value} {A : Around} {E : Value → Shared → Prop} {kvs : List (NestedKey × V)}
theorem dn_getItem {Q : Value → Shared → Prop} (hu : A.units + 64 < cLine) (I : Inv X pins σ H s) (g : DicN X.prog X.w H a kvs) (ky : KeyAt H b k) (hv : valV kvs k = some v) (h : ∀ w' s', Inv X pins σ H s' → RelV v w' → Q w' s') :
    wpAny (model X.prog X.w) A (getItem (.ref a) (.ref b)) Q E s := by
  obtain ⟨hd, xs, _, rel, dd⟩ := dn_of I.hok g
  obtain ⟨w', hw, rw'⟩ := RelO.some_of (v := v) (o := (atKey xs k).map (·.2)) (by rw [← hv]; exact rel.val k)
  obtain ⟨p, hp, hp2⟩ := Option.map_eq_some_iff.mp hw
  refine wpAny_getItem_heap (knd := nestedKind X.prog X.w) (by show A.units + 1 + 8 < cLine; omega) (ky.is I.hok) dd hp ?_
  rw [hp2]
  exact h w' _ (I.tok _) rw'
theorem dn_notIn {Q : Value → Shared → Prop} (hu : A.units + 64 < cLine) (I : Inv X pins σ H s) (g : DicN X.prog X.w H a kvs) (ky : KeyAt H b k) (h : ∀ s', Inv X pins σ H s' → Q (.bool (!(valV kvs k).isSome)) s') :
    wpAny (model X.prog X.w) A (compareOp .NotIn (.ref b) (.ref a)) Q E s := by
  obtain ⟨hd, xs, _, rel, dd⟩ := dn_of I.hok g
  refine wpAny_notIn_heap (knd := nestedKind X.prog X.w) (by show A.units + 1 + 8 < cLine; omega) (ky.is I.hok) hd dd ?_
  have q := (rel.val k).isSome_eq
  rw [Option.isSome_map] at q
  rw [← q]
  exact h _ (I.tok _)
theorem dn_setItem {Q : Unit → Shared → Prop} (hu : A.units + 64 < cLine) (I : Inv X pins σ H s) (g : DicN X.prog X.w H a kvs) (ky : KeyAt H b k) (rv : RelV v r) (hl : kvs.length < sizeLine)
    (h : ∀ H' s', DicN X.prog X.w H' a (putK kvs k v) → (∀ c, c ≠ a → H' c = H c) → Inv X pins σ H' s' → Q () s') : wpAny (model X.prog X.w) A (setItem (.ref a) (.ref b) r) Q E s := by
  obtain ⟨hd, xs, e, rel, dd⟩ := dn_of I.hok g
  have hz : xs.length ≤ sizeLine := by rw [← Paired.length rel]; omega
  refine wpAny_setItem_heap (hsz := hz) (knd := nestedKind X.prog X.w) (by show A.units + 1 + 8 < cLine; omega) (ky.is I.hok) dd fun h' dd' hs => ?_
  obtain ⟨q, es, ep, hq, h2, h3, h4, hi, h5⟩ := id dd'
  have hap : ∀ c ys, H c = some (.tup ys) → c ≠ a := fun c ys ec => ne_of ec e (fun z => nomatch z)
  refine h (upd H a (NDic X.prog X.w a (storedH xs k b r))) _ ⟨_, upd_same, (rel.put k ky rv).keeps fun c ys ec => ?_, h5⟩ (fun c hc => upd_ne hc) (d_write I (by rw [e]; exact True.intro) hs ⟨q, hq⟩ (nd_ok hd dd'))
  rw [upd_ne (hap c ys ec)]
  exact ec
theorem dn_typeIs (I : Inv X pins σ H s) (g : DicN X.prog X.w H a kvs) : s.TypeIs (.ref a) "dict" := by
  obtain ⟨_, _, _, _, dd⟩ := dn_of I.hok g
  exact dd.typeIs
end
/-- d[y], there -/
def tNGet (P : Program) (w : World) (td ty : TE) : TE := fun σ H Q => td σ H fun x H1 => ty σ H1 fun y H2 => ∃ a b k kvs v, x = .ref a ∧ y = .ref b ∧ DicN P w H2 a kvs ∧ KeyAt H2 b k ∧ valV kvs k = some v ∧ Q v H2
def tNNotIn (P : Program) (w : World) (ty td : TE) : TE := fun σ H Q => ty σ H fun y H1 => td σ H1 fun x H2 => ∃ a b k kvs, x = .ref a ∧ y = .ref b ∧ DicN P w H2 a kvs ∧ KeyAt H2 b k ∧ Q (.bl (!(valV kvs k).isSome)) H2
def sNPut (P : Program) (w : World) (td ty tv : TE) : TS := fun D σ H => tv σ H fun v H1 => td σ H1 fun x H2 => ty σ H2 fun y H3 => ∃ a b k kvs, x = .ref a ∧ y = .ref b ∧ DicN P w H3 a kvs ∧ KeyAt H3 b k ∧ kvs.length < sizeLine ∧
  ∀ H4, DicN P w H4 a (putK kvs k v) → (∀ c, c ≠ a → H4 c = H3 c) → D.nx σ H4
def tNNew (P : Program) (w : World) : TE := fun _ H Q => ∀ p H', H p = none → Same H H' → DicN P w H' p [] → (∀ c, c ≠ p → H' c = H c) → Q (.ref p) H'
section
variable {X : Cx} {o i e value : Expr} {pos pos' tpos : Pos} {td ty tv : TE}
theorem pe_nget (hu : X.A.units + 64 < cLine) (ho : PE X o td) (hi : PE X i ty) (hs : NoSl i) : PE X (.Subscript o i pos) (tNGet X.prog X.w td ty) := by
  refine ⟨fun pins s σ H Q I h => ?_⟩
  refine subD_of PySem.F.slot_dict_getitem.lookup hs (thn (ho.run pins s σ H _ I h) fun u s1 ⟨x, H1, I1, rx, q1⟩ => thn (hi.run pins s1 σ H1 _ I1 q1) fun iv s2 ⟨y, H2, I2, ry, a, b, k, kvs, v, ex, ey, g, ky, hv, q2⟩ => ?_)
  subst ex ey
  obtain rfl : u = Value.ref a := rx
  obtain rfl : iv = Value.ref b := ry
  exact ⟨dn_typeIs I2 g, dn_getItem hu I2 g ky hv fun w' s3 I3 rw' => ⟨v, H2, I3, rw', q2⟩⟩
theorem pc_nnotin (hu : X.A.units + 64 < cLine) (hi : PE X i ty) (ho : PE X o td) : PC X .NotIn i o (tNNotIn X.prog X.w ty td) := by
  refine ⟨fun pins s σ H Q I h => ?_⟩
  refine thn (hi.run pins s σ H _ I h) fun iv s1 ⟨y, H1, I1, ry, q1⟩ => thn (ho.run pins s1 σ H1 _ I1 q1) fun u s2 ⟨x, H2, I2, rx, a, b, k, kvs, ex, ey, g, ky, q2⟩ => ?_
  subst ex ey
  obtain rfl : u = Value.ref a := rx
  obtain rfl : iv = Value.ref b := ry
  exact dn_notIn hu I2 g ky fun s3 I3 => ⟨.bl (!(valV kvs k).isSome), H2, I3, rfl, q2⟩
theorem ps_nput (hu : X.A.units + 64 < cLine) (ho : PE X o td) (hi : PE X i ty) (hv : PE X value tv) (hs : swapsWith value (some (.Subscript o i pos')) pos.line X.env = pure false) :
    PS X (.Assign [.Subscript o i pos'] value pos) (sNPut X.prog X.w td ty tv) := by
  refine ⟨fun pins s σ H D I h => ?_⟩
  refine wpAny_Assign_Subscript (thn (hv.run pins s σ H _ I h) fun r s1 ⟨v, H1, I1, rv, q1⟩ => thn (ho.run pins s1 σ H1 _ I1 q1) fun u s2 ⟨x, H2, I2, rx, q2⟩ => thn (hi.run pins s2 σ H2 _ I2 q2) fun iv s3 ⟨y, H3, I3, ry, a, b, k, kvs, ex, ey, g, ky, hl, q3⟩ => ?_) hs
  subst ex ey
  obtain rfl : u = Value.ref a := rx
  obtain rfl : iv = Value.ref b := ry
  exact dn_setItem hu I3 g ky rv hl fun H4 s4 g4 hk I4 => ⟨σ, H4, I4, q3 H4 g4 hk⟩
theorem pe_nnew : PE X (.Dict [] [] pos) (tNNew X.prog X.w) := by
  refine ⟨fun pins s σ H Q I h => wpAny_Dict_empty ?_⟩
  have hn : H s.heap.objs.size = none := I.hok.fresh (Nat.le_refl _)
  have hd : (s.heap.objs.size == sysModules) = false := beq_eq_false_iff_ne.mpr (Ne.symm (Nat.ne_of_lt I.big))
  have dd : (s.heap.push { cls := .type "dict", data := .dict #[] }).DictOfH (nestedKind X.prog X.w) s.heap.objs.size [] := Heap.DictOfH.new s.heap
  refine ⟨.ref s.heap.objs.size, upd H s.heap.objs.size (NDic X.prog X.w s.heap.objs.size []), I.laid (t' := s.toks) (fun _ _ q => Heap.get?_push_of_some _ q) (Nat.le_refl _) (nd_ok hd dd), rfl, ?_⟩
  refine h _ _ hn (fun c u e => ?_) ⟨[], upd_same, .nil, List.nodup_nil⟩ (fun c hc => upd_ne hc)
  rw [upd_ne (ne_of_none e hn)]
  exact e
end
end Pk

/-! enumerate over a text, over a tuple. -/
namespace Pk
open PySem PySem.Spec L2
open PyProof.Rows hiding St

/-! ### enumerate(v) of one argument begins -/
theorem meets_enumerate_new1 {v : Value} {o : Obj} {H : Heap → Prop} (B : Begins v o H) :
    Meets (Builtin.«enumerate.__new__» ⟨[.type "enumerate", v], []⟩) (fun _ R s => H s.heap ∧
      R (.ok (.ret (.ref (s.heap.push o).objs.size))) { s with heap := (s.heap.push o).push { cls := .type "enumerate", data := .fields #[.none, .bool false, .ref s.heap.objs.size, rawInt 0, .none, .none] } }) :=
  .of_wp fun prog w A R s h => by
    obtain ⟨hp, g, d, tk, os⟩ := s; obtain ⟨h1, h⟩ := h
    have hsub := sub_enumerate
    have q1 : ∀ {A' : Around} {E : Value → Shared → Prop} {Q : Value → Shared → Prop}, Q (.ref hp.objs.size) ⟨hp.push o, g, d, tk, os⟩ → wpAny (model prog w) A' (pyIter v) Q E ⟨hp, g, d, tk, os⟩ :=
      fun q => B.iter prog w _ _ ⟨hp, g, d, tk, os⟩ _ h1 q
    wp_walk using q1
    refine wpAny_stack_any fun st => wpAny_pure ?_
    split
    · rename_i c _ _ _ _ _
      cases (c == Value.type "enumerate")
      · wp_walk using q1
        exact ⟨_, rfl, h⟩
      · wp_walk using q1
        exact ⟨_, rfl, h⟩
    · wp_walk using q1
      exact ⟨_, rfl, h⟩
theorem enum_begins1 {prog : Program} {w : World} {A : Around} {E : Value → Shared → Prop} {s : Shared} {v : Value} {o : Obj} {H : Heap → Prop} {Q : Value → Shared → Prop} (B : Begins v o H) (h1 : H s.heap)
    (h : ∀ h', IsEnum h' (s.heap.objs.size + 1) s.heap.objs.size 0 .none → h'.get? s.heap.objs.size = some o → h'.objs.size = s.heap.objs.size + 2 →
      (∀ b o, s.heap.get? b = some o → h'.get? b = some o) → Q (.ref (s.heap.objs.size + 1)) { s with heap := h' }) :
    wpAny (model prog w) A (call (.type "enumerate") [v]) Q E s := by
  refine callType_new F.called_enumerate (by decide) (F.typeCall_enumerate_1 _) (F.newCall_enumerate_1 _) (fun obj => F.args_object_init_2 obj _) F.entry_enumerate_new
    (meets_enumerate_new1 B) ⟨h1, ?_⟩
  have hz : (s.heap.push o).objs.size = s.heap.objs.size + 1 := Heap.size_push ..
  show _ ∧ _
  rw [hz]
  have he : IsEnum ((s.heap.push o).push { cls := .type "enumerate", data := .fields #[.none, .bool false, .ref s.heap.objs.size, rawInt 0, .none, .none] }) (s.heap.objs.size + 1) s.heap.objs.size 0 .none := by
    have := Heap.get?_push_size (s.heap.push o) (o := { cls := .type "enumerate", data := .fields #[.none, .bool false, .ref s.heap.objs.size, rawInt 0, .none, .none] }) rfl
    rw [hz] at this; exact this
  refine ⟨⟨_, he, rfl⟩, h _ he (Heap.get?_push_of_some _ (Heap.get?_push_size _ B.free)) (by rw [Heap.size_push, hz]) fun b o x => Heap.get?_push_of_some _ (Heap.get?_push_of_some _ x)⟩

/-! ### a text -/
def IteS (x : Str) : It :=
  ⟨fun i _ => i < x.cps.size, fun i H v H' => ∃ T c, v = .ref T ∧ H T = none ∧ H' = upd H T (.tup [.int (i : Nat), .str ⟨#[c]⟩]) ∧ x.cps[i]? = some c, fun i _ => x.cps.size ≤ i⟩
/-- one turn, over what the inner iterator draws -/
theorem enum_turn {X : Cx} {i n : Nat} {pins : List (Addr × Obj)} {s : Shared} {σ : L2.St} {H : Hp} {E : Value → Shared → Prop} {elts : List Expr} {kk : Nat} {tpos : Pos} {e it : Addr} {old : Value} {fp : List Addr} {P : Nat → Value → Prop} {St2 : Nat → Heap → Prop} {tn : Heap → Prop} {J : V → Prop}
    (D : Draws X.prog X.w X.A.in1 it fp n P St2) (I : Inv X pins σ H s) (hf : ∀ b ∈ [e, it], FpOk X pins H b) (he : IsEnum s.heap e it ((i : Nat) : Int) old) (hst : St2 i s.heap) (hlt : i < n) (hne : e ≠ it) (hef : e ∉ fp)
    (hv : ∀ u, P i u → ∃ x, RelV x u ∧ J x) (hk2 : ∀ h h', St2 (i + 1) h → (∀ b o, b ≠ e → h.get? b = some o → h'.get? b = some o) → tn h') :
    wpAny (model X.prog X.w) X.A (pyNext (.ref e)) (fun r s1 => ∃ u, r = some u ∧
      wpAny (model X.prog X.w) X.A (letOwnedTupleGo (.Tuple elts kk tpos) (.ref e) u) (fun _ s2 => ∃ v H', Inv X pins σ H' s2 ∧ RelV v u ∧ (∃ T x, v = .ref T ∧ H T = none ∧ H' = upd H T (.tup [.int (i : Nat), x]) ∧ J x) ∧
        ((∃ old', IsEnum s2.heap e it (((i + 1 : Nat) : Nat) : Int) old') ∧ tn s2.heap ∧ e ≠ it) ∧ ∀ b ∈ [e, it], H' b = none) E s1) E s := by
  have hel : e < s.heap.objs.size := Heap.lt_size he
  have hil : it < s.heap.objs.size := by obtain ⟨_, q⟩ := D.live _ _ hst; exact Heap.lt_size q
  refine wpAny_pyNext_enum_itemC D he hst hlt hne hef fun u h' tk hP ho hst' hT hsz hk => ?_
  obtain ⟨x, ru, jx⟩ := hv u hP
  refine ⟨_, rfl, wpAny_letOwnedTupleGo_enum (s := { s with heap := h', toks := tk + 1 }) ho fun h'' he' sb => ?_⟩
  have hT2 : h''.get? s.heap.objs.size = some { cls := .type "tuple", data := .seq #[.int i tk, u] } := (sb.2 _ (Nat.ne_of_gt hel)).trans hT
  have new : ObjOk X.prog X.w (upd H s.heap.objs.size (.tup [.int (i : Nat), x])) h'' s.heap.objs.size (.tup [.int (i : Nat), x]) :=
    ⟨by show 2 ≤ sizeLine; decide, [.int i tk, u], .cons ⟨_, rfl⟩ (.cons ru .nil), ⟨_, hT2, rfl, _, rfl⟩⟩
  have I1 : Inv X pins σ (upd H s.heap.objs.size (.tup [.int (i : Nat), x])) { s with heap := h'', toks := tk + 1 } :=
    I.turnedNew (ch := [e, it]) (fun b ob hb q => (sb.2 b (fun z => hb (by simp [z]))).trans (hk b ob (fun z => hb (by simp [z])) (fun z => hb (by simp [z])) q)) hf (Nat.le_refl _) new
  refine ⟨.ref s.heap.objs.size, _, I1, rfl, ⟨_, x, rfl, I.hok.fresh (Nat.le_refl _), rfl, jx⟩, ⟨⟨u, ?_⟩, hk2 _ _ hst' fun b o hb q => (sb.2 b hb).trans q, hne⟩, fun b hb => ?_⟩
  · have e1 : ((i + 1 : Nat) : Int) = (i : Int) + 1 := by omega
    rw [e1]; exact he'
  · have hb' : b < s.heap.objs.size := by
      have e' : b = e ∨ b = it := by simpa using hb
      rcases e' with z | z
      · rw [z]; exact hel
      · rw [z]; exact hil
    rw [upd_ne (Nat.ne_of_lt hb')]
    exact (hf b hb).1
theorem turn_enumS {P : Program} {w : World} {K : PySem.W.Frag} {elts : List Expr} {kk : Nat} {tpos : Pos} (x : Str) (t : Tok) (e it : Addr) :
    Turn P w K (.Tuple elts kk tpos) (IteS x) [e, it] e (fun i h => (∃ old, IsEnum h e it ((i : Nat) : Int) old) ∧ h.IsStrIter it (strIterType x) x t i ∧ e ≠ it) where
  mem := by simp
  obj := fun i h st b hb => by
    obtain ⟨⟨old, he⟩, ⟨o, ho, hc, hd⟩, _⟩ := st
    have e' : b = e ∨ b = it := by simpa using hb
    rcases e' with z | z
    · rw [z]; exact ⟨_, he, fun v q => nomatch q⟩
    · rw [z]; exact ⟨o, ho, fun v q => by rw [hd] at q; cases q⟩
  keep := fun i h h' st k => let ⟨⟨old, he⟩, ⟨o, ho, r⟩, hne⟩ := st; ⟨⟨old, k e (by simp) _ he⟩, ⟨o, k it (by simp) o ho, r⟩, hne⟩
  item := by
    intro X hP hw hK hc i pins s σ H E I hf st hg
    subst hP hw hK
    obtain ⟨⟨old, he⟩, hit, hne⟩ := st
    have D := Draws.text (prog := X.prog) (w := X.w) (A := X.A.in1) (I.ok.hd hc) it x t
    refine thn (enum_turn D I hf he hit hg hne (by simpa using hne) (J := fun v => ∃ c, x.cps[i]? = some c ∧ v = .str ⟨#[c]⟩) (fun u ⟨c, tk, hcx, eu⟩ => ⟨.str ⟨#[c]⟩, by rw [eu]; exact ⟨_, rfl⟩, c, hcx, rfl⟩) (tn := fun h => h.IsStrIter it (strIterType x) x t (i + 1))
      (fun h h' st k => let ⟨o, ho, r⟩ := st; ⟨o, k it o (Ne.symm hne) ho, r⟩)) fun r s1 ⟨u, er, h⟩ => ⟨u, er, thn h fun _ s2 ⟨v, H', I', rv, ⟨T, y, ev, hn, eH, c, hcx, ey⟩, ht, hb⟩ => ?_⟩
    subst ey
    exact ⟨v, H', I', rv, ⟨T, c, ev, hn, eH, hcx⟩, ht, hb⟩
  done := by
    intro X hP hw hK hc i pins s σ H E I hf st hg
    subst hP hw hK
    obtain ⟨⟨old, he⟩, hit, hne⟩ := st
    obtain ⟨f0, f1, f2, f3, f4, f5⟩ := hf it (by simp)
    have hx : x.cps[i]? = none := Array.getElem?_eq_none hg
    have done : ∀ (Q : Option Value → Shared → Prop), (∀ h', Heap.ExtBut it s.heap h' → Q none { s with heap := h' }) → wpAny (model X.prog X.w) X.A (pyNext (.ref e)) Q E s := fun Q hQ => by
      have W : ∀ (S : Shared) (Q : Value → Shared → Prop) (E' : Value → Shared → Prop), S.heap.IsStrIter it (strIterType x) x t i → (∀ h' e, Heap.ExtBut it S.heap h' → (∃ o, h'.get? e = some o ∧ o.cls = .type "StopIteration") → E' (.ref e) { S with heap := h' }) →
          wpAny (model X.prog X.w) X.A.in1 (Builtin.SmallTypes.nextOf (.ref it)) Q E' S := fun S Q E' hi hE => by
        cases ha : x.cps.all (· < 128)
        · simp only [strIterType, ha, Bool.false_eq_true, if_false] at hi
          exact wpAny_nextOf_wide_end (I.ok.hd hc) hi hx hE
        · simp only [strIterType, ha, if_true] at hi
          exact wpAny_nextOf_ascii_end (I.ok.hd hc) hi hx hE
      have D : Draws X.prog X.w X.A.in1 it [it] 0 (fun _ _ => False) (fun j h => j = 0 ∧ h.IsStrIter it (strIterType x) x t i) :=
        { live := fun _ _ st => let ⟨_, o, ho, _⟩ := st; ⟨o, ho⟩
          frame := fun _ _ _ st hk => let ⟨z, o, ho, r⟩ := st; ⟨z, o, hk it (by simp) o ho, r⟩
          item := fun j S Q E' hj => absurd hj (Nat.not_lt_zero _)
          done := fun S Q E' st hE => W S Q E' st.2 hE }
      exact wpAny_pyNext_enum_endD D he ⟨rfl, hit⟩ hQ
    exact done _ fun h' eb => ⟨rfl, I.turned (t' := s.toks) (fun b o hb q => eb b o hb q) f0 f1 f3 f4 f5⟩
  self := fun A i s Q E st h => let ⟨⟨_, he⟩, _⟩ := st; wpAny_pyIter_enum he h
def iEnumS (ta : TA) : TI := fun σ H R => ta σ H fun vs H1 => ∃ x, vs = [.str x] ∧ R (IteS x) H1
theorem pi_enumS {X : Cx} {e : Expr} {ta : TA} {p pos tpos : Pos} {elts : List Expr} {kk : Nat} (hg : Gl X "enumerate") (hm : X.mg "enumerate" = none) (ha : PA X [e] ta) (hs : starEach [e] X.env = [(false, eval e X.env)] := by rfl) :
    PI X (.Tuple elts kk tpos) (.Call (.Name "enumerate" p) [e] [] pos) (iEnumS ta) := by
  refine ⟨fun pins s σ H R I h => ?_⟩
  refine Call_ (ld_blt I hg hm boot_enumerate (PyProof.Rows.callWith_type1 (thn (ha.run pos pins s σ H _ I h) fun us s1 ⟨vs, H1, I1, r1, q1⟩ => ?_) hs rfl))
  obtain ⟨x, ex, q⟩ := q1
  subst ex
  cases r1 with
  | cons r rr =>
    cases rr
    obtain ⟨t, eu⟩ := r
    subst eu
    refine call_enumerate_str fun h' he hit hsz hk => wpAny_pyIter_enum he ?_
    have I2 : Inv X pins σ H1 { s1 with heap := h' } := I1.kept (t' := s1.toks) hk
    refine ⟨s1.heap.objs.size + 1, [s1.heap.objs.size + 1, s1.heap.objs.size], _, _, H1, rfl, I2, turn_enumS x t (s1.heap.objs.size + 1) s1.heap.objs.size, ⟨⟨.none, he⟩, hit, Nat.succ_ne_self _⟩, fun b hb => ?_, q⟩
    have e' : b = s1.heap.objs.size + 1 ∨ b = s1.heap.objs.size := by simpa using hb
    have hle : s1.heap.objs.size ≤ b := by
      rcases e' with z | z
      · rw [z]; exact Nat.le_add_right _ _
      · rw [z]; exact Nat.le_refl _
    exact I1.fpOk hle (I1.hok.fresh hle)
theorem walk_enumS {x : Str} : Walk (IteS x) x.cps.size (fun _ => True) (fun i H v H' => ∃ T c, v = .ref T ∧ H T = none ∧ H' = upd H T (.tup [.int (i : Nat), .str ⟨#[c]⟩]) ∧ x.cps[i]? = some c) :=
  ⟨fun _ _ hi _ => hi, fun _ _ => Nat.le_refl _, fun _ _ _ _ _ _ y => y⟩

/-! ### a tuple -/
def IteT (K : PySem.W.Frag) (a : Addr) (xs : List V) : It :=
  ⟨fun i H => i < xs.length ∧ SqT K H a xs, fun i H v H' => ∃ T x, v = .ref T ∧ H T = none ∧ H' = upd H T (.tup [.int (i : Nat), x]) ∧ xs[i]? = some x, fun i H => xs.length ≤ i ∧ SqT K H a xs⟩
theorem turn_enumT {P : Program} {w : World} {K : PySem.W.Frag} {elts : List Expr} {kk : Nat} {tpos : Pos} (a e it : Addr) (xs : List V) :
    Turn P w K (.Tuple elts kk tpos) (IteT K a xs) [e, it] e (fun i h => (∃ old, IsEnum h e it ((i : Nat) : Int) old) ∧ (h.IsTupleIter it a i ∧ a ≠ it ∧ a ≠ e) ∧ e ≠ it) where
  mem := by simp
  obj := fun i h st b hb => by
    obtain ⟨⟨old, he⟩, ⟨⟨o, ho, hc, hd⟩, _⟩, _⟩ := st
    have e' : b = e ∨ b = it := by simpa using hb
    rcases e' with z | z
    · rw [z]; exact ⟨_, he, fun v q => nomatch q⟩
    · rw [z]; exact ⟨o, ho, fun v q => by rw [hd] at q; cases q⟩
  keep := fun i h h' st k => let ⟨⟨old, he⟩, ⟨hi, ha⟩, hne⟩ := st; ⟨⟨old, k e (by simp) _ he⟩, ⟨hi.at fun o q => k it (by simp) o q, ha⟩, hne⟩
  item := by
    intro X hP hw hK hc i pins s σ H E I hf st hg
    subst hP hw hK
    obtain ⟨⟨old, he⟩, ⟨hit, hai, hae⟩, hne⟩ := st
    obtain ⟨hlt, hq⟩ := hg
    obtain ⟨its, rv, p, hz⟩ := I.tuple hq
    have hl := rv.length
    have D := Draws.tuple (prog := X.prog) (w := X.w) (A := X.A.in1) (I.ok.hd hc) it a hai its.toArray
    refine thn (enum_turn D I hf he ⟨hit, p⟩ (by simp; omega) hne (by simp; exact ⟨hne, Ne.symm hae⟩) (J := fun v => xs[i]? = some v) (fun u hu => ?_) (tn := fun h => h.IsTupleIter it a (i + 1) ∧ a ≠ it ∧ a ≠ e)
      (fun h h' st k => ⟨st.1.at fun o q => k it o (Ne.symm hne) q, hai, hae⟩)) fun r s1 ⟨u, er, h⟩ => ⟨u, er, thn h fun _ s2 ⟨v, H', I', rv, ⟨T, y, ev, hn, eH, ey⟩, ht, hb⟩ => ?_⟩
    · have hi : i < xs.length := hlt
      obtain ⟨u', hu', ru⟩ := rv.get (i := i) (x := xs[i]) (by simp [hi])
      have e2 : u = u' := by
        rw [List.getElem?_toArray, hu'] at hu
        exact (Option.some.inj hu).symm
      rw [e2]
      exact ⟨xs[i], ru, by simp [hi]⟩
    · exact ⟨v, H', I', rv, ⟨T, y, ev, hn, eH, ey⟩, ht, hb⟩
  done := by
    intro X hP hw hK hc i pins s σ H E I hf st hg
    subst hP hw hK
    obtain ⟨⟨old, he⟩, ⟨hit, hai, hae⟩, hne⟩ := st
    obtain ⟨hle, hq⟩ := hg
    obtain ⟨its, rv, p, hz⟩ := I.tuple hq
    have hl := rv.length
    obtain ⟨f0, f1, f2, f3, f4, f5⟩ := hf it (by simp)
    have D : Draws X.prog X.w X.A.in1 it [it, a] 0 (fun _ _ => False) (fun j h => j = 0 ∧ h.IsTupleIter it a i ∧ h.IsTuple a its.toArray) :=
      { live := fun _ _ st => let ⟨_, ⟨o, ho, _⟩, _⟩ := st; ⟨o, ho⟩
        frame := fun _ _ _ st hk => ⟨st.1, st.2.1.at fun o e => hk it (by simp) o e, st.2.2.at fun o e => hk a (by simp) o e⟩
        item := fun j S Q E' hj => absurd hj (Nat.not_lt_zero _)
        done := fun S Q E' st hE => wpAny_nextOf_tuple_end (I.ok.hd hc) st.2.1 st.2.2 (by simp; omega) hE }
    exact wpAny_pyNext_enum_endD D he ⟨rfl, hit, p⟩ fun h' eb => ⟨rfl, I.turned (t' := s.toks) (fun b o hb q => eb b o hb q) f0 f1 f3 f4 f5⟩
  self := fun A i s Q E st h => let ⟨⟨_, he⟩, _⟩ := st; wpAny_pyIter_enum he h
def iEnumT (K : PySem.W.Frag) (ta : TA) : TI := fun σ H R => ta σ H fun vs H1 => ∃ a xs, vs = [.ref a] ∧ SqT K H1 a xs ∧ R (IteT K a xs) H1
theorem pi_enumT {X : Cx} {e : Expr} {ta : TA} {p pos tpos : Pos} {elts : List Expr} {kk : Nat} (hg : Gl X "enumerate") (hm : X.mg "enumerate" = none) (ha : PA X [e] ta) (hs : starEach [e] X.env = [(false, eval e X.env)] := by rfl) :
    PI X (.Tuple elts kk tpos) (.Call (.Name "enumerate" p) [e] [] pos) (iEnumT X.K ta) := by
  refine ⟨fun pins s σ H R I h => ?_⟩
  refine Call_ (ld_blt I hg hm boot_enumerate (PyProof.Rows.callWith_type1 (thn (ha.run pos pins s σ H _ I h) fun us s1 ⟨vs, H1, I1, r1, q1⟩ => ?_) hs rfl))
  obtain ⟨a, xs, ex, hq, q⟩ := q1
  subst ex
  cases r1 with
  | cons r rr =>
    cases rr
    cases r
    obtain ⟨its, rv, p', hz⟩ := I1.tuple hq
    have hat : a < s1.heap.objs.size := p'.lt
    refine enum_begins1 (begins_tuple a its.toArray) (show s1.heap.IsTuple a its.toArray from p') fun h' he hit hsz hk => wpAny_pyIter_enum he ?_
    have I2 : Inv X pins σ H1 { s1 with heap := h' } := I1.kept (t' := s1.toks) hk
    refine ⟨s1.heap.objs.size + 1, [s1.heap.objs.size + 1, s1.heap.objs.size], _, _, H1, rfl, I2, turn_enumT a (s1.heap.objs.size + 1) s1.heap.objs.size xs, ⟨⟨.none, he⟩, ⟨⟨_, hit, rfl, rfl⟩, Nat.ne_of_lt hat, Nat.ne_of_lt (Nat.lt_succ_of_lt hat)⟩, Nat.succ_ne_self _⟩, fun b hb => ?_, q⟩
    have e' : b = s1.heap.objs.size + 1 ∨ b = s1.heap.objs.size := by simpa using hb
    have hle : s1.heap.objs.size ≤ b := by
      rcases e' with z | z
      · rw [z]; exact Nat.le_add_right _ _
      · rw [z]; exact Nat.le_refl _
    exact I1.fpOk hle (I1.hok.fresh hle)
theorem walk_enumT {K : PySem.W.Frag} {a : Addr} {xs : List V} : Walk (IteT K a xs) xs.length (fun H => SqT K H a xs) (fun i H v H' => ∃ T x, v = .ref T ∧ H T = none ∧ H' = upd H T (.tup [.int (i : Nat), x]) ∧ xs[i]? = some x) :=
  ⟨fun _ _ hi g => ⟨hi, g⟩, fun _ g => ⟨Nat.le_refl _, g⟩, fun _ _ _ _ _ _ y => y⟩
end Pk

/-! text * int, tuple * int from 1 on, sum of a tuple, comparison with an empty list, sorted of a text, a text reversed. -/
namespace Pk
open PySem PySem.Spec L2
open PyProof.Rows hiding St
section
variable {X : Cx}
/-! ### text * int -/
theorem mulOk_small {z : Str} {n : Int} (h0 : 0 ≤ n) (h1 : n ≤ 1000) (hz : z.length ≤ 1000) : MulOk z n := by
  refine ⟨?_, fun a _ => ?_, fun a _ => ?_⟩
  · rw [decide_eq_false (by omega), decide_eq_false (by omega)] <;> rfl
  · have : 1000 ≤ (2 ^ 63 - 1) / n := Int.le_ediv_of_mul_le (by omega) (by omega)
    omega
  · have h2 : z.length * n.toNat ≤ 1000 * 1000 := Nat.mul_le_mul hz (by omega)
    unfold Builtin.Str.tooLong
    rw [sizeLine_eq]
    exact decide_eq_false (by omega)
theorem op_mulS : OpR X (binaryOp .Mult) (fun x y H Q => ∃ z n, x = .str z ∧ y = .int n ∧ 0 ≤ n ∧ n ≤ 1000 ∧ z.length ≤ 1000 ∧ Q (.str (Txt.mul z n)) H) := by
  intro pins s σ H x y v u Q I rx ry h
  obtain ⟨z, n, rfl, rfl, h0, h1, hz, q⟩ := h
  obtain ⟨t, rfl⟩ := rx
  obtain ⟨t', rfl⟩ := ry
  exact SB.mul (mulOk_small h0 h1 hz) fun t2 k => ⟨.str (Txt.mul z n), H, I.tok _, ⟨_, rfl⟩, q⟩
/-! ### tuple * int -/
theorem tuple_mul1 (l : Addr) (items : Array Value) (n : Nat) (dd : Option Addr) (sl : Array (Option Value)) (u : Tok) :
    Meets (Builtin.«tuple.__mul__» ⟨[.ref l, .int 1 u], []⟩) (fun _ R s => s.heap.get? l = some { cls := .type "tuple", dict := dd, data := .seq items n, slots := sl } ∧
      R (.ok (.ret (Value.ref l))) s) :=
  .of_wp fun prog w A R s h => by
    obtain ⟨hp, g, d, tk, os⟩ := s
    obtain ⟨hl, h⟩ := h
    have f1 := AutoSeq1.idx_int
    have c0 : (decide ((1 : Int) < -(2 ^ 63)) || decide ((1 : Int) ≥ 2 ^ 63)) = false := by decide
    have c1 : (items.isEmpty || (1 : Int) == 1) = true := by simp
    wp_walk using wpAny_loadPart' hl
    repeat (first
      | (refine wpAny_ite_false (decide_eq_false (by rw [c0]; exact Bool.false_ne_true)) ?_; wp_walk using wpAny_loadPart' hl)
      | (refine wpAny_ite_true (decide_eq_true c1) ?_; wp_walk using wpAny_loadPart' hl)
      | (rw [if_pos c1]; wp_walk using wpAny_loadPart' hl))
    exact ⟨_, rfl, h⟩
theorem op_repT1 : OpR X (binaryOp .Mult) (fun x y H Q => ∃ l k xs, x = .ref l ∧ y = .int k ∧ SqT X.K H l xs ∧ xs ≠ [] ∧ 1 ≤ k ∧ k ≤ 1000 ∧ xs.length ≤ 1000 ∧ (k = 1 → Q (.ref l) H) ∧ (2 ≤ k → ∀ p, H p = none → Q (.ref p) (upd H p (.tup (List.replicate k.toNat xs).flatten)))) := by
  intro pins s σ H x y v u Q I rx ry h
  obtain ⟨l, k, xs, rfl, rfl, hT, hne, h1, h2, hz, q1, q2⟩ := h
  by_cases e : k = 1
  · subst e
    cases rx
    obtain ⟨t, rfl⟩ := ry
    obtain ⟨its, r, ⟨⟨cls, dd, data, sl⟩, ho, hc, n, hd⟩, hs⟩ := I.tuple hT
    simp only at hc hd
    subst hc hd
    refine wpAny_binaryOp_repeat_ref (T := "tuple") (U := "int") (by decide) ⟨_, ho, rfl⟩ (fun s' => typeIs_int s' 1 t) noFill_tuple_mul F.fills_int_mul F.slot_int_rmul repeat_tuple F.slot_int_index.lookup
      (call_meets F.slot_int_rmul (typeIs_int s 1 t) F.entry_int_rmul (F.args_int_rmul_2 _ _) (int_rmul_tuple 1 t l its.toArray n dd sl)
        ⟨ho, rfl, ⟨_, ho, rfl⟩, call_meets F.slot_tuple_mul ⟨_, ho, rfl⟩ F.entry_tuple_mul (F.args_tuple_mul_2 _ _) (tuple_mul1 l its.toArray n dd sl t) ⟨ho, ?_⟩⟩)
    exact ⟨.ref l, H, I, rfl, q1 rfl⟩
  · exact op_repT pins s σ H (.ref l) (.int k) v u Q I rx ry ⟨l, k, xs, rfl, rfl, hT, hne, by omega, h2, hz, q2 (by omega)⟩
/-! ### sum of a tuple -/
theorem cr_sumT (hc : X.calm = true) : CallR X (.builtin "sum") (fun vs H Q => ∃ (a : Addr) (ns : List Int), vs = [V.ref a] ∧ SqT X.K H a (ns.map V.int) ∧ Q (.int ns.sum) H) := by
  intro pins s σ H vs us Q I r h
  obtain ⟨a, ns, rfl, hs, q⟩ := h
  obtain ⟨its, rv, hl, _⟩ := I.tuple hs
  rw [Vals.ref1 r]
  have hi : IntsAre its ns := intsAre_of rv
  obtain ⟨xs, e⟩ := hi.allInts.items
  have hn : numsOf (intItems xs).toList = ns := by rw [← e]; exact hi.numsOf
  rw [nums_intItems] at hn
  have hl' : s.heap.IsTuple a its.toArray := hl
  rw [e] at hl'
  refine PySem.W.ktm_sumG (I.ok.hd hc) hl' fun h' tk t' hk => ?_
  have e2 : preSum (numAt xs) xs.size = ns.sum := by
    rw [preSum_eq, List.take_of_length_le (by simp), hn]
  rw [e2]
  exact ⟨.int _, H, I.kept hk, ⟨_, rfl⟩, q⟩
/-! ### == [], != [] -/
def rEqNil (K : PySem.W.Frag) (neg : Bool) : R2 := fun x y H Q => ∃ a b xs, x = .ref a ∧ y = .ref b ∧ SqL K H a xs ∧ SqL K H b [] ∧ Q (.bl (if neg then !xs.isEmpty else xs.isEmpty)) H
theorem op_eqNil (hu : X.A.units + 64 < cLine) : OpR X (compareOp .Eq) (rEqNil X.K false) := by
  intro pins s σ H x y v u Q I rx ry h
  obtain ⟨a, b, xs, rfl, rfl, ha, hb, q⟩ := h
  cases rx
  cases ry
  obtain ⟨its, rv, hl, _⟩ := I.list ha
  obtain ⟨its2, rv2, hl2, _⟩ := I.list hb
  cases rv2
  cases xs with
  | nil =>
    cases rv
    refine SeqAt.eq_listAt (e := fun _ => true) hl.isList hl2.isList rfl (by omega) (fun j h1 => absurd h1 (Nat.not_lt_zero _)) ?_
    exact ⟨.bl true, H, I, rfl, q⟩
  | cons z zs =>
    have hlen := rv.length
    refine SeqAt.eq_list_lengthsAt hl.isList hl2.isList ?_ (by omega) ⟨.bl false, H, I, rfl, q⟩
    simp only [List.size_toArray, List.length_nil, bne_iff_ne, ne_eq]
    rw [← hlen]
    simp
theorem op_neNil (hu : X.A.units + 64 < cLine) : OpR X (compareOp .NotEq) (rEqNil X.K true) := by
  intro pins s σ H x y v u Q I rx ry h
  obtain ⟨a, b, xs, rfl, rfl, ha, hb, q⟩ := h
  cases rx
  cases ry
  obtain ⟨its, rv, hl, _⟩ := I.list ha
  obtain ⟨its2, rv2, hl2, _⟩ := I.list hb
  cases rv2
  cases xs with
  | nil =>
    cases rv
    exact SeqAt.RcNeAt.lists (e := fun _ => true) hl.isList hl2.isList rfl (by omega) (fun j h1 => absurd h1 (Nat.not_lt_zero _)) X.prog X.w X.xe _ ⟨.bl false, H, I, rfl, q⟩
  | cons z zs =>
    have hlen := rv.length
    refine SeqAt.RcNeAt.lists_lengths hl.isList hl2.isList ?_ (by omega) X.prog X.w X.xe _ ⟨.bl true, H, I, rfl, q⟩
    simp only [List.size_toArray, List.length_nil, bne_iff_ne, ne_eq]
    rw [← hlen]
    simp
/-! ### sorted(text) -/
theorem cr_sortedTxt (hcalm : X.calm = true) : CallR X (.builtin "sorted") (fun xs H Q => ∃ z : Str, xs = [.str z] ∧ z.cps.size < 64 ∧
    ∀ (ys : List Str) p, ys.Perm (z.cps.toList.map fun c => (⟨#[c]⟩ : Str)) → sortedS ys = true → H p = none → Q (.ref p) (upd H p (.lst (ys.map V.str)))) := by
  intro pins s σ H xs us Q I r q
  obtain ⟨z, ex, h64, q⟩ := q
  subst ex
  obtain ⟨u, eu, rx⟩ := vals1 r
  subst eu
  obtain ⟨t, rfl⟩ := rx
  refine Calls.call_function_entry PyProof.Rows.kind_sorted PyProof.Rows.plain_sorted PyProof.Rows.entry_sorted (PyProof.Rows.args_sorted1 _) ?_
  unfold Builtin.«sorted»
  refine wpAny_bind (m := checkCount "sorted" 1 1 _) (wpAny_pure ?_)
  refine wpAny_bind (wpAny_collect_str (A := X.A.in1) (I.ok.hd hcalm) z t (fun s' acc hk hg hd ho hacc => ?_) (by rw [sizeLine_eq]; omega))
  obtain ⟨h', g', d', tk, o'⟩ := s'
  simp only at hg hd ho hk
  subst hg hd ho
  have hal : acc.toList.length = (z.cps.toList.map fun c => (⟨#[c]⟩ : Str)).length := by
    rw [Array.length_toList, hacc.1, List.length_map, Array.length_toList]
  have hS : StrsAre acc.toList (z.cps.toList.map fun c => (⟨#[c]⟩ : Str)) := strs_at hal fun j v e => by
    obtain ⟨c, tk2, e1, e2⟩ := hacc.2 j v (by rw [← Array.getElem?_toList]; exact e)
    refine ⟨⟨#[c]⟩, tk2, ?_, e2⟩
    rw [List.getElem?_map, Array.getElem?_toList, e1]
    rfl
  have hal2 : acc.toList.length < 64 := by rw [hal, List.length_map, Array.length_toList]; exact h64
  have I1 : Inv X pins σ H { s with heap := h', toks := tk } := I.kept hk
  refine wpAny_bind (wpAny_newList ?_ (by rw [sizeLine_eq]; omega))
  have hoL : (h'.push (seqObj "list" acc.toList.toArray 0)).get? h'.objs.size = some (seqObj "list" acc.toList.toArray 0) := Heap.get?_push_size _ rfl
  show wpAny _ _ _ _ _ { s with heap := h'.push (seqObj "list" acc.toList.toArray 0), toks := tk }
  refine wpAny_bind (wpAny_holding (wpAny_call_entry PyProof.Rows.slot_list_sort ⟨_, hoL, rfl⟩ PyProof.Rows.entry_list_sort
    (list_sort_treeK strKind_oneLt (s := { s with heap := h'.push (seqObj "list" acc.toList.toArray 0), toks := tk }) hoL hS.keysOf (fun v₁ v₂ rest e => keyKind_strs (by rw [← e]; exact hS)) hal2 fun st' hp hs => ⟨_, rfl, ?_⟩)
    (PyProof.Rows.args_list_sort _)))
  obtain ⟨ys, g1, g2, g3⟩ := sorted_out_str hS hp hs
  obtain ⟨e', he'⟩ := PyProof.Rows.sortedHeap_at (vs := acc.toList) (out := (arrOf st').map (·.2)) hoL
  have hlen : (ys.map V.str).length ≤ sizeLine := by
    rw [List.length_map, g2.length_eq, ← hal, sizeLine_eq]
    omega
  refine wpAny_pure ⟨_, rfl, .ref h'.objs.size, upd H h'.objs.size (.lst (ys.map V.str)), I1.laid (t' := tk) (fun b u e => ?_) (Nat.le_refl _)
    (show ObjOk X.prog X.w _ _ _ (.lst (ys.map V.str)) from ⟨hlen, ((arrOf st').map (·.2)).toList, e', vals_of_strs g1, by rw [Array.toArray_toList]; exact he'⟩), rfl, q ys _ g2 g3 (I1.hok.fresh (Nat.le_refl _))⟩
  have hb : b < h'.objs.size := Heap.lt_size e
  rw [PyProof.Rows.sortedHeap_old (Nat.ne_of_lt hb) (by rw [size_push']; exact Nat.lt_succ_of_lt hb)]
  exact Heap.get?_push_of_some _ e
/-! ### text[::-1] -/
theorem picked_rev (z : Str) : ((Builtin.Str.strSliceIndices none none (-1) z.length).filterMap (z.cps[·]?)).toArray = z.cps.toList.reverse.toArray := by
  show ((sliceRange ((z.cps.size : Int) - 1) (-1) (-1)).filterMap (z.cps[·]?)).toArray = _
  rw [PySem.W.krv_sliceRange, PySem.W.krv_range, List.filterMap_reverse, PySem.W.krv_all]
def tRevS (te : TE) : TE := fun σ H Q => te σ H fun x H1 => ∃ z : Str, x = .str z ∧ z.length ≤ 1000 ∧ Q (.str ⟨z.cps.toList.reverse.toArray⟩) H1
theorem pe_revS {e : Expr} {te : TE} {k : Nat} {p1 p2 p3 pos : Pos} (he : PE X e te) : PE X (.Subscript e (.Slice none none (some (.UnaryOp .USub (.Constant (.int 1) k p1) p2)) p3) pos) (tRevS te) := by
  refine ⟨fun pins s σ H Q I h => ?_⟩
  refine Subscript_ (thn (he.run pins s σ H _ I h) fun v s1 ⟨x, H1, I1, r1, q1⟩ => ?_)
  obtain ⟨z, ex, hz, q⟩ := q1
  subst ex
  obtain ⟨t, rfl⟩ := r1
  have hst : PO X (some (.UnaryOp .USub (.Constant (.int 1) k p1) p2)) (tPart (tUn (rU fun i => .int (-i)) (tC (.int 1)))) := po_some (pe_un un_neg pe_int)
  refine wpAny_Slice (thn (po_none.run pins s1 σ H1 (fun o H2 => o = none ∧ H2 = H1) I1 ⟨rfl, rfl⟩) fun vl s2 ⟨l, H2, I2, pl, el, e2⟩ => ?_)
  subst el e2
  refine thn (po_none.run pins s2 σ H2 (fun o H3 => o = none ∧ H3 = H2) I2 ⟨rfl, rfl⟩) fun vu s3 ⟨u, H3, I3, pu, eu, e3⟩ => ?_
  subst eu e3
  refine thn (hst.run pins s3 σ H3 (fun o H4 => o = some (-1) ∧ H4 = H3) I3 ⟨1, rfl, -1, rfl, rfl, rfl⟩) fun vs s4 ⟨o, H4, I4, ps, eo, e4⟩ => ?_
  subst eo e4
  cases pl
  cases pu
  obtain ⟨st, e1, e2⟩ := IsPart.raw ps
  obtain ⟨tk, rfl⟩ : ∃ tk, st = some (-1, tk) := by
    cases st with
    | none => cases e2
    | some p =>
      obtain ⟨i, tk⟩ := p
      exact ⟨tk, by rw [show i = -1 from Option.some.inj e2]⟩
  subst e1
  have I5 : Inv X pins σ H4 { s4 with heap := s4.heap.push { cls := .type "slice", data := .fields #[.none, .none, partValue (some (-1, tk))] } } := I4.kept (t' := s4.toks) fun b ob q => Heap.get?_push_of_some _ q
  show wpAny (model X.prog X.w) X.A (subscriptTail e (.Slice none none (some (.UnaryOp .USub (.Constant (.int 1) k p1) p2)) p3) (.str z t) (.ref s4.heap.objs.size)) (EP X pins σ Q) X.xe { s4 with heap := s4.heap.push { cls := .type "slice", data := .fields #[.none, .none, partValue (some (-1, tk))] } }
  refine tail_any (ops := [.ref s4.heap.objs.size, .str z t]) (typeIs_str _ _ _) F.slot_str_getitem.lookup ?_ (by with_unfolding_all rfl)
  refine wpAny_getItem_str_slice (l := none) (u := none) (st := some (-1, tk)) ⟨_, Heap.get?_push_size _ rfl, rfl, rfl⟩ rfl ?_
  unfold sliceMade
  rw [if_neg (by show ¬ (((-1 : Int) == 1 && _) = true); simp)]
  have e : ((slicePicked z none none (some (-1, tk))).filterMap (z.cps[·]?)).toArray = z.cps.toList.reverse.toArray := picked_rev z
  rw [e]
  refine ⟨?_, .str ⟨z.cps.toList.reverse.toArray⟩, H4, I5.tok _, ⟨_, rfl⟩, q⟩
  show (z.cps.toList.reverse.toArray).size ≤ sizeLine
  have : z.cps.size ≤ 1000 := hz
  rw [List.size_toArray, List.length_reverse, Array.length_toList, sizeLine_eq]
  omega
/-! ### name += text -/
theorem ip_addS : PIp X .Add (fun x y H Q => ∃ i j, x = .str i ∧ y = .str j ∧ i.length + j.length ≤ sizeLine ∧ Q (.str (i ++ j)) H) :=
  fun pins s σ H x y v u Q I r1 r2 h => iop_add_str pins s σ H x y v u Q I r1 r2 h
end
end Pk

/-! The text by places, what the walk asks of the top. -/
namespace Pk
open PySem PySem.Spec L2
open PyProof.Rows hiding St

def top (i : Nat) : Stmt := PySem.Challenge.pw_packrow_k16_whole_known_counts.main.body.getD i (.Pass ⟨0, 0, 0, 0⟩)
abbrev sIsInt : Stmt := top 10
abbrev sCheckSizes : Stmt := top 11
abbrev sColors : Stmt := top 12
abbrev sSizeOf : Stmt := top 13
abbrev sCheckRow : Stmt := top 14
abbrev sCheckShort : Stmt := top 15
abbrev sTally : Stmt := top 16
abbrev sSplit : Stmt := top 18
abbrev sReduce : Stmt := top 19
abbrev sResidue : Stmt := top 20
abbrev sInvert : Stmt := top 21
abbrev sInit : Stmt := inClass (top 23) 0
abbrev sSucc : Stmt := inClass (top 23) 1
abbrev sFeas : Stmt := inClass (top 23) 2
abbrev sWays : Stmt := inClass (top 23) 3
abbrev sViable : Stmt := inClass (top 23) 4
abbrev sCountable : Stmt := top 24
abbrev sCount : Stmt := top 25
abbrev sComplete : Stmt := top 26
abbrev sFirst : Stmt := top 27
abbrev sLast : Stmt := top 28
abbrev sAdjacent : Stmt := top 29
abbrev sNext : Stmt := top 30
abbrev sPrev : Stmt := top 31
abbrev sIsPack : Stmt := top 36
abbrev sReject : Stmt := top 37
abbrev sList : Stmt := top 38
abbrev sLegal : Stmt := top 39
abbrev sRandom : Stmt := top 41
abbrev sBelow : Stmt := top 42
abbrev sSizes : Stmt := top 43
abbrev sRow : Stmt := top 44
abbrev sLaw : Stmt := top 45

/-- a def without defaults as it stands behind the top -/
abbrev FnQ (K : PySem.W.Frag) (x q : Str) (st : Stmt) (f : Addr) (fd : FuncData) : Prop := FunD K x q (defArgs st) (defBody st) (defScope st) [] [] f fd
abbrev FnP (K : PySem.W.Frag) (x : Str) (st : Stmt) (f : Addr) (fd : FuncData) : Prop := FnQ K x x st f fd
/-- the top's facts: built-ins not hidden, the module's constants -/
structure Txt (K : PySem.W.Frag) (mg : Str → Option Value) : Prop where
  isinstance : mg "isinstance" = none
  int : mg "int" = none
  bool : mg "bool" = none
  tuple : mg "tuple" = none
  str : mg "str" = none
  enumerate : mg "enumerate" = none
  len : mg "len" = none
  sum : mg "sum" = none
  all : mg "all" = none
  zip : mg "zip" = none
  range : mg "range" = none
  sorted : mg "sorted" = none
  abs : mg "abs" = none
  colors : ∃ t, mg "COLORS" = some (.str "abcdef" t)
  maxSize : ∃ t, mg "MAX_SIZE" = some (.int 4 t)
  maxBeads : ∃ t, mg "MAX_BEADS" = some (.int 40 t)
  maxShort : ∃ t, mg "MAX_SHORT" = some (.int 12 t)
  left : ∃ t, mg "LEFT" = some (.str "left" t)
  sides : ∃ a, mg "SIDES" = some (.ref a) ∧ ∀ H, SqT K H a [.str "left", .str "right"]
section
variable {P : Program} {w : World} {K : PySem.W.Frag} {mg : Str → Option Value} {base : Heap}
/-- a global def, ready to be called -/
structure Cal (P : Program) (w : World) (K : PySem.W.Frag) (mg : Str → Option Value) (base : Heap) (x : Str) (k : Nat) (ps : List Str) (sp : Sp) : Prop where
  ex : ∃ f fd, FnOk P w K mg base CX0 k f fd ps sp ∧ mg x = some (.ref f) ∧ PySem.W.keepIn K (.ref f) = true ∧ Binds K fd ps []
/-- a method, ready to be called -/
structure CalM (P : Program) (w : World) (K : PySem.W.Frag) (mg : Str → Option Value) (base : Heap) (C : Addr) (m : Str) (k : Nat) (ps : List Str) (sp : Sp) : Prop where
  ex : ∃ f fd, FnOk P w K mg base CX0 k f fd ps sp ∧ Meth K C m f ∧ Binds K fd ps []
/-- THE RULE for a def -/
theorem FnQ.fok {x q : Str} {st : Stmt} {f : Addr} {fd : FuncData} {N ps : List Str} {k : Nat} {sp : Sp} (F : FnQ K x q st f fd) (S : FnScope N ps (defScope st)) (len : ∀ vs H Q E, sp vs H Q E → vs.length = ps.length)
    (hbody : ∀ (cdv : Value) (A : Around) (outer : List Env) (s : Shared) (H : Hp) (vs : List V) (Q : VK) (E : XK), Room k (A.deeper (envOfC q (defScope st) s.heap.objs.size f cdv)) → sp vs H Q E →
      ∃ t, PSs (cxOf CX0 P w K mg base N q (defScope st) f cdv A outer s H E).nox (defBody st) t ∧ t { nx := fun _ H' => Q .non H', rt := Q } (start N vs) H) : FnOk P w K mg base CX0 (k + 1) f fd ps sp :=
  F.ok S len fun cdv A outer s H vs Q E hr hsp => let ⟨t, h, q⟩ := hbody cdv A outer s H vs Q E hr hsp; ⟨t, h.nox, q⟩
theorem Cal.mk' {x : Str} {st : Stmt} {f : Addr} {fd : FuncData} {k : Nat} {ps : List Str} {sp : Sp} (F : FnP K x st f fd) (m : mg x = some (.ref f)) (O : FnOk P w K mg base CX0 k f fd ps sp)
    (b : ∀ (kV doc pm : Value) (an : Option Addr) (cdv ct : Value) (us : List Value), us.length = ps.length → bindArgs (PySem.W.fnOf x x (defArgs st) (defBody st) (defScope st) .none kV doc pm an cdv ct) ⟨us, []⟩ = pure (ps.zip us)) : Cal P w K mg base x k ps sp :=
  ⟨f, fd, O, m, F.kp, FunD.bindsN F b⟩
theorem CalM.mk' {C : Addr} {x q : Str} {st : Stmt} {f : Addr} {fd : FuncData} {k : Nat} {ps : List Str} {sp : Sp} (F : FnQ K x q st f fd) (m : Meth K C x f) (O : FnOk P w K mg base CX0 k f fd ps sp)
    (b : ∀ (kV doc pm : Value) (an : Option Addr) (cdv ct : Value) (us : List Value), us.length = ps.length → bindArgs (PySem.W.fnOf x q (defArgs st) (defBody st) (defScope st) .none kV doc pm an cdv ct) ⟨us, []⟩ = pure (ps.zip us)) : CalM P w K mg base C x k ps sp :=
  ⟨f, fd, O, m, FunD.bindsN F b⟩
end
/-- a call of it -/
theorem pe_cal {X : Cx} {x : Str} {k : Nat} {ps : List Str} {sp : Sp} {p pos : Pos} {e : Expr} {es : List Expr} {t : TA} (C : Cal X.prog X.w X.K X.mg X.base x k ps sp) {j : Nat} (hr : Room j X.A) (hj : k ≤ j) (hg : Gl X x) (ha : PA X (e :: es) t)
    (hdb : (x == ("__debug__" : Str)) = false := by decide) (he : starEach (e :: es) X.env = (false, eval e X.env) :: starEach es X.env := by rfl)
    (hpl : (backTo pos (starEach es X.env)).any (·.1) = false := by rfl) :
    PE X (.Call (.Name x p) (e :: es) [] pos) (tCall sp [] E0 t) := by
  obtain ⟨f, fd, O, hm, hk, hb⟩ := C.ex
  exact pe_call O (hr.mono hj) hg hm hk hb .nil pass0 ha hdb he hpl
theorem pe_calm {X : Cx} {C : Addr} {m : Str} {k : Nat} {ps : List Str} {sp : Sp} {o e : Expr} {es : List Expr} {apos pos : Pos} {ta : TE} {t : TA} {pl : Sem Bool} (ho : PE X o ta) (c : Cls X.K C) (M : CalM X.prog X.w X.K X.mg X.base C m k ps sp) {j : Nat} (hr : Room j X.A) (hj : k ≤ j)
    (ha : PA X (e :: es) t) (hst : starEach (e :: es) X.env = (false, eval e X.env) :: starEach es X.env := by rfl) (hpl : (backTo pos (starEach es X.env)).any (·.1) = false := by rfl)
    (ht : eval (.Call (.Attribute o m apos) (e :: es) [] pos) X.env = (do
      let ov ← eval o X.env
      standAt apos.atName
      let (f, first) ← holding [ov] (getMethod ov m pl)
      callWith pos f first (backTo pos (starEach (e :: es) X.env)) (backToKw pos (keywordEach [] X.env))) := by rfl) :
    PE X (.Call (.Attribute o m apos) (e :: es) [] pos) (tMeth C m sp [] E0 ta t) := by
  obtain ⟨f, fd, O, hm, hb⟩ := M.ex
  exact pe_meth ho c hm O (hr.mono hj) hb .nil pass0 ha hst hpl ht
/-! ### data -/
abbrev szV (sz : List Nat) : List V := sz.map fun k => V.int (k : Nat)
structure SzOk (sz : List Nat) : Prop where
  ne : 1 ≤ sz.length
  le : sz.length ≤ 4
  all : ∀ k ∈ sz, 1 ≤ k ∧ k ≤ 4
theorem SzOk.pos {sz : List Nat} (h : SzOk sz) : SPos sz := fun c => by
  unfold siz
  rw [List.getD_eq_getElem?_getD]
  cases e : sz[c]? with
  | none => exact Nat.le_refl _
  | some k => exact (h.all k (List.mem_of_getElem? e)).1
theorem SzOk.siz4 {sz : List Nat} (h : SzOk sz) (c : Nat) : siz sz c ≤ 4 := by
  unfold siz
  rw [List.getD_eq_getElem?_getD]
  cases e : sz[c]? with
  | none => decide
  | some k => exact (h.all k (List.mem_of_getElem? e)).2
theorem SzOk.at {sz : List Nat} {c : Nat} (hc : c < sz.length) : (szV sz)[c]? = some (.int (siz sz c : Nat)) := by
  rw [List.getElem?_map]
  unfold siz
  rw [List.getD_eq_getElem?_getD, List.getElem?_eq_getElem hc]
  rfl
abbrev WOk (n : Nat) (w : List Nat) : Prop := ∀ c ∈ w, c < n
theorem Same.seqT {K : PySem.W.Frag} {H H' : Hp} {a : Addr} {xs : List V} (e : Same H H') (h : SqT K H a xs) : SqT K H' a xs := by
  rcases h with (h | ⟨o, h⟩) | h
  · exact .inl (.inl (e _ _ h))
  · exact .inl (.inr ⟨o, e _ _ h⟩)
  · exact .inr h
theorem Same.upd {H : Hp} {p : Addr} (h : H p = none) (o : HO) : Same H (upd H p o) := fun b u q => by rw [upd_ne (ne_of_none q h)]; exact q
end Pk

namespace Pk
open PySem PySem.Spec L2
open PyProof.Rows hiding St
/-! ### a tuple and the empty tuple -/
theorem op_eqNilT {X : Cx} (hu : X.A.units + 64 < cLine) : OpR X (compareOp .Eq) (fun x y H Q => ∃ a b xs, x = .ref a ∧ y = .ref b ∧ SqT X.K H a xs ∧ SqT X.K H b [] ∧ xs ≠ [] ∧ Q (.bl false) H) := by
  intro pins s σ H x y v u Q I rx ry h
  obtain ⟨a, b, xs, rfl, rfl, ha, hb, hne, q⟩ := h
  cases rx
  cases ry
  obtain ⟨its, rv, hl, _⟩ := I.tuple ha
  obtain ⟨its2, rv2, hl2, _⟩ := I.tuple hb
  cases rv2
  have hlen := rv.length
  have e : ((List.range (min its.toArray.size (List.toArray ([] : List Value)).size)).all (fun _ => true) && its.toArray.size == (List.toArray ([] : List Value)).size) = false := by
    cases xs with
    | nil => exact absurd rfl hne
    | cons z zs =>
      simp at hlen
      cases its with
      | nil => simp at hlen
      | cons a b => simp
  refine SeqAt.eq_tupleAt (e := fun _ => true) hl hl2 (by omega) (fun j h1 h2 => absurd h2 (Nat.not_lt_zero _)) ?_
  rw [e]
  exact ⟨.bl false, H, I, rfl, q⟩
section
variable {P : Program} {w : World} {K : PySem.W.Frag} {mg : Str → Option Value} {base : Heap} {f : Addr} {fd : FuncData}
/-! ### is_int_in -/
def spIsInt : Sp := fun vs H Q _ => ∃ v lo hi : Int, vs = [.int v, .int lo, .int hi] ∧ Q (.bl (decide (lo ≤ v) && decide (v ≤ hi))) H
theorem scIsInt : FnScope ["value", "low", "high"] ["value", "low", "high"] (defScope sIsInt) := ⟨rfl, rfl, rfl, by decide +kernel, rfl, by decide +kernel, by decide +kernel⟩
theorem ok_isInt (F : FnP K "is_int_in" sIsInt f fd) (T : Txt K mg) : FnOk P w K mg base CX0 1 f fd ["value", "low", "high"] spIsInt := by
  refine F.fok scIsInt (fun vs H Q E h => ?_) (fun cdv A outer s H vs Q E hr h => ?_)
  · obtain ⟨_, _, _, rfl, _⟩ := h
    rfl
  · obtain ⟨v, lo, hi, rfl, q⟩ := h
    refine ⟨_, pss_one (ps_ret (pe_and (pe_callB call_isi rfl T.isinstance boot_isinstance (pa_cons (pv 0) (pa_cons (pe_bltn (v := .ty "int") rfl T.int PyProof.Rows.boot_int rfl) pa_nil)))
      (pe_and (pe_not (pe_callB call_isi rfl T.isinstance boot_isinstance (pa_cons (pv 0) (pa_cons (pe_bltn (v := .ty "bool") rfl T.bool PyProof.Rows.boot_bool rfl) pa_nil))))
      (pe_one (pe_chain op_le op_le (pv 1) (pv 0) (pv 2)))))), ?_⟩
    refine ⟨_, rfl, _, _, _, _, true, rfl, .ty "int", .base (.int _), kit_ty (by decide +kernel), true, rfl, iteT ?_⟩
    refine ⟨_, rfl, _, _, _, _, false, rfl, .ty "bool", .base (.int _), kit_ty (by decide +kernel), false, rfl, true, rfl, iteT ?_⟩
    refine ⟨_, rfl, _, rfl, _, _, rfl, rfl, _, rfl, ?_⟩
    refine ite2 (fun c => ?_) (fun c => ?_)
    · refine ⟨_, rfl, _, _, rfl, rfl, ?_⟩
      rw [c, Bool.true_and] at q
      exact q
    · rw [Bool.eq_false_iff.mpr c, Bool.false_and] at q
      exact q
/-! ### check_sizes -/
def spCheckSizes : Sp := fun vs H Q _ => ∃ (a : Addr) (sz : List Nat), vs = [.ref a] ∧ H a = some (.tup (szV sz)) ∧ SzOk sz ∧ ∀ H', Same H H' → Q .non H'
theorem scCheckSizes : FnScope ["sizes", "position", "size"] ["sizes"] (defScope sCheckSizes) := ⟨rfl, rfl, rfl, by decide +kernel, rfl, by decide +kernel, by decide +kernel⟩
theorem ok_checkSizes (F : FnP K "check_sizes" sCheckSizes f fd) (T : Txt K mg) (CI : Cal P w K mg base "is_int_in" 1 ["value", "low", "high"] spIsInt) : FnOk P w K mg base CX0 2 f fd ["sizes"] spCheckSizes := by
  refine F.fok scCheckSizes (fun vs H Q E h => ?_) (fun cdv A outer s H vs Q E hr h => ?_)
  · obtain ⟨_, _, rfl, _⟩ := h
    rfl
  · obtain ⟨a, sz, rfl, ha, hz, q⟩ := h
    obtain ⟨tc, hcol⟩ := T.colors
    obtain ⟨tm, hmax⟩ := T.maxSize
    refine ⟨_, pss_cons (ps_if (PW.pt (pw_or (pt_not (pt_val (pe_callB call_isi rfl T.isinstance boot_isinstance (pa_cons (pv 0) (pa_cons (pe_bltn (v := .ty "tuple") rfl T.tuple PyProof.Rows.boot_tuple rfl) pa_nil)))))
        (pw_or1 (pt_cmpR (op_eqNilT hr.units) (pv 0) (pe_tup pa_nil) (nomark _))))) (pss_one ps_never) pss_nil)
      (pss_one (ps_for PassesOwn.never rfl (pi_enumT rfl T.enumerate (pa_cons (pv 0) pa_nil)) (pg_tup rfl (pgs_cons (pg_name (i := 1) scCheckSizes.nd rfl (.inl rfl)) (pgs_cons (pg_name (i := 2) scCheckSizes.nd rfl (.inl rfl)) pgs_nil)))
        (pss_one (ps_if (PW.pt (pw_or (pt_cmpR op_eq (pv 1) (pe_callB call_len_str rfl T.len boot_len (pa_cons (pe_glob (v := .str "abcdef") rfl hcol ⟨_, rfl⟩) pa_nil)) (nomark _))
          (pw_or1 (pt_not (pt_val (pe_cal CI hr (Nat.le_refl _) rfl (pa_cons (pv 2) (pa_cons pe_int (pa_cons (pe_glob (v := .int 4) rfl hmax ⟨_, rfl⟩) pa_nil))))))))) (pss_one ps_never) pss_nil)))), ?_⟩
    have hne : szV sz ≠ [] := fun e => by
      have := hz.ne
      rw [List.map_eq_nil_iff.mp e] at this
      exact absurd this (by decide)
    refine ⟨_, rfl, _, _, _, _, true, rfl, .ty "tuple", .base (.tup ha), kit_ty (by decide +kernel), true, rfl, iteF ?_⟩
    refine ⟨_, rfl, by decide, fun p hp => ⟨a, p, szV sz, rfl, rfl, .of (Same.upd hp _ _ _ ha), .of upd_same, hne, false, rfl, iteF ?_⟩⟩
    refine ⟨_, rfl, a, szV sz, rfl, .of (Same.upd hp _ _ _ ha), for_it walk_enumT (fun i σ H2 => (∃ u v, σ = [some (.ref a), u, v]) ∧ Same H H2) ⟨⟨none, none, rfl⟩, Same.upd hp _⟩ (fun i σ H2 _ ⟨_, s2⟩ => .of (s2 _ _ ha)) ?_ ?_⟩
    · rintro i x σ H1 H2 hi ⟨⟨u, v, rfl⟩, s1⟩ ⟨T', y, rfl, hn, rfl, hy⟩
      have hi' : i < sz.length := by rw [List.length_map] at hi; exact hi
      rw [List.getElem?_map, List.getElem?_eq_getElem hi'] at hy
      cases hy
      have hm := hz.all _ (List.getElem_mem hi')
      refine ⟨T', _, rfl, .of upd_same, rfl, _, _, rfl, _, _, rfl, rfl, ?_⟩
      refine ⟨_, rfl, _, rfl, by decide, rfl, _, rfl, ?_⟩
      have e1 : decide (V.int (i : Nat) = V.int (("abcdef" : Str).length : Nat)) = false := decide_eq_false fun e => by
        have e2 : ((i : Nat) : Int) = ((("abcdef" : Str).length : Nat) : Int) := by injection e
        have e3 : (("abcdef" : Str).length : Nat) = 6 := by decide
        have := hz.le
        omega
      rw [e1]
      refine iteF ⟨_, rfl, _, 1, 4, rfl, _, rfl, ?_⟩
      have e2 : (decide ((1 : Int) ≤ ((sz[i] : Nat) : Int)) && decide (((sz[i] : Nat) : Int) ≤ 4)) = true := by
        rw [decide_eq_true (by omega), decide_eq_true (by omega)]
        rfl
      rw [e2]
      refine iteF ?_
      exact ⟨⟨_, _, rfl⟩, s1.trans (Same.upd hn _)⟩
    · rintro σ H2 ⟨_, s2⟩
      exact q H2 s2
/-! ### colors_of -/
def spColors : Sp := fun vs H Q _ => ∃ (a : Addr) (sz : List Nat), vs = [.ref a] ∧ H a = some (.tup (szV sz)) ∧ sz.length ≤ 6 ∧ Q (.str (sOf (List.range sz.length))) H
theorem scColors : FnScope ["sizes"] ["sizes"] (defScope sColors) := ⟨rfl, rfl, rfl, by decide +kernel, rfl, by decide +kernel, by decide +kernel⟩
theorem take_six {n : Nat} (h : n ≤ 6) : ([0, 1, 2, 3, 4, 5] : List Nat).take n = List.range n := by
  have : ∀ k, k < 7 → ([0, 1, 2, 3, 4, 5] : List Nat).take k = List.range k := by decide
  exact this n (by omega)
theorem ok_colors (F : FnP K "colors_of" sColors f fd) (T : Txt K mg) : FnOk P w K mg base CX0 1 f fd ["sizes"] spColors := by
  refine F.fok scColors (fun vs H Q E h => ?_) (fun cdv A outer s H vs Q E hr h => ?_)
  · obtain ⟨_, _, rfl, _⟩ := h
    rfl
  · obtain ⟨a, sz, rfl, ha, hz, q⟩ := h
    obtain ⟨tc, hcol⟩ := T.colors
    refine ⟨_, pss_one (ps_ret (pe_slice sl_str (pe_glob (v := .str "abcdef") rfl hcol ⟨_, rfl⟩) po_none (po_some (pe_callB call_len_seq rfl T.len boot_len (pa_cons (pv 0) pa_nil))))), ?_⟩
    refine ⟨_, rfl, a, _, rfl, .inr (.of ha), _, rfl, _, rfl, by decide, ?_⟩
    have e : cutS ("abcdef" : Str) none (some (((szV sz).length : Nat) : Int)) = sOf (List.range sz.length) := by
      rw [colours, cut_to, List.length_map, take_six hz]
    rw [e]
    exact q
/-! ### size_of -/
def spSizeOf : Sp := fun vs H Q _ => ∃ (a : Addr) (sz : List Nat) (c : Nat), vs = [.ref a, .str (one c)] ∧ H a = some (.tup (szV sz)) ∧ c < sz.length ∧ sz.length ≤ 6 ∧ Q (.int (siz sz c : Nat)) H
theorem scSizeOf : FnScope ["sizes", "color"] ["sizes", "color"] (defScope sSizeOf) := ⟨rfl, rfl, rfl, by decide +kernel, rfl, by decide +kernel, by decide +kernel⟩
theorem ok_sizeOf (F : FnP K "size_of" sSizeOf f fd) (T : Txt K mg) : FnOk P w K mg base CX0 1 f fd ["sizes", "color"] spSizeOf := by
  refine F.fok scSizeOf (fun vs H Q E h => ?_) (fun cdv A outer s H vs Q E hr h => ?_)
  · obtain ⟨_, _, _, rfl, _⟩ := h
    rfl
  · obtain ⟨a, sz, c, rfl, ha, hc, hz, q⟩ := h
    obtain ⟨tc, hcol⟩ := T.colors
    refine ⟨_, pss_one (ps_ret (pe_ix ix_tup (pv 0) (pe_m1 PySem.F.slot_str_index PySem.F.type_str_index mt_sindex (pe_glob (v := .str "abcdef") rfl hcol ⟨_, rfl⟩) (pv 1)) (fun _ _ => rfl))), ?_⟩
    refine ⟨_, rfl, ⟨_, rfl⟩, _, rfl, _, _, c, [], rfl, rfl, occ_colour c (by omega), a, szV sz, _, _, rfl, rfl, .of ha, atI_nat (SzOk.at hc), q⟩
/-! ### check_row -/
def spCheckRow : Sp := fun vs H Q _ => ∃ (a : Addr) (sz wd : List Nat), vs = [.ref a, .str (sOf wd)] ∧ H a = some (.tup (szV sz)) ∧ sz.length ≤ 6 ∧ WOk sz.length wd ∧ wd.length ≤ 40 ∧ ∀ H', Same H H' → Q .non H'
theorem scCheckRow : FnScope ["sizes", "row", "position", "bead"] ["sizes", "row"] (defScope sCheckRow) := ⟨rfl, rfl, rfl, by decide +kernel, rfl, by decide +kernel, by decide +kernel⟩
theorem ok_checkRow (F : FnP K "check_row" sCheckRow f fd) (T : Txt K mg) (CC : Cal P w K mg base "colors_of" 1 ["sizes"] spColors) : FnOk P w K mg base CX0 2 f fd ["sizes", "row"] spCheckRow := by
  refine F.fok scCheckRow (fun vs H Q E h => ?_) (fun cdv A outer s H vs Q E hr h => ?_)
  · obtain ⟨_, _, _, rfl, _⟩ := h
    rfl
  · obtain ⟨a, sz, wd, rfl, ha, hz, hw, hl, q⟩ := h
    obtain ⟨tm, hmax⟩ := T.maxBeads
    refine ⟨_, pss_cons (ps_if (pt_not (pt_val (pe_callB call_isi rfl T.isinstance boot_isinstance (pa_cons (pv 1) (pa_cons (pe_bltn (v := .ty "str") rfl T.str PyProof.Rows.boot_str rfl) pa_nil))))) (pss_one ps_never) pss_nil)
      (pss_one (ps_for PassesOwn.never rfl (pi_enumS rfl T.enumerate (pa_cons (pv 1) pa_nil)) (pg_tup rfl (pgs_cons (pg_name (i := 2) scCheckRow.nd rfl (.inl rfl)) (pgs_cons (pg_name (i := 3) scCheckRow.nd rfl (.inl rfl)) pgs_nil)))
        (pss_one (ps_if (PW.pt (pw_or (pt_cmpR op_eq (pv 2) (pe_glob (v := .int 40) rfl hmax ⟨_, rfl⟩) (nomark _))
          (pw_or1 (pt_cmpR op_notIn_sign (pv 3) (pe_cal CC hr (Nat.le_refl _) rfl (pa_cons (pv 0) pa_nil)) rfl)))) (pss_one ps_never) pss_nil)))), ?_⟩
    refine ⟨_, rfl, _, _, _, _, true, rfl, .ty "str", .base (.str _), kit_ty (by decide +kernel), true, rfl, iteF ?_⟩
    refine ⟨_, rfl, _, rfl, for_it walk_enumS (fun i σ H2 => (∃ u v, σ = [some (.ref a), some (.str (sOf wd)), u, v]) ∧ Same H H2) ⟨⟨none, none, rfl⟩, Same.refl _⟩ (fun i σ H2 _ _ => trivial) ?_ ?_⟩
    · rintro i x σ H1 H2 hi ⟨⟨u, v, rfl⟩, s1⟩ ⟨T', c, rfl, hn, rfl, hc⟩
      rw [sOf_size] at hi
      rw [sOf_at, List.getElem?_eq_getElem hi] at hc
      cases hc
      refine ⟨T', _, rfl, .of upd_same, rfl, _, _, rfl, _, _, rfl, rfl, ?_⟩
      refine ⟨_, rfl, rfl, _, rfl, ?_⟩
      have e1 : decide (V.int (i : Nat) = V.int 40) = false := decide_eq_false fun e => by
        have e2 : ((i : Nat) : Int) = 40 := by injection e
        omega
      rw [e1]
      refine iteF ⟨_, rfl, _, rfl, a, sz, rfl, (s1.trans (Same.upd hn _)) _ _ ha, hz, _, _, rfl, rfl, _, rfl, ?_⟩
      have e2 : decide (wd[i] + 97 ∈ (sOf (List.range sz.length)).cps.toList) = true := by
        rw [mem_sOf]
        exact decide_eq_true (List.mem_range.mpr (hw _ (List.getElem_mem hi)))
      have e3 : (!decide (wd[i] + 97 ∈ (sOf (List.range sz.length)).cps.toList)) = false := by rw [e2]; rfl
      refine Eq.mpr (congrArg (fun b : Bool => if b = true then _ else _) e3) (iteF ?_)
      exact ⟨⟨_, _, rfl⟩, s1.trans (Same.upd hn _)⟩
    · rintro σ H2 ⟨_, s2⟩
      exact q H2 s2
/-! ### check_short -/
def spCheckShort : Sp := fun vs H Q _ => ∃ wd : List Nat, vs = [.str (sOf wd)] ∧ wd.length ≤ 12 ∧ Q .non H
theorem scCheckShort : FnScope ["row"] ["row"] (defScope sCheckShort) := ⟨rfl, rfl, rfl, by decide +kernel, rfl, by decide +kernel, by decide +kernel⟩
theorem ok_checkShort (F : FnP K "check_short" sCheckShort f fd) (T : Txt K mg) : FnOk P w K mg base CX0 1 f fd ["row"] spCheckShort := by
  refine F.fok scCheckShort (fun vs H Q E h => ?_) (fun cdv A outer s H vs Q E hr h => ?_)
  · obtain ⟨_, rfl, _⟩ := h
    rfl
  · obtain ⟨wd, rfl, hl, q⟩ := h
    obtain ⟨tm, hmax⟩ := T.maxShort
    refine ⟨_, pss_one (ps_if (pt_cmpR op_gt (pe_callB call_len_str rfl T.len boot_len (pa_cons (pv 0) pa_nil)) (pe_glob (v := .int 12) rfl hmax ⟨_, rfl⟩) (nomark _)) (pss_one ps_never) pss_nil), ?_⟩
    refine ⟨_, rfl, _, rfl, by rw [sOf_len, sizeLine_eq]; omega, _, _, rfl, rfl, _, rfl, ?_⟩
    rw [sOf_len, decide_eq_false (by omega)]
    exact iteF q
end
end Pk

namespace Pk
open PySem PySem.Spec L2
open PyProof.Rows hiding St
/-- a statement, then the rest from what holds between -/
def tMid (t u : TS) : TS := fun D σ H => ∃ Mid : L2.St → Hp → Prop, t { D with nx := Mid } σ H ∧ ∀ σ' H', Mid σ' H' → u D σ' H'
theorem pss_mid {X : Cx} {st : Stmt} {rest : List Stmt} {t u : TS} (h1 : PS X st t) (h2 : PSs X rest u) : PSs X (st :: rest) (tMid t u) := by
  refine ⟨fun pins s σ H D I h => ?_⟩
  obtain ⟨Mid, h, k⟩ := h
  refine wpAny_execs_cons (thn (h1.run pins s σ H { D with nx := Mid } I h) fun f s1 q => ?_)
  cases f with
  | next =>
    obtain ⟨σ', H', I', q⟩ := q
    exact h2.run pins s1 σ' H' D I' (k σ' H' q)
  | ret v => exact q
  | brk => exact q
  | cont => exact q
section
variable {P : Program} {w : World} {K : PySem.W.Frag} {mg : Str → Option Value} {base : Heap} {f : Addr} {fd : FuncData}
/-! ### tally -/
def spTally : Sp := fun vs H Q _ => ∃ (a : Addr) (sz wd : List Nat), vs = [.ref a, .str (sOf wd)] ∧ H a = some (.tup (szV sz)) ∧ sz.length ≤ 6 ∧ ∀ p H', Same H H' → H p = none → H' p = some (.tup (szV (tal sz.length wd))) → Q (.ref p) H'
theorem scTally : FnScope ["sizes", "row", "color"] ["sizes", "row"] (defScope sTally) := ⟨rfl, rfl, rfl, by decide +kernel, rfl, by decide +kernel, by decide +kernel⟩
theorem ok_tally (F : FnP K "tally" sTally f fd) (T : Txt K mg) (CC : Cal P w K mg base "colors_of" 1 ["sizes"] spColors) : FnOk P w K mg base CX0 2 f fd ["sizes", "row"] spTally := by
  refine F.fok scTally (fun vs H Q E h => ?_) (fun cdv A outer s H vs Q E hr h => ?_)
  · obtain ⟨_, _, _, rfl, _⟩ := h
    rfl
  · obtain ⟨a, sz, wd, rfl, ha, hz, q⟩ := h
    refine ⟨_, pss_one (ps_ret (pe_callTy call_tuple_of rfl T.tuple PyProof.Rows.boot_tuple (pa_cons (pe_lc (own := [("color", 2)]) (g := gName 2) (tt := tYes) rfl scTally.nd (pi_str (pe_cal CC hr (Nat.le_refl _) rfl (pa_cons (pv 0) pa_nil)))
      (blkOk_by (N := ["sizes", "row", "color"]) (sc := defScope sTally) (by decide +kernel)) (fun _ _ _ _ _ => pg_name (i := 2) scTally.nd rfl (Or.inl rfl)) (fun _ _ _ _ _ => pts_nil)
      (fun _ _ _ _ _ => pe_m1 PySem.F.slot_str_count PySem.F.type_str_count mt_count (pv 1) (pv 2))) pa_nil))), ?_⟩
    refine ⟨_, rfl, a, sz, rfl, ha, hz, _, rfl, fun D hD => lc_it walk_str (fun i H2 => Same H H2 ∧ H2 D = some (.lst (szV ((tal sz.length wd).take i)))) ⟨Same.upd hD _, upd_same⟩ (fun i H2 _ _ => trivial) ?_ ?_⟩
    · rintro i x H1 H2 hi ⟨s1, hD1⟩ ⟨rfl, c, hc, rfl⟩
      rw [sOf_size, List.length_range] at hi
      rw [sOf_at, List.getElem?_range hi] at hc
      cases hc
      refine ⟨rfl, _, rfl, ⟨_, rfl⟩, _, rfl, _, _, rfl, rfl, _, hD1, ?_, ?_, ?_⟩
      · rw [List.length_map, List.length_take, length_tal, sizeLine_eq]
        omega
      · exact fun b o e => by rw [upd_ne (ne_of_none e hD)]; exact s1 b o e
      · rw [upd_same]
        have e1 : (tal sz.length wd).take (i + 1) = (tal sz.length wd).take i ++ [wd.count i] := by
          rw [List.take_succ]
          congr 1
          simp [tal, hi]
        rw [e1]
        unfold szV
        rw [List.map_append]
        show some (HO.lst (_ ++ [V.int (Txt.count (sOf wd) (one i))])) = _
        rw [count_sOf]
        rfl
    · rintro H2 ⟨s2, hD2⟩
      rw [sOf_size, List.length_range, List.take_of_length_le (by rw [length_tal]; exact Nat.le_refl _)] at hD2
      refine ⟨D, _, rfl, .inl ⟨.of hD2, fun l hl => ?_⟩⟩
      exact q l _ (s2.trans (Same.upd hl _)) (s2.free hl) upd_same
/-! ### split_runs -/
/-- a run as it stands: its pair, its list of positions, its colour, the positions -/
structure Run where
  t : Addr
  l : Addr
  c : Nat
  ps : List Nat
abbrev natV (l : List Nat) : List V := l.map fun k => V.int (k : Nat)
def RunAt (H : Hp) (e : Run) : Prop := H e.t = some (.tup [.str (one e.c), .ref e.l]) ∧ H e.l = some (.lst (natV e.ps))
abbrev RunsAt (H : Hp) (es : List Run) : Prop := ∀ e ∈ es, RunAt H e
def stkOf (es : List Run) : Stk := es.reverse.map fun e => (e.c, e.ps.length)
theorem stkOf_snoc (es : List Run) (e : Run) : stkOf (es ++ [e]) = (e.c, e.ps.length) :: stkOf es := by
  unfold stkOf
  rw [List.reverse_append, List.map_append]
  rfl
theorem word_stkOf (es : List Run) : word (stkOf es) = (es.map fun e => List.replicate e.ps.length e.c).flatten := by
  have : ∀ l : List Run, word (l.map fun e => (e.c, e.ps.length)) = (l.reverse.map fun e => List.replicate e.ps.length e.c).flatten := by
    intro l
    induction l with
    | nil => rfl
    | cons e l ih =>
      rw [List.map_cons, word_cons, ih, List.reverse_cons, List.map_append, List.flatten_append]
      simp
  unfold stkOf
  rw [this, List.reverse_reverse]
theorem inv_stkOf (sz : List Nat) (es : List Run) : inv sz (stkOf es) = (es.reverse.map fun e => List.replicate (siz sz e.c - e.ps.length) e.c).flatten := by
  unfold stkOf
  have : ∀ l : List Run, inv sz (l.map fun e => (e.c, e.ps.length)) = (l.map fun e => List.replicate (siz sz e.c - e.ps.length) e.c).flatten := by
    intro l
    induction l with
    | nil => rfl
    | cons e l ih =>
      rw [List.map_cons, List.map_cons, List.flatten_cons, ← ih]
      rfl
  exact this _
theorem val_mem {sz : List Nat} : ∀ {s : Stk}, Val sz s → ∀ p ∈ s, 1 ≤ p.2 ∧ p.2 < siz sz p.1
  | [], _, p, h => by cases h
  | (c, k) :: r, ⟨h1, h2, _, h4⟩, p, h => by
    rcases List.mem_cons.mp h with rfl | h
    · exact ⟨h1, h2⟩
    · exact val_mem h4 p h
theorem run_val {sz : List Nat} {es : List Run} (h : Val sz (stkOf es)) {e : Run} (he : e ∈ es) : 1 ≤ e.ps.length ∧ e.ps.length < siz sz e.c :=
  val_mem h (e.c, e.ps.length) (List.mem_map.mpr ⟨e, List.mem_reverse.mpr he, rfl⟩)
theorem run_lt {n : Nat} {sz wd : List Nat} {es : List Run} (hw : WOk n wd) (h : stkOf es = act sz wd []) (hv : Val sz (stkOf es)) {e : Run} (he : e ∈ es) : e.c < n := by
  have h1 := lt_red (sz := sz) hw
  unfold red at h1
  rw [← h, word_stkOf] at h1
  refine h1 e.c (List.mem_flatten.mpr ⟨_, List.mem_map.mpr ⟨e, he, rfl⟩, ?_⟩)
  have := (run_val hv he).1
  exact List.mem_replicate.mpr ⟨by omega, rfl⟩
def spSplit : Sp := fun vs H Q _ => ∃ (a : Addr) (sz wd : List Nat), vs = [.ref a, .str (sOf wd)] ∧ H a = some (.tup (szV sz)) ∧ SzOk sz ∧ WOk sz.length wd ∧ wd.length ≤ 1000 ∧
  ∀ (p S N : Addr) (es : List Run) (H' : Hp), Same H H' → H p = none → H' p = some (.tup [.ref S, .ref N]) → H' S = some (.lst (es.map fun e => V.ref e.t)) → RunsAt H' es → stkOf es = act sz wd [] → es.length ≤ 1000 → Q (.ref p) H'
theorem scSplit : FnScope ["sizes", "row", "stack", "pack_numbers", "total", "position", "bead", "color", "positions", "member"] ["sizes", "row"] (defScope sSplit) := ⟨rfl, rfl, rfl, by decide +kernel, rfl, by decide +kernel, by decide +kernel⟩
/-- the heap between two turns -/
structure SplitAt (H0 H : Hp) (S N : Addr) (es : List Run) (n : Nat) : Prop where
  same : Same H0 H
  s0 : H0 S = none
  n0 : H0 N = none
  l0 : ∀ e ∈ es, H0 e.l = none
  st : H S = some (.lst (es.map fun e => V.ref e.t))
  pn : ∃ xs, H N = some (.lst xs) ∧ xs.length = n
  runs : RunsAt H es
  nd : (S :: N :: es.map (·.l)).Nodup
  lt : ∀ e ∈ es, ∀ p ∈ e.ps, p < n
theorem SplitAt.grow {H0 H H' : Hp} {S N : Addr} {es : List Run} {n : Nat} (x : SplitAt H0 H S N es n) (s : Same H H') : SplitAt H0 H' S N es n :=
  ⟨x.same.trans s, x.s0, x.n0, x.l0, s _ _ x.st, let ⟨xs, h1, h2⟩ := x.pn; ⟨xs, s _ _ h1, h2⟩, fun e he => ⟨s _ _ (x.runs e he).1, s _ _ (x.runs e he).2⟩, x.nd, x.lt⟩
theorem same_put {H0 H : Hp} {p : Addr} (s : Same H0 H) (h : H0 p = none) (o : HO) : Same H0 (upd H p o) := fun b u e => by
  rw [upd_ne (ne_of_none e h)]
  exact s b u e
/-- a new run is pushed -/
theorem SplitAt.push {H0 H : Hp} {S N : Addr} {es : List Run} {n : Nat} (x : SplitAt H0 H S N es n) {t l : Addr} {c : Nat} (ht : H t = some (.tup [.str (one c), .ref l])) (hl : H l = some (.lst [])) (hl0 : H0 l = none) (hn : l ≠ S ∧ l ≠ N ∧ ∀ e ∈ es, l ≠ e.l) :
    SplitAt H0 (upd H S (.lst ((es.map fun e => V.ref e.t) ++ [.ref t]))) S N (es ++ [⟨t, l, c, []⟩]) n := by
  have nd := x.nd
  rw [List.nodup_cons, List.nodup_cons] at nd
  obtain ⟨nd1, nd2, nd3⟩ := nd
  have hSt : t ≠ S := fun e => by rw [e, x.st] at ht; cases ht
  have hSN : N ≠ S := fun e => nd1 (by rw [← e]; exact List.mem_cons_self)
  have hSl : ∀ e ∈ es, e.l ≠ S := fun e he q => nd1 (List.mem_cons_of_mem _ (by rw [← q]; exact List.mem_map.mpr ⟨e, he, rfl⟩))
  refine ⟨same_put x.same x.s0 _, x.s0, x.n0, fun e he => ?_, ?_, ?_, fun e he => ?_, ?_, fun e he p hp => ?_⟩
  · rcases List.mem_append.mp he with he | he
    · exact x.l0 e he
    · rw [List.mem_singleton.mp he]; exact hl0
  · rw [upd_same, List.map_append]; rfl
  · obtain ⟨xs, h1, h2⟩ := x.pn
    exact ⟨xs, by rw [upd_ne hSN]; exact h1, h2⟩
  · rcases List.mem_append.mp he with he | he
    · obtain ⟨h1, h2⟩ := x.runs e he
      have hts : e.t ≠ S := fun q => by rw [q, x.st] at h1; cases h1
      exact ⟨by rw [upd_ne hts]; exact h1, by rw [upd_ne (hSl e he)]; exact h2⟩
    · rw [List.mem_singleton.mp he]
      exact ⟨by rw [upd_ne hSt]; exact ht, by rw [upd_ne hn.1]; exact hl⟩
  · rw [List.map_append, List.nodup_cons, List.nodup_cons]
    refine ⟨fun q => ?_, fun q => ?_, ?_⟩
    · rcases List.mem_cons.mp q with q | q
      · exact hSN q.symm
      · rcases List.mem_append.mp q with q | q
        · exact nd1 (List.mem_cons_of_mem _ q)
        · exact hn.1 (List.mem_singleton.mp q).symm
    · rcases List.mem_append.mp q with q | q
      · exact nd2 q
      · exact hn.2.1 (List.mem_singleton.mp q).symm
    · rw [List.nodup_append]
      refine ⟨nd3, by simp, fun a ha b hb => ?_⟩
      obtain ⟨e, he, rfl⟩ := List.mem_map.mp ha
      rw [List.mem_singleton.mp hb]
      exact (hn.2.2 e he).symm
  · rcases List.mem_append.mp he with he | he
    · exact x.lt e he p hp
    · rw [List.mem_singleton.mp he] at hp
      cases hp
/-- the top run grows -/
theorem SplitAt.bump {H0 H : Hp} {S N : Addr} {es : List Run} {e : Run} {n i : Nat} (x : SplitAt H0 H S N (es ++ [e]) n) (hi : i < n) :
    SplitAt H0 (upd H e.l (.lst (natV e.ps ++ [V.int (i : Nat)]))) S N (es ++ [⟨e.t, e.l, e.c, e.ps ++ [i]⟩]) n := by
  have nd := x.nd
  rw [List.map_append, List.nodup_cons, List.nodup_cons, List.nodup_append] at nd
  obtain ⟨nd1, nd2, nd3, _, nd4⟩ := nd
  have he : e ∈ es ++ [e] := by simp
  obtain ⟨ht, hl⟩ := x.runs e he
  have hS : S ≠ e.l := fun q => nd1 (by rw [q]; simp)
  have hN : N ≠ e.l := fun q => nd2 (by rw [q]; simp)
  have hl4 : ∀ g ∈ es, g.l ≠ e.l := fun g hg => nd4 g.l (List.mem_map.mpr ⟨g, hg, rfl⟩) e.l (by simp)
  have htn : ∀ g : Run, RunAt H g → g.t ≠ e.l := fun g hg q => by
    have := hg.1
    rw [q, hl] at this
    cases this
  refine ⟨same_put x.same (x.l0 e he) _, x.s0, x.n0, fun g hg => ?_, ?_, ?_, fun g hg => ?_, ?_, fun g hg p hp => ?_⟩
  · rcases List.mem_append.mp hg with hg | hg
    · exact x.l0 g (List.mem_append_left _ hg)
    · rw [List.mem_singleton.mp hg]; exact x.l0 e he
  · rw [upd_ne hS, x.st, List.map_append, List.map_append]; rfl
  · obtain ⟨xs, h1, h2⟩ := x.pn
    exact ⟨xs, by rw [upd_ne hN]; exact h1, h2⟩
  · rcases List.mem_append.mp hg with hg | hg
    · have hr := x.runs g (List.mem_append_left _ hg)
      exact ⟨by rw [upd_ne (htn g hr)]; exact hr.1, by rw [upd_ne (hl4 g hg)]; exact hr.2⟩
    · rw [List.mem_singleton.mp hg]
      refine ⟨by rw [upd_ne (htn e ⟨ht, hl⟩)]; exact ht, ?_⟩
      show upd H e.l _ e.l = _
      rw [upd_same]
      show _ = some (HO.lst (natV (e.ps ++ [i])))
      unfold natV
      rw [List.map_append]
      rfl
  · have := x.nd
    rw [List.map_append] at this ⊢
    exact this
  · rcases List.mem_append.mp hg with hg | hg
    · exact x.lt g (List.mem_append_left _ hg) p hp
    · rw [List.mem_singleton.mp hg] at hp
      rcases List.mem_append.mp hp with hp | hp
      · exact x.lt e he p hp
      · rw [List.mem_singleton.mp hp]; exact hi
/-- the top run is taken off -/
theorem SplitAt.drop {H0 H : Hp} {S N : Addr} {es : List Run} {e : Run} {n : Nat} (x : SplitAt H0 H S N (es ++ [e]) n) : SplitAt H0 (upd H S (.lst (es.map fun e => V.ref e.t))) S N es n := by
  have nd := x.nd
  rw [List.map_append, List.nodup_cons, List.nodup_cons, List.nodup_append] at nd
  obtain ⟨nd1, nd2, nd3, _, nd4⟩ := nd
  have hSN : N ≠ S := fun q => nd1 (by rw [← q]; simp)
  refine ⟨same_put x.same x.s0 _, x.s0, x.n0, fun g hg => x.l0 g (List.mem_append_left _ hg), upd_same, ?_, fun g hg => ?_, ?_, fun g hg => x.lt g (List.mem_append_left _ hg)⟩
  · obtain ⟨xs, h1, h2⟩ := x.pn
    exact ⟨xs, by rw [upd_ne hSN]; exact h1, h2⟩
  · have hr := x.runs g (List.mem_append_left _ hg)
    refine ⟨?_, ?_⟩
    · rw [upd_ne (fun q => by have := hr.1; rw [q, x.st] at this; cases this)]; exact hr.1
    · rw [upd_ne (fun q => nd1 (List.mem_cons_of_mem _ (List.mem_append_left _ (by rw [← q]; exact List.mem_map.mpr ⟨g, hg, rfl⟩))))]; exact hr.2
  · rw [List.nodup_cons, List.nodup_cons]
    refine ⟨fun q => nd1 ?_, fun q => nd2 (List.mem_append_left _ q), nd3⟩
    rcases List.mem_cons.mp q with q | q
    · rw [q]; exact List.mem_cons_self
    · exact List.mem_cons_of_mem _ (List.mem_append_left _ q)
/-- the packs' numbers change -/
theorem SplitAt.mark {H0 H H' : Hp} {S N : Addr} {es : List Run} {n : Nat} (x : SplitAt H0 H S N es n) (hk : ∀ b, b ≠ N → H' b = H b) (hN : ∃ xs, H' N = some (.lst xs) ∧ xs.length = n) : SplitAt H0 H' S N es n := by
  have nd := x.nd
  rw [List.nodup_cons, List.nodup_cons] at nd
  obtain ⟨nd1, nd2, nd3⟩ := nd
  have hSN : S ≠ N := fun q => nd1 (by rw [q]; exact List.mem_cons_self)
  obtain ⟨ys, hy, _⟩ := x.pn
  refine ⟨fun b o e => ?_, x.s0, x.n0, x.l0, by rw [hk S hSN]; exact x.st, hN, fun g hg => ⟨?_, ?_⟩, x.nd, x.lt⟩
  · rw [hk b (ne_of_none e x.n0)]; exact x.same b o e
  · rw [hk _ (fun q => by have := (x.runs g hg).1; rw [q, hy] at this; cases this)]; exact (x.runs g hg).1
  · rw [hk _ (fun q => nd2 (by rw [← q]; exact List.mem_map.mpr ⟨g, hg, rfl⟩))]; exact (x.runs g hg).2
end
end Pk

namespace Pk
open PySem PySem.Spec L2
open PyProof.Rows hiding St
section
variable {P : Program} {w : World} {K : PySem.W.Frag} {mg : Str → Option Value} {base : Heap} {f : Addr} {fd : FuncData}
theorem push_new {sz : List Nat} {c : Nat} {s : Stk} (h : Top c s) : push sz c s = if ([] : List Nat).length + 1 = siz sz c then s else (c, ([] : List Nat).length + 1) :: s := by
  rw [push_top h]
  by_cases e : siz sz c = 1
  · rw [if_pos e, if_pos (show ([] : List Nat).length + 1 = siz sz c from e.symm)]
  · rw [if_neg e, if_neg (fun q : ([] : List Nat).length + 1 = siz sz c => e q.symm)]
    rfl
theorem two_fits : 2 ≤ sizeLine := by decide
/-- between the two halves of a turn -/
def SplitMid (H0 : Hp) (a S N : Addr) (sz wd : List Nat) (i c : Nat) (es : List Run) (u7 u8 u9 : Option V) (tot : Int) (σ : L2.St) (H : Hp) : Prop :=
  σ = [some (.ref a), some (.str (sOf wd)), some (.ref S), some (.ref N), some (.int tot), some (.int (i : Nat)), some (.str (one c)), u7, u8, u9] ∧
  ∃ pre e, SplitAt H0 H S N (pre ++ [e]) wd.length ∧ e.c = c ∧ push sz c (stkOf es) = (if e.ps.length + 1 = siz sz c then stkOf pre else (c, e.ps.length + 1) :: stkOf pre) ∧ pre.length ≤ i ∧ e.ps.length ≤ 4
theorem ok_split (F : FnP K "split_runs" sSplit f fd) (T : Txt K mg) (CS : Cal P w K mg base "size_of" 1 ["sizes", "color"] spSizeOf) : FnOk P w K mg base CX0 2 f fd ["sizes", "row"] spSplit := by
  refine F.fok scSplit (fun vs H Q E h => ?_) (fun cdv A outer s H vs Q E hr h => ?_)
  · obtain ⟨_, _, _, rfl, _⟩ := h
    rfl
  · obtain ⟨a, sz, wd, rfl, ha, hz, hw, hl, q⟩ := h
    have hu := hr.units
    have nd := scSplit.nd
    refine ⟨_, pss_cons (ps_par3 (i := 2) (j := 3) (l := 4) rfl nd rfl rfl rfl (by decide) (by decide) (by decide) rfl rfl rfl
        (pa_cons (pe_lst pa_nil) (pa_cons (pe_op op_rep (pe_lst (pa_cons pe_non pa_nil)) (pe_callB call_len_str rfl T.len boot_len (pa_cons (pv 1) pa_nil))) (pa_cons pe_int pa_nil))) rfl)
      (pss_cons (ps_for PassesOwn.never rfl (pi_enumS rfl T.enumerate (pa_cons (pv 1) pa_nil)) (pg_tup rfl (pgs_cons (pg_name (i := 5) nd rfl (.inl rfl)) (pgs_cons (pg_name (i := 6) nd rfl (.inl rfl)) pgs_nil)))
        (pss_mid (ps_if (PW.pt (pw_or (pt_cmpR (op_eqNil hu) (pv 2) (pe_lst pa_nil) (nomark _)) (pw_or1 (pt_cmpR op_ne (pe_ix ix_tup (pe_ix ix_list (pv 2) (pe_un un_neg pe_int) (fun _ _ => rfl)) pe_int (fun _ _ => rfl)) (pv 6) (nomark _)))))
            (pss_one (ps_expr (pe_bm PySem.F.plainAttrs_list PySem.F.slot_list_append PySem.F.type_list_append mt_append (pv 2) (pa_cons (pe_tup (pa_cons (pv 6) (pa_cons (pe_lst pa_nil) pa_nil))) pa_nil)))) pss_nil)
        (pss_cons (ps_expr (pe_bm PySem.F.plainAttrs_list PySem.F.slot_list_append PySem.F.type_list_append mt_append (pe_ix ix_tup (pe_ix ix_list (pv 2) (pe_un un_neg pe_int) (fun _ _ => rfl)) pe_int (fun _ _ => rfl)) (pa_cons (pv 5) pa_nil)))
        (pss_one (ps_if (pt_cmpR op_eq (pe_callB call_len_seq rfl T.len boot_len (pa_cons (pe_ix ix_tup (pe_ix ix_list (pv 2) (pe_un un_neg pe_int) (fun _ _ => rfl)) pe_int (fun _ _ => rfl)) pa_nil))
              (pe_cal CS hr (Nat.le_refl _) rfl (pa_cons (pv 0) (pa_cons (pv 6) pa_nil))) (nomark _))
          (pss_cons (ps_asg (pe_bm0 PySem.F.plainAttrs_list PySem.F.slot_list_pop PySem.F.type_list_pop mt_pop (pv 2)) (pg_tup rfl (pgs_cons (pg_name (i := 7) nd rfl (.inl rfl)) (pgs_cons (pg_name (i := 8) nd rfl (.inl rfl)) pgs_nil))))
          (pss_cons (ps_for PassesOwn.never rfl (pi_list (pv 8)) (pg_name (i := 9) nd rfl (.inl rfl)) (pss_one (ps_asg (pv 4) (pg_sub (pv 3) (pv 9) set_list))))
          (pss_one (ps_aug (i := 4) nd rfl (.inl rfl) pe_int ip_add)))) pss_nil)))))
      (pss_one (ps_ret (pe_tup (pa_cons (pv 2) (pa_cons (pv 3) pa_nil)))))), ?_⟩
    -- stack, pack_numbers, total
    refine ⟨by decide, fun S hS => ⟨by decide, fun L hL => ⟨_, rfl, _, rfl, by rw [sOf_len, sizeLine_eq]; omega, L, _, _, rfl, rfl, upd_same, by omega, by rw [sOf_len]; omega, by rw [sOf_len, sizeLine_eq]; simp; omega, fun N hN => ⟨_, _, _, rfl, ?_⟩⟩⟩⟩
    have hSN : S ≠ N := fun e => by
      rw [← e, upd_ne (fun q => by rw [← q, upd_same] at hL; cases hL), upd_same] at hN
      cases hN
    have hLS : L ≠ S := fun e => by rw [e, upd_same] at hL; cases hL
    have hLN : L ≠ N := fun e => by rw [← e, upd_same] at hN; cases hN
    have hN0 : H N = none := by
      rw [upd_ne hLN.symm, upd_ne hSN.symm] at hN
      exact hN
    have hL0 : H L = none := by
      rw [upd_ne hLS] at hL
      exact hL
    have hrep : (List.replicate ((sOf wd).length : Int).toNat [V.non]).flatten = List.replicate wd.length V.non := by
      rw [sOf_len, Int.toNat_natCast]
      induction wd.length with
      | zero => rfl
      | succ n ih => rw [List.replicate_succ, List.flatten_cons, ih]; rfl
    have start : SplitAt H (upd (upd (upd H S (.lst [])) L (.lst [V.non])) N (.lst (List.replicate ((sOf wd).length : Int).toNat [V.non]).flatten)) S N [] wd.length := by
      refine ⟨?_, hS, hN0, fun e he => (by cases he), ?_, ⟨_, upd_same, by rw [hrep, List.length_replicate]⟩, fun e he => (by cases he), ?_, fun e he => (by cases he)⟩
      · exact same_put (same_put (same_put (L2.Same.refl H) hS _) hL0 _) hN0 _
      · rw [upd_ne hSN, upd_ne hLS.symm, upd_same]; rfl
      · simp [hSN]
    -- the loop
    refine ⟨_, rfl, _, rfl, for_it walk_enumS (fun i σ H2 => ∃ es u5 u6 u7 u8 u9 tot, σ = [some (.ref a), some (.str (sOf wd)), some (.ref S), some (.ref N), some (.int tot), u5, u6, u7, u8, u9] ∧ SplitAt H H2 S N es wd.length ∧ stkOf es = act sz (wd.take i) [] ∧ es.length ≤ i)
      ⟨[], none, none, none, none, none, 0, rfl, start, rfl, Nat.le_refl _⟩ (fun i σ H2 _ _ => trivial) ?_ ?_⟩
    · rintro i x σ H1 H2 hi ⟨es, u5, u6, u7, u8, u9, tot, rfl, sp, hst, hle⟩ ⟨T', cc, rfl, hT, rfl, hcc⟩
      rw [sOf_size] at hi
      rw [sOf_at, List.getElem?_eq_getElem hi] at hcc
      obtain rfl : cc = wd[i] + 97 := (Option.some.inj hcc).symm
      have hc : wd[i] < sz.length := hw _ (List.getElem_mem hi)
      have hval : Val sz (stkOf es) := by rw [hst]; exact val_act hz.pos _ val_nil
      have sp1 := sp.grow (Same.upd hT (.tup [.int (i : Nat), .str (one wd[i])]))
      have htake : wd.take (i + 1) = wd.take i ++ [wd[i]] := by
        rw [List.take_succ, List.getElem?_eq_getElem hi]
        rfl
      refine ⟨T', _, rfl, .of upd_same, rfl, _, _, rfl, _, _, rfl, rfl, SplitMid H a S N sz wd i wd[i] es u7 u8 u9 tot, ?_, ?_⟩
      · -- stack == [] or stack[-1][0] != bead
        refine ⟨_, rfl, by decide, fun p hp => ⟨S, p, _, rfl, rfl, .of (Same.upd hp _ _ _ sp1.st), .of upd_same, _, rfl, ?_⟩⟩
        have sp2 := sp1.grow (Same.upd hp (.lst []))
        rcases List.eq_nil_or_concat es with e | ⟨pre, r, e⟩
        · subst e
          refine iteT (iteT ?_)
          refine ⟨_, rfl, .inl ⟨rfl, _, .of sp2.st⟩, _, rfl, by decide, fun l hl => ⟨two_fits, fun t ht => ?_⟩⟩
          have sp3 := (sp2.grow (Same.upd hl (.lst []))).grow (Same.upd ht (.tup [.str (one wd[i]), .ref l]))
          refine ⟨S, _, _, rfl, rfl, sp3.st, by decide, rfl, [], ⟨t, l, wd[i], []⟩, ?_, rfl, ?_, Nat.zero_le _, Nat.zero_le _⟩
          · refine sp3.push upd_same ?_ (sp2.same.free hl) ⟨ne_of_none sp2.st hl |>.symm, ?_, fun e he => (by cases he)⟩
            · rw [upd_ne (fun q => by rw [← q, upd_same] at ht; cases ht), upd_same]
            · obtain ⟨xs, hx, _⟩ := sp2.pn
              exact (ne_of_none hx hl).symm
          · exact push_new (s := stkOf []) (fun p h => by cases (show (none : Option (Nat × Nat)) = some p from h))
        · rw [List.concat_eq_append] at e
          subst e
          have hr0 := sp2.runs r (by simp)
          have hrv := run_val hval (e := r) (by simp)
          have hnil : ((pre ++ [r]).map fun e => V.ref e.t).isEmpty = false := by simp
          have h4 := hz.siz4 r.c
          refine Eq.mpr (congrArg (fun b : Bool => if b = true then _ else _) hnil) (iteF ?_)
          refine ⟨_, rfl, 1, rfl, S, _, _, _, rfl, rfl, .of sp2.st, by rw [List.map_append]; exact atI_last _ _, r.t, _, _, _, rfl, rfl, .of hr0.1, atI_nat (j := 0) rfl, _, rfl, rfl, _, rfl, ?_⟩
          refine ite2 (fun c2 => ?_) (fun c2 => ?_)
          · have hne : ¬ r.c = wd[i] := fun e => by
              rw [e] at c2
              rw [show decide (V.str (one wd[i]) = V.str ⟨#[wd[i] + 97]⟩) = true from decide_eq_true rfl] at c2
              cases c2
            refine ⟨_, rfl, .inl ⟨rfl, _, .of sp2.st⟩, _, rfl, by decide, fun l hl => ⟨two_fits, fun t ht => ?_⟩⟩
            have sp3 := (sp2.grow (Same.upd hl (.lst []))).grow (Same.upd ht (.tup [.str (one wd[i]), .ref l]))
            refine ⟨S, _, _, rfl, rfl, sp3.st, by rw [List.length_map, sizeLine_eq]; omega, rfl, pre ++ [r], ⟨t, l, wd[i], []⟩, ?_, rfl, ?_, hle, Nat.zero_le _⟩
            · refine sp3.push upd_same ?_ (sp2.same.free hl) ⟨ne_of_none sp2.st hl |>.symm, ?_, fun e he => (ne_of_none (sp2.runs e he).2 hl).symm⟩
              · rw [upd_ne (fun q => by rw [← q, upd_same] at ht; cases ht), upd_same]
              · obtain ⟨xs, hx, _⟩ := sp2.pn
                exact (ne_of_none hx hl).symm
            · exact push_new (fun p h => by rw [stkOf_snoc] at h; cases h; exact hne)
          · have heq : r.c = wd[i] := by
              by_cases e : r.c = wd[i]
              · exact e
              · refine absurd ?_ c2
                rw [decide_eq_false (fun q => e (one_inj (by injection q)))]
                rfl
            refine ⟨rfl, pre, r, sp2, heq, ?_, by simp at hle; omega, by omega⟩
            rw [stkOf_snoc, heq, push_run]
      · -- stack[-1][1].append(position)
        rintro σ' H3 ⟨rfl, pre, e, sp3, he, hpush, hpl, hel⟩
        have hr0 := sp3.runs e (by simp)
        refine ⟨_, rfl, 1, rfl, S, _, _, _, rfl, rfl, .of sp3.st, by rw [List.map_append]; exact atI_last _ _, e.t, _, _, _, rfl, rfl, .of hr0.1, atI_nat (j := 1) rfl, .inl ⟨rfl, _, .of hr0.2⟩, _, rfl, e.l, _, _, rfl, rfl, hr0.2, by rw [List.length_map, sizeLine_eq]; omega, ?_⟩
        have sp4 := sp3.bump hi
        have hr1 := sp4.runs ⟨e.t, e.l, e.c, e.ps ++ [i]⟩ (by simp)
        -- len(stack[-1][1]) == size_of(sizes, bead)
        refine ⟨_, rfl, 1, rfl, S, _, _, _, rfl, rfl, .of sp4.st, by rw [List.map_append]; exact atI_last _ _, e.t, _, _, _, rfl, rfl, .of hr1.1, atI_nat (j := 1) rfl, e.l, _, rfl, .inl (.of hr1.2), _, rfl, _, rfl, a, sz, wd[i], rfl, sp4.same _ _ ha, hc, by have := hz.le; omega, rfl, _, rfl, ?_⟩
        have elen : (natV (e.ps ++ [i])).length = e.ps.length + 1 := by simp
        have ed : decide (V.int ((natV (e.ps ++ [i])).length : Nat) = V.int (siz sz wd[i] : Nat)) = decide (e.ps.length + 1 = siz sz wd[i]) := by
          rw [elen]
          apply decide_eq_decide.mpr
          constructor
          · intro q
            injection q with q
            omega
          · intro q
            rw [q]
        refine Eq.mpr (congrArg (fun b : Bool => if b = true then _ else _) ed) ?_
        refine ite2 (fun c2 => ?_) (fun c2 => ?_)
        · have hfull : e.ps.length + 1 = siz sz wd[i] := of_decide_eq_true c2
          have hdl : ((pre ++ [(⟨e.t, e.l, e.c, e.ps ++ [i]⟩ : Run)]).map fun e => V.ref e.t).dropLast = pre.map fun e => V.ref e.t := by simp
          refine ⟨_, rfl, .inl ⟨rfl, _, .of sp4.st⟩, S, _, .ref e.t, rfl, rfl, sp4.st, by simp, ?_⟩
          rw [hdl]
          have sp5 := sp4.drop
          have hSe : e.l ≠ S := fun q => by
            have := sp4.nd
            rw [List.nodup_cons] at this
            exact this.1 (by rw [← q]; simp)
          have hNe : e.l ≠ N := fun q => by
            have := sp4.nd
            rw [List.nodup_cons, List.nodup_cons] at this
            exact this.2.1 (by rw [← q]; simp)
          have hte : e.t ≠ S := fun q => by
            have := hr1.1
            rw [q, sp4.st] at this
            cases this
          have hl5 : (upd (upd H3 e.l (.lst (natV e.ps ++ [V.int (i : Nat)]))) S (.lst (pre.map fun e => V.ref e.t))) e.l = some (.lst (natV (e.ps ++ [i]))) := by
            rw [upd_ne hSe]; exact hr1.2
          refine ⟨e.t, _, rfl, .of (by rw [upd_ne hte]; exact hr1.1), rfl, _, _, rfl, _, _, rfl, rfl, ?_⟩
          -- for member in positions
          refine ⟨_, rfl, e.l, rfl, ⟨_, .of hl5⟩, for_list (K := K) (a := e.l) (xs := natV (e.ps ++ [i])) (fun j σ H5 => (∃ u, σ = [some (.ref a), some (.str (sOf wd)), some (.ref S), some (.ref N), some (.int tot), some (.int (i : Nat)), some (.str (one wd[i])), some (.str (one e.c)), some (.ref e.l), u]) ∧
              (∀ b, b ≠ N → H5 b = (upd (upd H3 e.l (.lst (natV e.ps ++ [V.int (i : Nat)]))) S (.lst (pre.map fun e => V.ref e.t))) b) ∧ ∃ xs, H5 N = some (.lst xs) ∧ xs.length = wd.length)
            ⟨⟨u9, rfl⟩, fun _ _ => rfl, sp5.pn⟩ (fun j σ H5 _ ⟨_, hk, _⟩ => .of (by rw [hk _ hNe]; exact hl5)) ?_ ?_⟩
          · rintro j y σ H5 hj ⟨⟨u, rfl⟩, hk, xs, hx, hxl⟩
            rw [List.getElem?_map] at hj
            cases ej : (e.ps ++ [i])[j]? with
            | none => rw [ej] at hj; cases hj
            | some m =>
              rw [ej] at hj
              cases hj
              have hm : m < wd.length := sp4.lt ⟨e.t, e.l, e.c, e.ps ++ [i]⟩ (by simp) m (List.mem_of_getElem? ej)
              refine ⟨_, rfl, _, rfl, _, rfl, N, xs, (m : Nat), m, rfl, rfl, hx, ?_, ⟨_, rfl⟩, fun b hb => ?_, _, upd_same, by rw [List.length_set]; exact hxl⟩
              · unfold ixN
                rw [if_pos (by omega), if_pos (by rw [hxl]; omega), Int.toNat_natCast]
              · rw [upd_ne hb]; exact hk b hb
          · rintro σ H5 ⟨⟨u, rfl⟩, hk, hN5⟩
            have sp6 := sp5.mark hk hN5
            refine ⟨_, rfl, _, _, rfl, rfl, pre, _, _, _, _, _, _, rfl, sp6, ?_, by omega⟩
            rw [htake, act_append, ← hst, act_cons, act_nil, hpush, if_pos hfull]
        · have hnf : ¬ e.ps.length + 1 = siz sz wd[i] := fun q => c2 (decide_eq_true q)
          refine ⟨pre ++ [⟨e.t, e.l, e.c, e.ps ++ [i]⟩], _, _, _, _, _, _, rfl, sp4, ?_, by simp; omega⟩
          rw [htake, act_append, ← hst, act_cons, act_nil, hpush, if_neg hnf, stkOf_snoc]
          simp [he]
    · rintro σ H2 ⟨es, u5, u6, u7, u8, u9, tot, rfl, sp, hst, hle⟩
      rw [sOf_size] at hst hle
      rw [List.take_of_length_le (Nat.le_refl _)] at hst
      refine ⟨_, rfl, _, rfl, two_fits, fun p hp => ?_⟩
      have sp2 := sp.grow (Same.upd hp (.tup [.ref S, .ref N]))
      exact q p S N es _ sp2.same (sp.same.free hp) upd_same sp2.st sp2.runs hst (by omega)
end
end Pk

namespace Pk
open PySem PySem.Spec L2
open PyProof.Rows hiding St
/-- rules with K written, for use in a comprehension -/
def lenR (K : PySem.W.Frag) : List V → Hp → VK → Prop := fun xs H Q => ∃ p ys, xs = [.ref p] ∧ (SqL K H p ys ∨ SqT K H p ys) ∧ Q (.int ys.length) H
theorem call_lenK {X : Cx} {K : PySem.W.Frag} (h : X.K = K) : CallR X (.builtin "len") (lenR K) := by
  subst h
  exact call_len_seq
theorem sum_lens (ws : List (List Nat)) : ((ws.map sOf).map (·.length)).sum = ws.flatten.length := by
  induction ws with
  | nil => rfl
  | cons w r ih =>
    rw [List.map_cons, List.map_cons, List.sum_cons, ih, sOf_len, List.flatten_cons, List.length_append]
section
variable {P : Program} {w : World} {K : PySem.W.Frag} {mg : Str → Option Value} {base : Heap} {f : Addr} {fd : FuncData}
/-! ### reduce_row -/
def spReduce : Sp := fun vs H Q _ => ∃ (a : Addr) (sz wd : List Nat), vs = [.ref a, .str (sOf wd)] ∧ H a = some (.tup (szV sz)) ∧ SzOk sz ∧ WOk sz.length wd ∧ wd.length ≤ 1000 ∧ ∀ H', Same H H' → Q (.str (sOf (red sz wd))) H'
theorem scReduce : FnScope ["sizes", "row", "runs", "pack_numbers", "color", "positions"] ["sizes", "row"] (defScope sReduce) := ⟨rfl, rfl, rfl, by decide +kernel, rfl, by decide +kernel, by decide +kernel⟩
theorem ok_reduce (F : FnP K "reduce_row" sReduce f fd) (T : Txt K mg) (CS : Cal P w K mg base "split_runs" 2 ["sizes", "row"] spSplit) : FnOk P w K mg base CX0 3 f fd ["sizes", "row"] spReduce := by
  refine F.fok scReduce (fun vs H Q E h => ?_) (fun cdv A outer s H vs Q E hr h => ?_)
  · obtain ⟨_, _, _, rfl, _⟩ := h
    rfl
  · obtain ⟨a, sz, wd, rfl, ha, hz, hw, hl, q⟩ := h
    have nd := scReduce.nd
    refine ⟨_, pss_cons (ps_asg (pe_cal CS hr (Nat.le_refl _) rfl (pa_cons (pv 0) (pa_cons (pv 1) pa_nil))) (pg_tup rfl (pgs_cons (pg_name (i := 2) nd rfl (.inl rfl)) (pgs_cons (pg_name (i := 3) nd rfl (.inl rfl)) pgs_nil))))
      (pss_one (ps_ret (pe_join pe_str (pe_lc (own := [("color", 4), ("positions", 5)]) (g := gTup K 2 (gCons (gName 4) (gCons (gName 5) gNil))) (tt := tYes) rfl nd (pi_list (pv 2))
        (blkOk_by (N := ["sizes", "row", "runs", "pack_numbers", "color", "positions"]) (sc := defScope sReduce) (by decide +kernel)) (fun _ _ _ _ _ => pg_tup rfl (pgs_cons (pg_name (i := 4) nd rfl (Or.inl rfl)) (pgs_cons (pg_name (i := 5) nd rfl (Or.inl rfl)) pgs_nil))) (fun _ _ _ _ _ => pts_nil)
        (fun _ _ _ _ _ => pe_op op_mulS (pv 4) (pe_callB (call_lenK (K := K) rfl) rfl T.len boot_len (pa_cons (pv 5) pa_nil))))))), ?_⟩
    refine ⟨_, rfl, _, rfl, a, sz, wd, rfl, ha, hz, hw, hl, fun p S N es H1 s1 hp hpt hS hr1 hst hel => ?_⟩
    have hval : Val sz (stkOf es) := by rw [hst]; exact val_act hz.pos _ val_nil
    refine ⟨p, _, rfl, .of hpt, rfl, _, _, rfl, _, _, rfl, rfl, ⟨_, rfl⟩, ?_⟩
    refine ⟨_, rfl, S, rfl, ⟨_, .of hS⟩, fun D hD => lc_list (K := K) (a := S) (xs := es.map fun e => V.ref e.t) (fun i H2 => Same H1 H2 ∧ H2 D = some (.lst (((es.take i).map fun e => List.replicate e.ps.length e.c).map fun w => V.str (sOf w)))) ⟨Same.upd hD _, upd_same⟩ (fun i H2 _ h => .of (h.1 _ _ hS)) ?_ ?_⟩
    · rintro i y H2 hy ⟨s2, hD2⟩
      rw [List.getElem?_map] at hy
      cases ei : es[i]? with
      | none => rw [ei] at hy; cases hy
      | some e =>
        rw [ei] at hy
        cases hy
        have he := List.mem_of_getElem? ei
        have hrv := run_val hval he
        have h4 := hz.siz4 e.c
        refine ⟨e.t, _, rfl, .of (s2 _ _ (hr1 e he).1), rfl, _, _, rfl, _, _, rfl, rfl, rfl, ?_⟩
        refine ⟨_, rfl, _, rfl, e.l, _, rfl, .inl (.of (s2 _ _ (hr1 e he).2)), one e.c, _, rfl, rfl, by omega, by rw [List.length_map]; omega, (by show 1 ≤ 1000; decide), ?_⟩
        refine ⟨_, hD2, ?_, ?_, ?_⟩
        · rw [List.length_map, List.length_map, List.length_take, sizeLine_eq]
          omega
        · exact fun b o e => by rw [upd_ne (ne_of_none e hD)]; exact s2 b o e
        · rw [upd_same, List.length_map, mul_one, List.take_succ, ei, List.map_append, List.map_append]
          rfl
    · rintro H2 ⟨s2, hD2⟩
      rw [List.length_map, List.take_of_length_le (Nat.le_refl _)] at hD2
      refine ⟨("" : Str), D, (es.map fun e => List.replicate e.ps.length e.c).map sOf, rfl, rfl, .inl (.of (by rw [hD2, List.map_map, List.map_map, List.map_map]; rfl)), ?_, ?_⟩
      · rw [sum_lens, ← word_stkOf, hst, show ("" : Str).length = 0 from rfl, Nat.mul_zero, Nat.add_zero]
        exact Nat.le_trans (length_red (sz := sz) wd) (by omega)
      · rw [join_sOf, ← word_stkOf, hst]
        exact q H2 (s1.trans s2)
/-! ### residue -/
def spResidue : Sp := fun vs H Q _ => ∃ (a : Addr) (sz wd : List Nat), vs = [.ref a, .str (sOf wd)] ∧ H a = some (.tup (szV sz)) ∧ SzOk sz ∧ WOk sz.length wd ∧ wd.length ≤ 40 ∧ ∀ H', Same H H' → Q (.str (sOf (red sz wd))) H'
theorem scResidue : FnScope ["sizes", "row"] ["sizes", "row"] (defScope sResidue) := ⟨rfl, rfl, rfl, by decide +kernel, rfl, by decide +kernel, by decide +kernel⟩
theorem ok_residue (F : FnP K "residue" sResidue f fd) (T : Txt K mg) (C1 : Cal P w K mg base "check_sizes" 2 ["sizes"] spCheckSizes) (C2 : Cal P w K mg base "check_row" 2 ["sizes", "row"] spCheckRow) (C3 : Cal P w K mg base "reduce_row" 3 ["sizes", "row"] spReduce) :
    FnOk P w K mg base CX0 4 f fd ["sizes", "row"] spResidue := by
  refine F.fok scResidue (fun vs H Q E h => ?_) (fun cdv A outer s H vs Q E hr h => ?_)
  · obtain ⟨_, _, _, rfl, _⟩ := h
    rfl
  · obtain ⟨a, sz, wd, rfl, ha, hz, hw, hl, q⟩ := h
    refine ⟨_, pss_cons (ps_expr (pe_cal C1 hr (by decide) rfl (pa_cons (pv 0) pa_nil))) (pss_cons (ps_expr (pe_cal C2 hr (by decide) rfl (pa_cons (pv 0) (pa_cons (pv 1) pa_nil))))
      (pss_one (ps_ret (pe_cal C3 hr (by decide) rfl (pa_cons (pv 0) (pa_cons (pv 1) pa_nil)))))), ?_⟩
    have hzl := hz.le
    refine ⟨_, rfl, a, sz, rfl, ha, hz, fun H1 s1 => ⟨_, rfl, _, rfl, a, sz, wd, rfl, s1 _ _ ha, by omega, hw, hl, fun H2 s2 => ?_⟩⟩
    exact ⟨_, rfl, _, rfl, a, sz, wd, rfl, s2 _ _ (s1 _ _ ha), hz, hw, by omega, fun H3 s3 => q H3 (s1.trans (s2.trans s3))⟩
/-! ### invert_row -/
def spInvert : Sp := fun vs H Q _ => ∃ (a : Addr) (sz wd : List Nat), vs = [.ref a, .str (sOf wd)] ∧ H a = some (.tup (szV sz)) ∧ SzOk sz ∧ WOk sz.length wd ∧ wd.length ≤ 100 ∧ ∀ H', Same H H' → Q (.str (sOf (inv sz (act sz wd [])))) H'
theorem scInvert : FnScope ["sizes", "row", "runs", "pack_numbers", "color", "positions"] ["sizes", "row"] (defScope sInvert) := ⟨rfl, rfl, rfl, by decide +kernel, rfl, by decide +kernel, by decide +kernel⟩
theorem flat_len (sz : List Nat) (h4 : ∀ c, siz sz c ≤ 4) : ∀ es : List Run, ((es.map fun e => List.replicate (siz sz e.c - e.ps.length) e.c).flatten).length ≤ 4 * es.length
  | [] => Nat.le_refl _
  | e :: es => by
    have := flat_len sz h4 es
    have h := h4 e.c
    rw [List.map_cons, List.flatten_cons, List.length_append, List.length_replicate, List.length_cons]
    omega
theorem ok_invert (F : FnP K "invert_row" sInvert f fd) (T : Txt K mg) (CS : Cal P w K mg base "split_runs" 2 ["sizes", "row"] spSplit) (CZ : Cal P w K mg base "size_of" 1 ["sizes", "color"] spSizeOf) : FnOk P w K mg base CX0 3 f fd ["sizes", "row"] spInvert := by
  refine F.fok scInvert (fun vs H Q E h => ?_) (fun cdv A outer s H vs Q E hr h => ?_)
  · obtain ⟨_, _, _, rfl, _⟩ := h
    rfl
  · obtain ⟨a, sz, wd, rfl, ha, hz, hw, hl, q⟩ := h
    have nd := scInvert.nd
    refine ⟨_, pss_cons (ps_asg (pe_cal CS hr (Nat.le_refl _) rfl (pa_cons (pv 0) (pa_cons (pv 1) pa_nil))) (pg_tup rfl (pgs_cons (pg_name (i := 2) nd rfl (.inl rfl)) (pgs_cons (pg_name (i := 3) nd rfl (.inl rfl)) pgs_nil))))
      (pss_one (ps_ret (pe_join pe_str (pe_lc (own := [("color", 4), ("positions", 5)]) (g := gTup K 2 (gCons (gName 4) (gCons (gName 5) gNil))) (tt := tYes) rfl nd (pi_list (pe_revL (pv 2)))
        (blkOk_by (N := ["sizes", "row", "runs", "pack_numbers", "color", "positions"]) (sc := defScope sInvert) (by decide +kernel)) (fun _ _ _ _ _ => pg_tup rfl (pgs_cons (pg_name (i := 4) nd rfl (Or.inl rfl)) (pgs_cons (pg_name (i := 5) nd rfl (Or.inl rfl)) pgs_nil))) (fun _ _ _ _ _ => pts_nil)
        (fun _ _ _ _ _ => pe_op op_mulS (pv 4) (pe_op op_sub (pe_cal CZ hr (by decide) rfl (pa_cons (pv 0) (pa_cons (pv 4) pa_nil))) (pe_callB (call_lenK (K := K) rfl) rfl T.len boot_len (pa_cons (pv 5) pa_nil)))))))), ?_⟩
    refine ⟨_, rfl, _, rfl, a, sz, wd, rfl, ha, hz, hw, by omega, fun p S N es H1 s1 hp hpt hS hr1 hst hel => ?_⟩
    have hval : Val sz (stkOf es) := by rw [hst]; exact val_act hz.pos _ val_nil
    have hzl := hz.le
    refine ⟨p, _, rfl, .of hpt, rfl, _, _, rfl, _, _, rfl, rfl, ⟨_, rfl⟩, ?_⟩
    refine ⟨_, rfl, S, _, rfl, .of hS, fun R hR => ?_⟩
    have eR : ((es.map fun e => V.ref e.t).reverse) = es.reverse.map fun e => V.ref e.t := by rw [List.map_reverse]
    rw [eR]
    refine ⟨R, rfl, ⟨_, .of upd_same⟩, fun D hD => lc_list (K := K) (a := R) (xs := es.reverse.map fun e => V.ref e.t) (fun i H2 => Same (upd H1 R (.lst (es.reverse.map fun e => V.ref e.t))) H2 ∧ H2 D = some (.lst (((es.reverse.take i).map fun e => List.replicate (siz sz e.c - e.ps.length) e.c).map fun w => V.str (sOf w)))) ⟨Same.upd hD _, upd_same⟩ (fun i H2 _ h => .of (h.1 _ _ upd_same)) ?_ ?_⟩
    · rintro i y H2 hy ⟨s2, hD2⟩
      rw [List.getElem?_map] at hy
      cases ei : es.reverse[i]? with
      | none => rw [ei] at hy; cases hy
      | some e =>
        rw [ei] at hy
        cases hy
        have he := List.mem_reverse.mp (List.mem_of_getElem? ei)
        have hrv := run_val hval he
        have h4 := hz.siz4 e.c
        have s3 := (Same.upd hR (.lst (es.reverse.map fun e => V.ref e.t))).trans s2
        refine ⟨e.t, _, rfl, .of (s3 _ _ (hr1 e he).1), rfl, _, _, rfl, _, _, rfl, rfl, rfl, ?_⟩
        refine ⟨_, rfl, _, rfl, _, rfl, a, sz, e.c, rfl, s3 _ _ (s1 _ _ ha), run_lt hw hst hval he, by omega, _, rfl, e.l, _, rfl, .inl (.of (s3 _ _ (hr1 e he).2)), _, _, rfl, rfl, one e.c, _, rfl, rfl, by rw [List.length_map]; omega, by rw [List.length_map]; omega, (by show 1 ≤ 1000; decide), ?_⟩
        refine ⟨_, hD2, ?_, ?_, ?_⟩
        · rw [List.length_map, List.length_map, List.length_take, List.length_reverse, sizeLine_eq]
          omega
        · exact fun b o e => by
            by_cases hb : b = D
            · subst hb
              rw [hD] at e
              cases e
            · rw [upd_ne hb]; exact s2 b o e
        · have en : (((siz sz e.c : Nat) : Int) - (((natV e.ps).length : Nat) : Int)) = ((siz sz e.c - e.ps.length : Nat) : Int) := by
            rw [List.length_map]
            omega
          rw [upd_same, en, mul_one, List.take_succ, ei, List.map_append, List.map_append]
          rfl
    · rintro H2 ⟨s2, hD2⟩
      rw [List.length_map, List.take_of_length_le (Nat.le_refl _)] at hD2
      have s3 := (Same.upd hR (.lst (es.reverse.map fun e => V.ref e.t))).trans s2
      refine ⟨("" : Str), D, (es.reverse.map fun e => List.replicate (siz sz e.c - e.ps.length) e.c).map sOf, rfl, rfl, .inl (.of (by rw [hD2, List.map_map, List.map_map, List.map_map]; rfl)), ?_, ?_⟩
      · rw [sum_lens, show ("" : Str).length = 0 from rfl, Nat.mul_zero, Nat.add_zero]
        have := flat_len sz hz.siz4 es.reverse
        rw [List.length_reverse] at this
        omega
      · rw [join_sOf, ← inv_stkOf, hst]
        exact q H2 (s1.trans s3)
end
end Pk

namespace Pk
open PySem PySem.Spec L2
open PyProof.Rows hiding St
/-! ### the counter's attributes -/
theorem n1 : ¬ (("sizes" : Str) = "target") := by decide +kernel
theorem n2 : ¬ (("sizes" : Str) = "start") := by decide +kernel
theorem n3 : ¬ (("sizes" : Str) = "cache") := by decide +kernel
theorem n4 : ¬ (("target" : Str) = "start") := by decide +kernel
theorem n5 : ¬ (("target" : Str) = "cache") := by decide +kernel
theorem n6 : ¬ (("start" : Str) = "cache") := by decide +kernel
def flds (a : Addr) (tgt : List Nat) (st d : Addr) : List (Str × V) := putF "cache" (.ref d) (putF "start" (.ref st) (putF "target" (.str (sOf tgt)) (putF "sizes" (.ref a) [])))
section
variable (a st d : Addr) (tgt : List Nat)
theorem flds_sizes : (flds a tgt st d).lookup ("sizes" : Str) = some (.ref a) := by
  unfold flds
  rw [lookup_putF, if_neg n3, lookup_putF, if_neg n2, lookup_putF, if_neg n1, lookup_putF, if_pos rfl]
theorem flds_target : (flds a tgt st d).lookup ("target" : Str) = some (.str (sOf tgt)) := by
  unfold flds
  rw [lookup_putF, if_neg n5, lookup_putF, if_neg n4, lookup_putF, if_pos rfl]
theorem flds_start : (flds a tgt st d).lookup ("start" : Str) = some (.ref st) := by
  unfold flds
  rw [lookup_putF, if_neg n6, lookup_putF, if_pos rfl]
theorem flds_cache : (flds a tgt st d).lookup ("cache" : Str) = some (.ref d) := by
  unfold flds
  rw [lookup_putF, if_pos rfl]
theorem flds_no {m : Str} (h1 : ¬ m = "sizes") (h2 : ¬ m = "target") (h3 : ¬ m = "start") (h4 : ¬ m = "cache") : (flds a tgt st d).lookup m = none := by
  unfold flds
  rw [lookup_putF, if_neg h4, lookup_putF, if_neg h3, lookup_putF, if_neg h2, lookup_putF, if_neg h1]
  rfl
end
/-- a state: the beads left, the residue so far -/
def StAt (H : Hp) (s : Addr) (rem pl : List Nat) : Prop := ∃ t, H s = some (.tup [.ref t, .str (sOf pl)]) ∧ H t = some (.tup (szV rem))
theorem StAt.keep {H H' : Hp} {s : Addr} {rem pl : List Nat} (x : StAt H s rem pl) (h : ∀ b xs, H b = some (.tup xs) → H' b = some (.tup xs)) : StAt H' s rem pl := let ⟨t, h1, h2⟩ := x; ⟨t, h _ _ h1, h _ _ h2⟩
def keyOf (rem pl : List Nat) : NestedKey := .tup [.tup ((rem.map fun k => ((k : Nat) : Int)).map .num), .text (sOf pl)]
theorem StAt.key {H : Hp} {s : Addr} {rem pl : List Nat} (x : StAt H s rem pl) : KeyAt H s (keyOf rem pl) := by
  obtain ⟨t, h1, h2⟩ := x
  refine ⟨t, rem.map fun k => ((k : Nat) : Int), sOf pl, rfl, h1, ?_⟩
  rw [h2, List.map_map]
  rfl
theorem keyOf_inj {r1 p1 r2 p2 : List Nat} (h : keyOf r1 p1 = keyOf r2 p2) : r1 = r2 ∧ p1 = p2 := by
  unfold keyOf at h
  injection h with h
  injection h with h1 h2
  injection h1 with h1
  injection h2 with h2 _
  injection h2 with h2
  refine ⟨?_, sOf_inj h2⟩
  rw [List.map_map] at h1
  rw [List.map_map] at h1
  refine (List.map_inj_right fun a b e => ?_).mp h1
  have e2 : NestedKey.num ((a : Nat) : Int) = NestedKey.num ((b : Nat) : Int) := e
  injection e2 with e3
  omega
/-- the class's facts -/
structure ClsF (K : PySem.W.Frag) (mg : Str → Option Value) (C : Addr) : Prop where
  cl : Cls K C
  nSizes : NoAttr K C "sizes"
  nTarget : NoAttr K C "target"
  nStart : NoAttr K C "start"
  nCache : NoAttr K C "cache"
  mgC : mg "RowCounter" = some (.ref C)
/-- a counter over the row wd: what never changes of it -/
structure ObjAt (C : Addr) (H : Hp) (x a st d : Addr) (sz wd : List Nat) : Prop where
  ob : ∃ dx, H x = some (.ins C dx (flds a (red sz wd) st d))
  hsz : H a = some (.tup (szV sz))
  st : StAt H st (tal sz.length wd) []
theorem ObjAt.keep {C : Addr} {H H' : Hp} {x a st d : Addr} {sz wd : List Nat} (o : ObjAt C H x a st d sz wd) (s : ∀ b u, b ≠ d → H b = some u → H' b = some u) (hd : ∀ u, H d = some u → Mut (some u) ∧ ∀ C dx fs, u ≠ .ins C dx fs) (he : ∃ u, H d = some u) : ObjAt C H' x a st d sz wd := by
  obtain ⟨u, hu⟩ := he
  obtain ⟨m, n⟩ := hd u hu
  have ht : ∀ b xs, H b = some (.tup xs) → H' b = some (.tup xs) := fun b xs e => s b _ (fun q => by rw [q, hu] at e; cases e; exact m) e
  obtain ⟨dx, ho⟩ := o.ob
  exact ⟨⟨dx, s x _ (fun q => by rw [q, hu] at ho; cases ho; exact n _ _ _ rfl) ho⟩, ht _ _ o.hsz, o.st.keep ht⟩
theorem ObjAt.same {C : Addr} {H H' : Hp} {x a st d : Addr} {sz wd : List Nat} (o : ObjAt C H x a st d sz wd) (s : Same H H') : ObjAt C H' x a st d sz wd :=
  let ⟨dx, ho⟩ := o.ob; ⟨⟨dx, s _ _ ho⟩, s _ _ o.hsz, o.st.keep fun b xs e => s _ _ e⟩
/-- number of completions -/
abbrev cnt (sz wd rem pl : List Nat) : Nat := (comps sz (red sz wd) rem.sum rem pl).length
/-- what the cache holds is right -/
structure CacheAt (P : Program) (w : World) (H : Hp) (d : Addr) (sz wd : List Nat) (kvs : List (NestedKey × V)) : Prop where
  dic : DicN P w H d kvs
  good : ∀ kv ∈ kvs, ∃ rem pl, kv.1 = keyOf rem pl ∧ Good sz wd rem pl ∧ 0 < rem.sum ∧ kv.2 = .int (cnt sz wd rem pl : Nat)
theorem CacheAt.few {P : Program} {w : World} {H : Hp} {d : Addr} {sz wd : List Nat} {kvs : List (NestedKey × V)} (c : CacheAt P w H d sz wd kvs) (hn : sz.length ≤ 4) (hw : WOk sz.length wd) (hl : wd.length ≤ 12) : kvs.length < sizeLine := by
  have h := Pk.few (n := sz.length) hn (fun u => keyOf ((List.range sz.length).map fun i => wd.count i - u.count i) (red sz u)) (l := kvs.map (·.1)) c.dic.nodup fun k hk => by
    obtain ⟨kv, hkv, rfl⟩ := List.mem_map.mp hk
    obtain ⟨rem, pl, e, g, hs, _⟩ := c.good kv hkv
    obtain ⟨u, h1, h2, h3, h4⟩ := g.told hw
    exact ⟨u, h1, by omega, by rw [e, h3]; exact congrArg (fun r => keyOf r (red sz u)) h4⟩
  rw [List.length_map] at h
  rw [sizeLine_eq]
  omega
theorem CacheAt.same {P : Program} {w : World} {H H' : Hp} {d : Addr} {sz wd : List Nat} {kvs : List (NestedKey × V)} (c : CacheAt P w H d sz wd kvs) (s : Same H H') : CacheAt P w H' d sz wd kvs := ⟨c.dic.keep s, c.good⟩
theorem CacheAt.get {P : Program} {w : World} {H : Hp} {d : Addr} {sz wd : List Nat} {kvs : List (NestedKey × V)} (c : CacheAt P w H d sz wd kvs) {rem pl : List Nat} {v : V} (h : valV kvs (keyOf rem pl) = some v) : v = .int (cnt sz wd rem pl : Nat) := by
  unfold valV at h
  obtain ⟨kv, h1, h2⟩ := Option.map_eq_some_iff.mp h
  have hk : kv.1 = keyOf rem pl := of_decide_eq_true (List.find?_some (p := fun kv : NestedKey × V => decide (kv.1 = keyOf rem pl)) h1)
  obtain ⟨rem', pl', e, _, _, e2⟩ := c.good kv (List.mem_of_find?_eq_some h1)
  obtain ⟨r1, r2⟩ := keyOf_inj (e.symm.trans hk)
  rw [← h2, e2, r1, r2]
theorem mem_putK {kvs : List (NestedKey × V)} {k : NestedKey} {v : V} {p : NestedKey × V} (h : p ∈ putK kvs k v) : p ∈ kvs ∨ p = (k, v) := by
  unfold putK at h
  split at h
  · obtain ⟨q, hq, e⟩ := List.mem_map.mp h
    by_cases hk : q.1 = k
    · rw [if_pos hk] at e
      rw [← e, hk]
      exact .inr rfl
    · rw [if_neg hk] at e
      rw [← e]
      exact .inl hq
  · rcases List.mem_append.mp h with h | h
    · exact .inl h
    · exact .inr (List.mem_singleton.mp h)
section
variable {P : Program} {w : World} {K : PySem.W.Frag} {mg : Str → Option Value} {base : Heap} {f C : Addr} {fd : FuncData}
/-! ### __init__ -/
def spInit (P : Program) (w : World) (C : Addr) : Sp := fun vs H Q _ => ∃ (x a dx : Addr) (sz wd : List Nat), vs = [.ref x, .ref a, .str (sOf wd)] ∧ H x = some (.ins C dx []) ∧ H a = some (.tup (szV sz)) ∧ SzOk sz ∧ WOk sz.length wd ∧ wd.length ≤ 1000 ∧
  ∀ (st d : Addr) (H' : Hp), ObjAt C H' x a st d sz wd → CacheAt P w H' d sz wd [] → (∀ b o, H b = some o → b ≠ x → H' b = some o) → H d = none → Q .non H'
theorem scInit : FnScope ["self", "sizes", "row"] ["self", "sizes", "row"] (defScope sInit) := ⟨rfl, rfl, rfl, by decide +kernel, rfl, by decide +kernel, by decide +kernel⟩
theorem ok_init (F : FnQ K "__init__" "RowCounter.__init__" sInit f fd) (T : ClsF K mg C) (CR : Cal P w K mg base "reduce_row" 3 ["sizes", "row"] spReduce) (CT : Cal P w K mg base "tally" 2 ["sizes", "row"] spTally) : FnOk P w K mg base CX0 4 f fd ["self", "sizes", "row"] (spInit P w C) := by
  refine F.fok scInit (fun vs H Q E h => ?_) (fun cdv A outer s H vs Q E hr h => ?_)
  · obtain ⟨_, _, _, _, _, rfl, _⟩ := h
    rfl
  · obtain ⟨x, a, dx, sz, wd, rfl, hx, ha, hz, hw, hl, q⟩ := h
    refine ⟨_, pss_cons (ps_fld (pv 0) (pv 1) rfl) (pss_cons (ps_fld (pv 0) (pe_cal CR hr (by decide) rfl (pa_cons (pv 1) (pa_cons (pv 2) pa_nil))) rfl)
      (pss_cons (ps_fld (pv 0) (pe_tup (pa_cons (pe_cal CT hr (by decide) rfl (pa_cons (pv 1) (pa_cons (pv 2) pa_nil))) (pa_cons pe_str pa_nil))) rfl)
      (pss_one (ps_fld (pv 0) pe_nnew rfl)))), ?_⟩
    have hax : a ≠ x := fun e => by rw [e, hx] at ha; cases ha
    -- self.sizes = sizes
    refine ⟨_, rfl, _, rfl, x, C, dx, [], rfl, hx, T.cl, T.nSizes, (by show 0 < 1000; decide), ?_⟩
    -- self.target = reduce_row(sizes, row)
    refine ⟨_, rfl, _, rfl, a, sz, wd, rfl, by rw [upd_ne hax]; exact ha, hz, hw, hl, fun H1 s1 => ⟨_, rfl, x, C, dx, _, rfl, s1 _ _ upd_same, T.cl, T.nTarget, (by show 1 < 1000; decide), ?_⟩⟩
    -- self.start = (tally(sizes, row), '')
    have ha1 : H1 a = some (.tup (szV sz)) := s1 _ _ (by rw [upd_ne hax]; exact ha)
    have hzl := hz.le
    refine ⟨_, rfl, _, rfl, a, sz, wd, rfl, by rw [upd_ne hax]; exact ha1, by omega, fun t H2 s2 ht0 ht => ⟨two_fits, fun st hst => ⟨_, rfl, x, C, dx, _, rfl, by rw [upd_ne (ne_of_none (s2 _ _ upd_same) hst)]; exact s2 _ _ upd_same, T.cl, T.nStart, ?_, ?_⟩⟩⟩
    · show (putF "target" (V.str (sOf (red sz wd))) (putF "sizes" (V.ref a) [])).length < 1000
      have e : (putF "target" (V.str (sOf (red sz wd))) (putF "sizes" (V.ref a) [])) = [(("sizes" : Str), V.ref a), ("target", V.str (sOf (red sz wd)))] := by
        show (if ("sizes" : Str) = "target" then _ else (("sizes" : Str), V.ref a) :: [(("target" : Str), V.str (sOf (red sz wd)))]) = _
        rw [if_neg n1]
      rw [e]
      show 2 < 1000
      decide
    -- self.cache = {}
    have hxst : st ≠ x := fun e => by
      rw [e, s2 _ _ upd_same] at hst
      cases hst
    have hts : t ≠ st := ne_of_none ht hst
    have htx : t ≠ x := fun e => by rw [e, upd_same] at ht0; cases ht0
    intro d H4 hd0 s4 hdic hk4
    have hxd : x ≠ d := fun e => by rw [← e, upd_same] at hd0; cases hd0
    refine ⟨_, rfl, x, C, dx, _, rfl, s4 _ _ upd_same, T.cl, T.nCache, ?_, ?_⟩
    · have e : (putF "start" (V.ref st) (putF "target" (V.str (sOf (red sz wd))) (putF "sizes" (V.ref a) []))) = [(("sizes" : Str), V.ref a), ("target", V.str (sOf (red sz wd))), ("start", V.ref st)] := by
        show (putF "start" (V.ref st) (if ("sizes" : Str) = "target" then _ else (("sizes" : Str), V.ref a) :: [(("target" : Str), V.str (sOf (red sz wd)))])) = _
        rw [if_neg n1]
        show (if ("sizes" : Str) = "start" then _ else (("sizes" : Str), V.ref a) :: (if ("target" : Str) = "start" then _ else (("target" : Str), V.str (sOf (red sz wd))) :: [(("start" : Str), V.ref st)])) = _
        rw [if_neg n2, if_neg n4]
      show (putF "start" (V.ref st) (putF "target" (V.str (sOf (red sz wd))) (putF "sizes" (V.ref a) []))).length < 1000
      rw [e]
      show 3 < 1000
      decide
    have up : ∀ b o, H b = some o → b ≠ x → H4 b = some o := fun b o e hb => by
      have h1 : (upd H x (.ins C dx (putF "sizes" (V.ref a) []))) b = some o := by rw [upd_ne hb]; exact e
      have h2 := s1 _ _ h1
      have h3 : (upd H1 x (.ins C dx (putF "target" (V.str (sOf (red sz wd))) (putF "sizes" (V.ref a) [])))) b = some o := by rw [upd_ne hb]; exact h2
      have h4 := s2 _ _ h3
      refine s4 _ _ ?_
      rw [upd_ne hb, upd_ne (ne_of_none h4 hst)]
      exact h4
    refine q st d _ ⟨⟨dx, ?_⟩, ?_, ⟨t, ?_, ?_⟩⟩ ⟨?_, fun kv h => (by cases h)⟩ (fun b o e hb => by rw [upd_ne hb]; exact up b o e hb) ?_
    · rw [upd_same]; rfl
    · rw [upd_ne hax]; exact up a _ ha hax
    · rw [upd_ne hxst]
      exact s4 _ _ (by rw [upd_ne hxst, upd_same]; rfl)
    · rw [upd_ne htx]
      exact s4 _ _ (by rw [upd_ne htx, upd_ne hts]; exact ht)
    · obtain ⟨xs, e1, e2, e3⟩ := hdic
      refine ⟨xs, by rw [upd_ne (Ne.symm hxd)]; exact e1, ?_, e3⟩
      cases e2
      exact .nil
    · cases e : H d with
      | none => rfl
      | some o =>
        have h1 : (upd H x (.ins C dx (putF "sizes" (V.ref a) []))) d = some o := by rw [upd_ne (Ne.symm hxd)]; exact e
        have h2 := s1 _ _ h1
        have h3 : (upd H1 x (.ins C dx (putF "target" (V.str (sOf (red sz wd))) (putF "sizes" (V.ref a) [])))) d = some o := by rw [upd_ne (Ne.symm hxd)]; exact h2
        have h4 := s2 _ _ h3
        rw [upd_ne (Ne.symm hxd), upd_ne (ne_of_none h4 hst), h4] at hd0
        cases hd0
end
end Pk

namespace Pk
open PySem PySem.Spec L2
open PyProof.Rows hiding St
/-! ### helpers for tuples that are added and cut -/
theorem catA_read {K : PySem.W.Frag} {a b : Addr} {xs ys : List V} {H : Hp} {Q : VK} (ha : H a = some (.tup xs)) (hb : H b = some (.tup ys)) (hz : xs.length + ys.length ≤ sizeLine)
    (q : ∀ r H', Same H H' → H' r = some (.tup (xs ++ ys)) → Q (.ref r) H') : rCatA K (.ref a) (.ref b) H Q :=
  ⟨a, b, xs, ys, rfl, rfl, .of ha, .of hb, hz, fun e => q b H (L2.Same.refl H) (by rw [e]; exact hb), fun _ e => q a H (L2.Same.refl H) (by rw [e, List.append_nil]; exact ha), fun _ _ p hp => q p _ (Same.upd hp _) upd_same⟩
theorem cutV_to (xs : List V) (i : Nat) : cutV xs none (some (i : Int)) = xs.take i := by
  unfold cutV
  rw [HT.sIx_none, HT.sIx_nat, List.drop_zero, Nat.sub_zero]
  by_cases h : i ≤ xs.length
  · rw [Nat.min_eq_left h]
  · rw [Nat.min_eq_right (by omega), List.take_of_length_le (Nat.le_refl _), List.take_of_length_le (by omega)]
theorem cutV_from (xs : List V) (i : Nat) : cutV xs (some (i : Int)) none = xs.drop i := by
  unfold cutV
  rw [HT.sIx_none, HT.sIx_nat]
  by_cases h : i ≤ xs.length
  · rw [Nat.min_eq_left h]
    exact List.take_of_length_le (by rw [List.length_drop]; exact Nat.le_refl _)
  · rw [Nat.min_eq_right (by omega), List.drop_eq_nil_of_le (Nat.le_refl _), List.drop_eq_nil_of_le (by omega)]
    exact List.take_nil
theorem szV_take (l : List Nat) (i : Nat) : (szV l).take i = szV (l.take i) := List.map_take.symm
theorem szV_drop (l : List Nat) (i : Nat) : (szV l).drop i = szV (l.drop i) := List.map_drop.symm
theorem dec_split {rem : List Nat} {i : Nat} (h : i < rem.length) : rem.take i ++ [rem.getD i 0 - 1] ++ rem.drop (i + 1) = dec rem i := by
  unfold dec
  rw [List.set_eq_take_append_cons_drop, if_pos h, List.append_assoc]
  rfl
/-! ### successors -/
def SuccAt (sz rem pl : List Nat) (H : Hp) (t : Addr) (c : Nat) : Prop := ∃ s, H t = some (.tup [.str (one c), .ref s]) ∧ StAt H s (dec rem c) (red sz (pl ++ [c]))
theorem SuccAt.keep {sz rem pl : List Nat} {H H' : Hp} {t : Addr} {c : Nat} (x : SuccAt sz rem pl H t c) (h : ∀ b xs, H b = some (.tup xs) → H' b = some (.tup xs)) : SuccAt sz rem pl H' t c := let ⟨s, h1, h2⟩ := x; ⟨s, h _ _ h1, h2.keep h⟩
structure SuccsAt (sz rem pl : List Nat) (H : Hp) (ts : List Addr) (cs : List Nat) : Prop where
  len : ts.length = cs.length
  get : ∀ (i : Nat) (t : Addr) (c : Nat), ts[i]? = some t → cs[i]? = some c → SuccAt sz rem pl H t c
theorem SuccsAt.keep {sz rem pl : List Nat} {H H' : Hp} {ts : List Addr} {cs : List Nat} (x : SuccsAt sz rem pl H ts cs) (h : ∀ b xs, H b = some (.tup xs) → H' b = some (.tup xs)) : SuccsAt sz rem pl H' ts cs := ⟨x.len, fun i t c h1 h2 => (x.get i t c h1 h2).keep h⟩
theorem SuccsAt.snoc {sz rem pl : List Nat} {H : Hp} {ts : List Addr} {cs : List Nat} {t : Addr} {c : Nat} (x : SuccsAt sz rem pl H ts cs) (y : SuccAt sz rem pl H t c) : SuccsAt sz rem pl H (ts ++ [t]) (cs ++ [c]) := by
  refine ⟨by simp [x.len], fun i t' c' h1 h2 => ?_⟩
  by_cases hi : i < ts.length
  · rw [List.getElem?_append_left hi] at h1
    rw [List.getElem?_append_left (by rw [← x.len]; exact hi)] at h2
    exact x.get i t' c' h1 h2
  · rw [List.getElem?_append_right (by omega)] at h1
    rw [List.getElem?_append_right (by rw [← x.len]; omega), ← x.len] at h2
    cases e : i - ts.length with
    | zero => rw [e] at h1 h2; cases h1; cases h2; exact y
    | succ n => rw [e] at h1; cases h1
theorem tup_keep {H : Hp} {R : Addr} {l : List V} (o : HO) (h : H R = some (.lst l)) : ∀ b xs, H b = some (.tup xs) → (upd H R o) b = some (.tup xs) := fun b xs e => by
  rw [upd_ne (fun q => by rw [q, h] at e; cases e)]
  exact e
section
variable {P : Program} {w : World} {K : PySem.W.Frag} {mg : Str → Option Value} {base : Heap} {f C : Addr} {fd : FuncData}
def spSucc (C : Addr) : Sp := fun vs H Q _ => ∃ (x s a st d : Addr) (sz wd rem pl : List Nat), vs = [.ref x, .ref s] ∧ ObjAt C H x a st d sz wd ∧ StAt H s rem pl ∧ Good sz wd rem pl ∧ SzOk sz ∧ WOk sz.length wd ∧ wd.length ≤ 40 ∧
  ∀ (R : Addr) (ts : List Addr) (H' : Hp), Same H H' → H R = none → H' R = some (.lst (ts.map V.ref)) → SuccsAt sz rem pl H' ts (succs rem) → Q (.ref R) H'
theorem scSucc : FnScope ["self", "state", "remaining", "placed", "result", "position", "color", "fewer"] ["self", "state"] (defScope sSucc) := ⟨rfl, rfl, rfl, by decide +kernel, rfl, by decide +kernel, by decide +kernel⟩
abbrev sucUp (rem : List Nat) (i : Nat) : List Nat := (List.range i).filter fun c => decide (0 < rem.getD c 0)
theorem sucUp_succ (rem : List Nat) (i : Nat) : sucUp rem (i + 1) = if 0 < rem.getD i 0 then sucUp rem i ++ [i] else sucUp rem i := by
  unfold sucUp
  rw [List.range_succ, List.filter_append]
  by_cases h : 0 < rem.getD i 0
  · rw [if_pos h, List.filter_cons_of_pos (by simpa using h)]; rfl
  · rw [if_neg h, List.filter_cons_of_neg (by simpa using h), List.filter_nil, List.append_nil]
theorem ok_succ (F : FnQ K "successors" "RowCounter.successors" sSucc f fd) (T : Txt K mg) (G : ClsF K mg C) (CC : Cal P w K mg base "colors_of" 1 ["sizes"] spColors) (CR : Cal P w K mg base "reduce_row" 3 ["sizes", "row"] spReduce) :
    FnOk P w K mg base CX0 4 f fd ["self", "state"] (spSucc C) := by
  refine F.fok scSucc (fun vs H Q E h => ?_) (fun cdv A outer s H vs Q E hr h => ?_)
  · obtain ⟨_, _, _, _, _, _, _, _, _, rfl, _⟩ := h
    rfl
  · obtain ⟨x, s0, a, st, d, sz, wd, rem, pl, rfl, ho, hs, hg, hz, hw, hl, q⟩ := h
    have nd := scSucc.nd
    refine ⟨_, pss_cons (ps_asg (pv 1) (pg_tup rfl (pgs_cons (pg_name (i := 2) nd rfl (.inl rfl)) (pgs_cons (pg_name (i := 3) nd rfl (.inl rfl)) pgs_nil))))
      (pss_cons (ps_set (i := 4) nd rfl (.inl rfl) (pe_lst pa_nil))
      (pss_cons (ps_for PassesOwn.never rfl (pi_enumS rfl T.enumerate (pa_cons (pe_cal CC hr (by decide) rfl (pa_cons (pe_fld (pv 0) rfl) pa_nil)) pa_nil)) (pg_tup rfl (pgs_cons (pg_name (i := 5) nd rfl (.inl rfl)) (pgs_cons (pg_name (i := 6) nd rfl (.inl rfl)) pgs_nil)))
        (pss_one (ps_if (pt_cmpR op_gt (pe_ix ix_tup (pv 2) (pv 5) (fun _ _ => rfl)) pe_int (nomark _))
          (pss_cons (ps_set (i := 7) nd rfl (.inl rfl) (pe_op op_catA (pe_op op_catA (pe_slice sl_tupA (pv 2) po_none (po_some (pv 5))) (pe_tup (pa_cons (pe_op op_sub (pe_ix ix_tup (pv 2) (pv 5) (fun _ _ => rfl)) pe_int) pa_nil))) (pe_slice sl_tupA (pv 2) (po_some (pe_op op_add (pv 5) pe_int)) po_none)))
          (pss_one (ps_expr (pe_bm PySem.F.plainAttrs_list PySem.F.slot_list_append PySem.F.type_list_append mt_append (pv 4)
            (pa_cons (pe_tup (pa_cons (pv 6) (pa_cons (pe_tup (pa_cons (pv 7) (pa_cons (pe_cal CR hr (by decide) rfl (pa_cons (pe_fld (pv 0) rfl) (pa_cons (pe_op op_add_str (pv 3) (pv 6)) pa_nil))) pa_nil))) pa_nil))) pa_nil))))) pss_nil)))
      (pss_one (ps_ret (pv 4))))), ?_⟩
    obtain ⟨t0, ht1, ht2⟩ := hs
    have hzl := hz.le
    have hrl : rem.length = sz.length := hg.len
    have hpl := hg.plen hw
    refine ⟨_, rfl, s0, _, rfl, .of ht1, rfl, _, _, rfl, _, _, rfl, rfl, (by show 0 ≤ sizeLine; decide), fun R hR => ?_⟩
    obtain ⟨dx, hob⟩ := ho.ob
    have hob' := Same.upd hR (.lst []) _ _ hob
    have ha' := Same.upd hR (.lst []) _ _ ho.hsz
    refine ⟨_, rfl, x, C, dx, _, _, rfl, hob', G.cl, G.nSizes, flds_sizes _ _ _ _, a, sz, rfl, ha', by omega, _, rfl, for_it walk_enumS (fun i σ H2 => ∃ u5 u6 u7 ts, σ = [some (.ref x), some (.ref s0), some (.ref t0), some (.str (sOf pl)), some (.ref R), u5, u6, u7] ∧ Same H H2 ∧ H2 R = some (.lst (ts.map V.ref)) ∧ SuccsAt sz rem pl H2 ts (sucUp rem i) ∧ ts.length ≤ i)
      ⟨none, none, none, [], rfl, Same.upd hR _, upd_same, ⟨rfl, fun i t c h1 _ => (by cases h1)⟩, Nat.le_refl _⟩ (fun i σ H2 _ _ => trivial) ?_ ?_⟩
    · rintro i y σ H1 H2 hi ⟨u5, u6, u7, ts, rfl, s1, hR1, hS, hle⟩ ⟨T', cc, rfl, hT, rfl, hcc⟩
      rw [sOf_size, List.length_range] at hi
      rw [sOf_at, List.getElem?_range hi] at hcc
      obtain rfl : cc = i + 97 := (Option.some.inj hcc).symm
      have s2 := s1.trans (Same.upd hT (.tup [.int (i : Nat), .str (one i)]))
      have hRT : R ≠ T' := ne_of_none hR1 hT
      have hi' : i < rem.length := by omega
      have hget : (szV rem)[i]? = some (.int (rem.getD i 0 : Nat)) := by
        rw [List.getElem?_map, List.getD_eq_getElem?_getD, List.getElem?_eq_getElem hi']
        rfl
      refine ⟨T', _, rfl, .of upd_same, rfl, _, _, rfl, _, _, rfl, rfl, ?_⟩
      have ht := s2 _ _ ht2
      refine ⟨_, rfl, _, rfl, t0, _, _, _, rfl, rfl, .of ht, atI_nat hget, _, _, rfl, rfl, _, rfl, ?_⟩
      refine ite2 (fun c2 => ?_) (fun c2 => ?_)
      · have hpos : 0 < rem.getD i 0 := by
          have := of_decide_eq_true c2
          omega
        -- remaining[:position]
        refine ⟨_, rfl, _, rfl, _, rfl, t0, _, rfl, .of ht, fun hwh => ?_, fun _ p1 hp1 => ?_⟩
        · have := hwh.2
          rw [HT.sIx_nat, List.length_map] at this
          omega
        have s3 := s2.trans (Same.upd hp1 (.tup (cutV (szV rem) none (some (i : Int)))))
        -- (remaining[position] - 1,)
        refine ⟨_, rfl, _, rfl, t0, _, _, _, rfl, rfl, .of (s3 _ _ ht2), atI_nat hget, _, _, rfl, rfl, (by show 1 ≤ sizeLine; decide), fun p2 hp2 => ?_⟩
        have h12 : (upd (upd (upd H1 T' (.tup [.int (i : Nat), .str (one i)])) p1 (.tup (cutV (szV rem) none (some (i : Int))))) p2 (.tup [.int ((rem.getD i 0 : Nat) - 1)])) p1 = some (.tup (szV (rem.take i))) := by
          rw [upd_ne (ne_of_none upd_same hp2), upd_same, cutV_to, szV_take]
        have s4 := s3.trans (Same.upd hp2 (.tup [.int ((rem.getD i 0 : Nat) - 1)]))
        refine catA_read h12 upd_same (by rw [List.length_map, List.length_take, sizeLine_eq]; show _ + 1 ≤ _; omega) fun p3 H3 s5 h3 => ?_
        have s6 := s4.trans s5
        -- remaining[position + 1:]
        refine ⟨_, rfl, _, rfl, _, _, rfl, rfl, _, rfl, ?_⟩
        refine ⟨t0, _, rfl, .of (s6 _ _ ht2), fun hwh => ?_, fun _ p4 hp4 => ?_⟩
        · have := hwh.1
          rw [show ((i : Nat) : Int) + 1 = ((i + 1 : Nat) : Int) from rfl, HT.sIx_nat, List.length_map] at this
          omega
        have s7 := s6.trans (Same.upd hp4 (.tup (cutV (szV rem) (some ((i : Nat) + 1 : Int)) none)))
        have h4 : (upd H3 p4 (.tup (cutV (szV rem) (some ((i : Nat) + 1 : Int)) none))) p4 = some (.tup (szV (rem.drop (i + 1)))) := by
          rw [upd_same, show ((i : Nat) : Int) + 1 = ((i + 1 : Nat) : Int) from rfl, cutV_from, szV_drop]
        refine catA_read (Same.upd hp4 _ _ _ h3) h4 (by rw [List.length_append, List.length_map, List.length_map, List.length_take, List.length_drop, sizeLine_eq]; show _ + 1 + _ ≤ _; omega) fun p5 H5 s8 h5 => ?_
        have s9 := s7.trans s8
        have h5' : H5 p5 = some (.tup (szV (dec rem i))) := by
          have e : (((rem.getD i 0 : Nat) : Int) - 1) = ((rem.getD i 0 - 1 : Nat) : Int) := by omega
          have e2 : szV (rem.take i) ++ [V.int (((rem.getD i 0 : Nat) : Int) - 1)] ++ szV (rem.drop (i + 1)) = szV (dec rem i) := by
            rw [e, ← dec_split hi']
            unfold szV
            rw [List.map_append, List.map_append]
            rfl
          exact h5.trans (congrArg (fun l => some (HO.tup l)) e2)
        have hlt : ∀ c ∈ pl ++ [i], c < sz.length := fun c hc => by
          rcases List.mem_append.mp hc with hc | hc
          · exact hg.lt c hc
          · rw [List.mem_singleton.mp hc]; exact hi
        have hR9 : H5 R = some (.lst (ts.map V.ref)) := s8 _ _ (Same.upd hp4 _ _ _ (s5 _ _ (Same.upd hp2 _ _ _ (Same.upd hp1 _ _ _ (Same.upd hT _ _ _ hR1)))))
        refine ⟨_, rfl, .inl ⟨rfl, _, .of hR9⟩, _, rfl, _, rfl, _, rfl, x, C, dx, _, _, rfl, s9 _ _ hob, G.cl, G.nSizes, flds_sizes _ _ _ _, _, rfl, _, rfl, _, _, rfl, rfl, ?_, a, sz, pl ++ [i], ?_, s9 _ _ ho.hsz, hz, hlt, ?_, fun H6 s10 => ⟨two_fits, fun p6 hp6 => ⟨two_fits, fun p7 hp7 => ?_⟩⟩⟩
        · rw [sOf_len, sizeLine_eq]; show _ + 1 ≤ _; omega
        · rw [← sOf_app]; rfl
        · rw [List.length_append]; show _ + 1 ≤ _; omega
        have g6 : Same H6 (upd (upd H6 p6 (.tup [.ref p5, .str (sOf (red sz (pl ++ [i])))])) p7 (.tup [.str (one i), .ref p6])) := (Same.upd hp6 _).trans (Same.upd hp7 _)
        have hR11 := g6 _ _ (s10 _ _ hR9)
        have hRp7 : R ≠ p7 := ne_of_none (Same.upd hp6 _ _ _ (s10 _ _ hR9)) hp7
        have k1 : Same H1 (upd (upd H6 p6 (.tup [.ref p5, .str (sOf (red sz (pl ++ [i])))])) p7 (.tup [.str (one i), .ref p6])) := (Same.upd hT _).trans ((Same.upd hp1 _).trans ((Same.upd hp2 _).trans (s5.trans ((Same.upd hp4 _).trans (s8.trans (s10.trans g6))))))
        have tk := tup_keep (.lst (ts.map V.ref ++ [V.ref p7])) hR11
        have z5 := tk _ _ (g6 _ _ (s10 _ _ h5'))
        have z6 := tk p6 _ (Same.upd hp7 _ p6 _ upd_same)
        have z7 := tk p7 [.str (one i), .ref p6] upd_same
        refine ⟨R, _, _, rfl, rfl, hR11, by rw [List.length_map, sizeLine_eq]; omega, _, _, _, ts ++ [p7], rfl, ?_, ?_, ?_, ?_⟩
        · exact same_put (s9.trans (s10.trans g6)) hR _
        · rw [upd_same, List.map_append]; rfl
        · rw [sucUp_succ, if_pos hpos]
          exact (hS.keep fun b xs e => tk b xs (k1 b _ e)).snoc ⟨p6, z7, p5, z6, z5⟩
        · rw [List.length_append]; show _ + 1 ≤ _; omega
      · have hno : ¬ 0 < rem.getD i 0 := fun hp => c2 (decide_eq_true (by omega))
        refine ⟨_, _, _, ts, rfl, s2, by rw [upd_ne hRT]; exact hR1, ?_, by omega⟩
        rw [sucUp_succ, if_neg hno]
        exact hS.keep fun b xs e => Same.upd hT _ _ _ e
    · rintro σ H2 ⟨u5, u6, u7, ts, rfl, s1, hR1, hS, hle⟩
      rw [sOf_size, List.length_range] at hS
      refine ⟨_, rfl, q R ts _ s1 hR hR1 ?_⟩
      have e : succs rem = sucUp rem sz.length := by rw [← hrl]; rfl
      rw [e]
      exact hS
end
end Pk

namespace Pk
open PySem PySem.Spec L2
open PyProof.Rows hiding St
theorem szV_get {l : List Nat} {i : Nat} (h : i < l.length) : (szV l)[i]? = some (V.int (l[i] : Nat)) := by
  rw [List.getElem?_map, List.getElem?_eq_getElem h]
  rfl
theorem walk_zipT {K : PySem.W.Frag} {a b : Addr} {xs ys : List V} {n : Nat} (hx : xs.length = n) (hy : ys.length = n) : Walk (RZ.ItzT K a b) n (fun H => SqT K H a xs ∧ SqT K H b ys) (YPair (fun i => xs[i]?) (fun i => ys[i]?)) := by
  refine ⟨fun i _ hi q => ?_, fun _ q => ⟨xs, ys, q.1, q.2, by omega⟩, fun i H v H' _ q y => ?_⟩
  · have h1 : i < xs.length := by omega
    have h2 : i < ys.length := by omega
    exact ⟨xs, ys, xs[i], ys[i], q.1, q.2, by simp [h1], by simp [h2]⟩
  · obtain ⟨T, x, z, h1, h2, h3, h4, h5⟩ := y
    exact ⟨T, x, z, h1, h2, h3, h4 xs q.1, h5 ys q.2⟩
section
variable {P : Program} {w : World} {K : PySem.W.Frag} {mg : Str → Option Value} {base : Heap} {f C : Addr} {fd : FuncData}
/-! ### is_feasible -/
def spFeas (C : Addr) : Sp := fun vs H Q _ => ∃ (x s a st d : Addr) (sz wd rem pl : List Nat), vs = [.ref x, .ref s] ∧ ObjAt C H x a st d sz wd ∧ StAt H s rem pl ∧ Good sz wd rem pl ∧ SzOk sz ∧ WOk sz.length wd ∧ wd.length ≤ 40 ∧
  ∀ (H' : Hp), Same H H' → Q (.bl (feas sz (red sz wd) rem pl)) H'
theorem scFeas : FnScope ["self", "state", "remaining", "placed", "missing", "there", "needed"] ["self", "state"] (defScope sFeas) := ⟨rfl, rfl, rfl, by decide +kernel, rfl, by decide +kernel, by decide +kernel⟩
theorem ok_feas (F : FnQ K "is_feasible" "RowCounter.is_feasible" sFeas f fd) (T : Txt K mg) (G : ClsF K mg C) (CT : Cal P w K mg base "tally" 2 ["sizes", "row"] spTally) (CR : Cal P w K mg base "reduce_row" 3 ["sizes", "row"] spReduce) (CI : Cal P w K mg base "invert_row" 3 ["sizes", "row"] spInvert) :
    FnOk P w K mg base CX0 4 f fd ["self", "state"] (spFeas C) := by
  refine F.fok scFeas (fun vs H Q E h => ?_) (fun cdv A outer s H vs Q E hr h => ?_)
  · obtain ⟨_, _, _, _, _, _, _, _, _, rfl, _⟩ := h
    rfl
  · obtain ⟨x, s0, a, st, d, sz, wd, rem, pl, rfl, ho, hs, hg, hz, hw, hl, q⟩ := h
    have nd := scFeas.nd
    refine ⟨_, pss_cons (ps_asg (pv 1) (pg_tup rfl (pgs_cons (pg_name (i := 2) nd rfl (.inl rfl)) (pgs_cons (pg_name (i := 3) nd rfl (.inl rfl)) pgs_nil))))
      (pss_cons (ps_set (i := 4) nd rfl (.inl rfl) (pe_cal CT hr (by decide) rfl (pa_cons (pe_fld (pv 0) rfl) (pa_cons (pe_cal CR hr (by decide) rfl (pa_cons (pe_fld (pv 0) rfl)
        (pa_cons (pe_op op_add_str (pe_cal CI hr (by decide) rfl (pa_cons (pe_fld (pv 0) rfl) (pa_cons (pv 3) pa_nil))) (pe_fld (pv 0) rfl)) pa_nil))) pa_nil))))
      (pss_one (ps_ret (pe_callB (cr_all rfl) rfl T.all boot_all (pa_cons (pe_lc (own := [("there", 5), ("needed", 6)]) (g := gTup K 2 (gCons (gName 5) (gCons (gName 6) gNil))) (tt := tYes) rfl nd (RZ.pi_zipA rfl T.zip (pa_cons (pv 2) (pa_cons (pv 4) pa_nil)))
        (blkOk_by (N := ["self", "state", "remaining", "placed", "missing", "there", "needed"]) (sc := defScope sFeas) (by decide +kernel)) (fun _ _ _ _ _ => pg_tup rfl (pgs_cons (pg_name (i := 5) nd rfl (Or.inl rfl)) (pgs_cons (pg_name (i := 6) nd rfl (Or.inl rfl)) pgs_nil))) (fun _ _ _ _ _ => pts_nil)
        (fun _ _ _ _ _ => pe_cmpR op_ge (pv 5) (pv 6) (nomark _))) pa_nil))))), ?_⟩
    obtain ⟨t0, ht1, ht2⟩ := hs
    obtain ⟨dx, hob⟩ := ho.ob
    have ha := ho.hsz
    have hzl := hz.le
    have hrl : rem.length = sz.length := hg.len
    have hpl := hg.plen hw
    have hplt : WOk sz.length pl := hg.lt
    have hvl : Val sz (act sz pl []) := val_act hz.pos _ val_nil
    have hil : (inv sz (act sz pl [])).length ≤ 160 := by
      have h1 := inv_len hz.siz4 (act sz pl [])
      have h2 := stk_len (sz := sz) pl []
      have : ([] : Stk).length = 0 := rfl
      omega
    have htl : (red sz wd).length ≤ 40 := Nat.le_trans (length_red wd) hl
    have hlt : WOk sz.length (inv sz (act sz pl []) ++ red sz wd) := fun c hc => by
      rcases List.mem_append.mp hc with hc | hc
      · exact inv_lt hvl (fun c hc => lt_red (sz := sz) hplt c hc) c hc
      · exact lt_red hw c hc
    refine ⟨_, rfl, s0, _, rfl, .of ht1, rfl, _, _, rfl, _, _, rfl, rfl, ?_⟩
    refine ⟨_, rfl, x, C, dx, _, _, rfl, hob, G.cl, G.nSizes, flds_sizes _ _ _ _, ?_⟩
    refine ⟨_, rfl, x, C, dx, _, _, rfl, hob, G.cl, G.nSizes, flds_sizes _ _ _ _, ?_⟩
    refine ⟨_, rfl, x, C, dx, _, _, rfl, hob, G.cl, G.nSizes, flds_sizes _ _ _ _, _, rfl, a, sz, pl, rfl, ha, hz, hplt, by omega, fun H1 s1 => ?_⟩
    refine ⟨_, rfl, x, C, dx, _, _, rfl, s1 _ _ hob, G.cl, G.nTarget, flds_target _ _ _ _, _, _, rfl, rfl, by rw [sOf_len, sOf_len, sizeLine_eq]; omega, ?_⟩
    refine ⟨a, sz, inv sz (act sz pl []) ++ red sz wd, by rw [← sOf_app]; rfl, s1 _ _ ha, hz, hlt, by rw [List.length_append]; omega, fun H2 s2 => ?_⟩
    refine ⟨a, sz, _, rfl, s2 _ _ (s1 _ _ ha), by omega, fun p H3 s3 hp0 hp => ?_⟩
    have s4 := s1.trans (s2.trans s3)
    refine ⟨_, rfl, _, rfl, t0, p, _, _, rfl, .inr ⟨.of (s4 _ _ ht2), .of hp, fun D hD => ?_⟩⟩
    have em : tal sz.length (red sz (inv sz (act sz pl []) ++ red sz wd)) = missing sz (red sz wd) rem.length pl := by rw [hrl]; rfl
    rw [em] at hp
    have hml : (missing sz (red sz wd) rem.length pl).length = rem.length := length_tal _ _
    refine lc_it (walk_zipT (n := rem.length) (xs := szV rem) (ys := szV (missing sz (red sz wd) rem.length pl)) (by rw [List.length_map]) (by rw [List.length_map, hml])) (fun i H5 => Same H3 H5 ∧ H5 D = some (.lst (((((List.zip rem (missing sz (red sz wd) rem.length pl)).map fun p => decide (p.2 ≤ p.1)).take i)).map V.bl))) ⟨Same.upd hD _, upd_same⟩ (fun i H5 _ h => ⟨.of (h.1 _ _ (s4 _ _ ht2)), .of (h.1 _ _ hp)⟩) ?_ ?_
    · rintro i y H5 H6 hi ⟨s5, hD5⟩ ⟨T', v1, v2, rfl, hT, rfl, e1, e2⟩
      have hi2 : i < (missing sz (red sz wd) rem.length pl).length := by rw [hml]; exact hi
      obtain rfl : v1 = _ := Option.some.inj (e1.symm.trans (szV_get hi))
      obtain rfl : v2 = _ := Option.some.inj (e2.symm.trans (szV_get hi2))
      have hzp : (List.zip rem (missing sz (red sz wd) rem.length pl))[i]? = some (rem[i], (missing sz (red sz wd) rem.length pl)[i]) := List.getElem?_zip_eq_some.mpr ⟨List.getElem?_eq_getElem hi, List.getElem?_eq_getElem hi2⟩
      have hDT : D ≠ T' := ne_of_none hD5 hT
      refine ⟨T', _, rfl, .of upd_same, rfl, _, _, rfl, _, _, rfl, rfl, rfl, _, rfl, _, rfl, _, _, rfl, rfl, _, by rw [upd_ne hDT]; exact hD5, ?_, ?_, ?_⟩
      · rw [List.length_map, List.length_take, sizeLine_eq]
        have : (List.map (fun p => decide (p.2 ≤ p.1)) (List.zip rem (missing sz (red sz wd) rem.length pl))).length = rem.length := by rw [List.length_map, List.length_zip, hml, Nat.min_self]
        omega
      · exact fun b o e => by
          rw [upd_ne (ne_of_none e hD), upd_ne (ne_of_none (s5 _ _ e) hT)]
          exact s5 b o e
      · rw [upd_same, List.take_succ, List.map_append, List.getElem?_map, hzp]
        refine congrArg (fun b : Bool => some (HO.lst (_ ++ [V.bl b]))) ?_
        exact decide_eq_decide.mpr ⟨fun h => Int.ofNat_le.mp h, fun h => Int.ofNat_le.mpr h⟩
    · rintro H5 ⟨s5, hD5⟩
      rw [List.take_of_length_le (by rw [List.length_map, List.length_zip, hml, Nat.min_self]; exact Nat.le_refl _)] at hD5
      exact ⟨D, _, rfl, .of hD5, q _ (s4.trans s5)⟩
end
end Pk

namespace Pk
open PySem PySem.Spec L2
open PyProof.Rows hiding St
theorem sum_cast (l : List Nat) (g : Nat → Nat) : ((l.map fun c => ((g c : Nat) : Int)).sum) = (((l.map g).sum : Nat) : Int) := by
  induction l with
  | nil => rfl
  | cons a l ih =>
    rw [List.map_cons, List.map_cons, List.sum_cons, List.sum_cons, ih]
    omega
theorem sum_cast' (l : List Nat) : ((l.map fun c => ((c : Nat) : Int)).sum) = ((l.sum : Nat) : Int) := by
  rw [sum_cast l fun c => c, List.map_id']
theorem szV_ints (l : List Nat) : szV l = (l.map fun c => ((c : Nat) : Int)).map V.int := by
  rw [List.map_map]
  rfl
section
variable {P : Program} {w : World} {K : PySem.W.Frag} {mg : Str → Option Value} {base : Heap} {f C : Addr} {fd : FuncData}
/-! ### ways -/
/-- all but d is as it was -/
abbrev But (d : Addr) (H H' : Hp) : Prop := ∀ b o, b ≠ d → H b = some o → H' b = some o
theorem CacheAt.notTup {sz wd : List Nat} {H : Hp} {d : Addr} {kvs : List (NestedKey × V)} (c : CacheAt P w H d sz wd kvs) {b : Addr} {xs : List V} (h : H b = some (.tup xs)) : b ≠ d := fun e => by
  obtain ⟨ys, e1, _⟩ := c.dic
  rw [e, e1] at h
  cases h
theorem CacheAt.keeps {sz wd : List Nat} {H H' : Hp} {d : Addr} {kvs : List (NestedKey × V)} (c : CacheAt P w H d sz wd kvs) (h : But d H H') : ∀ b xs, H b = some (.tup xs) → H' b = some (.tup xs) := fun b xs e => h b _ (c.notTup e) e
theorem CacheAt.obj {sz wd : List Nat} {H H' : Hp} {x a st d : Addr} {kvs : List (NestedKey × V)} (c : CacheAt P w H d sz wd kvs) (o : ObjAt C H x a st d sz wd) (h : But d H H') : ObjAt C H' x a st d sz wd := by
  obtain ⟨dx, ho⟩ := o.ob
  refine ⟨⟨dx, h x _ (fun e => ?_) ho⟩, c.keeps h _ _ o.hsz, o.st.keep (c.keeps h)⟩
  obtain ⟨ys, e1, _⟩ := c.dic
  rw [e, e1] at ho
  cases ho
theorem CacheAt.updL {sz wd : List Nat} {H : Hp} {d D : Addr} {l : List V} {kvs : List (NestedKey × V)} (c : CacheAt P w H d sz wd kvs) (o : HO) (h : H D = some (.lst l)) : CacheAt P w (upd H D o) d sz wd kvs := by
  obtain ⟨xs, e, r, n⟩ := c.dic
  refine ⟨⟨xs, ?_, r.keeps (tup_keep o h), n⟩, c.good⟩
  rw [upd_ne (fun q => by rw [← q, e] at h; cases h)]
  exact e
theorem length_succs (rem : List Nat) : (succs rem).length ≤ rem.length := by
  have := List.length_filter_le (fun c => decide (0 < rem.getD c 0)) (List.range rem.length)
  rw [List.length_range] at this
  exact this
def spWays (P : Program) (w : World) (C : Addr) (n : Nat) : Sp := fun vs H Q _ => ∃ (x s a st d : Addr) (sz wd rem pl : List Nat) (kvs : List (NestedKey × V)), vs = [.ref x, .ref s] ∧ ObjAt C H x a st d sz wd ∧ StAt H s rem pl ∧ Good sz wd rem pl ∧ SzOk sz ∧ WOk sz.length wd ∧ wd.length ≤ 12 ∧ CacheAt P w H d sz wd kvs ∧ rem.sum < n ∧
  ∀ (H' : Hp) (kvs' : List (NestedKey × V)), CacheAt P w H' d sz wd kvs' → But d H H' → Q (.int (cnt sz wd rem pl : Nat)) H'
theorem scWays : FnScope ["self", "state", "bead", "follower"] ["self", "state"] (defScope sWays) := ⟨rfl, rfl, rfl, by decide +kernel, rfl, by decide +kernel, by decide +kernel⟩
theorem ways_none : FnOk P w K mg base CX0 4 f fd ["self", "state"] (spWays P w C 0) := by
  have no : ∀ vs H Q E, ¬ spWays P w C 0 vs H Q E := fun vs H Q E h => by
    obtain ⟨x, s, a, st, d, sz, wd, rem, pl, kvs, _, _, _, _, _, _, _, _, h, _⟩ := h
    omega
  exact ⟨fun vs H Q E h => absurd h (no vs H Q E), fun A outer s H args us vs Q E _ _ _ _ h => absurd h (no vs H Q E)⟩
theorem ok_ways1 {n : Nat} (F : FnQ K "ways" "RowCounter.ways" sWays f fd) (T : Txt K mg) (G : ClsF K mg C) (MF : CalM P w K mg base C "is_feasible" 4 ["self", "state"] (spFeas C)) (MS : CalM P w K mg base C "successors" 4 ["self", "state"] (spSucc C))
    (M : CalM P w K mg base C "ways" (4 + n) ["self", "state"] (spWays P w C n)) : FnOk P w K mg base CX0 (4 + n + 1) f fd ["self", "state"] (spWays P w C (n + 1)) := by
  refine F.fok scWays (fun vs H Q E h => ?_) (fun cdv A outer s H vs Q E hr h => ?_)
  · obtain ⟨_, _, _, _, _, _, _, _, _, _, rfl, _⟩ := h
    rfl
  · obtain ⟨x, s0, a, st, d, sz, wd, rem, pl, kvs, rfl, ho, hs, hg, hz, hw, hl, hc, hsum, q⟩ := h
    have hu := hr.units
    have nd := scWays.nd
    refine ⟨_, pss_cons (ps_if (pt_not (pt_val (pe_calm (pv 0) G.cl MF hr (by omega) (pa_cons (pv 1) pa_nil)))) (pss_one (ps_ret pe_int)) pss_nil)
      (pss_cons (ps_if (pt_cmpR op_eq (pe_callB (cr_sumT rfl) rfl T.sum boot_sum (pa_cons (pe_ix ix_tup (pv 1) pe_int (fun _ _ => rfl)) pa_nil)) pe_int (nomark _))
        (pss_one (ps_ret (pe_callTy call_int1 rfl T.int PyProof.Rows.boot_int (pa_cons (pe_cmpR op_eq (pe_ix ix_tup (pv 1) pe_int (fun _ _ => rfl)) (pe_fld (pv 0) rfl) (nomark _)) pa_nil)))) pss_nil)
      (pss_mid (ps_if (pt_cmp (pc_nnotin hu (pv 1) (pe_fld (pv 0) rfl)) (by with_unfolding_all rfl))
        (pss_one (ps_nput hu (pe_fld (pv 0) rfl) (pv 1) (pe_callB (cr_sum rfl) rfl T.sum boot_sum (pa_cons (pe_lc (own := [("bead", 2), ("follower", 3)]) (g := gTup K 2 (gCons (gName 2) (gCons (gName 3) gNil))) (tt := tYes) rfl nd
            (pi_list (pe_calm (pv 0) G.cl MS hr (by omega) (pa_cons (pv 1) pa_nil)))
            (blkOk_by (N := ["self", "state", "bead", "follower"]) (sc := defScope sWays) (by decide +kernel)) (fun _ _ _ _ _ => pg_tup rfl (pgs_cons (pg_name (i := 2) nd rfl (Or.inl rfl)) (pgs_cons (pg_name (i := 3) nd rfl (Or.inl rfl)) pgs_nil))) (fun _ _ _ _ _ => pts_nil)
            (fun _ _ _ _ _ => pe_calm (pv 0) G.cl M hr (by omega) (pa_cons (pv 3) pa_nil))) pa_nil)) rfl)) pss_nil)
      (pss_one (ps_ret (pe_nget hu (pe_fld (pv 0) rfl) (pv 1) (fun _ _ => rfl)))))), ?_⟩
    obtain ⟨dx, hob⟩ := id ho.ob
    have hred : red sz pl = pl := hg.red hz.pos
    -- is_feasible
    refine ⟨_, rfl, x, dx, _, rfl, hob, flds_no _ _ _ _ (by decide +kernel) (by decide +kernel) (by decide +kernel) (by decide +kernel), _, rfl, x, s0, a, st, d, sz, wd, rem, pl, rfl, ho, hs, hg, hz, hw, by omega, fun H1 s1 => ⟨_, rfl, ?_⟩⟩
    cases hfe : feas sz (red sz wd) rem pl with
    | false =>
      refine iteT ?_
      have e0 := infeas hz.pos hred hfe
      have := q H1 kvs (hc.same s1) (fun b o _ e => s1 b o e)
      rw [show cnt sz wd rem pl = 0 from e0] at this
      exact this
    | true =>
      refine iteF ?_
      obtain ⟨t0, ht1, ht2⟩ := id hs
      refine ⟨_, rfl, s0, _, _, _, rfl, rfl, .of (s1 _ _ ht1), atI_nat (j := 0) rfl, t0, _, rfl, .of (by rw [← szV_ints]; exact s1 _ _ ht2), rfl, _, rfl, ?_⟩
      rw [sum_cast']
      refine ite2 (fun c2 => ?_) (fun c2 => ?_)
      · have h0 : rem.sum = 0 := by
          have := of_decide_eq_true c2
          injection this with this
          omega
        refine ⟨_, rfl, s0, _, _, _, rfl, rfl, .of (s1 _ _ ht1), atI_nat (j := 1) rfl, _, rfl, x, C, dx, _, _, rfl, s1 _ _ hob, G.cl, G.nTarget, flds_target _ _ _ _, rfl, .inr ⟨_, rfl, ?_⟩⟩
        have := q H1 kvs (hc.same s1) (fun b o _ e => s1 b o e)
        have e : ((cnt sz wd rem pl : Nat) : Int) = if decide (V.str (sOf pl) = V.str (sOf (red sz wd))) = true then 1 else 0 := by
          unfold cnt
          rw [h0]
          unfold comps
          by_cases hp : pl = red sz wd
          · rw [if_pos hp, if_pos (decide_eq_true (by rw [← hp]))]; rfl
          · rw [if_neg hp, if_neg (fun q => hp (sOf_inj (by have := of_decide_eq_true q; injection this)))]; rfl
        rw [e] at this
        exact this
      · have hne : 0 < rem.sum := by
          refine Nat.pos_of_ne_zero fun h0 => c2 (decide_eq_true ?_)
          rw [h0]
          rfl
        have hc1 := hc.same s1
        have ho1 := ho.same s1
        have hs1 : StAt H1 s0 rem pl := hs.keep fun b xs e => s1 _ _ e
        have ky := hs1.key
        refine ⟨fun σ' H' => σ' = [some (.ref x), some (.ref s0), none, none] ∧ ∃ kvs', CacheAt P w H' d sz wd kvs' ∧ But d H H' ∧ valV kvs' (keyOf rem pl) = some (.int (cnt sz wd rem pl : Nat)), ?_, ?_⟩
        · refine ⟨_, rfl, _, rfl, x, C, dx, _, _, rfl, s1 _ _ hob, G.cl, G.nCache, flds_cache _ _ _ _, d, s0, _, kvs, rfl, rfl, hc1.dic, ky, _, rfl, ?_⟩
          cases hv : valV kvs (keyOf rem pl) with
          | some v =>
            refine iteF ⟨rfl, kvs, hc1, fun b o _ e => s1 b o e, ?_⟩
            rw [hv, hc1.get hv]
          | none =>
            refine iteT ?_
            refine ⟨_, rfl, x, dx, _, rfl, s1 _ _ hob, flds_no _ _ _ _ (by decide +kernel) (by decide +kernel) (by decide +kernel) (by decide +kernel), _, rfl, x, s0, a, st, d, sz, wd, rem, pl, rfl, ho1, hs1, hg, hz, hw, by omega, fun R ts H3 s3 hR0 hR hS => ?_⟩
            have hc3 := hc1.same s3
            have ho3 := ho1.same s3
            have hs3 : StAt H3 s0 rem pl := hs1.keep fun b xs e => s3 _ _ e
            have hRd : R ≠ d := fun e => by
              obtain ⟨ys, e1, _⟩ := hc1.dic
              rw [e, e1] at hR0
              cases hR0
            refine ⟨R, rfl, ⟨_, .of hR⟩, fun D hD => ?_⟩
            have hDd : D ≠ d := fun e => by
              obtain ⟨ys, e1, _⟩ := hc3.dic
              rw [e, e1] at hD
              cases hD
            have hRD : R ≠ D := ne_of_none hR hD
            refine lc_list (K := K) (a := R) (xs := ts.map V.ref) (fun i H5 => ∃ kvs', CacheAt P w H5 d sz wd kvs' ∧ But d H3 H5 ∧ H5 D = some (.lst ((((succs rem).map fun c => ((cnt sz wd (dec rem c) (red sz (pl ++ [c])) : Nat) : Int)).take i).map V.int))) ?_ ?_ ?_ ?_
            · exact ⟨kvs, hc3.same (Same.upd hD _), fun b o _ e => Same.upd hD _ _ _ e, upd_same⟩
            · exact fun i H5 _ ⟨_, _, hk, _⟩ => .of (hk _ _ hRd hR)
            · rintro i y H5 hy ⟨kvs5, hc5, hk5, hD5⟩
              rw [List.getElem?_map] at hy
              cases et : ts[i]? with
              | none => rw [et] at hy; cases hy
              | some t =>
                rw [et] at hy
                cases hy
                have hi : i < (succs rem).length := by
                  rw [← hS.len]
                  exact (List.getElem?_eq_some_iff.mp et).1
                have ecs : (succs rem)[i]? = some (succs rem)[i] := List.getElem?_eq_getElem hi
                have hpos : 0 < rem.getD (succs rem)[i] 0 := mem_succs.mp (List.getElem_mem hi)
                obtain ⟨s', hts, hst'⟩ := (hS.get i t _ et ecs).keep (hc3.keeps hk5)
                have hsd := sum_dec hpos
                refine ⟨t, _, rfl, .of hts, rfl, _, _, rfl, _, _, rfl, rfl, rfl, ?_⟩
                have ho5 := hc3.obj ho3 hk5
                obtain ⟨dx5, hob5⟩ := id ho5.ob
                refine ⟨_, rfl, x, dx5, _, rfl, hob5, flds_no _ _ _ _ (by decide +kernel) (by decide +kernel) (by decide +kernel) (by decide +kernel), _, rfl, x, s', a, st, d, sz, wd, _, _, kvs5, rfl, ho5, hst', hg.step hz.pos hpos, hz, hw, hl, hc5, by omega, fun H6 kvs6 hc6 hk6 => ?_⟩
                refine ⟨_, hk6 _ _ hDd hD5, ?_, kvs6, ?_, ?_, ?_⟩
                · rw [List.length_map, List.length_take, List.length_map, sizeLine_eq]
                  have := length_succs rem
                  have h4 := hz.le
                  have h5 := hg.len
                  omega
                · exact hc6.updL _ (hk6 _ _ hDd hD5)
                · exact fun b o hb e => by rw [upd_ne (ne_of_none e hD)]; exact hk6 b o hb (hk5 b o hb e)
                · rw [upd_same, List.take_succ, List.map_append, List.getElem?_map, ecs]
                  rfl
            · rintro H5 ⟨kvs5, hc5, hk5, hD5⟩
              have hlen : (ts.map V.ref).length = (succs rem).length := by rw [List.length_map, hS.len]
              rw [hlen, List.take_of_length_le (by rw [List.length_map]; exact Nat.le_refl _)] at hD5
              have hc5' := hc5
              have ho5 := hc3.obj ho3 hk5
              obtain ⟨dx5, hob5⟩ := id ho5.ob
              have hs5 : StAt H5 s0 rem pl := hs3.keep (hc3.keeps hk5)
              refine ⟨D, _, rfl, .of hD5, ?_⟩
              rw [sum_cast]
              have ecnt : ((succs rem).map fun c => cnt sz wd (dec rem c) (red sz (pl ++ [c]))).sum = cnt sz wd rem pl := by
                obtain ⟨m, em⟩ : ∃ m, rem.sum = m + 1 := ⟨rem.sum - 1, by omega⟩
                unfold cnt
                rw [em, length_comps]
                refine congrArg List.sum (List.map_congr_left fun c hc => ?_)
                have := sum_dec (mem_succs.mp hc)
                rw [show (dec rem c).sum = m by omega]
              rw [ecnt]
              refine ⟨_, rfl, x, C, dx5, _, _, rfl, hob5, G.cl, G.nCache, flds_cache _ _ _ _, _, rfl, d, s0, _, kvs5, rfl, rfl, hc5.dic, hs5.key, hc5.few hz.le hw hl, fun H7 hd7 hk7 => ?_⟩
              have b7 : But d H5 H7 := fun b o hb e => (hk7 b hb).trans e
              refine ⟨rfl, _, ⟨hd7, fun kv hkv => ?_⟩, fun b o hb e => b7 b o hb (hk5 b o hb (s3 _ _ (s1 _ _ e))), ?_⟩
              · rcases mem_putK hkv with hkv | rfl
                · exact hc5.good kv hkv
                · exact ⟨rem, pl, rfl, hg, hne, rfl⟩
              · rw [valV_put, if_pos rfl]
        · rintro σ' H' ⟨rfl, kvs', hc', hk', hv⟩
          have ho' := hc.obj ho hk'
          obtain ⟨dx', hob'⟩ := id ho'.ob
          have hs' : StAt H' s0 rem pl := hs.keep (hc.keeps hk')
          exact ⟨_, rfl, x, C, dx', _, _, rfl, hob', G.cl, G.nCache, flds_cache _ _ _ _, _, rfl, d, s0, _, kvs', _, rfl, rfl, hc'.dic, hs'.key, hv, q H' kvs' hc' hk'⟩
theorem ok_ways (F : FnQ K "ways" "RowCounter.ways" sWays f fd) (T : Txt K mg) (G : ClsF K mg C) (hm : Meth K C "ways" f) (MF : CalM P w K mg base C "is_feasible" 4 ["self", "state"] (spFeas C)) (MS : CalM P w K mg base C "successors" 4 ["self", "state"] (spSucc C)) :
    ∀ n, FnOk P w K mg base CX0 (4 + n) f fd ["self", "state"] (spWays P w C n)
  | 0 => ways_none
  | n + 1 => ok_ways1 F T G MF MS (CalM.mk' F hm (ok_ways F T G hm MF MS n) fun _ _ _ _ _ _ us h => by
      match us, h with
      | [a, b], _ => rfl)
end
end Pk

namespace Pk
open PySem PySem.Spec L2
open PyProof.Rows hiding St
section
variable {P : Program} {w : World} {K : PySem.W.Frag} {mg : Str → Option Value} {base : Heap} {f C : Addr} {fd : FuncData}
/-! ### viable -/
def viaUp (sz tgt : List Nat) (m : Nat) (rem pl : List Nat) (i : Nat) : List Nat := ((succs rem).take i).filter fun c => decide (0 < (comps sz tgt m (dec rem c) (red sz (pl ++ [c]))).length)
theorem viaUp_succ {sz tgt : List Nat} {m : Nat} {rem pl : List Nat} {i c : Nat} (h : (succs rem)[i]? = some c) : viaUp sz tgt m rem pl (i + 1) = if 0 < (comps sz tgt m (dec rem c) (red sz (pl ++ [c]))).length then viaUp sz tgt m rem pl i ++ [c] else viaUp sz tgt m rem pl i := by
  unfold viaUp
  rw [List.take_succ, h, List.filter_append]
  by_cases hp : 0 < (comps sz tgt m (dec rem c) (red sz (pl ++ [c]))).length
  · rw [if_pos hp]
    show _ ++ List.filter _ [c] = _
    rw [List.filter_cons_of_pos (by simpa using hp)]; rfl
  · rw [if_neg hp]
    show _ ++ List.filter _ [c] = _
    rw [List.filter_cons_of_neg (by simpa using hp), List.filter_nil, List.append_nil]
def spViable (P : Program) (w : World) (C : Addr) : Sp := fun vs H Q _ => ∃ (x s a st d : Addr) (sz wd rem pl : List Nat) (kvs : List (NestedKey × V)), vs = [.ref x, .ref s] ∧ ObjAt C H x a st d sz wd ∧ StAt H s rem pl ∧ Good sz wd rem pl ∧ SzOk sz ∧ WOk sz.length wd ∧ wd.length ≤ 12 ∧ CacheAt P w H d sz wd kvs ∧
  ∀ (R : Addr) (ts : List Addr) (H' : Hp) (kvs' : List (NestedKey × V)), CacheAt P w H' d sz wd kvs' → But d H H' → H' R = some (.lst (ts.map V.ref)) → SuccsAt sz rem pl H' ts (via sz (red sz wd) (rem.sum - 1) rem pl) → Q (.ref R) H'
theorem scViable : FnScope ["self", "state", "bead", "follower"] ["self", "state"] (defScope sViable) := ⟨rfl, rfl, rfl, by decide +kernel, rfl, by decide +kernel, by decide +kernel⟩
theorem ok_viable (F : FnQ K "viable" "RowCounter.viable" sViable f fd) (T : Txt K mg) (G : ClsF K mg C) (MS : CalM P w K mg base C "successors" 4 ["self", "state"] (spSucc C))
    (M : CalM P w K mg base C "ways" 17 ["self", "state"] (spWays P w C 13)) : FnOk P w K mg base CX0 18 f fd ["self", "state"] (spViable P w C) := by
  refine F.fok scViable (fun vs H Q E h => ?_) (fun cdv A outer s H vs Q E hr h => ?_)
  · obtain ⟨_, _, _, _, _, _, _, _, _, _, rfl, _⟩ := h
    rfl
  · obtain ⟨x, s0, a, st, d, sz, wd, rem, pl, kvs, rfl, ho, hs, hg, hz, hw, hl, hc, q⟩ := h
    have nd := scViable.nd
    refine ⟨_, pss_one (ps_ret (pe_lc (own := [("bead", 2), ("follower", 3)]) (g := gTup K 2 (gCons (gName 2) (gCons (gName 3) gNil))) rfl nd
            (pi_list (pe_calm (pv 0) G.cl MS hr (by omega) (pa_cons (pv 1) pa_nil)))
            (blkOk_by (N := ["self", "state", "bead", "follower"]) (sc := defScope sViable) (by decide +kernel)) (fun _ _ _ _ _ => pg_tup rfl (pgs_cons (pg_name (i := 2) nd rfl (Or.inl rfl)) (pgs_cons (pg_name (i := 3) nd rfl (Or.inl rfl)) pgs_nil)))
            (fun _ _ _ _ _ => pts_one (pt_cmpR op_gt (pe_calm (pv 0) G.cl M hr (by omega) (pa_cons (pv 3) pa_nil)) pe_int (nomark _)))
            (fun _ _ _ _ _ => pe_tup (pa_cons (pv 2) (pa_cons (pv 3) pa_nil))))), ?_⟩
    obtain ⟨dx, hob⟩ := id ho.ob
    refine ⟨_, rfl, x, dx, _, rfl, hob, flds_no _ _ _ _ (by decide +kernel) (by decide +kernel) (by decide +kernel) (by decide +kernel), _, rfl, x, s0, a, st, d, sz, wd, rem, pl, rfl, ho, hs, hg, hz, hw, by omega, fun R ts H3 s3 hR0 hR hS => ?_⟩
    have hc3 := hc.same s3
    have ho3 := ho.same s3
    have hRd : R ≠ d := fun e => by
      obtain ⟨ys, e1, _⟩ := hc.dic
      rw [e, e1] at hR0
      cases hR0
    refine ⟨R, rfl, ⟨_, .of hR⟩, fun D hD => ?_⟩
    have hDd : D ≠ d := fun e => by
      obtain ⟨ys, e1, _⟩ := hc3.dic
      rw [e, e1] at hD
      cases hD
    have hRD : R ≠ D := ne_of_none hR hD
    refine lc_list (K := K) (a := R) (xs := ts.map V.ref) (fun i H5 => ∃ kvs' us, CacheAt P w H5 d sz wd kvs' ∧ But d H3 H5 ∧ H5 D = some (.lst (us.map V.ref)) ∧ SuccsAt sz rem pl H5 us (viaUp sz (red sz wd) (rem.sum - 1) rem pl i)) ?_ ?_ ?_ ?_
    · exact ⟨kvs, [], hc3.same (Same.upd hD _), fun b o _ e => Same.upd hD _ _ _ e, upd_same, rfl, fun i t c h1 _ => by cases h1⟩
    · exact fun i H5 _ ⟨_, _, _, hk, _⟩ => .of (hk _ _ hRd hR)
    · rintro i y H5 hy ⟨kvs5, us, hc5, hk5, hD5, hu5⟩
      rw [List.getElem?_map] at hy
      cases et : ts[i]? with
      | none => rw [et] at hy; cases hy
      | some t =>
        rw [et] at hy
        cases hy
        have hi : i < (succs rem).length := by
          rw [← hS.len]
          exact (List.getElem?_eq_some_iff.mp et).1
        have ecs : (succs rem)[i]? = some (succs rem)[i] := List.getElem?_eq_getElem hi
        have hpos : 0 < rem.getD (succs rem)[i] 0 := mem_succs.mp (List.getElem_mem hi)
        obtain ⟨s', hts, hst'⟩ := (hS.get i t _ et ecs).keep (hc3.keeps hk5)
        have hsd := sum_dec hpos
        have hg' := hg.step hz.pos hpos
        have hgs := hg'.sum hw
        refine ⟨t, _, rfl, .of hts, rfl, _, _, rfl, _, _, rfl, rfl, rfl, ?_⟩
        have ho5 := hc3.obj ho3 hk5
        obtain ⟨dx5, hob5⟩ := id ho5.ob
        refine ⟨_, rfl, x, dx5, _, rfl, hob5, flds_no _ _ _ _ (by decide +kernel) (by decide +kernel) (by decide +kernel) (by decide +kernel), _, rfl, x, s', a, st, d, sz, wd, _, _, kvs5, rfl, ho5, hst', hg', hz, hw, hl, hc5, by omega, fun H6 kvs6 hc6 hk6 => ?_⟩
        have hD6 := hk6 _ _ hDd hD5
        have em : (dec rem (succs rem)[i]).sum = rem.sum - 1 := by omega
        have h6 : SuccsAt sz rem pl H6 us (viaUp sz (red sz wd) (rem.sum - 1) rem pl i) := hu5.keep (hc5.keeps hk6)
        refine ⟨_, _, rfl, rfl, _, rfl, ?_⟩
        refine ite2 (fun c2 => ?_) (fun c2 => ?_)
        · have hp : 0 < (comps sz (red sz wd) (rem.sum - 1) (dec rem (succs rem)[i]) (red sz (pl ++ [(succs rem)[i]]))).length := by
            have := of_decide_eq_true c2
            rw [show cnt sz wd (dec rem (succs rem)[i]) (red sz (pl ++ [(succs rem)[i]])) = (comps sz (red sz wd) (rem.sum - 1) (dec rem (succs rem)[i]) (red sz (pl ++ [(succs rem)[i]]))).length from by unfold cnt; rw [em]] at this
            omega
          refine ⟨_, rfl, _, rfl, two_fits, fun p hp0 => ?_⟩
          have hD7 : (upd H6 p (.tup [.str (one (succs rem)[i]), .ref s'])) D = some (.lst (us.map V.ref)) := Same.upd hp0 _ _ _ hD6
          have hul : us.length ≤ 4 := by
            rw [hu5.len]
            have h1 : (viaUp sz (red sz wd) (rem.sum - 1) rem pl i).length ≤ ((succs rem).take i).length := List.length_filter_le _ _
            rw [List.length_take] at h1
            have := length_succs rem
            have h4 := hz.le
            have h5 := hg.len
            omega
          refine ⟨_, hD7, by rw [List.length_map, sizeLine_eq]; omega, kvs6, us ++ [p], (hc6.same (Same.upd hp0 _)).updL _ hD7, ?_, by rw [upd_same, List.map_append]; rfl, ?_⟩
          · exact fun b o hb e => by
              rw [upd_ne (ne_of_none e hD)]
              exact Same.upd hp0 _ _ _ (hk6 b o hb (hk5 b o hb e))
          · rw [viaUp_succ ecs, if_pos hp]
            have tk := tup_keep (.lst (us.map V.ref ++ [V.ref p])) hD7
            refine (h6.keep fun b xs e => tk b xs (Same.upd hp0 _ _ _ e)).snoc ⟨s', tk p _ upd_same, hst'.keep fun b xs e => tk b xs (Same.upd hp0 _ _ _ (hc5.keeps hk6 b xs e))⟩
        · have hp : ¬ 0 < (comps sz (red sz wd) (rem.sum - 1) (dec rem (succs rem)[i]) (red sz (pl ++ [(succs rem)[i]]))).length := fun hp => c2 (decide_eq_true (by
            rw [show cnt sz wd (dec rem (succs rem)[i]) (red sz (pl ++ [(succs rem)[i]])) = (comps sz (red sz wd) (rem.sum - 1) (dec rem (succs rem)[i]) (red sz (pl ++ [(succs rem)[i]]))).length from by unfold cnt; rw [em]]
            omega))
          refine ⟨kvs6, us, hc6, fun b o hb e => hk6 b o hb (hk5 b o hb e), hD6, ?_⟩
          rw [viaUp_succ ecs, if_neg hp]
          exact h6
    · rintro H5 ⟨kvs5, us, hc5, hk5, hD5, hu5⟩
      rw [List.length_map, hS.len] at hu5
      have e : viaUp sz (red sz wd) (rem.sum - 1) rem pl (succs rem).length = via sz (red sz wd) (rem.sum - 1) rem pl := by
        unfold viaUp
        rw [List.take_of_length_le (Nat.le_refl _)]
        rfl
      rw [e] at hu5
      exact q D us H5 kvs5 hc5 (fun b o hb e => hk5 b o hb (s3 _ _ e)) hD5 hu5
end
end Pk

namespace Pk
open PySem PySem.Spec L2
open PyProof.Rows hiding St
section
variable {P : Program} {w : World} {K : PySem.W.Frag} {mg : Str → Option Value} {base : Heap} {f C : Addr} {fd : FuncData}
/-! ### check_countable -/
def spCountable : Sp := fun vs H Q _ => ∃ (a : Addr) (sz wd : List Nat), vs = [.ref a, .str (sOf wd)] ∧ H a = some (.tup (szV sz)) ∧ SzOk sz ∧ WOk sz.length wd ∧ wd.length ≤ 12 ∧ ∀ H', Same H H' → Q .non H'
theorem scCountable : FnScope ["sizes", "row"] ["sizes", "row"] (defScope sCountable) := ⟨rfl, rfl, rfl, by decide +kernel, rfl, by decide +kernel, by decide +kernel⟩
theorem ok_countable (F : FnP K "check_countable" sCountable f fd) (T : Txt K mg) (C1 : Cal P w K mg base "check_sizes" 2 ["sizes"] spCheckSizes) (C2 : Cal P w K mg base "check_row" 2 ["sizes", "row"] spCheckRow) (C3 : Cal P w K mg base "check_short" 1 ["row"] spCheckShort) :
    FnOk P w K mg base CX0 3 f fd ["sizes", "row"] spCountable := by
  refine F.fok scCountable (fun vs H Q E h => ?_) (fun cdv A outer s H vs Q E hr h => ?_)
  · obtain ⟨_, _, _, rfl, _⟩ := h
    rfl
  · obtain ⟨a, sz, wd, rfl, ha, hz, hw, hl, q⟩ := h
    refine ⟨_, pss_cons (ps_expr (pe_cal C1 hr (by decide) rfl (pa_cons (pv 0) pa_nil))) (pss_cons (ps_expr (pe_cal C2 hr (by decide) rfl (pa_cons (pv 0) (pa_cons (pv 1) pa_nil))))
      (pss_one (ps_expr (pe_cal C3 hr (by decide) rfl (pa_cons (pv 1) pa_nil))))), ?_⟩
    have hzl := hz.le
    refine ⟨_, rfl, a, sz, rfl, ha, hz, fun H1 s1 => ⟨_, rfl, _, rfl, a, sz, wd, rfl, s1 _ _ ha, by omega, hw, by omega, fun H2 s2 => ?_⟩⟩
    exact ⟨_, rfl, wd, rfl, hl, q H2 (s1.trans s2)⟩
/-! ### RowCounter(sizes, row) -/
structure MkC (P : Program) (w : World) (K : PySem.W.Frag) (mg : Str → Option Value) (base : Heap) (C : Addr) : Prop where
  ex : ∃ f fd, Mk K C f ∧ FnOk P w K mg base CX0 4 f fd ["self", "sizes", "row"] (spInit P w C) ∧ Binds K fd ["self", "sizes", "row"] []
theorem pe_mkC {X : Cx} {p pos : Pos} {e : Expr} {es : List Expr} {t : TA} (M : MkC X.prog X.w X.K X.mg X.base C) (G : ClsF X.K X.mg C) {j : Nat} (hr : Room j X.A) (hj : 5 ≤ j) (hg : Gl X "RowCounter") (ha : PA X (e :: es) t)
    (he : starEach (e :: es) X.env = (false, eval e X.env) :: starEach es X.env := by rfl) (hpl : (backTo pos (starEach es X.env)).any (·.1) = false := by rfl) :
    PE X (.Call (.Name "RowCounter" p) (e :: es) [] pos) (tMake C (spInit X.prog X.w C) [] E0 t) := by
  obtain ⟨f, fd, hm, O, hb⟩ := M.ex
  exact pe_make hm O (hr.mono (by omega)) hg G.mgC hb .nil pass0 ha (by decide) he hpl
theorem make_keep {H : Hp} {x dx : Addr} (hx : H x = none) (hdx : H dx = none) : Same H (upd (upd H dx (.own x)) x (.ins C dx [])) := fun b o e => by
  rw [upd_ne (ne_of_none e hx), upd_ne (ne_of_none e hdx)]
  exact e
theorem make_end {H H' : Hp} {x dx d : Addr} (hx : H x = none) (hdx : H dx = none) (hkeep : ∀ b o, (upd (upd H dx (.own x)) x (.ins C dx [])) b = some o → b ≠ x → H' b = some o) (hd : (upd (upd H dx (.own x)) x (.ins C dx [])) d = none) : Same H H' ∧ H d = none := by
  refine ⟨fun b o e => hkeep b o (make_keep hx hdx b o e) (ne_of_none e hx), ?_⟩
  cases e : H d with
  | none => rfl
  | some o =>
    rw [make_keep (C := C) hx hdx d o e] at hd
    cases hd
/-! ### count_reachable -/
def spCount : Sp := fun vs H Q _ => ∃ (a : Addr) (sz wd : List Nat), vs = [.ref a, .str (sOf wd)] ∧ H a = some (.tup (szV sz)) ∧ SzOk sz ∧ WOk sz.length wd ∧ wd.length ≤ 12 ∧ ∀ H', Same H H' → Q (.int (cnt sz wd (tal sz.length wd) [] : Nat)) H'
theorem scCount : FnScope ["sizes", "row", "counter"] ["sizes", "row"] (defScope sCount) := ⟨rfl, rfl, rfl, by decide +kernel, rfl, by decide +kernel, by decide +kernel⟩
theorem But.same {d : Addr} {H0 H H' : Hp} (h : But d H H') (s : Same H0 H) (hd : H0 d = none) : Same H0 H' := fun b o e => h b o (ne_of_none e hd) (s b o e)
theorem ok_count (F : FnP K "count_reachable" sCount f fd) (T : Txt K mg) (G : ClsF K mg C) (CK : Cal P w K mg base "check_countable" 3 ["sizes", "row"] spCountable) (MC : MkC P w K mg base C)
    (M : CalM P w K mg base C "ways" 17 ["self", "state"] (spWays P w C 13)) : FnOk P w K mg base CX0 18 f fd ["sizes", "row"] spCount := by
  refine F.fok scCount (fun vs H Q E h => ?_) (fun cdv A outer s H vs Q E hr h => ?_)
  · obtain ⟨_, _, _, rfl, _⟩ := h
    rfl
  · obtain ⟨a, sz, wd, rfl, ha, hz, hw, hl, q⟩ := h
    have nd := scCount.nd
    refine ⟨_, pss_cons (ps_expr (pe_cal CK hr (by decide) rfl (pa_cons (pv 0) (pa_cons (pv 1) pa_nil)))) (pss_cons (ps_set (i := 2) nd rfl (.inl rfl) (pe_mkC MC G hr (by decide) rfl (pa_cons (pv 0) (pa_cons (pv 1) pa_nil))))
      (pss_one (ps_ret (pe_calm (pv 2) G.cl M hr (by omega) (pa_cons (pe_fld (pv 2) rfl) pa_nil))))), ?_⟩
    refine ⟨_, rfl, _, rfl, a, sz, wd, rfl, ha, hz, hw, hl, fun H1 s1 => ⟨_, rfl, _, rfl, fun x dx hx hdx hne => ⟨x, a, dx, sz, wd, rfl, upd_same, make_keep hx hdx _ _ (s1 _ _ ha), hz, hw, by omega, fun st d H2 ho hc hkeep hd0 => ⟨rfl, ?_⟩⟩⟩⟩
    obtain ⟨s2, hd⟩ := make_end hx hdx hkeep hd0
    obtain ⟨dx, hob⟩ := id ho.ob
    have hg : Good sz wd (tal sz.length wd) [] := Good.start hw
    have := hg.sum hw
    refine ⟨_, rfl, x, dx, _, rfl, hob, flds_no _ _ _ _ (by decide +kernel) (by decide +kernel) (by decide +kernel) (by decide +kernel), _, rfl, x, C, dx, _, _, rfl, hob, G.cl, G.nStart, flds_start _ _ _ _, ?_⟩
    exact ⟨x, st, a, st, d, sz, wd, _, _, [], rfl, ho, ho.st, hg, hz, hw, hl, hc, by omega, fun H3 kvs3 hc3 hk3 => q H3 (s1.trans (hk3.same s2 hd))⟩
end
end Pk

namespace Pk
open PySem PySem.Spec L2
open PyProof.Rows hiding St
/-- the first or the last completion -/
def endW (ul : Bool) (sz tgt : List Nat) (m : Nat) (rem pl : List Nat) : List Nat := if ul then lstW sz tgt m rem pl else fstW sz tgt m rem pl
/-- the first or the last of a list -/
def endL {α : Type} (ul : Bool) (l : List α) : Option α := if ul then l.getLast? else l.head?
theorem end_step {sz tgt : List Nat} {m : Nat} {rem pl : List Nat} (ul : Bool) (h : comps sz tgt (m + 1) rem pl ≠ []) : ∃ c, endL ul (via sz tgt m rem pl) = some c ∧ c ∈ via sz tgt m rem pl ∧ endW ul sz tgt (m + 1) rem pl = c :: endW ul sz tgt m (dec rem c) (red sz (pl ++ [c])) := by
  have hne := via_ne h
  cases ul with
  | true =>
    rcases List.eq_nil_or_concat (via sz tgt m rem pl) with e | ⟨r, c, e⟩
    · exact absurd e hne
    · rw [List.concat_eq_append] at e
      exact ⟨c, by show (via sz tgt m rem pl).getLast? = _; rw [e, List.getLast?_append]; rfl, by rw [e]; simp, lst_step e⟩
  | false =>
    cases e : via sz tgt m rem pl with
    | nil => exact absurd e hne
    | cons c r => exact ⟨c, rfl, List.mem_cons_self, fst_step e⟩
theorem endL_get {α : Type} {ul : Bool} {l : List α} {c : α} (h : endL ul l = some c) : l[if ul then l.length - 1 else 0]? = some c := by
  cases ul with
  | true => exact (List.getLast?_eq_getElem? (l := l)).symm.trans h
  | false => exact (List.head?_eq_getElem? (l := l)).symm.trans h
/-- a list that is paired with another: the value at an end -/
theorem endL_at {ts : List Addr} {cs : List Nat} {ul : Bool} {c : Nat} (hl : ts.length = cs.length) (h : endL ul cs = some c) : ∃ (i : Nat) (t : Addr), ts[i]? = some t ∧ cs[i]? = some c ∧ atI (ts.map V.ref) (if ul then -1 else 0) = some (.ref t) := by
  have hg := endL_get h
  obtain ⟨hlt, _⟩ := List.getElem?_eq_some_iff.mp hg
  have hlt' : (if ul then cs.length - 1 else 0) < ts.length := by rw [hl]; exact hlt
  refine ⟨_, _, List.getElem?_eq_getElem hlt', hg, ?_⟩
  cases ul with
  | false =>
    refine atI_nat (j := 0) ?_
    rw [List.getElem?_map, List.getElem?_eq_getElem (show 0 < ts.length from hlt')]
    rfl
  | true =>
    rcases List.eq_nil_or_concat ts with e | ⟨r, t, e⟩
    · subst e; exact absurd hlt' (by simp)
    · rw [List.concat_eq_append] at e
      subst e
      rw [List.map_append]
      have e2 : (r ++ [t])[if true = true then cs.length - 1 else 0] = t := by
        have : (if true = true then cs.length - 1 else 0) = r.length := by
          rw [if_pos rfl, ← hl, List.length_append]
          rfl
        refine Option.some.inj ((List.getElem?_eq_getElem hlt').symm.trans ?_)
        rw [this, List.getElem?_append_right (Nat.le_refl _), Nat.sub_self]
        rfl
      rw [e2]
      exact atI_last _ _
section
variable {P : Program} {w : World} {K : PySem.W.Frag} {mg : Str → Option Value} {base : Heap} {f C : Addr} {fd : FuncData}
/-- a def with one keyword-only parameter and no defaults -/
structure CalK (P : Program) (w : World) (K : PySem.W.Frag) (mg : Str → Option Value) (base : Heap) (x : Str) (k n : Nat) (ps : List Str) (kn : Str) (sp : Sp) : Prop where
  ex : ∃ f fd, FnOk P w K mg base CX0 k f fd ps sp ∧ mg x = some (.ref f) ∧ PySem.W.keepIn K (.ref f) = true ∧ KBn K fd ps n [kn] (fun us ws => us ++ ws) (fun us ws => us ++ ws)
theorem CalK.mk' {x : Str} {st : Stmt} {k n : Nat} {ps : List Str} {kn : Str} {sp : Sp} (F : FnP K x st f fd) (m : mg x = some (.ref f)) (O : FnOk P w K mg base CX0 k f fd ps sp)
    (b : ∀ (kV doc pm : Value) (an : Option Addr) (cdv ct : Value) (us ws : List Value), us.length = n → ws.length = 1 → bindArgs (PySem.W.fnOf x x (defArgs st) (defBody st) (defScope st) .none kV doc pm an cdv ct) ⟨us, [kn].zip ws⟩ = pure (ps.zip (us ++ ws))) : CalK P w K mg base x k n ps kn sp := by
  refine ⟨f, fd, O, m, F.kp, ?_, fun r1 r2 => r1.append r2⟩
  intro s us ws X l1 l2
  obtain ⟨oc, od, dV, kV, doc, pm, an, cdv, ct, osl, rfl, lk, hcd, hD, hK⟩ := F.ex
  rcases hD with ⟨_, rfl⟩ | ⟨e, _⟩
  · exact .of_eq (b kV doc pm an cdv ct us ws l1 l2)
  · exact absurd rfl e
theorem pe_calK {X : Cx} {x : Str} {k n : Nat} {ps : List Str} {kn : Str} {sp : Sp} {p pos kpos : Pos} {e v : Expr} {es : List Expr} {t : TA} {tv : TE} (C : CalK X.prog X.w X.K X.mg X.base x k n ps kn sp) {j : Nat} (hr : Room j X.A) (hj : k ≤ j) (hg : Gl X x) (ha : PA X (e :: es) t) (hv : PE X v tv)
    (hall : (backToKw pos (keywordEach [⟨some kn, v, kpos⟩] X.env)).all (·.1.isSome) = true := by rfl) (hks : (backToKw pos (keywordEach [⟨some kn, v, kpos⟩] X.env)).filterMap (·.1) = [kn] := by rfl)
    (hdb : (x == ("__debug__" : Str)) = false := by decide) (he : starEach (e :: es) X.env = (false, eval e X.env) :: starEach es X.env := by rfl)
    (hpl : ((backTo pos (starEach (e :: es) X.env)).any (·.1) || (backToKw pos (keywordEach [⟨some kn, v, kpos⟩] X.env)).any (·.1.isNone)) = false := by rfl) :
    PE X (.Call (.Name x p) (e :: es) [⟨some kn, v, kpos⟩] pos) (tCallN n 1 sp (fun us ws => us ++ ws) E0 t (tCons tv tNil)) := by
  obtain ⟨f, fd, O, hm, hk, hb⟩ := C.ex
  exact pe_callN O (hr.mono hj) hg hm hk hb pass0 ha (pk_cons hv pk_nil) hall hks hdb he hpl
/-! ### complete -/
def spComplete (P : Program) (w : World) (C : Addr) : Sp := fun vs H Q _ => ∃ (x s a st d : Addr) (ul : Bool) (sz wd pre rem pl : List Nat) (kvs : List (NestedKey × V)), vs = [.ref x, .str (sOf pre), .ref s, .bl ul] ∧ ObjAt C H x a st d sz wd ∧ StAt H s rem pl ∧ Good sz wd rem pl ∧ SzOk sz ∧ WOk sz.length wd ∧ wd.length ≤ 12 ∧ CacheAt P w H d sz wd kvs ∧
  comps sz (red sz wd) rem.sum rem pl ≠ [] ∧ pre.length + rem.sum ≤ 1000 ∧ ∀ (H' : Hp) (kvs' : List (NestedKey × V)), CacheAt P w H' d sz wd kvs' → But d H H' → Q (.str (sOf (pre ++ endW ul sz (red sz wd) rem.sum rem pl))) H'
theorem scComplete : FnScope ["counter", "prefix", "state", "use_last", "bead"] ["counter", "prefix", "state", "use_last"] (defScope sComplete) := ⟨rfl, rfl, rfl, by decide +kernel, rfl, by decide +kernel, by decide +kernel⟩
def ComW (P : Program) (w : World) (H : Hp) (x d : Addr) (ul : Bool) (sz wd goal : List Nat) (m : Nat) (σ : L2.St) (H2 : Hp) : Prop :=
  ∃ (s1 : Addr) (pre1 rem1 pl1 : List Nat) (kvs1 : List (NestedKey × V)) (u : Option V), σ = [some (.ref x), some (.str (sOf pre1)), some (.ref s1), some (.bl ul), u] ∧ m = rem1.sum ∧ StAt H2 s1 rem1 pl1 ∧ Good sz wd rem1 pl1 ∧ CacheAt P w H2 d sz wd kvs1 ∧ But d H H2 ∧
        comps sz (red sz wd) rem1.sum rem1 pl1 ≠ [] ∧ pre1.length + rem1.sum ≤ 1000 ∧ pre1 ++ endW ul sz (red sz wd) rem1.sum rem1 pl1 = goal
theorem ok_complete (F : FnP K "complete" sComplete f fd) (T : Txt K mg) (G : ClsF K mg C) (MV : CalM P w K mg base C "viable" 18 ["self", "state"] (spViable P w C)) : FnOk P w K mg base CX0 19 f fd ["counter", "prefix", "state", "use_last"] (spComplete P w C) := by
  refine F.fok scComplete (fun vs H Q E h => ?_) (fun cdv A outer s H vs Q E hr h => ?_)
  · obtain ⟨_, _, _, _, _, _, _, _, _, _, _, _, rfl, _⟩ := h
    rfl
  · obtain ⟨x, s0, a, st, d, ul, sz, wd, pre, rem, pl, kvs, rfl, ho, hs, hg, hz, hw, hl, hc, hne, hpre, q⟩ := h
    have nd := scComplete.nd
    refine ⟨_, pss_cons (ps_while PassesOwn.never (pt_cmpR op_gt (pe_callB (cr_sumT rfl) rfl T.sum boot_sum (pa_cons (pe_ix ix_tup (pv 2) pe_int (fun _ _ => rfl)) pa_nil)) pe_int (nomark _))
        (pss_cons (ps_asg (pe_ix ix_list (pe_calm (pv 0) G.cl MV hr (by omega) (pa_cons (pv 2) pa_nil)) (pe_ifExp (pt_val (pv 3)) (pe_un un_neg pe_int) pe_int) (fun _ _ => rfl)) (pg_tup rfl (pgs_cons (pg_name (i := 4) nd rfl (.inl rfl)) (pgs_cons (pg_name (i := 2) nd rfl (.inl rfl)) pgs_nil))))
        (pss_one (ps_aug (i := 1) nd rfl (.inl rfl) (pv 4) ip_addS)))) (pss_one (ps_ret (pv 1))), ?_⟩
    refine ⟨ComW P w H x d ul sz wd (pre ++ endW ul sz (red sz wd) rem.sum rem pl), ⟨_, s0, pre, rem, pl, kvs, none, rfl, rfl, hs, hg, hc, fun _ _ _ e => e, hne, hpre, rfl⟩, ?_⟩
    rintro m σ H2 ⟨s1, pre1, rem1, pl1, kvs1, u, rfl, rfl, hs1, hg1, hc1, hk1, hne1, hpre1, he1⟩
    obtain ⟨t0, ht1, ht2⟩ := id hs1
    refine ⟨_, rfl, s1, _, _, _, rfl, rfl, .of ht1, atI_nat (j := 0) rfl, t0, _, rfl, .of (by rw [← szV_ints]; exact ht2), _, _, rfl, rfl, _, rfl, ?_⟩
    rw [sum_cast']
    refine ite2 (fun c2 => ?_) (fun c2 => ?_)
    · have hpos : 0 < rem1.sum := by
        have := of_decide_eq_true c2
        omega
      obtain ⟨m, em⟩ : ∃ m, rem1.sum = m + 1 := ⟨rem1.sum - 1, by omega⟩
      refine ⟨fun σ' H' => ∃ m', m' < rem1.sum ∧ ComW P w H x d ul sz wd (pre ++ endW ul sz (red sz wd) rem.sum rem pl) m' σ' H', fun σ' H' h => h, ?_⟩
      have ho1 := hc.obj ho hk1
      obtain ⟨dx1, hob1⟩ := id ho1.ob
      refine ⟨_, rfl, x, dx1, _, rfl, hob1, flds_no _ _ _ _ (by decide +kernel) (by decide +kernel) (by decide +kernel) (by decide +kernel), _, rfl, x, s1, a, st, d, sz, wd, rem1, pl1, kvs1, rfl, ho1, hs1, hg1, hz, hw, hl, hc1, fun R ts H3 kvs3 hc3 hk3 hR hS => ?_⟩
      rw [em] at hne1 he1
      rw [em, Nat.add_sub_cancel] at hS
      obtain ⟨c, hce, hcm, hcw⟩ := end_step ul hne1
      obtain ⟨i, t, hti, hci, hat⟩ := endL_at hS.len hce
      obtain ⟨s', hts, hst'⟩ := hS.get i t c hti hci
      obtain ⟨hp1, hp2⟩ := via_pos hcm
      have hsd := sum_dec hp1
      have hds : (dec rem1 c).sum = m := by omega
      have next : ∃ m', m' < rem1.sum ∧ ComW P w H x d ul sz wd (pre ++ endW ul sz (red sz wd) rem.sum rem pl) m' [some (.ref x), some (.str (sOf (pre1 ++ [c]))), some (.ref s'), some (.bl ul), some (.str (one c))] H3 := by
        refine ⟨m, by omega, s', pre1 ++ [c], dec rem1 c, red sz (pl1 ++ [c]), kvs3, _, rfl, hds.symm, hst', hg1.step hz.pos hp1, hc3, fun b o hb e => hk3 b o hb (hk1 b o hb e), by rw [hds]; exact hp2, ?_, ?_⟩
        · rw [List.length_append]; show _ + 1 + _ ≤ _; omega
        · rw [hds, ← he1, hcw, List.append_assoc]; rfl
      have happ : sOf pre1 ++ one c = sOf (pre1 ++ [c]) := by rw [← sOf_app]; rfl
      rw [← happ] at next
      have hlen : (sOf pre1).length + (one c).length ≤ sizeLine := by rw [sOf_len, sizeLine_eq]; show _ + 1 ≤ _; omega
      refine ⟨_, rfl, ul, rfl, ?_⟩
      cases ul with
      | true => exact iteT ⟨1, rfl, R, _, _, _, rfl, rfl, .of hR, hat, t, _, rfl, .of hts, rfl, _, _, rfl, _, _, rfl, rfl, _, rfl, _, rfl, _, _, rfl, rfl, hlen, next⟩
      | false => exact iteF ⟨R, _, _, _, rfl, rfl, .of hR, hat, t, _, rfl, .of hts, rfl, _, _, rfl, _, _, rfl, rfl, _, rfl, _, rfl, _, _, rfl, rfl, hlen, next⟩
    · have h0 : rem1.sum = 0 := by
        have : ¬ (0 : Int) < rem1.sum := fun h => c2 (decide_eq_true h)
        omega
      refine ⟨_, rfl, ?_⟩
      have := q H2 kvs1 hc1 hk1
      rw [← he1] at this
      have e : endW ul sz (red sz wd) rem1.sum rem1 pl1 = [] := by
        rw [h0] at hne1 ⊢
        have hp : pl1 = red sz wd := by
          unfold comps at hne1
          by_cases hp : pl1 = red sz wd
          · exact hp
          · rw [if_neg hp] at hne1
            exact absurd rfl hne1
        cases ul with
        | true =>
          show lstW sz (red sz wd) 0 rem1 pl1 = []
          unfold lstW comps
          rw [if_pos hp]
          rfl
        | false =>
          show fstW sz (red sz wd) 0 rem1 pl1 = []
          unfold fstW comps
          rw [if_pos hp]
          rfl
      rw [e, List.append_nil] at this
      exact this
end
end Pk

namespace Pk
open PySem PySem.Spec L2
open PyProof.Rows hiding St
theorem start_ne {sz wd : List Nat} (hp : SPos sz) (hw : WOk sz.length wd) : comps sz (red sz wd) (tal sz.length wd).sum (tal sz.length wd) [] ≠ [] := by
  have h : wd ∈ comps sz (red sz wd) (tal sz.length wd).sum (tal sz.length wd) [] := (mem_comps hp _ _ [] wd rfl rfl).mpr ⟨by rw [length_tal]; exact hw, by rw [length_tal], rfl⟩
  intro e
  rw [e] at h
  cases h
theorem sum_tal {n : Nat} {wd : List Nat} (hw : WOk n wd) : (tal n wd).sum = wd.length := (length_of_tal (n := n) (x := wd) (rem := tal n wd) (length_tal _ _) hw rfl).symm
section
variable {P : Program} {w : World} {K : PySem.W.Frag} {mg : Str → Option Value} {base : Heap} {f C : Addr} {fd : FuncData}
/-! ### first_reachable, last_reachable -/
def spEnd (ul : Bool) : Sp := fun vs H Q _ => ∃ (a : Addr) (sz wd : List Nat), vs = [.ref a, .str (sOf wd)] ∧ H a = some (.tup (szV sz)) ∧ SzOk sz ∧ WOk sz.length wd ∧ wd.length ≤ 12 ∧ ∀ H', Same H H' → Q (.str (sOf (endW ul sz (red sz wd) (tal sz.length wd).sum (tal sz.length wd) []))) H'
theorem scFirst : FnScope ["sizes", "row", "counter"] ["sizes", "row"] (defScope sFirst) := ⟨rfl, rfl, rfl, by decide +kernel, rfl, by decide +kernel, by decide +kernel⟩
theorem scLast : FnScope ["sizes", "row", "counter"] ["sizes", "row"] (defScope sLast) := ⟨rfl, rfl, rfl, by decide +kernel, rfl, by decide +kernel, by decide +kernel⟩
theorem ok_first (F : FnP K "first_reachable" sFirst f fd) (T : Txt K mg) (G : ClsF K mg C) (CK : Cal P w K mg base "check_countable" 3 ["sizes", "row"] spCountable) (MC : MkC P w K mg base C)
    (CC : CalK P w K mg base "complete" 19 3 ["counter", "prefix", "state", "use_last"] "use_last" (spComplete P w C)) : FnOk P w K mg base CX0 20 f fd ["sizes", "row"] (spEnd false) := by
  refine F.fok scFirst (fun vs H Q E h => ?_) (fun cdv A outer s H vs Q E hr h => ?_)
  · obtain ⟨_, _, _, rfl, _⟩ := h
    rfl
  · obtain ⟨a, sz, wd, rfl, ha, hz, hw, hl, q⟩ := h
    have nd := scFirst.nd
    refine ⟨_, pss_cons (ps_expr (pe_cal CK hr (by decide) rfl (pa_cons (pv 0) (pa_cons (pv 1) pa_nil)))) (pss_cons (ps_set (i := 2) nd rfl (.inl rfl) (pe_mkC MC G hr (by decide) rfl (pa_cons (pv 0) (pa_cons (pv 1) pa_nil))))
      (pss_one (ps_ret (pe_calK CC hr (by decide) rfl (pa_cons (pv 2) (pa_cons pe_str (pa_cons (pe_fld (pv 2) rfl) pa_nil))) pe_bl)))), ?_⟩
    refine ⟨_, rfl, _, rfl, a, sz, wd, rfl, ha, hz, hw, hl, fun H1 s1 => ⟨_, rfl, _, rfl, fun x dx hx hdx hne => ⟨x, a, dx, sz, wd, rfl, upd_same, make_keep hx hdx _ _ (s1 _ _ ha), hz, hw, by omega, fun st d H2 ho hc hkeep hd0 => ⟨rfl, ?_⟩⟩⟩⟩
    obtain ⟨s2, hd⟩ := make_end hx hdx hkeep hd0
    obtain ⟨dx, hob⟩ := id ho.ob
    have hg : Good sz wd (tal sz.length wd) [] := Good.start hw
    have := hg.sum hw
    refine ⟨_, rfl, _, rfl, x, C, dx, _, _, rfl, hob, G.cl, G.nStart, flds_start _ _ _ _, rfl, rfl, ?_⟩
    exact ⟨x, st, a, st, d, false, sz, wd, [], _, _, [], by rw [sOf_nil]; rfl, ho, ho.st, hg, hz, hw, hl, hc, start_ne hz.pos hw, by show 0 + _ ≤ _; omega, fun H3 kvs3 hc3 hk3 => q H3 (s1.trans (hk3.same s2 hd))⟩
theorem ok_last (F : FnP K "last_reachable" sLast f fd) (T : Txt K mg) (G : ClsF K mg C) (CK : Cal P w K mg base "check_countable" 3 ["sizes", "row"] spCountable) (MC : MkC P w K mg base C)
    (CC : CalK P w K mg base "complete" 19 3 ["counter", "prefix", "state", "use_last"] "use_last" (spComplete P w C)) : FnOk P w K mg base CX0 20 f fd ["sizes", "row"] (spEnd true) := by
  refine F.fok scLast (fun vs H Q E h => ?_) (fun cdv A outer s H vs Q E hr h => ?_)
  · obtain ⟨_, _, _, rfl, _⟩ := h
    rfl
  · obtain ⟨a, sz, wd, rfl, ha, hz, hw, hl, q⟩ := h
    have nd := scLast.nd
    refine ⟨_, pss_cons (ps_expr (pe_cal CK hr (by decide) rfl (pa_cons (pv 0) (pa_cons (pv 1) pa_nil)))) (pss_cons (ps_set (i := 2) nd rfl (.inl rfl) (pe_mkC MC G hr (by decide) rfl (pa_cons (pv 0) (pa_cons (pv 1) pa_nil))))
      (pss_one (ps_ret (pe_calK CC hr (by decide) rfl (pa_cons (pv 2) (pa_cons pe_str (pa_cons (pe_fld (pv 2) rfl) pa_nil))) pe_bl)))), ?_⟩
    refine ⟨_, rfl, _, rfl, a, sz, wd, rfl, ha, hz, hw, hl, fun H1 s1 => ⟨_, rfl, _, rfl, fun x dx hx hdx hne => ⟨x, a, dx, sz, wd, rfl, upd_same, make_keep hx hdx _ _ (s1 _ _ ha), hz, hw, by omega, fun st d H2 ho hc hkeep hd0 => ⟨rfl, ?_⟩⟩⟩⟩
    obtain ⟨s2, hd⟩ := make_end hx hdx hkeep hd0
    obtain ⟨dx, hob⟩ := id ho.ob
    have hg : Good sz wd (tal sz.length wd) [] := Good.start hw
    have := hg.sum hw
    refine ⟨_, rfl, _, rfl, x, C, dx, _, _, rfl, hob, G.cl, G.nStart, flds_start _ _ _ _, rfl, rfl, ?_⟩
    exact ⟨x, st, a, st, d, true, sz, wd, [], _, _, [], by rw [sOf_nil]; rfl, ho, ho.st, hg, hz, hw, hl, hc, start_ne hz.pos hw, by show 0 + _ ≤ _; omega, fun H3 kvs3 hc3 hk3 => q H3 (s1.trans (hk3.same s2 hd))⟩
end
end Pk

namespace Pk
open PySem PySem.Spec L2
open PyProof.Rows hiding St
def stRem (n : Nat) (wd : List Nat) (i : Nat) : List Nat := tal n (wd.drop i)
def stPl (sz wd : List Nat) (i : Nat) : List Nat := red sz (wd.take i)
theorem st_step {sz wd : List Nat} (hp : SPos sz) (hw : WOk sz.length wd) {i : Nat} (hi : i < wd.length) :
    0 < (stRem sz.length wd i).getD wd[i] 0 ∧ dec (stRem sz.length wd i) wd[i] = stRem sz.length wd (i + 1) ∧ red sz (stPl sz wd i ++ [wd[i]]) = stPl sz wd (i + 1) := by
  have h := (tal_cons (n := sz.length) (c := wd[i]) (y := wd.drop (i + 1)) (rem := stRem sz.length wd i) (length_tal _ _) (hw _ (List.getElem_mem hi))).mp (by unfold stRem; rw [← List.drop_eq_getElem_cons hi])
  refine ⟨h.1, h.2.symm, ?_⟩
  unfold stPl
  rw [red_append_left hp, List.take_succ, List.getElem?_eq_getElem hi]
  rfl
theorem st_good {sz wd : List Nat} (hp : SPos sz) (hw : WOk sz.length wd) : ∀ i, i ≤ wd.length → Good sz wd (stRem sz.length wd i) (stPl sz wd i)
  | 0, _ => by
    have : Good sz wd (tal sz.length wd) [] := Good.start hw
    exact this
  | i + 1, h => by
    obtain ⟨h1, h2, h3⟩ := st_step hp hw (i := i) (by omega)
    rw [← h2, ← h3]
    exact (st_good hp hw i (by omega)).step hp h1
def advP (bw : Bool) (e c : Nat) : Bool := if bw then decide (c < e) else decide (e < c)
def advOpts (bw : Bool) (sz tgt wd : List Nat) (p : Nat) : List Nat := (via sz tgt ((stRem sz.length wd p).sum - 1) (stRem sz.length wd p) (stPl sz wd p)).filter (advP bw (wd.getD p 0))
def advM (bw : Bool) (sz tgt wd : List Nat) : Nat → Option (List Nat)
  | 0 => none
  | p + 1 => match endL bw (advOpts bw sz tgt wd p) with
    | some c => some (wd.take p ++ c :: endW bw sz tgt ((stRem sz.length wd p).sum - 1) (dec (stRem sz.length wd p) c) (red sz (stPl sz wd p ++ [c])))
    | none => advM bw sz tgt wd p
theorem advM_none {bw : Bool} {sz tgt wd : List Nat} {p : Nat} (h : endL bw (advOpts bw sz tgt wd p) = none) : advM bw sz tgt wd (p + 1) = advM bw sz tgt wd p := by
  rw [advM, h]
theorem advM_some {bw : Bool} {sz tgt wd : List Nat} {p c : Nat} (h : endL bw (advOpts bw sz tgt wd p) = some c) : advM bw sz tgt wd (p + 1) = some (wd.take p ++ c :: endW bw sz tgt ((stRem sz.length wd p).sum - 1) (dec (stRem sz.length wd p) c) (red sz (stPl sz wd p ++ [c]))) := by
  rw [advM, h]
def advV : Option (List Nat) → V
  | some r => .str (sOf r)
  | none => .non
section
variable {P : Program} {w : World} {K : PySem.W.Frag} {mg : Str → Option Value} {base : Heap} {f C : Addr} {fd : FuncData}
theorem ix_tupK {X : Cx} {K : PySem.W.Frag} (h : X.K = K) : IxR X (rIxT K) := by
  subst h
  exact ix_tup
def tIfT (t u v : TT) : TT := fun σ H Q => t σ H fun c H1 => if c = true then u σ H1 Q else v σ H1 Q
theorem pt_ifT {X : Cx} {c a b : Expr} {pos : Pos} {t u v : TT} (hc : PT X c t) (ha : PT X a u) (hb : PT X b v) : PT X (.IfExp c a b pos) (tIfT t u v) := by
  refine ⟨fun pins s σ H Q I h => ?_⟩
  rw [arm_isTrue_IfExp]
  refine wpAny_bind (thn (hc.run pins s σ H _ I h) fun d s1 ⟨H1, I1, q1⟩ => ?_)
  cases d with
  | true => exact ha.run pins s1 σ H1 Q I1 q1
  | false => exact hb.run pins s1 σ H1 Q I1 q1
/-! ### adjacent -/
def spAdj : Sp := fun vs H Q _ => ∃ (a : Addr) (bw : Bool) (sz wd : List Nat), vs = [.ref a, .str (sOf wd), .bl bw] ∧ H a = some (.tup (szV sz)) ∧ SzOk sz ∧ WOk sz.length wd ∧ wd.length ≤ 12 ∧ ∀ H', Same H H' → Q (advV (advM bw sz (red sz wd) wd wd.length)) H'
abbrev nAdj : List Str := ["sizes", "row", "backward", "counter", "states", "wanted", "bead", "position", "options", "state", "follower", "one"]
theorem scAdj : FnScope nAdj ["sizes", "row", "backward"] (defScope sAdjacent) := ⟨rfl, rfl, rfl, by decide +kernel, rfl, by decide +kernel, by decide +kernel⟩
/-- what stands from the first loop on -/
structure AdjAt (P : Program) (w : World) (C : Addr) (H0 H : Hp) (x a st d S : Addr) (sz wd : List Nat) (n : Nat) : Prop where
  ob : ObjAt C H x a st d sz wd
  ca : ∃ kvs, CacheAt P w H d sz wd kvs
  ss : ∃ ss : List Addr, H S = some (.lst (ss.map V.ref)) ∧ ss.length = n ∧ ∀ (j : Nat) (s : Addr), ss[j]? = some s → StAt H s (stRem sz.length wd j) (stPl sz wd j)
  same : Same H0 H
  s0 : H0 S = none
  d0 : H0 d = none
theorem ObjAt.updL {H : Hp} {x a st d S : Addr} {sz wd : List Nat} {l : List V} (o : ObjAt C H x a st d sz wd) (u : HO) (h : H S = some (.lst l)) : ObjAt C (upd H S u) x a st d sz wd := by
  obtain ⟨dx, ho⟩ := o.ob
  exact ⟨⟨dx, by rw [upd_ne (fun q => by rw [← q, ho] at h; cases h)]; exact ho⟩, tup_keep u h _ _ o.hsz, o.st.keep (tup_keep u h)⟩
theorem AdjAt.grow {H0 H H' : Hp} {x a st d S : Addr} {sz wd : List Nat} {n : Nat} (y : AdjAt P w C H0 H x a st d S sz wd n) (s : Same H H') : AdjAt P w C H0 H' x a st d S sz wd n :=
  let ⟨kvs, hc⟩ := y.ca; let ⟨ss, h1, h2, h3⟩ := y.ss
  ⟨y.ob.same s, ⟨kvs, hc.same s⟩, ⟨ss, s _ _ h1, h2, fun j t e => (h3 j t e).keep fun b xs q => s _ _ q⟩, y.same.trans s, y.s0, y.d0⟩
theorem AdjAt.but {H0 H H' : Hp} {x a st d S : Addr} {sz wd : List Nat} {n : Nat} (y : AdjAt P w C H0 H x a st d S sz wd n) (s : But d H H') {kvs' : List (NestedKey × V)} (c : CacheAt P w H' d sz wd kvs') : AdjAt P w C H0 H' x a st d S sz wd n := by
  obtain ⟨kvs, hc⟩ := y.ca
  obtain ⟨ss, h1, h2, h3⟩ := y.ss
  have hSd : S ≠ d := fun e => by
    obtain ⟨ys, e1, _⟩ := hc.dic
    rw [e, e1] at h1
    cases h1
  exact ⟨hc.obj y.ob s, ⟨kvs', c⟩, ⟨ss, s _ _ hSd h1, h2, fun j t e => (h3 j t e).keep (hc.keeps s)⟩, s.same y.same y.d0, y.s0, y.d0⟩
theorem AdjAt.push {H0 H : Hp} {x a st d S t : Addr} {sz wd : List Nat} {n : Nat} {ss : List Addr} (y : AdjAt P w C H0 H x a st d S sz wd n) (hS : H S = some (.lst (ss.map V.ref))) (ht : StAt H t (stRem sz.length wd n) (stPl sz wd n)) :
    AdjAt P w C H0 (upd H S (.lst (ss.map V.ref ++ [V.ref t]))) x a st d S sz wd (n + 1) := by
  obtain ⟨kvs, hc⟩ := y.ca
  obtain ⟨ss', h1, h2, h3⟩ := y.ss
  have ess : ss' = ss := by
    rw [hS] at h1
    injection h1 with h1
    injection h1 with h1
    exact ((List.map_inj_right fun a b e => by injection e).mp h1).symm
  subst ess
  have tk := tup_keep (.lst (ss'.map V.ref ++ [V.ref t])) hS
  refine ⟨y.ob.updL _ hS, ⟨kvs, hc.updL _ hS⟩, ⟨ss' ++ [t], by rw [upd_same, List.map_append]; rfl, by rw [List.length_append, h2]; rfl, fun j u e => ?_⟩, same_put y.same y.s0 _, y.s0, y.d0⟩
  by_cases hj : j < ss'.length
  · rw [List.getElem?_append_left hj] at e
    exact (h3 j u e).keep tk
  · rw [List.getElem?_append_right (by omega)] at e
    cases ej : j - ss'.length with
    | zero =>
      rw [ej] at e
      cases e
      rw [show j = n by omega]
      exact ht.keep tk
    | succ m => rw [ej] at e; cases e
def PickAt (sz rem pl : List Nat) (c : Nat) (H3 : Hp) (D : Addr) (j : Nat) (H5 : Hp) : Prop :=
  ∃ us : List Addr, Same H3 H5 ∧ H5 D = some (.lst (us.map V.ref)) ∧ (∀ s ∈ us, StAt H5 s (dec rem c) (red sz (pl ++ [c]))) ∧ (c ∈ (succs rem).take j → us ≠ []) ∧ us.length ≤ j
def OptAt (sz rem pl : List Nat) (cs : List Nat) (pr : Nat → Bool) (H3 : Hp) (D : Addr) (j : Nat) (H5 : Hp) : Prop :=
  ∃ us : List Addr, Same H3 H5 ∧ H5 D = some (.lst (us.map V.ref)) ∧ SuccsAt sz rem pl H5 us ((cs.take j).filter pr)
theorem ok_adj (F : FnP K "adjacent" sAdjacent f fd) (T : Txt K mg) (G : ClsF K mg C) (MC : MkC P w K mg base C) (MS : CalM P w K mg base C "successors" 4 ["self", "state"] (spSucc C)) (MV : CalM P w K mg base C "viable" 18 ["self", "state"] (spViable P w C))
    (CC : CalK P w K mg base "complete" 19 3 ["counter", "prefix", "state", "use_last"] "use_last" (spComplete P w C)) : FnOk P w K mg base CX0 20 f fd ["sizes", "row", "backward"] spAdj := by
  refine F.fok scAdj (fun vs H Q E h => ?_) (fun cdv A outer s H vs Q E hr h => ?_)
  · obtain ⟨_, _, _, _, rfl, _⟩ := h
    rfl
  · obtain ⟨a, bw, sz, wd, rfl, ha, hz, hw, hl, q⟩ := h
    have nd := scAdj.nd
    have hu := hr.units
    refine ⟨_, pss_cons (ps_set (i := 3) nd rfl (.inl rfl) (pe_mkC MC G hr (by decide) rfl (pa_cons (pv 0) (pa_cons (pv 1) pa_nil))))
      (pss_cons (ps_set (i := 4) nd rfl (.inl rfl) (pe_lst (pa_cons (pe_fld (pv 3) rfl) pa_nil)))
      (pss_mid (ps_for PassesOwn.never rfl (pi_str (pv 1)) (pg_name (i := 5) nd rfl (.inr rfl))
        (pss_one (ps_expr (pe_bm PySem.F.plainAttrs_list PySem.F.slot_list_append PySem.F.type_list_append mt_append (pv 4) (pa_cons (pe_ix ix_list
          (pe_lc (own := [("bead", 6), ("follower", 10)]) (g := gTup K 2 (gCons (gName 6) (gCons (gName 10) gNil))) rfl nd
            (pi_list (pe_calm (pv 3) G.cl MS hr (by omega) (pa_cons (pe_ix ix_list (pv 4) (pe_un un_neg pe_int) (fun _ _ => rfl)) pa_nil)))
            (blkOk_by (N := nAdj) (sc := defScope sAdjacent) (by decide +kernel)) (fun _ _ _ _ _ => pg_tup rfl (pgs_cons (pg_name (i := 6) nd rfl (Or.inl rfl)) (pgs_cons (pg_name (i := 10) nd rfl (Or.inl rfl)) pgs_nil)))
            (fun _ _ _ _ _ => pts_one (pt_cmpR op_eq (pv 6) (pv 5) (nomark _)))
            (fun _ _ _ _ _ => pv 10)) pe_int (fun _ _ => rfl)) pa_nil)))))
      (pss_cons (ps_for PassesOwn.never rfl (pi_range3 rfl T.range (pa_cons (pe_op op_sub (pe_callB call_len_str rfl T.len boot_len (pa_cons (pv 1) pa_nil)) pe_int) (pa_cons (pe_un un_neg pe_int) (pa_cons (pe_un un_neg pe_int) pa_nil)))) (pg_name (i := 7) nd rfl (.inr rfl))
        (pss_cons (ps_set (i := 8) nd rfl (.inl rfl) (pe_calm (pv 3) G.cl MV hr (by omega) (pa_cons (pe_ix ix_list (pv 4) (pv 7) (fun _ _ => rfl)) pa_nil)))
        (pss_cons (ps_setLc (i := 8) (own := [("one", 11)]) (g := gName 11) (te := tVar 11) rfl nd rfl rfl (sw_true rfl rfl rfl rfl) (pi_list (pv 8))
            (blkOk_by (N := nAdj) (sc := defScope sAdjacent) (by decide +kernel)) (fun _ _ _ _ _ => pg_name (i := 11) nd rfl (Or.inl rfl))
            (fun _ _ _ _ _ => pts_one (pt_ifT (pt_val (pv 2)) (pt_cmpR op_lt_str (pe_ix (ix_tupK (K := K) rfl) (pv 11) pe_int (fun _ _ => rfl)) (pe_ix ix_str (pv 1) (pv 7) (fun _ _ => rfl)) (nomark _)) (pt_cmpR op_gt_str (pe_ix (ix_tupK (K := K) rfl) (pv 11) pe_int (fun _ _ => rfl)) (pe_ix ix_str (pv 1) (pv 7) (fun _ _ => rfl)) (nomark _))))
            (fun _ _ _ _ _ => pv 11))
        (pss_one (ps_if (pt_cmpR (op_neNil hu) (pv 8) (pe_lst pa_nil) (nomark _))
          (pss_cons (ps_asg (pe_ix ix_list (pv 8) (pe_ifExp (pt_val (pv 2)) (pe_un un_neg pe_int) pe_int) (fun _ _ => rfl)) (pg_tup rfl (pgs_cons (pg_name (i := 6) nd rfl (.inl rfl)) (pgs_cons (pg_name (i := 9) nd rfl (.inl rfl)) pgs_nil))))
          (pss_one (ps_ret (pe_calK CC hr (by decide) rfl (pa_cons (pv 3) (pa_cons (pe_op op_add_str (pe_slice sl_str (pv 1) po_none (po_some (pv 7))) (pv 6)) (pa_cons (pv 9) pa_nil))) (pv 2))))) pss_nil)))))
      (pss_one (ps_ret pe_non))))), ?_⟩
    refine ⟨_, rfl, _, rfl, fun x dx hx hdx hne => ⟨x, a, dx, sz, wd, rfl, upd_same, make_keep hx hdx _ _ ha, hz, hw, by omega, fun st d H2 ho hc hkeep hd0 => ⟨rfl, ?_⟩⟩⟩
    obtain ⟨s2, hd⟩ := make_end hx hdx hkeep hd0
    obtain ⟨dx, hob⟩ := id ho.ob
    refine ⟨_, rfl, x, C, dx, _, _, rfl, hob, G.cl, G.nStart, flds_start _ _ _ _, (by show 1 ≤ sizeLine; decide), fun S hS => ?_⟩
    have hS0 : H S = none := by
      cases e : H S with
      | none => rfl
      | some o => rw [s2 _ _ e] at hS; cases hS
    have start : AdjAt P w C H (upd H2 S (.lst [V.ref st])) x a st d S sz wd 1 := by
      have s3 : Same H2 (upd H2 S (.lst [V.ref st])) := Same.upd hS _
      refine ⟨ho.same s3, ⟨[], hc.same s3⟩, ⟨[st], upd_same, rfl, fun j t e => ?_⟩, s2.trans s3, hS0, hd⟩
      cases j with
      | zero => cases e; exact (ho.same s3).st
      | succ j => cases e
    refine ⟨fun σ' H' => ∃ u5, σ' = [some (.ref a), some (.str (sOf wd)), some (.bl bw), some (.ref x), some (.ref S), u5, none, none, none, none, none, none] ∧ AdjAt P w C H H' x a st d S sz wd (wd.length + 1), ?_, ?_⟩
    · -- the states
      refine ⟨_, rfl, _, rfl, for_it walk_str (fun i σ' H' => ∃ u5, σ' = [some (.ref a), some (.str (sOf wd)), some (.bl bw), some (.ref x), some (.ref S), u5, none, none, none, none, none, none] ∧ AdjAt P w C H H' x a st d S sz wd (i + 1)) ⟨none, rfl, start⟩ (fun i σ H2 _ _ => trivial) ?_ ?_⟩
      · rintro i y σ H3 H4 hi ⟨u5, rfl, A3⟩ ⟨rfl, cc, hcc, rfl⟩
        rw [sOf_size] at hi
        rw [sOf_at, List.getElem?_eq_getElem hi] at hcc
        obtain rfl : cc = wd[i] + 97 := (Option.some.inj hcc).symm
        obtain ⟨ss, hSS, hsl, hsa⟩ := id A3.ss
        obtain ⟨dx3, hob3⟩ := id A3.ob.ob
        obtain ⟨ss0, s_i, ess⟩ : ∃ ss0 s_i, ss = ss0 ++ [s_i] := by
          rcases List.eq_nil_or_concat ss with e | ⟨r, t, e⟩
          · rw [e] at hsl; cases hsl
          · exact ⟨r, t, by rw [e, List.concat_eq_append]⟩
        subst ess
        have hl0 : ss0.length = i := by
          rw [List.length_append] at hsl
          have : ([s_i] : List Addr).length = 1 := rfl
          omega
        have hst : StAt _ s_i (stRem sz.length wd i) (stPl sz wd i) := hsa i s_i (by rw [List.getElem?_append_right (by omega), hl0, Nat.sub_self]; rfl)
        have hg := st_good hz.pos hw i (by omega)
        obtain ⟨k1, k2, k3⟩ := st_step hz.pos hw hi
        refine ⟨_, rfl, .inl ⟨rfl, _, .of hSS⟩, ?_⟩
        refine ⟨_, rfl, x, dx3, _, rfl, hob3, flds_no _ _ _ _ (by decide +kernel) (by decide +kernel) (by decide +kernel) (by decide +kernel), _, rfl, 1, rfl, S, _, _, _, rfl, rfl, .of hSS, by rw [List.map_append]; exact atI_last _ _, x, s_i, a, st, d, sz, wd, _, _, rfl, A3.ob, hst, hg, hz, hw, by omega, fun R ts H5 s5 hR0 hR hSc => ?_⟩
        refine ⟨R, rfl, ⟨_, .of hR⟩, fun D hD => lc_list (K := K) (a := R) (xs := ts.map V.ref) (PickAt sz (stRem sz.length wd i) (stPl sz wd i) wd[i] H5 D) ?_ ?_ ?_ ?_⟩
        · exact ⟨[], Same.upd hD _, upd_same, fun s h => (by cases h), fun h => (by cases h), Nat.le_refl _⟩
        · exact fun j H6 _ ⟨_, hk, _⟩ => .of (hk _ _ hR)
        · rintro j y H6 hy ⟨us, s6, hD6, hu6, hn6, hl6⟩
          rw [List.getElem?_map] at hy
          cases et : ts[j]? with
          | none => rw [et] at hy; cases hy
          | some t =>
            rw [et] at hy
            cases hy
            have hj : j < (succs (stRem sz.length wd i)).length := by
              rw [← hSc.len]
              exact (List.getElem?_eq_some_iff.mp et).1
            have ecs : (succs (stRem sz.length wd i))[j]? = some (succs (stRem sz.length wd i))[j] := List.getElem?_eq_getElem hj
            have hj4 : j ≤ 4 := by
              have h1 := length_succs (stRem sz.length wd i)
              have h2 : (stRem sz.length wd i).length = sz.length := length_tal _ _
              have h3 := hz.le
              omega
            obtain ⟨s', hts, hst'⟩ := (hSc.get j t _ et ecs).keep fun b xs e => s6 _ _ e
            refine ⟨t, _, rfl, .of hts, rfl, _, _, rfl, _, _, rfl, rfl, rfl, _, rfl, _, rfl, rfl, _, rfl, ?_⟩
            refine ite2 (fun c2 => ?_) (fun c2 => ?_)
            · have heq : (succs (stRem sz.length wd i))[j] = wd[i] := one_inj (by have := of_decide_eq_true c2; injection this)
              rw [heq] at hst'
              have tk := tup_keep (.lst (us.map V.ref ++ [V.ref s'])) hD6
              refine ⟨_, rfl, _, hD6, by rw [List.length_map, sizeLine_eq]; omega, us ++ [s'], ?_, by rw [upd_same, List.map_append]; rfl, fun s hs => ?_, fun _ => by simp, by rw [List.length_append]; show _ + 1 ≤ _; omega⟩
              · exact fun b o e => by rw [upd_ne (ne_of_none e hD)]; exact s6 b o e
              · rcases List.mem_append.mp hs with hs | hs
                · exact (hu6 s hs).keep tk
                · rw [List.mem_singleton.mp hs]; exact hst'.keep tk
            · have hneq : ¬ (succs (stRem sz.length wd i))[j] = wd[i] := fun e => c2 (by rw [e]; exact decide_eq_true rfl)
              refine ⟨us, s6, hD6, hu6, fun h => hn6 ?_, by omega⟩
              rw [List.take_succ, ecs] at h
              rcases List.mem_append.mp h with h | h
              · exact h
              · exact absurd (List.mem_singleton.mp h).symm hneq
        · rintro H6 ⟨us, s6, hD6, hu6, hn6, hl6⟩
          rw [List.length_map, hSc.len, List.take_of_length_le (Nat.le_refl _)] at hn6
          have hne6 := hn6 (mem_succs.mpr k1)
          cases us with
          | nil => exact absurd rfl hne6
          | cons s' us =>
            have A6 := (A3.grow s5).grow s6
            have hS6 := s6 _ _ (s5 _ _ hSS)
            have hst6 := hu6 s' List.mem_cons_self
            rw [k2, k3] at hst6
            refine ⟨D, _, _, _, rfl, rfl, .of hD6, atI_nat (j := 0) rfl, S, _, _, rfl, rfl, hS6, by rw [List.length_map, hsl, sizeLine_eq]; omega, _, rfl, A6.push hS6 hst6⟩
      · rintro σ H3 ⟨u5, rfl, A3⟩
        rw [sOf_size] at A3
        exact ⟨u5, rfl, A3⟩
    · rintro σ' H3 ⟨u5, rfl, A3⟩
      refine ⟨_, rfl, _, rfl, by rw [sOf_len, sizeLine_eq]; omega, _, _, rfl, rfl, 1, rfl, 1, rfl, (wd.length : Int) - 1, -1, -1, wd.length, by rw [sOf_len], ?_, for_it walk_rangeC (fun i σ' H' => ∃ u6 u7 u8 u9, σ' = [some (.ref a), some (.str (sOf wd)), some (.bl bw), some (.ref x), some (.ref S), u5, u6, u7, u8, u9, none, none] ∧ AdjAt P w C H H' x a st d S sz wd (wd.length + 1) ∧
          advM bw sz (red sz wd) wd wd.length = advM bw sz (red sz wd) wd (wd.length - i)) ⟨none, none, none, none, rfl, A3, rfl⟩ (fun i σ H2 _ _ => trivial) ?_ ?_⟩
      · have h := RgC.neg (i := (wd.length : Int) - 1) (j := -1) (by omega) (by omega) (by omega) (by omega)
        rw [show ((wd.length : Int) - 1 - -1).toNat = wd.length by omega] at h
        exact h
      · rintro i y σ H4 H5 hi ⟨u6, u7, u8, u9, rfl, A4, hadv⟩ ⟨rfl, ey⟩
        obtain ⟨p, ep⟩ : ∃ p, wd.length - i = p + 1 := ⟨wd.length - i - 1, by omega⟩
        have e : ((wd.length : Int) - 1 + (i : Nat) * -1) = ((p : Nat) : Int) := by omega
        obtain rfl : y = V.int ((p : Nat) : Int) := ey.trans (congrArg V.int e)
        rw [ep] at hadv
        have hp : p < wd.length := by omega
        obtain ⟨kvs, hc4⟩ := A4.ca
        obtain ⟨ss, hSS, hsl, hsa⟩ := id A4.ss
        obtain ⟨dx4, hob4⟩ := id A4.ob.ob
        have hpss : p < ss.length := by omega
        have hst : StAt _ ss[p] (stRem sz.length wd p) (stPl sz wd p) := hsa p ss[p] (List.getElem?_eq_getElem hpss)
        have hg := st_good hz.pos hw p (by omega)
        have hat : atI (ss.map V.ref) ((p : Nat) : Int) = some (V.ref ss[p]) := atI_nat (by rw [List.getElem?_map, List.getElem?_eq_getElem hpss]; rfl)
        refine ⟨_, rfl, x, dx4, _, rfl, hob4, flds_no _ _ _ _ (by decide +kernel) (by decide +kernel) (by decide +kernel) (by decide +kernel), _, rfl, _, rfl, S, _, _, _, rfl, rfl, .of hSS, hat, x, ss[p], a, st, d, sz, wd, _, _, kvs, rfl, A4.ob, hst, hg, hz, hw, hl, hc4, fun R ts H6 kvs6 hc6 hk6 hR hSc => ?_⟩
        have A6 := A4.but hk6 hc6
        have hgd : wd.getD p 0 = wd[p] := by rw [List.getD_eq_getElem?_getD, List.getElem?_eq_getElem hp]; rfl
        have hrow : atI (sOf wd).cps.toList ((p : Nat) : Int) = some (wd[p] + 97) := atI_nat (by rw [sOf_cps, List.getElem?_map, List.getElem?_eq_getElem hp]; rfl)
        have hrl : (sOf wd).length ≤ sizeLine := by rw [sOf_len, sizeLine_eq]; omega
        -- the options that go the right way
        refine ⟨_, rfl, R, rfl, ⟨_, .of hR⟩, fun D hD => lc_list (K := K) (a := R) (xs := ts.map V.ref) (OptAt sz (stRem sz.length wd p) (stPl sz wd p) (via sz (red sz wd) ((stRem sz.length wd p).sum - 1) (stRem sz.length wd p) (stPl sz wd p)) (advP bw wd[p]) H6 D) ?_ ?_ ?_ ?_⟩
        · exact ⟨[], Same.upd hD _, upd_same, rfl, fun j t c h => (by cases h)⟩
        · exact fun j H7 _ ⟨_, hk, _⟩ => .of (hk _ _ hR)
        · rintro j y H7 hy ⟨us, s7, hD7, hu7⟩
          rw [List.getElem?_map] at hy
          cases et : ts[j]? with
          | none => rw [et] at hy; cases hy
          | some t =>
            rw [et] at hy
            cases hy
            have hj : j < (via sz (red sz wd) ((stRem sz.length wd p).sum - 1) (stRem sz.length wd p) (stPl sz wd p)).length := by
              rw [← hSc.len]
              exact (List.getElem?_eq_some_iff.mp et).1
            obtain ⟨c, ec⟩ : ∃ c, (via sz (red sz wd) ((stRem sz.length wd p).sum - 1) (stRem sz.length wd p) (stPl sz wd p))[j]? = some c := ⟨_, List.getElem?_eq_getElem hj⟩
            have hsc := (hSc.get j t c et ec).keep fun b xs e => s7 _ _ e
            obtain ⟨s', hts, hst'⟩ := id hsc
            have hul : us.length ≤ 4 := by
              rw [hu7.len]
              refine Nat.le_trans (List.length_filter_le _ _) ?_
              rw [List.length_take]
              have h0 : (via sz (red sz wd) ((stRem sz.length wd p).sum - 1) (stRem sz.length wd p) (stPl sz wd p)).length ≤ (succs (stRem sz.length wd p)).length := List.length_filter_le _ _
              have h1 := length_succs (stRem sz.length wd p)
              have h2 : (stRem sz.length wd p).length = sz.length := length_tal _ _
              have h3 := hz.le
              omega
            have etk : ((via sz (red sz wd) ((stRem sz.length wd p).sum - 1) (stRem sz.length wd p) (stPl sz wd p)).take (j + 1)).filter (advP bw wd[p]) = ((via sz (red sz wd) ((stRem sz.length wd p).sum - 1) (stRem sz.length wd p) (stPl sz wd p)).take j).filter (advP bw wd[p]) ++ (if advP bw wd[p] c = true then [c] else []) := by
              rw [List.take_succ, ec, List.filter_append]
              by_cases h : advP bw wd[p] c = true
              · rw [if_pos h]; show _ ++ List.filter _ [c] = _; rw [List.filter_cons_of_pos h]; rfl
              · rw [if_neg h]; show _ ++ List.filter _ [c] = _; rw [List.filter_cons_of_neg h]; rfl
            have yes : advP bw wd[p] c = true → OptAt sz (stRem sz.length wd p) (stPl sz wd p) (via sz (red sz wd) ((stRem sz.length wd p).sum - 1) (stRem sz.length wd p) (stPl sz wd p)) (advP bw wd[p]) H6 D (j + 1) (upd H7 D (.lst (us.map V.ref ++ [V.ref t]))) := fun h => by
              have tk := tup_keep (.lst (us.map V.ref ++ [V.ref t])) hD7
              refine ⟨us ++ [t], fun b o e => ?_, by rw [upd_same, List.map_append]; rfl, ?_⟩
              · rw [upd_ne (ne_of_none e hD)]; exact s7 b o e
              · rw [etk, if_pos h]
                exact (hu7.keep tk).snoc (hsc.keep tk)
            have no : ¬ advP bw wd[p] c = true → OptAt sz (stRem sz.length wd p) (stPl sz wd p) (via sz (red sz wd) ((stRem sz.length wd p).sum - 1) (stRem sz.length wd p) (stPl sz wd p)) (advP bw wd[p]) H6 D (j + 1) H7 := fun h => by
              refine ⟨us, s7, hD7, ?_⟩
              rw [etk, if_neg h, List.append_nil]
              exact hu7
            refine ⟨rfl, _, rfl, bw, rfl, ?_⟩
            cases bw with
            | true =>
              refine iteT ⟨_, rfl, t, _, _, _, rfl, rfl, .of hts, atI_nat (j := 0) rfl, _, rfl, _, rfl, _, _, _, rfl, rfl, hrl, hrow, _, _, rfl, rfl, _, rfl, ?_⟩
              rw [show decide ((one c).cps.toList < (⟨#[wd[p] + 97]⟩ : Str).cps.toList) = decide (c < wd[p]) from lt_one c wd[p]]
              exact ite2 (fun c2 => ⟨_, rfl, _, hD7, by rw [List.length_map, sizeLine_eq]; omega, yes c2⟩) (fun c2 => no c2)
            | false =>
              refine iteF ⟨_, rfl, t, _, _, _, rfl, rfl, .of hts, atI_nat (j := 0) rfl, _, rfl, _, rfl, _, _, _, rfl, rfl, hrl, hrow, _, _, rfl, rfl, _, rfl, ?_⟩
              rw [show decide ((⟨#[wd[p] + 97]⟩ : Str).cps.toList < (one c).cps.toList) = decide (wd[p] < c) from lt_one wd[p] c]
              exact ite2 (fun c2 => ⟨_, rfl, _, hD7, by rw [List.length_map, sizeLine_eq]; omega, yes c2⟩) (fun c2 => no c2)
        · rintro H7 ⟨us, s7, hD7, hu7⟩
          rw [List.length_map, hSc.len, List.take_of_length_le (Nat.le_refl _), ← hgd] at hu7
          have hu7 : SuccsAt sz (stRem sz.length wd p) (stPl sz wd p) H7 us (advOpts bw sz (red sz wd) wd p) := hu7
          have A7 := A6.grow s7
          have hc7 := hc6.same s7
          refine ⟨_, rfl, by decide, fun p2 hp2 => ⟨D, p2, _, rfl, rfl, .of (Same.upd hp2 _ _ _ hD7), .of upd_same, _, rfl, ?_⟩⟩
          have s8 : Same H7 (upd H7 p2 (.lst [])) := Same.upd hp2 _
          have hD8 := s8 _ _ hD7
          have hu8 := hu7.keep fun b xs e => s8 _ _ e
          have A8 := A7.grow s8
          have hc8 := hc7.same s8
          cases hend : endL bw (advOpts bw sz (red sz wd) wd p) with
          | none =>
            rw [advM_none hend] at hadv
            have hnil : advOpts bw sz (red sz wd) wd p = [] := by
              cases bw with
              | true => exact List.getLast?_eq_none_iff.mp hend
              | false => exact List.head?_eq_none_iff.mp hend
            have hus : us = [] := List.eq_nil_of_length_eq_zero (by rw [hu8.len, hnil]; rfl)
            subst hus
            refine iteF ⟨_, _, _, _, rfl, A8, ?_⟩
            rw [hadv, show wd.length - (i + 1) = p by omega]
          | some c =>
            rw [advM_some hend] at hadv
            obtain ⟨k, t, htk, hck, hatk⟩ := endL_at hu8.len hend
            obtain ⟨s', hts, hst'⟩ := hu8.get k t c htk hck
            have hcm : c ∈ via sz (red sz wd) ((stRem sz.length wd p).sum - 1) (stRem sz.length wd p) (stPl sz wd p) := (List.mem_filter.mp (List.mem_of_getElem? hck)).1
            obtain ⟨hp1, hp2'⟩ := via_pos hcm
            have hsd := sum_dec hp1
            have hgs := hg.sum hw
            have hds : (dec (stRem sz.length wd p) c).sum = (stRem sz.length wd p).sum - 1 := by omega
            have hne : (!(us.map V.ref).isEmpty) = true := by
              cases us with
              | nil => cases htk
              | cons _ _ => rfl
            have hcut : (cutS (sOf wd) none (some ((p : Nat) : Int)) ++ one c) = sOf (wd.take p ++ [c]) := by
              rw [cut_to, ← sOf_app]
              rfl
            have hcl : (cutS (sOf wd) none (some ((p : Nat) : Int))).length + (one c).length ≤ sizeLine := by
              rw [cut_to, sOf_len, List.length_take, sizeLine_eq]
              show _ + 1 ≤ _
              omega
            have fin : spComplete P w C ([.ref x, .str (cutS (sOf wd) none (some ((p : Nat) : Int)) ++ one c), .ref s'] ++ [.bl bw]) (upd H7 p2 (.lst [])) Q E0 := by
              refine ⟨x, s', a, st, d, bw, sz, wd, wd.take p ++ [c], _, _, kvs6, by rw [hcut]; rfl, A8.ob, hst', hg.step hz.pos hp1, hz, hw, hl, hc8, by rw [hds]; exact hp2', ?_, fun H9 kvs9 hc9 hk9 => ?_⟩
              · rw [List.length_append, List.length_take]
                show _ + 1 + _ ≤ _
                omega
              · have := q H9 (hk9.same A8.same A8.d0)
                rw [hadv] at this
                rw [hds, List.append_assoc]
                exact this
            refine Eq.mpr (congrArg (fun b : Bool => if b = true then _ else _) hne) (iteT ?_)
            refine ⟨_, rfl, _, rfl, bw, rfl, ?_⟩
            cases bw with
            | true => exact iteT ⟨1, rfl, D, _, _, _, rfl, rfl, .of hD8, hatk, t, _, rfl, .of hts, rfl, _, _, rfl, _, _, rfl, rfl, _, rfl, _, rfl, _, rfl, _, rfl, _, rfl, hrl, _, rfl, _, _, rfl, rfl, hcl, _, rfl, _, rfl, rfl, rfl, fin⟩
            | false => exact iteF ⟨D, _, _, _, rfl, rfl, .of hD8, hatk, t, _, rfl, .of hts, rfl, _, _, rfl, _, _, rfl, rfl, _, rfl, _, rfl, _, rfl, _, rfl, _, rfl, hrl, _, rfl, _, _, rfl, rfl, hcl, _, rfl, _, rfl, rfl, rfl, fin⟩
      · rintro σ' H4 ⟨u6, u7, u8, u9, rfl, A4, hadv⟩
        rw [Nat.sub_self] at hadv
        have := q H4 A4.same
        rw [hadv] at this
        exact this
end
end Pk

namespace Pk
open PySem PySem.Spec L2
open PyProof.Rows hiding St
/-- a loop over anything, the turn in any form -/
theorem out_it {J : It} {n : Nat} {G : Hp → Prop} {Y : Nat → Hp → V → Hp → Prop} (w : Walk J n G Y) {B : V → Hp → (Hp → Prop) → Prop} {H0 : Hp} {Qd : Hp → Prop} (Pv : Nat → Hp → Prop) (h0 : Pv 0 H0) (hG : ∀ i H, i ≤ n → Pv i H → G H)
    (hs : ∀ i x H H', i < n → Pv i H → Y i H x H' → B x H' (Pv (i + 1))) (hd : ∀ H, Pv n H → Qd H) :
    ∃ W : Nat → Nat → Hp → Prop, (∃ m, W 0 m H0) ∧ ∀ i m H, W i m H → (J.stop i H ∧ Qd H) ∨ (J.go i H ∧ ∃ Nx : Hp → Prop, (∀ H', Nx H' → ∃ m', m' < m ∧ W (i + 1) m' H') ∧ ∀ x H', J.yld i H x H' → B x H' Nx) := by
  refine ⟨fun i m H => m = n - i ∧ i ≤ n ∧ Pv i H, ⟨n, by simp, Nat.zero_le _, h0⟩, ?_⟩
  rintro i m H ⟨rfl, hi, p⟩
  have q := hG i H hi p
  by_cases hlt : i < n
  · refine .inr ⟨w.goes i H hlt q, Pv (i + 1), fun H' p' => ⟨n - (i + 1), by omega, rfl, hlt, p'⟩, fun x H' y => hs i x H H' hlt p (w.yields i H x H' hlt q y)⟩
  · have e : i = n := by omega
    subst e
    exact .inl ⟨w.stops H q, hd H p⟩
theorem pi_tupK {X : Cx} {K : PySem.W.Frag} {tg l : Expr} {tl : TE} (h : X.K = K) (hl : PE X l tl) : PI X tg l (iTup K tl) := by
  subst h
  exact pi_tup hl
theorem dec_sOf (u v : List Nat) : decide (V.str (sOf u) = V.str (sOf v)) = decide (u = v) :=
  decide_eq_decide.mpr ⟨fun h => sOf_inj (by injection h), fun h => by rw [h]⟩
theorem at_sOf {wd : List Nat} {i : Nat} (hi : i < wd.length) : atI (sOf wd).cps.toList ((i : Nat) : Int) = some (wd.getD i 0 + 97) := atI_nat (by
  rw [sOf_cps, List.getElem?_map, List.getD_eq_getElem?_getD, List.getElem?_eq_getElem hi]; rfl)
theorem getD_lt {n : Nat} {wd : List Nat} (hw : WOk n wd) {i : Nat} (hi : i < wd.length) : wd.getD i 0 < n := by
  rw [List.getD_eq_getElem?_getD, List.getElem?_eq_getElem hi]
  exact hw _ (List.getElem_mem hi)
/-- the bead's pack stands at i -/
def packAt (sz wd : List Nat) (i : Nat) : Bool := decide ((wd.drop i).take (siz sz (wd.getD i 0)) = List.replicate (siz sz (wd.getD i 0)) (wd.getD i 0))
/-- a legal move -/
def okMove (sz wd : List Nat) (i : Nat) (lf : Bool) : Bool := packAt sz wd i && (if lf then decide (1 ≤ i) && !decide (wd.getD (i - 1) 0 = wd.getD i 0) else decide (i + siz sz (wd.getD i 0) < wd.length) && !decide (wd.getD (i + siz sz (wd.getD i 0)) 0 = wd.getD i 0))
def sideS (lf : Bool) : Str := if lf then "left" else "right"
abbrev noMove (sz wd : List Nat) : Prop := ∀ i, i < wd.length → ∀ lf, okMove sz wd i lf = false
section
variable {P : Program} {w : World} {K : PySem.W.Frag} {mg : Str → Option Value} {base : Heap} {f C : Addr} {fd : FuncData}
/-! ### next_reachable, previous_reachable -/
def spNxt (bw : Bool) : Sp := fun vs H Q _ => ∃ (a : Addr) (sz wd : List Nat), vs = [.ref a, .str (sOf wd)] ∧ H a = some (.tup (szV sz)) ∧ SzOk sz ∧ WOk sz.length wd ∧ wd.length ≤ 12 ∧ ∀ H', Same H H' → Q (advV (advM bw sz (red sz wd) wd wd.length)) H'
theorem scNext : FnScope ["sizes", "row"] ["sizes", "row"] (defScope sNext) := ⟨rfl, rfl, rfl, by decide +kernel, rfl, by decide +kernel, by decide +kernel⟩
theorem scPrev : FnScope ["sizes", "row"] ["sizes", "row"] (defScope sPrev) := ⟨rfl, rfl, rfl, by decide +kernel, rfl, by decide +kernel, by decide +kernel⟩
theorem ok_next (F : FnP K "next_reachable" sNext f fd) (CK : Cal P w K mg base "check_countable" 3 ["sizes", "row"] spCountable) (CA : CalK P w K mg base "adjacent" 20 2 ["sizes", "row", "backward"] "backward" spAdj) : FnOk P w K mg base CX0 21 f fd ["sizes", "row"] (spNxt false) := by
  refine F.fok scNext (fun vs H Q E h => ?_) (fun cdv A outer s H vs Q E hr h => ?_)
  · obtain ⟨_, _, _, rfl, _⟩ := h
    rfl
  · obtain ⟨a, sz, wd, rfl, ha, hz, hw, hl, q⟩ := h
    refine ⟨_, pss_cons (ps_expr (pe_cal CK hr (by decide) rfl (pa_cons (pv 0) (pa_cons (pv 1) pa_nil)))) (pss_one (ps_ret (pe_calK CA hr (by decide) rfl (pa_cons (pv 0) (pa_cons (pv 1) pa_nil)) pe_bl))), ?_⟩
    exact ⟨_, rfl, _, rfl, a, sz, wd, rfl, ha, hz, hw, hl, fun H1 s1 => ⟨_, rfl, _, rfl, rfl, rfl, a, false, sz, wd, rfl, s1 _ _ ha, hz, hw, hl, fun H2 s2 => q H2 (s1.trans s2)⟩⟩
theorem ok_prev (F : FnP K "previous_reachable" sPrev f fd) (CK : Cal P w K mg base "check_countable" 3 ["sizes", "row"] spCountable) (CA : CalK P w K mg base "adjacent" 20 2 ["sizes", "row", "backward"] "backward" spAdj) : FnOk P w K mg base CX0 21 f fd ["sizes", "row"] (spNxt true) := by
  refine F.fok scPrev (fun vs H Q E h => ?_) (fun cdv A outer s H vs Q E hr h => ?_)
  · obtain ⟨_, _, _, rfl, _⟩ := h
    rfl
  · obtain ⟨a, sz, wd, rfl, ha, hz, hw, hl, q⟩ := h
    refine ⟨_, pss_cons (ps_expr (pe_cal CK hr (by decide) rfl (pa_cons (pv 0) (pa_cons (pv 1) pa_nil)))) (pss_one (ps_ret (pe_calK CA hr (by decide) rfl (pa_cons (pv 0) (pa_cons (pv 1) pa_nil)) pe_bl))), ?_⟩
    exact ⟨_, rfl, _, rfl, a, sz, wd, rfl, ha, hz, hw, hl, fun H1 s1 => ⟨_, rfl, _, rfl, rfl, rfl, a, true, sz, wd, rfl, s1 _ _ ha, hz, hw, hl, fun H2 s2 => q H2 (s1.trans s2)⟩⟩
/-! ### is_pack -/
def spIsPack : Sp := fun vs H Q _ => ∃ (a : Addr) (sz wd : List Nat) (i : Nat), vs = [.ref a, .str (sOf wd), .int (i : Nat)] ∧ H a = some (.tup (szV sz)) ∧ SzOk sz ∧ WOk sz.length wd ∧ wd.length ≤ 40 ∧ i < wd.length ∧ Q (.bl (packAt sz wd i)) H
theorem scIsPack : FnScope ["sizes", "row", "start", "size"] ["sizes", "row", "start"] (defScope sIsPack) := ⟨rfl, rfl, rfl, by decide +kernel, rfl, by decide +kernel, by decide +kernel⟩
theorem ok_isPack (F : FnP K "is_pack" sIsPack f fd) (CZ : Cal P w K mg base "size_of" 1 ["sizes", "color"] spSizeOf) : FnOk P w K mg base CX0 2 f fd ["sizes", "row", "start"] spIsPack := by
  refine F.fok scIsPack (fun vs H Q E h => ?_) (fun cdv A outer s H vs Q E hr h => ?_)
  · obtain ⟨_, _, _, _, rfl, _⟩ := h
    rfl
  · obtain ⟨a, sz, wd, i, rfl, ha, hz, hw, hl, hi, q⟩ := h
    have nd := scIsPack.nd
    refine ⟨_, pss_cons (ps_set (i := 3) nd rfl (.inl rfl) (pe_cal CZ hr (by decide) rfl (pa_cons (pv 0) (pa_cons (pe_ix ix_str (pv 1) (pv 2) (fun _ _ => rfl)) pa_nil))))
      (pss_one (ps_ret (pe_cmpR op_eq (pe_slice sl_str (pv 1) (po_some (pv 2)) (po_some (pe_op op_add (pv 2) (pv 3)))) (pe_op op_mulS (pe_ix ix_str (pv 1) (pv 2) (fun _ _ => rfl)) (pv 3)) (nomark _)))), ?_⟩
    have hzl := hz.le
    have hrl : (sOf wd).length ≤ sizeLine := by rw [sOf_len, sizeLine_eq]; omega
    have hc := getD_lt hw hi
    have h4 := hz.siz4 (wd.getD i 0)
    refine ⟨_, rfl, _, rfl, _, rfl, _, _, _, rfl, rfl, hrl, at_sOf hi, a, sz, wd.getD i 0, rfl, ha, hc, by omega, ?_⟩
    refine ⟨_, rfl, _, rfl, _, rfl, _, rfl, _, rfl, _, _, rfl, rfl, _, rfl, _, rfl, hrl, _, rfl, _, rfl, _, _, _, rfl, rfl, hrl, at_sOf hi, _, rfl, _, _, rfl, rfl, by omega, by omega, (by show 1 ≤ 1000; decide), rfl, ?_⟩
    have e1 : cutS (sOf wd) (some ((i : Nat) : Int)) (some (((i : Nat) : Int) + ((siz sz (wd.getD i 0) : Nat) : Int))) = sOf ((wd.drop i).take (siz sz (wd.getD i 0))) := by
      rw [show ((i : Nat) : Int) + ((siz sz (wd.getD i 0) : Nat) : Int) = ((i + siz sz (wd.getD i 0) : Nat) : Int) from rfl, cut_mid, Nat.add_sub_cancel_left]
    have e2 : Txt.mul (⟨#[wd.getD i 0 + 97]⟩ : Str) ((siz sz (wd.getD i 0) : Nat) : Int) = sOf (List.replicate (siz sz (wd.getD i 0)) (wd.getD i 0)) := mul_one _ _
    rw [e1, e2, dec_sOf]
    exact q
/-! ### reject_reason -/
def spReject : Sp := fun vs H Q _ => ∃ (a m : Addr) (sz wd : List Nat) (i : Nat) (lf : Bool), vs = [.ref a, .str (sOf wd), .ref m] ∧ H a = some (.tup (szV sz)) ∧ SzOk sz ∧ WOk sz.length wd ∧ wd.length ≤ 40 ∧ i < wd.length ∧ H m = some (.tup [.int (i : Nat), .str (sideS lf)]) ∧
  ∀ r : Str, (r = "" ↔ okMove sz wd i lf = true) → Q (.str r) H
theorem scReject : FnScope ["sizes", "row", "move", "start", "side", "neighbor"] ["sizes", "row", "move"] (defScope sReject) := ⟨rfl, rfl, rfl, by decide +kernel, rfl, by decide +kernel, by decide +kernel⟩
theorem ok_reject (F : FnP K "reject_reason" sReject f fd) (T : Txt K mg) (CI : Cal P w K mg base "is_int_in" 1 ["value", "low", "high"] spIsInt) (CZ : Cal P w K mg base "size_of" 1 ["sizes", "color"] spSizeOf) (CP : Cal P w K mg base "is_pack" 2 ["sizes", "row", "start"] spIsPack) :
    FnOk P w K mg base CX0 3 f fd ["sizes", "row", "move"] spReject := by
  refine F.fok scReject (fun vs H Q E h => ?_) (fun cdv A outer s H vs Q E hr h => ?_)
  · obtain ⟨_, _, _, _, _, _, rfl, _⟩ := h
    rfl
  · obtain ⟨a, m, sz, wd, i, lf, rfl, ha, hz, hw, hl, hi, hm, q⟩ := h
    obtain ⟨tl, hleft⟩ := T.left
    obtain ⟨sd, hsd, hsdT⟩ := T.sides
    have nd := scReject.nd
    refine ⟨_, pss_cons (ps_if (PW.pt (pw_or (pt_not (pt_val (pe_callB call_isi rfl T.isinstance boot_isinstance (pa_cons (pv 2) (pa_cons (pe_bltn (v := .ty "tuple") rfl T.tuple PyProof.Rows.boot_tuple rfl) pa_nil)))))
          (pw_or (pt_cmpR op_ne (pe_callB call_len_seq rfl T.len boot_len (pa_cons (pv 2) pa_nil)) pe_int (nomark _))
          (pw_or1 (pt_not (pt_val (pe_cal CI hr (by decide) rfl (pa_cons (pe_ix ix_tup (pv 2) pe_int (fun _ _ => rfl)) (pa_cons pe_int (pa_cons (pe_op op_sub (pe_callB call_len_str rfl T.len boot_len (pa_cons (pv 1) pa_nil)) pe_int) pa_nil))))))))))
        (pss_one (ps_ret pe_str)) pss_nil)
      (pss_cons (ps_asg (pv 2) (pg_tup rfl (pgs_cons (pg_name (i := 3) nd rfl (.inl rfl)) (pgs_cons (pg_name (i := 4) nd rfl (.inl rfl)) pgs_nil))))
      (pss_cons (ps_if (PW.pt (pw_or (pt_not (pt_val (pe_callB call_isi rfl T.isinstance boot_isinstance (pa_cons (pv 4) (pa_cons (pe_bltn (v := .ty "str") rfl T.str PyProof.Rows.boot_str rfl) pa_nil)))))
          (pw_or1 (pt_cmpR op_notIn_seq (pv 4) (pe_glob (v := .ref sd) rfl hsd rfl) rfl)))) (pss_one (ps_ret pe_str)) pss_nil)
      (pss_cons (ps_if (pt_not (pt_val (pe_cal CP hr (by decide) rfl (pa_cons (pv 0) (pa_cons (pv 1) (pa_cons (pv 3) pa_nil)))))) (pss_one (ps_ret pe_str)) pss_nil)
      (pss_cons (ps_set (i := 5) nd rfl (.inl rfl) (pe_ifExp (pt_cmpR op_eq (pv 4) (pe_glob (v := .str "left") rfl hleft ⟨_, rfl⟩) (nomark _)) (pe_op op_sub (pv 3) pe_int) (pe_op op_add (pv 3) (pe_cal CZ hr (by decide) rfl (pa_cons (pv 0) (pa_cons (pe_ix ix_str (pv 1) (pv 3) (fun _ _ => rfl)) pa_nil))))))
      (pss_cons (ps_if (pt_not (pt_chain op_le op_lt pe_int (pv 5) (pe_callB call_len_str rfl T.len boot_len (pa_cons (pv 1) pa_nil)))) (pss_one (ps_ret pe_str)) pss_nil)
      (pss_one (ps_ret (pe_ifExp (pt_cmpR op_eq (pe_ix ix_str (pv 1) (pv 5) (fun _ _ => rfl)) (pe_ix ix_str (pv 1) (pv 3) (fun _ _ => rfl)) (nomark _)) pe_str pe_str)))))))), ?_⟩
    have hzl := hz.le
    have hrl : (sOf wd).length ≤ sizeLine := by rw [sOf_len, sizeLine_eq]; omega
    have hc := getD_lt hw hi
    have h4 := hz.siz4 (wd.getD i 0)
    refine ⟨_, rfl, _, _, _, _, true, rfl, .ty "tuple", .base (.tup hm), kit_ty (by decide +kernel), true, rfl, iteF ?_⟩
    refine ⟨_, rfl, m, _, rfl, .inr (.of hm), rfl, _, rfl, iteF ?_⟩
    refine ⟨_, rfl, m, _, _, _, rfl, rfl, .of hm, atI_nat (j := 0) rfl, _, rfl, _, rfl, hrl, _, _, rfl, rfl, _, _, _, rfl, _, rfl, ?_⟩
    have e1 : (!(decide ((0 : Int) ≤ ((i : Nat) : Int)) && decide (((i : Nat) : Int) ≤ (((sOf wd).length : Nat) : Int) - 1))) = false := by
      rw [sOf_len, decide_eq_true (by omega), decide_eq_true (by omega)]
      rfl
    refine Eq.mpr (congrArg (fun b : Bool => if b = true then _ else _) e1) (iteF ?_)
    refine ⟨_, rfl, m, _, rfl, .of hm, rfl, _, _, rfl, _, _, rfl, rfl, ?_⟩
    refine ⟨_, rfl, _, _, _, _, true, rfl, .ty "str", .base (.str _), kit_ty (by decide +kernel), true, rfl, iteF ?_⟩
    have e2 : (if true = true then !inV (V.str (sideS lf)) [.str "left", .str "right"] else inV (V.str (sideS lf)) [.str "left", .str "right"]) = false := by
      cases lf <;> decide +kernel
    refine ⟨_, rfl, sd, _, rfl, .inr (hsdT _), rfl, rfl, _, rfl, ?_⟩
    refine Eq.mpr (congrArg (fun b : Bool => if b = true then _ else _) e2) (iteF ?_)
    refine ⟨_, rfl, _, rfl, _, rfl, a, sz, wd, i, rfl, ha, hz, hw, hl, hi, _, rfl, ?_⟩
    cases hpk : packAt sz wd i with
    | false =>
      exact iteT (q "pack" ⟨fun h => absurd h (by decide +kernel), fun h => by unfold okMove at h; rw [hpk] at h; cases h⟩)
    | true =>
      refine iteF ?_
      have q' : ∀ nb : Int, nb = (if lf then ((i : Nat) : Int) - 1 else ((i : Nat) : Int) + ((siz sz (wd.getD i 0) : Nat) : Int)) → ∀ r : Str, (r = "" ↔ 0 ≤ nb ∧ nb < wd.length ∧ ¬ wd.getD nb.toNat 0 = wd.getD i 0) → Q (.str r) H := by
        intro nb hnb r hr0
        refine q r (hr0.trans ?_)
        unfold okMove
        rw [hpk, Bool.true_and]
        cases lf with
        | true =>
          rw [if_pos rfl] at hnb ⊢
          rw [Bool.and_eq_true, decide_eq_true_eq, Bool.not_eq_true', decide_eq_false_iff_not, hnb, show (((i : Nat) : Int) - 1).toNat = i - 1 by omega]
          exact ⟨fun h => ⟨by omega, h.2.2⟩, fun h => ⟨by omega, by omega, h.2⟩⟩
        | false =>
          rw [if_neg (by decide)] at hnb ⊢
          rw [Bool.and_eq_true, decide_eq_true_eq, Bool.not_eq_true', decide_eq_false_iff_not, hnb, show (((i : Nat) : Int) + ((siz sz (wd.getD i 0) : Nat) : Int)).toNat = i + siz sz (wd.getD i 0) by omega]
          exact ⟨fun h => ⟨by omega, h.2.2⟩, fun h => ⟨by omega, by omega, h.2⟩⟩
      refine ⟨_, rfl, rfl, _, rfl, ?_⟩
      cases lf
      · refine Eq.mpr (congrArg (fun b : Bool => if b = true then _ else _) (show decide (V.str (sideS false) = V.str "left") = false by decide +kernel)) (iteF ?_)
        refine ⟨_, rfl, _, rfl, _, rfl, _, rfl, _, _, _, rfl, rfl, hrl, at_sOf hi, a, sz, wd.getD i 0, rfl, ha, hc, by omega, _, _, rfl, rfl, ?_⟩
        have q2 := q' _ rfl
        rw [if_neg (by decide)] at q2
        refine ⟨_, rfl, _, _, rfl, rfl, _, rfl, ?_⟩
        by_cases h0 : 0 ≤ (((i : Nat) : Int) + ((siz sz (wd.getD i 0) : Nat) : Int))
        · refine Eq.mpr (congrArg (fun b : Bool => if b = true then _ else _) (decide_eq_true h0)) (iteT ?_)
          refine ⟨_, rfl, _, rfl, hrl, _, _, rfl, rfl, _, rfl, ?_⟩
          by_cases h1 : (((i : Nat) : Int) + ((siz sz (wd.getD i 0) : Nat) : Int)) < wd.length
          · have e3 : (!decide ((((i : Nat) : Int) + ((siz sz (wd.getD i 0) : Nat) : Int)) < (((sOf wd).length : Nat) : Int))) = false := by rw [sOf_len, decide_eq_true h1]; rfl
            refine Eq.mpr (congrArg (fun b : Bool => if b = true then _ else _) e3) (iteF ?_)
            have hnb : (((((i : Nat) : Int) + ((siz sz (wd.getD i 0) : Nat) : Int)).toNat : Nat) : Int) = (((i : Nat) : Int) + ((siz sz (wd.getD i 0) : Nat) : Int)) := Int.toNat_of_nonneg h0
            have hat : atI (sOf wd).cps.toList (((i : Nat) : Int) + ((siz sz (wd.getD i 0) : Nat) : Int)) = some (wd.getD (((i : Nat) : Int) + ((siz sz (wd.getD i 0) : Nat) : Int)).toNat 0 + 97) := by
              have := at_sOf (wd := wd) (i := (((i : Nat) : Int) + ((siz sz (wd.getD i 0) : Nat) : Int)).toNat) (by omega)
              rw [hnb] at this
              exact this
            refine ⟨_, rfl, _, rfl, _, _, _, rfl, rfl, hrl, hat, _, rfl, _, rfl, _, _, _, rfl, rfl, hrl, at_sOf hi, rfl, _, rfl, ?_⟩
            have e4 : decide (V.str (⟨#[wd.getD (((i : Nat) : Int) + ((siz sz (wd.getD i 0) : Nat) : Int)).toNat 0 + 97]⟩ : Str) = V.str ⟨#[wd.getD i 0 + 97]⟩) = decide (wd.getD (((i : Nat) : Int) + ((siz sz (wd.getD i 0) : Nat) : Int)).toNat 0 = wd.getD i 0) :=
              decide_eq_decide.mpr ⟨fun h => one_inj (by injection h), fun h => by rw [h]⟩
            refine Eq.mpr (congrArg (fun b : Bool => if b = true then _ else _) e4) (ite2 (fun c2 => ?_) (fun c2 => ?_))
            · exact q2 _ ⟨fun h => absurd h (by decide +kernel), fun h => absurd (of_decide_eq_true c2) h.2.2⟩
            · exact q2 _ ⟨fun _ => ⟨h0, h1, fun e => c2 (decide_eq_true e)⟩, fun _ => rfl⟩
          · have e3 : (!decide ((((i : Nat) : Int) + ((siz sz (wd.getD i 0) : Nat) : Int)) < (((sOf wd).length : Nat) : Int))) = true := by rw [sOf_len, decide_eq_false h1]; rfl
            refine Eq.mpr (congrArg (fun b : Bool => if b = true then _ else _) e3) (iteT ?_)
            exact q2 _ ⟨fun h => absurd h (by decide +kernel), fun h => absurd h.2.1 h1⟩
        · refine Eq.mpr (congrArg (fun b : Bool => if b = true then _ else _) (decide_eq_false h0)) (iteF ?_)
          refine ⟨_, rfl, iteT ?_⟩
          exact q2 _ ⟨fun h => absurd h (by decide +kernel), fun h => absurd h.1 h0⟩
      · refine Eq.mpr (congrArg (fun b : Bool => if b = true then _ else _) (show decide (V.str (sideS true) = V.str "left") = true by decide +kernel)) (iteT ?_)
        refine ⟨_, rfl, _, _, rfl, rfl, ?_⟩
        have q2 := q' _ rfl
        rw [if_pos rfl] at q2
        refine ⟨_, rfl, _, _, rfl, rfl, _, rfl, ?_⟩
        by_cases h0 : 0 ≤ (((i : Nat) : Int) - 1)
        · refine Eq.mpr (congrArg (fun b : Bool => if b = true then _ else _) (decide_eq_true h0)) (iteT ?_)
          refine ⟨_, rfl, _, rfl, hrl, _, _, rfl, rfl, _, rfl, ?_⟩
          by_cases h1 : (((i : Nat) : Int) - 1) < wd.length
          · have e3 : (!decide ((((i : Nat) : Int) - 1) < (((sOf wd).length : Nat) : Int))) = false := by rw [sOf_len, decide_eq_true h1]; rfl
            refine Eq.mpr (congrArg (fun b : Bool => if b = true then _ else _) e3) (iteF ?_)
            have hnb : (((((i : Nat) : Int) - 1).toNat : Nat) : Int) = (((i : Nat) : Int) - 1) := Int.toNat_of_nonneg h0
            have hat : atI (sOf wd).cps.toList (((i : Nat) : Int) - 1) = some (wd.getD (((i : Nat) : Int) - 1).toNat 0 + 97) := by
              have := at_sOf (wd := wd) (i := (((i : Nat) : Int) - 1).toNat) (by omega)
              rw [hnb] at this
              exact this
            refine ⟨_, rfl, _, rfl, _, _, _, rfl, rfl, hrl, hat, _, rfl, _, rfl, _, _, _, rfl, rfl, hrl, at_sOf hi, rfl, _, rfl, ?_⟩
            have e4 : decide (V.str (⟨#[wd.getD (((i : Nat) : Int) - 1).toNat 0 + 97]⟩ : Str) = V.str ⟨#[wd.getD i 0 + 97]⟩) = decide (wd.getD (((i : Nat) : Int) - 1).toNat 0 = wd.getD i 0) :=
              decide_eq_decide.mpr ⟨fun h => one_inj (by injection h), fun h => by rw [h]⟩
            refine Eq.mpr (congrArg (fun b : Bool => if b = true then _ else _) e4) (ite2 (fun c2 => ?_) (fun c2 => ?_))
            · exact q2 _ ⟨fun h => absurd h (by decide +kernel), fun h => absurd (of_decide_eq_true c2) h.2.2⟩
            · exact q2 _ ⟨fun _ => ⟨h0, h1, fun e => c2 (decide_eq_true e)⟩, fun _ => rfl⟩
          · have e3 : (!decide ((((i : Nat) : Int) - 1) < (((sOf wd).length : Nat) : Int))) = true := by rw [sOf_len, decide_eq_false h1]; rfl
            refine Eq.mpr (congrArg (fun b : Bool => if b = true then _ else _) e3) (iteT ?_)
            exact q2 _ ⟨fun h => absurd h (by decide +kernel), fun h => absurd h.2.1 h1⟩
        · refine Eq.mpr (congrArg (fun b : Bool => if b = true then _ else _) (decide_eq_false h0)) (iteF ?_)
          refine ⟨_, rfl, iteT ?_⟩
          exact q2 _ ⟨fun h => absurd h (by decide +kernel), fun h => absurd h.1 h0⟩
/-! ### list_moves, legal_moves -/
def spMoves : Sp := fun vs H Q _ => ∃ (a : Addr) (sz wd : List Nat), vs = [.ref a, .str (sOf wd)] ∧ H a = some (.tup (szV sz)) ∧ SzOk sz ∧ WOk sz.length wd ∧ wd.length ≤ 12 ∧ ∀ (R : Addr) (us : List V) (H' : Hp), Same H H' → H' R = some (.lst us) → (us = [] ↔ noMove sz wd) → Q (.ref R) H'
theorem scList : FnScope ["sizes", "row", "candidates", "start", "side", "move"] ["sizes", "row"] (defScope sList) := ⟨rfl, rfl, rfl, by decide +kernel, rfl, by decide +kernel, by decide +kernel⟩
/-- the candidates so far -/
def CandAt (H1 : Hp) (D : Addr) (n i : Nat) (j : Nat) (H : Hp) : Prop := ∃ ts : List Addr, Same H1 H ∧ H D = some (.lst (ts.map V.ref)) ∧ ts.length = 2 * i + j ∧ (∀ t ∈ ts, ∃ k lf, k < n ∧ H t = some (.tup [.int (k : Nat), .str (sideS lf)])) ∧
  ∀ k lf, (k < i ∨ (k = i ∧ (if lf then 0 else 1) < j)) → ∃ t ∈ ts, H t = some (.tup [.int (k : Nat), .str (sideS lf)])
def PassAt (sz wd : List Nat) (ts : List Addr) (H2 : Hp) (D : Addr) (i : Nat) (H : Hp) : Prop := ∃ us : List V, Same H2 H ∧ H D = some (.lst us) ∧ us.length ≤ i ∧ (us = [] ↔ ∀ t ∈ ts.take i, ∀ k lf, H2 t = some (.tup [.int (k : Nat), .str (sideS lf)]) → okMove sz wd k lf = false)
theorem sideS_inj {a b : Bool} (h : sideS a = sideS b) : a = b := by
  cases a <;> cases b <;> first | rfl | exact absurd h (by decide +kernel)
theorem ok_list (F : FnP K "list_moves" sList f fd) (T : Txt K mg) (CJ : Cal P w K mg base "reject_reason" 3 ["sizes", "row", "move"] spReject) : FnOk P w K mg base CX0 4 f fd ["sizes", "row"] spMoves := by
  refine F.fok scList (fun vs H Q E h => ?_) (fun cdv A outer s H vs Q E hr h => ?_)
  · obtain ⟨_, _, _, rfl, _⟩ := h
    rfl
  · obtain ⟨a, sz, wd, rfl, ha, hz, hw, hl, q⟩ := h
    obtain ⟨sd, hsd, hsdT⟩ := T.sides
    have nd := scList.nd
    refine ⟨_, pss_cons (ps_setLc2 (i := 2) (own := [("start", 3), ("side", 4)]) (vs1 := [4]) (g := gName 3) (tt := tYes) (g1 := gName 4) (tt1 := tYes) (wi1 := iTup K (tC (.ref sd))) rfl nd rfl rfl (sw_true rfl rfl rfl rfl)
        (pi_range1 rfl T.range (pa_cons (pe_callB call_len_str rfl T.len boot_len (pa_cons (pv 1) pa_nil)) pa_nil)) (blkOk_by (N := ["sizes", "row", "candidates", "start", "side", "move"]) (sc := defScope sList) (by decide +kernel)) (by decide)
        (fun _ _ _ _ _ => pg_name (i := 3) nd rfl (Or.inl rfl)) (fun _ _ _ _ _ => pts_nil) (fun _ _ _ _ _ => pi_tupK (K := K) rfl (pe_glob (v := .ref sd) rfl hsd rfl)) (fun _ _ _ _ _ => pg_name (i := 4) nd rfl (Or.inl rfl)) (fun _ _ _ _ _ => pts_nil)
        (fun _ _ _ _ _ => pe_tup (pa_cons (pv 3) (pa_cons (pv 4) pa_nil))))
      (pss_one (ps_ret (pe_lc (own := [("move", 5)]) (g := gName 5) (te := tVar 5) rfl nd (pi_list (pv 2)) (blkOk_by (N := ["sizes", "row", "candidates", "start", "side", "move"]) (sc := defScope sList) (by decide +kernel))
        (fun _ _ _ _ _ => pg_name (i := 5) nd rfl (Or.inl rfl)) (fun _ _ _ _ _ => pts_one (pt_cmpR op_eq (pe_cal CJ hr (by decide) rfl (pa_cons (pv 0) (pa_cons (pv 1) (pa_cons (pv 5) pa_nil)))) pe_str (nomark _))) (fun _ _ _ _ _ => pv 5)))), ?_⟩
    have hzl := hz.le
    have hrl : (sOf wd).length ≤ sizeLine := by rw [sOf_len, sizeLine_eq]; omega
    refine ⟨_, rfl, _, rfl, hrl, ((wd.length : Nat) : Int), by rw [sOf_len], by omega, by omega, fun D hD => out_it (walk_range (lo := 0) (n := wd.length)) (fun i H2 => CandAt H D wd.length i 0 H2) ?_ (fun _ _ _ _ => trivial) ?_ ?_⟩
    · exact ⟨[], Same.upd hD _, upd_same, rfl, fun t h => (by cases h), fun k lf h => (by rcases h with h | ⟨_, h⟩ <;> exact absurd h (Nat.not_lt_zero _))⟩
    · rintro i y H2 H3 hi hc ⟨rfl, ey⟩
      obtain rfl : y = V.int ((i : Nat) : Int) := ey.trans (congrArg V.int (Int.zero_add _))
      refine ⟨rfl, sd, rfl, ⟨_, hsdT _⟩, out_it walk_tup (fun j H4 => CandAt H D wd.length i j H4) hc (fun _ _ _ _ => hsdT _) ?_ ?_⟩
      · rintro j y H4 H5 hj ⟨ts, s4, hD4, hl4, hm4, hx4⟩ ⟨rfl, hy⟩
        have hj2 : j < 2 := hj
        obtain ⟨lf, rfl, hlf⟩ : ∃ lf, y = V.str (sideS lf) ∧ (if lf then 0 else 1) = j := by
          rcases j with _ | _ | j
          · exact ⟨true, (Option.some.inj hy).symm, rfl⟩
          · exact ⟨false, (Option.some.inj hy).symm, rfl⟩
          · omega
        refine ⟨rfl, _, rfl, _, rfl, two_fits, fun p hp => ?_⟩
        have hD5 := Same.upd hp (.tup [.int (i : Nat), .str (sideS lf)]) _ _ hD4
        have tk := tup_keep (.lst (ts.map V.ref ++ [V.ref p])) hD5
        refine ⟨_, hD5, by rw [List.length_map, sizeLine_eq]; omega, ts ++ [p], fun b o e => ?_, by rw [upd_same, List.map_append]; rfl, by rw [List.length_append, hl4]; rfl, fun t ht => ?_, fun k lf' h => ?_⟩
        · rw [upd_ne (ne_of_none e hD)]
          exact Same.upd hp _ _ _ (s4 _ _ e)
        · rcases List.mem_append.mp ht with ht | ht
          · obtain ⟨k, lf', h1, h2⟩ := hm4 t ht
            exact ⟨k, lf', h1, tk _ _ (Same.upd hp _ _ _ h2)⟩
          · rw [List.mem_singleton.mp ht]
            exact ⟨i, lf, hi, tk _ _ upd_same⟩
        · by_cases hk : k < i ∨ (k = i ∧ (if lf' then 0 else 1) < j)
          · obtain ⟨t, h1, h2⟩ := hx4 k lf' hk
            exact ⟨t, List.mem_append_left _ h1, tk _ _ (Same.upd hp _ _ _ h2)⟩
          · have hki : k = i := by omega
            have hjj : (if lf' then 0 else 1) = j := by omega
            have hll : lf' = lf := by
              rw [← hlf] at hjj
              cases lf' <;> cases lf <;> first | rfl | exact absurd hjj (by decide)
            subst hki hll
            exact ⟨p, by simp, tk _ _ upd_same⟩
      · rintro H4 ⟨ts, s4, hD4, hl4, hm4, hx4⟩
        refine ⟨ts, s4, hD4, by rw [hl4]; show 2 * i + 2 = _; omega, hm4, fun k lf h => hx4 k lf ?_⟩
        rcases h with h | ⟨_, h⟩
        · by_cases hk : k < i
          · exact .inl hk
          · exact .inr ⟨by omega, by show _ < 2; cases lf <;> decide⟩
        · exact absurd h (Nat.not_lt_zero _)
    · rintro H2 ⟨ts, s2, hD2, hl2, hm2, hx2⟩
      refine ⟨_, rfl, D, rfl, ⟨_, .of hD2⟩, fun D3 hD3 => lc_list (K := K) (a := D) (xs := ts.map V.ref) (PassAt sz wd ts H2 D3) ?_ ?_ ?_ ?_⟩
      · exact ⟨[], Same.upd hD3 _, upd_same, Nat.le_refl _, ⟨fun _ t h => (by cases h), fun _ => rfl⟩⟩
      · exact fun i H4 _ ⟨_, hk, _⟩ => .of (hk _ _ hD2)
      · rintro i y H4 hy ⟨us, s4, hD4, hl4, hu4⟩
        rw [List.getElem?_map] at hy
        cases et : ts[i]? with
        | none => rw [et] at hy; cases hy
        | some t =>
          rw [et] at hy
          cases hy
          have hi24 : i < 24 := by
            have := (List.getElem?_eq_some_iff.mp et).1
            omega
          obtain ⟨k, lf, hk, ht⟩ := hm2 t (List.mem_of_getElem? et)
          have tk1 : ts.take (i + 1) = ts.take i ++ [t] := by rw [List.take_succ, et]; rfl
          have uniq : ∀ k' lf', H2 t = some (.tup [.int (k' : Nat), .str (sideS lf')]) → k' = k ∧ lf' = lf := fun k' lf' h => by
            rw [ht] at h
            injection h with h
            injection h with h
            injection h with h1 h2
            injection h1 with h1
            injection h2 with h2 _
            injection h2 with h2
            exact ⟨by omega, (sideS_inj h2).symm⟩
          refine ⟨rfl, _, rfl, _, rfl, _, rfl, a, t, sz, wd, k, lf, rfl, s4 _ _ (s2 _ _ ha), hz, hw, by omega, hk, s4 _ _ ht, fun r hr0 => ⟨rfl, _, rfl, ite2 (fun c2 => ?_) (fun c2 => ?_)⟩⟩
          · have hre : r = "" := by
              have := of_decide_eq_true c2
              injection this
            have hok := hr0.mp hre
            refine ⟨_, rfl, _, hD4, by rw [sizeLine_eq]; omega, us ++ [V.ref t], fun b o e => ?_, by rw [upd_same], by rw [List.length_append]; show _ + 1 ≤ _; omega, ⟨fun h => absurd h (by simp), fun h => ?_⟩⟩
            · rw [upd_ne (ne_of_none e hD3)]
              exact s4 b o e
            · have := h t (by rw [tk1]; simp) k lf ht
              rw [hok] at this
              cases this
          · have hno : okMove sz wd k lf = false := by
              cases h : okMove sz wd k lf with
              | false => rfl
              | true => exact absurd (decide_eq_true (by rw [hr0.mpr h])) c2
            refine ⟨us, s4, hD4, by omega, hu4.trans ⟨fun h t' ht' k' lf' he => ?_, fun h t' ht' => h t' (by rw [tk1]; exact List.mem_append_left _ ht')⟩⟩
            rw [tk1] at ht'
            rcases List.mem_append.mp ht' with ht' | ht'
            · exact h t' ht' k' lf' he
            · rw [List.mem_singleton.mp ht'] at he
              obtain ⟨rfl, rfl⟩ := uniq k' lf' he
              exact hno
      · rintro H4 ⟨us, s4, hD4, hl4, hu4⟩
        rw [List.length_map, List.take_of_length_le (Nat.le_refl _)] at hu4
        refine q D3 us H4 (s2.trans s4) hD4 (hu4.trans ⟨fun h i hi lf => ?_, fun h t ht k lf he => ?_⟩)
        · obtain ⟨t, h1, h2⟩ := hx2 i lf (.inl hi)
          exact h t h1 i lf h2
        · obtain ⟨k', lf', h1, h2⟩ := hm2 t ht
          rw [he] at h2
          injection h2 with h2
          injection h2 with h2
          injection h2 with h2 h3
          injection h2 with h2
          have : k = k' := by omega
          subst this
          exact h k h1 lf
theorem scLegal : FnScope ["sizes", "row"] ["sizes", "row"] (defScope sLegal) := ⟨rfl, rfl, rfl, by decide +kernel, rfl, by decide +kernel, by decide +kernel⟩
theorem ok_legal (F : FnP K "legal_moves" sLegal f fd) (C1 : Cal P w K mg base "check_sizes" 2 ["sizes"] spCheckSizes) (C2 : Cal P w K mg base "check_row" 2 ["sizes", "row"] spCheckRow) (C3 : Cal P w K mg base "list_moves" 4 ["sizes", "row"] spMoves) :
    FnOk P w K mg base CX0 5 f fd ["sizes", "row"] spMoves := by
  refine F.fok scLegal (fun vs H Q E h => ?_) (fun cdv A outer s H vs Q E hr h => ?_)
  · obtain ⟨_, _, _, rfl, _⟩ := h
    rfl
  · obtain ⟨a, sz, wd, rfl, ha, hz, hw, hl, q⟩ := h
    refine ⟨_, pss_cons (ps_expr (pe_cal C1 hr (by decide) rfl (pa_cons (pv 0) pa_nil))) (pss_cons (ps_expr (pe_cal C2 hr (by decide) rfl (pa_cons (pv 0) (pa_cons (pv 1) pa_nil))))
      (pss_one (ps_ret (pe_cal C3 hr (by decide) rfl (pa_cons (pv 0) (pa_cons (pv 1) pa_nil)))))), ?_⟩
    have hzl := hz.le
    refine ⟨_, rfl, a, sz, rfl, ha, hz, fun H1 s1 => ⟨_, rfl, _, rfl, a, sz, wd, rfl, s1 _ _ ha, by omega, hw, by omega, fun H2 s2 => ?_⟩⟩
    exact ⟨_, rfl, _, rfl, a, sz, wd, rfl, s2 _ _ (s1 _ _ ha), hz, hw, hl, fun R us H3 s3 hR hu => q R us H3 (s1.trans (s2.trans s3)) hR hu⟩
end
end Pk

namespace Pk
open PySem PySem.Spec L2
open PyProof.Rows hiding St
/-- the stream's state: at D stands a list of ints, none negative -/
structure Dat (H : Hp) (D : Addr) : Prop where
  ex : ∃ (x0 x1 : Int) (r : List Int), H D = some (.lst ((x0 :: x1 :: r).map V.int)) ∧ r.length ≤ 63 ∧ 0 ≤ x0 ∧ 0 ≤ x1 ∧ ∀ n ∈ r, 0 ≤ n
section
variable {P : Program} {w : World} {K : PySem.W.Frag} {mg : Str → Option Value} {base : Heap} {f C : Addr} {fd : FuncData}
/-! ### _law_below -/
def spBelow : Sp := fun vs H Q _ => ∃ (D : Addr) (lim : Int), vs = [.ref D, .int lim] ∧ Dat H D ∧ 1 ≤ lim ∧ lim < 1000000 ∧ ∀ (v : Int) (H' : Hp), 0 ≤ v → v < lim → Dat H' D → But D H H' → Q (.int v) H'
theorem scBelow : FnScope ["_law_d", "_law_limit", "_law_result"] ["_law_d", "_law_limit"] (defScope sBelow) := ⟨rfl, rfl, rfl, by decide +kernel, rfl, by decide +kernel, by decide +kernel⟩
theorem but_upd {D : Addr} {H H' : Hp} (b : But D H H') (o : HO) : But D H (upd H' D o) := fun c u hc e => by rw [upd_ne hc]; exact b c u hc e
theorem ok_below (F : FnP K "_law_below" sBelow f fd) (T : Txt K mg) : FnOk P w K mg base CX0 1 f fd ["_law_d", "_law_limit"] spBelow := by
  refine F.fok scBelow (fun vs H Q E h => ?_) (fun cdv A outer s H vs Q E hr h => ?_)
  · obtain ⟨_, _, rfl, _⟩ := h
    rfl
  · obtain ⟨D, lim, rfl, hD, hl1, hl2, q⟩ := h
    have nd := scBelow.nd
    refine ⟨_, pss_mid (ps_if (PW.pt (pw_and (pt_cmpR op_eq (pe_ix ix_list (pv 0) pe_int (fun _ _ => rfl)) pe_int (nomark _)) (pw_and1 (pt_cmpR op_gt (pe_callB call_len_seq rfl T.len boot_len (pa_cons (pv 0) pa_nil)) pe_int (nomark _)))))
        (pss_one (ps_asg (pe_bm PySem.F.plainAttrs_list PySem.F.slot_list_pop PySem.F.type_list_pop mt_popAt (pv 0) (pa_cons pe_int pa_nil)) (pg_sub (pv 0) pe_int set_list))) pss_nil)
      (pss_cons (ps_if (pt_cmpR op_gt (pe_ix ix_list (pv 0) pe_int (fun _ _ => rfl)) pe_int (nomark _))
        (pss_cons (ps_set (i := 2) nd rfl (.inl rfl) (pe_op op_mod (pe_ix ix_list (pv 0) pe_int (fun _ _ => rfl)) (pv 1))) (pss_cons (ps_asg (pe_op op_fdiv (pe_ix ix_list (pv 0) pe_int (fun _ _ => rfl)) (pv 1)) (pg_sub (pv 0) pe_int set_list)) (pss_one (ps_ret (pv 2))))) pss_nil)
      (pss_cons (ps_asg (pe_op op_mod (pe_op op_add (pe_op op_mul (pe_ix ix_list (pv 0) pe_int (fun _ _ => rfl)) pe_int) pe_int) pe_int) (pg_sub (pv 0) pe_int set_list))
      (pss_one (ps_ret (pe_op op_mod (pe_op op_fdiv (pe_ix ix_list (pv 0) pe_int (fun _ _ => rfl)) pe_int) (pv 1)))))), ?_⟩
    obtain ⟨x0, x1, r, hH, hrl, h0, h1, hr0⟩ := hD.ex
    refine ⟨fun σ' H' => σ' = [some (.ref D), some (.int lim), none] ∧ Dat H' D ∧ But D H H', ?_, ?_⟩
    · refine ⟨_, rfl, D, _, _, _, rfl, rfl, .of hH, atI_nat (j := 1) rfl, rfl, _, rfl, ite2 (fun c1 => ?_) (fun c1 => ?_)⟩
      · refine ⟨_, rfl, D, _, rfl, .inl (.of hH), _, _, rfl, rfl, _, rfl, ite2 (fun c2 => ?_) (fun c2 => ?_)⟩
        · cases r with
          | nil => exact absurd (of_decide_eq_true c2) (by show ¬ (2 : Int) < ((2 : Nat) : Int); decide)
          | cons x2 r =>
            refine ⟨_, rfl, .inl ⟨rfl, _, .of hH⟩, D, _, 2, 2, .int x2, rfl, rfl, hH, by omega, by omega, (ixN_seq ?_).1, rfl, ?_⟩
            · unfold ixN
              rw [if_pos (by decide), List.length_map, List.length_cons, List.length_cons, List.length_cons, if_pos (by omega)]
              rfl
            · refine ⟨_, rfl, D, _, 1, 1, rfl, rfl, upd_same, ?_, rfl, ⟨x0, x2, r, ?_, ?_, h0, ?_, ?_⟩, but_upd (but_upd (fun _ _ _ e => e) _) _⟩
              · unfold ixN
                rw [if_pos (by decide), if_pos (by show (1 : Int) < (((r.map V.int).length + 2 : Nat) : Int); omega)]
                rfl
              · rw [upd_same]; rfl
              · rw [List.length_cons] at hrl; omega
              · exact hr0 x2 List.mem_cons_self
              · exact fun n hn => hr0 n (List.mem_cons_of_mem _ hn)
        · exact ⟨rfl, hD, fun _ _ _ e => e⟩
      · exact ⟨rfl, hD, fun _ _ _ e => e⟩
    · rintro σ' H' ⟨rfl, hD', hb'⟩
      obtain ⟨x0, x1, r, hH, hrl, h0, h1, hr0⟩ := hD'.ex
      refine ⟨_, rfl, D, _, _, _, rfl, rfl, .of hH, atI_nat (j := 1) rfl, _, _, rfl, rfl, _, rfl, ite2 (fun c1 => ?_) (fun c1 => ?_)⟩
      · refine ⟨_, rfl, D, _, _, _, rfl, rfl, .of hH, atI_nat (j := 1) rfl, _, rfl, _, _, rfl, rfl, (by show (0 : Int) < lim; omega), ?_⟩
        refine ⟨_, rfl, D, _, _, _, rfl, rfl, .of hH, atI_nat (j := 1) rfl, _, rfl, _, _, rfl, rfl, ⟨by omega, by omega⟩, ?_⟩
        refine ⟨_, rfl, D, _, 1, 1, rfl, rfl, hH, ?_, _, rfl, ?_⟩
        · unfold ixN
          rw [if_pos (by decide), if_pos (by show (1 : Int) < (((r.map V.int).length + 2 : Nat) : Int); omega)]
          rfl
        · exact q (x1 % lim) _ (Int.emod_nonneg _ (by omega)) (Int.emod_lt_of_pos _ (by omega)) ⟨x0, x1 / lim, r, by rw [upd_same]; rfl, hrl, h0, Int.ediv_nonneg h1 (by omega), hr0⟩ (but_upd hb' _)
      · refine ⟨_, rfl, D, _, _, _, rfl, rfl, .of hH, atI_nat (j := 0) rfl, _, _, rfl, rfl, .inr ⟨by omega, by omega⟩, _, _, rfl, rfl, _, _, rfl, rfl, (by show (0 : Int) < 2147483647; decide), ?_⟩
        refine ⟨_, rfl, D, _, 0, 0, rfl, rfl, hH, ?_, ?_⟩
        · unfold ixN
          rw [if_pos (by decide), if_pos (by show (0 : Int) < (((r.map V.int).length + 2 : Nat) : Int); omega)]
          rfl
        have hn0 : 0 ≤ (x0 * 48271 + 11) % 2147483647 := Int.emod_nonneg _ (by decide)
        refine ⟨_, rfl, D, _, _, _, rfl, rfl, .of upd_same, atI_nat (j := 0) rfl, _, _, rfl, rfl, ⟨by decide, by decide⟩, _, rfl, _, _, rfl, rfl, (by show (0 : Int) < lim; omega), ?_⟩
        exact q _ _ (Int.emod_nonneg _ (by omega)) (Int.emod_lt_of_pos _ (by omega)) ⟨(x0 * 48271 + 11) % 2147483647, x1, r, by rw [upd_same]; rfl, hrl, hn0, h1, hr0⟩ (but_upd hb' _)
end
end Pk

namespace Pk
open PySem PySem.Spec L2
open PyProof.Rows hiding St
section
variable {P : Program} {w : World} {K : PySem.W.Frag} {mg : Str → Option Value} {base : Heap} {f C : Addr} {fd : FuncData}
theorem Dat.keep {H H' : Hp} {D : Addr} (d : Dat H D) (s : Same H H') : Dat H' D := let ⟨x0, x1, r, h, q⟩ := d.ex; ⟨x0, x1, r, s _ _ h, q⟩
theorem Dat.updN {H : Hp} {D b : Addr} (d : Dat H D) (h : D ≠ b) (o : HO) : Dat (upd H b o) D := let ⟨x0, x1, r, h1, q⟩ := d.ex; ⟨x0, x1, r, by rw [upd_ne h]; exact h1, q⟩
/-! ### _law_random -/
def spRandom (K : PySem.W.Frag) : Sp := fun vs H Q _ => ∃ (a : Addr) (ns : List Int) (salt : Int), vs = [.ref a, .int salt] ∧ SqL K H a (ns.map V.int) ∧ ns.length ≤ 63 ∧ 0 ≤ salt ∧ ∀ (D : Addr) (H' : Hp), Same H H' → H D = none → Dat H' D → Q (.ref D) H'
theorem scRandom : FnScope ["_law_script", "_law_salt", "_law_seed", "_law_cell"] ["_law_script", "_law_salt"] (defScope sRandom) := ⟨rfl, rfl, rfl, by decide +kernel, rfl, by decide +kernel, by decide +kernel⟩
theorem ok_random (F : FnP K "_law_random" sRandom f fd) (T : Txt K mg) : FnOk P w K mg base CX0 1 f fd ["_law_script", "_law_salt"] (spRandom K) := by
  refine F.fok scRandom (fun vs H Q E h => ?_) (fun cdv A outer s H vs Q E hr h => ?_)
  · obtain ⟨_, _, _, rfl, _⟩ := h
    rfl
  · obtain ⟨a, ns, salt, rfl, ha, hl, hs0, q⟩ := h
    have nd := scRandom.nd
    refine ⟨_, pss_cons (ps_set (i := 2) nd rfl (.inl rfl) (pv 1)) (pss_cons (ps_for PassesOwn.never rfl (pi_list (pv 0)) (pg_name (i := 3) nd rfl (.inl rfl))
        (pss_one (ps_set (i := 2) nd rfl (.inl rfl) (pe_op op_mod (pe_op op_add (pe_op op_mul (pv 2) pe_int) (pe_callB call_abs rfl T.abs boot_abs (pa_cons (pv 3) pa_nil))) pe_int))))
      (pss_one (ps_ret (pe_op op_cat (pe_lst (pa_cons (pv 2) (pa_cons pe_int pa_nil))) (pe_lc (own := [("_law_cell", 3)]) (g := gName 3) (te := tVar 3) rfl nd (pi_list (pv 0))
        (blkOk_by (N := ["_law_script", "_law_salt", "_law_seed", "_law_cell"]) (sc := defScope sRandom) (by decide +kernel)) (fun _ _ _ _ _ => pg_name (i := 3) nd rfl (Or.inl rfl))
        (fun _ _ _ _ _ => pts_one (pt_cmpR op_ge (pv 3) (pe_op op_pow pe_int pe_int) (nomark _))) (fun _ _ _ _ _ => pv 3)))))), ?_⟩
    refine ⟨_, rfl, _, rfl, a, rfl, ⟨_, ha⟩, for_list (K := K) (a := a) (xs := ns.map V.int) (fun i σ H2 => ∃ (seed : Int) (u : Option V), σ = [some (.ref a), some (.int salt), some (.int seed), u] ∧ 0 ≤ seed ∧ H2 = H) ⟨salt, none, rfl, hs0, rfl⟩ (fun i σ H2 _ ⟨_, _, _, _, e⟩ => by rw [e]; exact ha) ?_ ?_⟩
    · rintro i y σ H2 hy ⟨seed, u, rfl, h0, rfl⟩
      rw [List.getElem?_map] at hy
      cases en : ns[i]? with
      | none => rw [en] at hy; cases hy
      | some n =>
        rw [en] at hy
        cases hy
        refine ⟨_, rfl, _, _, rfl, rfl, .inr ⟨by omega, by omega⟩, _, rfl, _, rfl, _, _, rfl, rfl, _, _, rfl, rfl, (by show (0 : Int) < 2147483647; decide), ?_⟩
        exact ⟨_, _, rfl, Int.emod_nonneg _ (by decide), rfl⟩
    · rintro σ H2 ⟨seed, u, rfl, h0, rfl⟩
      refine ⟨_, rfl, two_fits, fun L hL => ?_⟩
      have s1 : Same H2 (upd H2 L (.lst [.int seed, .int 0])) := Same.upd hL _
      refine ⟨_, rfl, a, rfl, ⟨_, s1.seq ha⟩, fun D hD => lc_list (K := K) (a := a) (xs := ns.map V.int) (fun i H5 => ∃ ms : List Int, Same (upd H2 L (.lst [.int seed, .int 0])) H5 ∧ H5 D = some (.lst (ms.map V.int)) ∧ ms.length ≤ i ∧ ∀ m ∈ ms, 0 ≤ m) ?_ ?_ ?_ ?_⟩
      · exact ⟨[], Same.upd hD _, upd_same, Nat.le_refl _, fun m h => by cases h⟩
      · exact fun i H5 _ ⟨_, hk, _⟩ => hk.seq (s1.seq ha)
      · rintro i y H5 hy ⟨ms, s5, hD5, hl5, hm5⟩
        rw [List.getElem?_map] at hy
        cases en : ns[i]? with
        | none => rw [en] at hy; cases hy
        | some n =>
          rw [en] at hy
          cases hy
          have hi := (List.getElem?_eq_some_iff.mp en).1
          refine ⟨rfl, _, rfl, _, _, rfl, rfl, ⟨by decide, by decide, by decide⟩, _, _, rfl, rfl, _, rfl, ite2 (fun c2 => ?_) (fun c2 => ?_)⟩
          · have hn : (0 : Int) ≤ n := by
              have := of_decide_eq_true c2
              have h10 : (0 : Int) ≤ 10 ^ (18 : Int).toNat := by decide
              omega
            refine ⟨_, rfl, _, hD5, by rw [List.length_map, sizeLine_eq]; omega, ms ++ [n], fun b o e => ?_, by rw [upd_same, List.map_append]; rfl, by rw [List.length_append]; show _ + 1 ≤ _; omega, fun m hm => ?_⟩
            · rw [upd_ne (ne_of_none e hD)]
              exact s5 b o e
            · rcases List.mem_append.mp hm with hm | hm
              · exact hm5 m hm
              · rw [List.mem_singleton.mp hm]; exact hn
          · exact ⟨ms, s5, hD5, by omega, hm5⟩
      · rintro H5 ⟨ms, s5, hD5, hl5, hm5⟩
        rw [List.length_map] at hl5
        refine ⟨L, D, _, _, rfl, rfl, s5 _ _ upd_same, hD5, by rw [List.length_map, sizeLine_eq]; show 2 + _ ≤ _; omega, fun p hp => ?_⟩
        have hp0 : H2 p = none := by
          cases e : H2 p with
          | none => rfl
          | some o => rw [s5 _ _ (s1 _ _ e)] at hp; cases hp
        exact q p _ (s1.trans (s5.trans (Same.upd hp _))) hp0 ⟨seed, 0, ms, by rw [upd_same]; rfl, by omega, h0, Int.le_refl _, hm5⟩
/-! ### _law_sizes -/
def spSizes : Sp := fun vs H Q _ => ∃ (D : Addr), vs = [.ref D, .int 4] ∧ Dat H D ∧ ∀ (a : Addr) (sz : List Nat) (H' : Hp), SzOk sz → H' a = some (.tup (szV sz)) → Dat H' D → But D H H' → Q (.ref a) H'
theorem scSizes : FnScope ["_law_d", "_law_limit", "_law_largest", "_law_color"] ["_law_d", "_law_limit"] (defScope sSizes) := ⟨rfl, rfl, rfl, by decide +kernel, rfl, by decide +kernel, by decide +kernel⟩
theorem ok_sizes (F : FnP K "_law_sizes" sSizes f fd) (T : Txt K mg) (CB : Cal P w K mg base "_law_below" 1 ["_law_d", "_law_limit"] spBelow) : FnOk P w K mg base CX0 2 f fd ["_law_d", "_law_limit"] spSizes := by
  refine F.fok scSizes (fun vs H Q E h => ?_) (fun cdv A outer s H vs Q E hr h => ?_)
  · obtain ⟨_, rfl, _⟩ := h
    rfl
  · obtain ⟨D, rfl, hD, q⟩ := h
    have nd := scSizes.nd
    refine ⟨_, pss_cons (ps_set (i := 2) nd rfl (.inr rfl) (pe_ix ix_list (pe_lst (pa_cons pe_int (pa_cons pe_int (pa_cons pe_int pa_nil)))) (pe_cal CB hr (by decide) rfl (pa_cons (pv 0) (pa_cons pe_int pa_nil))) (fun _ _ => rfl)))
      (pss_one (ps_ret (pe_callTy call_tuple_of rfl T.tuple PyProof.Rows.boot_tuple (pa_cons (pe_lc (own := [("_law_color", 3)]) (g := gName 3) (tt := tYes) rfl nd (pi_range1 rfl T.range (pa_cons (pe_op op_add pe_int (pe_cal CB hr (by decide) rfl (pa_cons (pv 0) (pa_cons (pv 1) pa_nil)))) pa_nil))
        (blkOk_by (N := ["_law_d", "_law_limit", "_law_largest", "_law_color"]) (sc := defScope sSizes) (by decide +kernel)) (fun _ _ _ _ _ => pg_name (i := 3) nd rfl (Or.inl rfl)) (fun _ _ _ _ _ => pts_nil)
        (fun _ _ _ _ _ => pe_op op_add pe_int (pe_cal CB hr (by decide) rfl (pa_cons (pv 0) (pa_cons (pv 2) pa_nil))))) pa_nil)))), ?_⟩
    have hD0 := hD
    obtain ⟨y0, y1, yr, hDl, _⟩ := hD0.ex
    refine ⟨(by decide), fun L hL => ?_⟩
    have s1 : Same H (upd H L (.lst [.int 2, .int 3, .int 4])) := Same.upd hL _
    have hLD : L ≠ D := fun e => by rw [e, hDl] at hL; cases hL
    refine ⟨_, rfl, D, 3, rfl, hD.keep s1, by decide, by decide, fun v H1 hv0 hv1 hD1 hb1 => ?_⟩
    obtain ⟨k, rfl⟩ : ∃ k : Nat, v = (k : Int) := ⟨v.toNat, (Int.toNat_of_nonneg hv0).symm⟩
    have hk : k < 3 := by omega
    have hat : atI [V.int 2, V.int 3, V.int 4] ((k : Nat) : Int) = some (V.int ((k : Nat) + 2)) := atI_nat (by
      rcases k with _ | _ | _ | k
      · rfl
      · rfl
      · rfl
      · omega)
    refine ⟨L, _, _, _, rfl, rfl, .of (hb1 L _ hLD upd_same), hat, ?_⟩
    refine ⟨_, rfl, _, rfl, D, 4, rfl, hD1, by decide, by decide, fun v2 H2 hw0 hw1 hD2 hb2 => ⟨_, _, rfl, rfl, 1 + v2, rfl, by omega, by omega, fun D2 hDD => ?_⟩⟩
    have b2 : But D H H2 := fun b o hb e => hb2 b o hb (hb1 b o hb (s1 _ _ e))
    obtain ⟨z0, z1, zr, hDl2, _⟩ := hD2.ex
    have hne : D2 ≠ D := fun e => by rw [e, hDl2] at hDD; cases hDD
    refine lc_range (lo := 0) (n := (1 + v2).toNat) (fun i H5 => ∃ sz : List Nat, H5 D2 = some (.lst (szV sz)) ∧ sz.length = i ∧ (∀ c ∈ sz, 1 ≤ c ∧ c ≤ 4) ∧ Dat H5 D ∧ But D H H5) ?_ ?_ ?_
    · exact ⟨[], upd_same, rfl, fun c h => (by cases h), hD2.keep (Same.upd hDD _), fun b o hb e => Same.upd hDD _ _ _ (b2 b o hb e)⟩
    · rintro i H5 hi ⟨sz, hs5, hl5, hc5, hd5, hb5⟩
      refine ⟨rfl, _, rfl, _, rfl, D, _, rfl, hd5, by omega, by omega, fun v3 H6 hu0 hu1 hD6 hb6 => ⟨_, _, rfl, rfl, _, hb6 _ _ hne hs5, by rw [List.length_map, sizeLine_eq]; omega, sz ++ [(1 + v3).toNat], ?_, by rw [List.length_append, hl5]; rfl, fun c hc => ?_, ?_, fun b o hb e => ?_⟩⟩
      · rw [upd_same]
        unfold szV
        rw [List.map_append]
        have e : (((1 + v3).toNat : Nat) : Int) = 1 + v3 := Int.toNat_of_nonneg (by omega)
        show _ = some (HO.lst (_ ++ [V.int (((1 + v3).toNat : Nat) : Int)]))
        rw [e]
      · rcases List.mem_append.mp hc with hc | hc
        · exact hc5 c hc
        · rw [List.mem_singleton.mp hc]; omega
      · exact hD6.updN hne.symm _
      · rw [upd_ne (ne_of_none (b2 b o hb e) hDD)]
        exact hb6 b o hb (hb5 b o hb e)
    · rintro H5 ⟨sz, hs5, hl5, hc5, hd5, hb5⟩
      refine ⟨D2, _, rfl, .inl ⟨.of hs5, fun l hl => ?_⟩⟩
      exact q l sz _ ⟨by omega, by omega, hc5⟩ upd_same (hd5.keep (Same.upd hl _)) (fun b o hb e => Same.upd hl _ _ _ (hb5 b o hb e))
end
end Pk

namespace Pk
open PySem PySem.Spec L2
open PyProof.Rows hiding St
section
variable {P : Program} {w : World} {K : PySem.W.Frag} {mg : Str → Option Value} {base : Heap} {f C : Addr} {fd : FuncData}
/-! ### _law_row -/
def spRow : Sp := fun vs H Q _ => ∃ (D a : Addr) (sz : List Nat), vs = [.ref D, .ref a, .int 12] ∧ Dat H D ∧ H a = some (.tup (szV sz)) ∧ SzOk sz ∧ ∀ (wd : List Nat) (H' : Hp), WOk sz.length wd → wd.length ≤ 12 → Dat H' D → But D H H' → Q (.str (sOf wd)) H'
abbrev nRow : List Str := ["_law_d", "_law_sizes_here", "_law_limit", "_law_colors", "_law_row_here", "_law_style", "_law_step", "_law_bead", "_law_at", "_law_some"]
theorem scRow : FnScope nRow ["_law_d", "_law_sizes_here", "_law_limit"] (defScope sRow) := ⟨rfl, rfl, rfl, by decide +kernel, rfl, by decide +kernel, by decide +kernel⟩
structure RowH (H0 H : Hp) (D : Addr) (n i : Nat) (r : List Nat) : Prop where
  da : Dat H D
  bt : But D H0 H
  ok : WOk n r
  le : r.length ≤ 4 * i
theorem sIx_le {n i : Nat} (h : i ≤ n) : True := trivial
theorem ok_row (F : FnP K "_law_row" sRow f fd) (T : Txt K mg) (CB : Cal P w K mg base "_law_below" 1 ["_law_d", "_law_limit"] spBelow) : FnOk P w K mg base CX0 2 f fd ["_law_d", "_law_sizes_here", "_law_limit"] spRow := by
  refine F.fok scRow (fun vs H Q E h => ?_) (fun cdv A outer s H vs Q E hr h => ?_)
  · obtain ⟨_, _, _, rfl, _⟩ := h
    rfl
  · obtain ⟨D, a, sz, rfl, hD, ha, hz, q⟩ := h
    have nd := scRow.nd
    refine ⟨_, pss_cons (ps_par (i := 3) (j := 4) rfl nd rfl rfl (by decide) rfl rfl (pa_cons (pe_slice sl_str pe_str po_none (po_some (pe_callB call_len_seq rfl T.len boot_len (pa_cons (pv 1) pa_nil)))) (pa_cons pe_str pa_nil)) rfl)
      (pss_cons (ps_set (i := 5) nd rfl (.inl rfl) (pe_cal CB hr (by decide) rfl (pa_cons (pv 0) (pa_cons pe_int pa_nil))))
      (pss_cons (ps_for PassesOwn.never rfl (pi_range1 rfl T.range (pa_cons (pe_cal CB hr (by decide) rfl (pa_cons (pv 0) (pa_cons (pe_op op_add (pv 2) pe_int) pa_nil))) pa_nil)) (pg_name (i := 6) nd rfl (.inl rfl))
        (pss_cons (ps_set (i := 7) nd rfl (.inl rfl) (pe_ix ix_str (pv 3) (pe_cal CB hr (by decide) rfl (pa_cons (pv 0) (pa_cons (pe_callB call_len_str rfl T.len boot_len (pa_cons (pv 3) pa_nil)) pa_nil))) (fun _ _ => rfl)))
        (pss_mid (ps_if (PW.pt (pw_and (pt_cmpR op_eq (pv 5) pe_int (nomark _)) (pw_and (pt_cmpR op_ne (pv 4) pe_str (nomark _)) (pw_and1 (pt_cmpR op_eq (pe_cal CB hr (by decide) rfl (pa_cons (pv 0) (pa_cons pe_int pa_nil))) pe_int (nomark _))))))
            (pss_one (ps_set (i := 7) nd rfl (.inl rfl) (pe_ix ix_str (pv 4) (pe_un un_neg pe_int) (fun _ _ => rfl)))) pss_nil)
        (pss_mid (ps_set (i := 8) nd rfl (.inl rfl) (pe_ifExp (pt_cmpR op_eq (pv 5) pe_int (nomark _)) (pe_cal CB hr (by decide) rfl (pa_cons (pv 0) (pa_cons (pe_op op_add (pe_callB call_len_str rfl T.len boot_len (pa_cons (pv 4) pa_nil)) pe_int) pa_nil))) (pe_callB call_len_str rfl T.len boot_len (pa_cons (pv 4) pa_nil))))
        (pss_mid (ps_set (i := 9) nd rfl (.inl rfl) (pe_op op_mulS (pv 7) (pe_ifExp (PW.pt (pw_and (pt_cmpR op_eq (pv 5) pe_int (nomark _)) (pw_and1 (pt_cmpR op_gt (pe_cal CB hr (by decide) rfl (pa_cons (pv 0) (pa_cons pe_int pa_nil))) pe_int (nomark _)))))
            (pe_ix ix_tup (pv 1) (pe_m1 PySem.F.slot_str_index PySem.F.type_str_index mt_sindex pe_str (pv 7)) (fun _ _ => rfl)) pe_int)))
        (pss_one (ps_set (i := 4) nd rfl (.inl rfl) (pe_op op_add_str (pe_op op_add_str (pe_slice sl_str (pv 4) po_none (po_some (pv 8))) (pv 9)) (pe_slice sl_str (pv 4) (po_some (pv 8)) po_none)))))))))
      (pss_one (ps_ret (pe_slice sl_str (pv 4) po_none (po_some (pv 2))))))), ?_⟩
    have hzl := hz.le
    have hzn := hz.ne
    have haD : a ≠ D := fun e => by
      obtain ⟨x0, x1, r, h, _⟩ := hD.ex
      rw [← e, ha] at h
      cases h
    refine ⟨_, rfl, a, _, rfl, .inr (.of ha), _, rfl, _, rfl, by decide, _, _, rfl, ?_⟩
    have e : cutS ("abcdef" : Str) none (some (((szV sz).length : Nat) : Int)) = sOf (List.range sz.length) := by
      rw [colours, cut_to, List.length_map, take_six (by omega)]
    rw [e]
    have hcl : (sOf (List.range sz.length)).length = sz.length := by rw [sOf_len, List.length_range]
    refine ⟨_, rfl, D, 3, rfl, hD, by decide, by decide, fun style H1 _ _ hD1 hb1 => ?_⟩
    refine ⟨_, rfl, _, rfl, _, _, rfl, rfl, D, 13, rfl, hD1, by decide, by decide, fun v H2 hv0 hv1 hD2 hb2 => ⟨v, rfl, by omega, by omega, ?_⟩⟩
    refine for_it (walk_range (lo := 0) (n := v.toNat)) (fun i σ H3 => ∃ (r : List Nat) (u6 u7 u8 u9 : Option V), σ = [some (.ref D), some (.ref a), some (.int 12), some (.str (sOf (List.range sz.length))), some (.str (sOf r)), some (.int style), u6, u7, u8, u9] ∧ RowH H H3 D sz.length i r) ?_ (fun i σ H3 _ _ => trivial) ?_ ?_
    · exact ⟨[], none, none, none, none, by rw [sOf_nil]; rfl, hD2, fun b o hb e => hb2 b o hb (hb1 b o hb e), fun c h => (by cases h), Nat.le_refl _⟩
    · rintro i y σ H3 H4 hi ⟨r, u6, u7, u8, u9, rfl, R⟩ ⟨rfl, ey⟩
      obtain rfl : y = V.int ((i : Nat) : Int) := ey.trans (congrArg V.int (Int.zero_add _))
      have hle := R.le
      have hrl : (sOf r).length = r.length := sOf_len r
      have hrs : (sOf r).length ≤ sizeLine := by rw [hrl, sizeLine_eq]; omega
      have hcs : (sOf (List.range sz.length)).length ≤ sizeLine := by rw [hcl, sizeLine_eq]; omega
      refine ⟨_, rfl, _, rfl, _, rfl, _, rfl, hcs, D, _, rfl, R.da, by rw [hcl]; omega, by rw [hcl]; omega, fun b H5 hb0 hb1 hD5 hb5 => ?_⟩
      rw [hcl] at hb1
      have hat : atI (sOf (List.range sz.length)).cps.toList b = some (b.toNat + 97) := by
        have h := at_sOf (wd := List.range sz.length) (i := b.toNat) (by rw [List.length_range]; omega)
        rw [Int.toNat_of_nonneg hb0, List.getD_eq_getElem?_getD, List.getElem?_range (by omega)] at h
        exact h
      have R5 : RowH H H5 D sz.length i r := ⟨hD5, fun c o hc e => hb5 c o hc (R.bt c o hc e), R.ok, R.le⟩
      refine ⟨_, _, b.toNat + 97, rfl, rfl, hcs, hat, ?_⟩
      refine ⟨fun σ' H' => ∃ c, σ' = [some (.ref D), some (.ref a), some (.int 12), some (.str (sOf (List.range sz.length))), some (.str (sOf r)), some (.int style), some (.int (i : Nat)), some (.str (one c)), u8, u9] ∧ c < sz.length ∧ RowH H H' D sz.length i r, ?_, ?_⟩
      · have same5 : ∃ c, [some (V.ref D), some (.ref a), some (.int 12), some (.str (sOf (List.range sz.length))), some (.str (sOf r)), some (.int style), some (.int (i : Nat)), some (.str ⟨#[b.toNat + 97]⟩), u8, u9] = [some (V.ref D), some (.ref a), some (.int 12), some (.str (sOf (List.range sz.length))), some (.str (sOf r)), some (.int style), some (.int (i : Nat)), some (.str (one c)), u8, u9] ∧ c < sz.length ∧ RowH H H5 D sz.length i r := ⟨b.toNat, rfl, by omega, R5⟩
        refine ⟨_, rfl, rfl, _, rfl, ite2 (fun c1 => ?_) (fun c1 => same5)⟩
        refine ⟨_, rfl, rfl, _, rfl, ite2 (fun c2 => ?_) (fun c2 => same5)⟩
        refine ⟨_, rfl, D, 2, rfl, hD5, by decide, by decide, fun b2 H6 _ _ hD6 hb6 => ⟨rfl, _, rfl, ite2 (fun c3 => ?_) (fun c3 => ⟨b.toNat, rfl, by omega, hD6, fun c o hc e => hb6 c o hc (R5.bt c o hc e), R.ok, R.le⟩)⟩⟩
        rcases List.eq_nil_or_concat r with e | ⟨r0, c', e⟩
        · subst e
          rw [sOf_nil] at c2
          exact absurd c2 (by decide +kernel)
        · rw [List.concat_eq_append] at e
          have hat2 : atI (sOf r).cps.toList (-1) = some (c' + 97) := by
            rw [e, sOf_cps, List.map_append]
            exact atI_last _ _
          refine ⟨_, rfl, 1, rfl, _, _, c' + 97, rfl, rfl, hrs, hat2, c', rfl, R.ok c' (by rw [e]; simp), hD6, fun c o hc e => hb6 c o hc (R5.bt c o hc e), R.ok, R.le⟩
      · rintro σ' H6 ⟨c, rfl, hc, R6⟩
        refine ⟨fun σ' H' => ∃ k : Nat, σ' = [some (.ref D), some (.ref a), some (.int 12), some (.str (sOf (List.range sz.length))), some (.str (sOf r)), some (.int style), some (.int (i : Nat)), some (.str (one c)), some (.int (k : Nat)), u9] ∧ k ≤ r.length ∧ RowH H H' D sz.length i r, ?_, ?_⟩
        · refine ⟨_, rfl, rfl, _, rfl, ite2 (fun c1 => ?_) (fun c1 => ?_)⟩
          · refine ⟨_, rfl, _, rfl, _, rfl, hrs, _, _, rfl, rfl, D, _, rfl, R6.da, by rw [hrl]; omega, by rw [hrl]; omega, fun k H7 hk0 hk1 hD7 hb7 => ?_⟩
            rw [hrl] at hk1
            exact ⟨k.toNat, by rw [Int.toNat_of_nonneg hk0]; rfl, by omega, hD7, fun c o hc e => hb7 c o hc (R6.bt c o hc e), R.ok, R.le⟩
          · exact ⟨_, rfl, _, rfl, hrs, r.length, by rw [hrl]; rfl, Nat.le_refl _, R6⟩
        · rintro σ' H7 ⟨k, rfl, hk, R7⟩
          have ha7 := R7.bt _ _ haD ha
          refine ⟨fun σ' H' => ∃ m : Nat, σ' = [some (.ref D), some (.ref a), some (.int 12), some (.str (sOf (List.range sz.length))), some (.str (sOf r)), some (.int style), some (.int (i : Nat)), some (.str (one c)), some (.int (k : Nat)), some (.str (sOf (List.replicate m c)))] ∧ m ≤ 4 ∧ RowH H H' D sz.length i r, ?_, ?_⟩
          · have h4 := hz.siz4 c
            have oneM : ∀ H', RowH H H' D sz.length i r → ∃ m : Nat, [some (V.ref D), some (.ref a), some (.int 12), some (.str (sOf (List.range sz.length))), some (.str (sOf r)), some (.int style), some (.int (i : Nat)), some (.str (one c)), some (.int (k : Nat)), some (.str (Txt.mul (one c) 1))] = [some (.ref D), some (.ref a), some (.int 12), some (.str (sOf (List.range sz.length))), some (.str (sOf r)), some (.int style), some (.int (i : Nat)), some (.str (one c)), some (.int (k : Nat)), some (.str (sOf (List.replicate m c)))] ∧ m ≤ 4 ∧ RowH H H' D sz.length i r := fun H' R' =>
              ⟨1, by rw [← mul_one]; rfl, by decide, R'⟩
            refine ⟨_, rfl, _, rfl, rfl, _, rfl, ite2 (fun c1 => ?_) (fun c1 => ⟨_, _, rfl, rfl, by decide, by decide, (by show 1 ≤ 1000; decide), oneM _ R7⟩)⟩
            refine ⟨_, rfl, D, 3, rfl, R7.da, by decide, by decide, fun b3 H8 _ _ hD8 hb8 => ⟨_, _, rfl, rfl, _, rfl, ?_⟩⟩
            have R8 : RowH H H8 D sz.length i r := ⟨hD8, fun c o hc e => hb8 c o hc (R7.bt c o hc e), R.ok, R.le⟩
            refine ite2 (fun c2 => ?_) (fun c2 => ⟨_, _, rfl, rfl, by decide, by decide, (by show 1 ≤ 1000; decide), oneM _ R8⟩)
            refine ⟨_, rfl, ⟨_, rfl⟩, _, rfl, _, _, c, [], rfl, rfl, occ_colour c (by omega), a, szV sz, _, _, rfl, rfl, .of (R8.bt _ _ haD ha), atI_nat (SzOk.at hc), _, _, rfl, rfl, by omega, by omega, (by show 1 ≤ 1000; decide), siz sz c, by rw [← mul_one]; rfl, h4, R8⟩
          · rintro σ' H8 ⟨m, rfl, hm, R8⟩
            have l1 : (cutS (sOf r) none (some ((k : Nat) : Int))).length + (sOf (List.replicate m c)).length ≤ sizeLine := by
              rw [cut_to, sOf_len, sOf_len, List.length_take, List.length_replicate, sizeLine_eq]
              omega
            have l2 : (cutS (sOf r) none (some ((k : Nat) : Int)) ++ sOf (List.replicate m c)).length + (cutS (sOf r) (some ((k : Nat) : Int)) none).length ≤ sizeLine := by
              rw [cut_to, cut_from, sOf_app, sOf_len, sOf_len, List.length_append, List.length_take, List.length_replicate, List.length_drop, sizeLine_eq]
              omega
            refine ⟨_, rfl, _, rfl, _, rfl, _, rfl, hrs, _, rfl, _, _, rfl, rfl, l1, _, rfl, _, rfl, _, rfl, _, rfl, hrs, _, _, rfl, rfl, l2, r.take k ++ List.replicate m c ++ r.drop k, _, _, _, _, by rw [← sOf_app, ← sOf_app, ← cut_to, ← cut_from]; rfl, R8.da, R8.bt, fun d hd => ?_, ?_⟩
            · rcases List.mem_append.mp hd with hd | hd
              · rcases List.mem_append.mp hd with hd | hd
                · exact R.ok d (List.mem_of_mem_take hd)
                · rw [List.eq_of_mem_replicate hd]; exact hc
              · exact R.ok d (List.mem_of_mem_drop hd)
            · rw [List.length_append, List.length_append, List.length_take, List.length_replicate, List.length_drop]
              omega
    · rintro σ H3 ⟨r, u6, u7, u8, u9, rfl, R⟩
      have hle := R.le
      refine ⟨_, rfl, _, rfl, _, rfl, _, rfl, by rw [sOf_len, sizeLine_eq]; omega, ?_⟩
      rw [show (12 : Int) = ((12 : Nat) : Int) from rfl, cut_to]
      exact q _ H3 (fun c hc => R.ok c (List.mem_of_mem_take hc)) (by rw [List.length_take]; omega) R.da R.bt
end
end Pk

namespace Pk
open PySem PySem.Spec L2
open PyProof.Rows hiding St
def srt (wd : List Nat) : List Nat := wd.mergeSort (fun a b => decide (a ≤ b))
theorem srt_perm (wd : List Nat) : (srt wd).Perm wd := List.mergeSort_perm _ _
theorem srt_sorted (wd : List Nat) : (srt wd).Pairwise (· ≤ ·) := by
  have h := List.pairwise_mergeSort (le := fun a b : Nat => decide (a ≤ b)) (fun a b c h1 h2 => by simp at *; omega) (fun a b => by simp; omega) wd
  exact h.imp fun h => by simpa using h
theorem srt_uniq {v wd : List Nat} (hp : v.Perm wd) (hs : v.Pairwise (· ≤ ·)) : v = srt wd :=
  (hp.trans (srt_perm wd).symm).eq_of_pairwise (fun a b _ _ h1 h2 => Nat.le_antisymm h1 h2) hs (srt_sorted wd)
abbrev ones (n : Nat) : List Nat := List.replicate n 1
/-- the law's own reckoning -/
def inE (free : Int) (e : Int) : Nat → Int
  | 0 => e
  | k + 1 => inE free e k * (free - (k : Nat)) / ((k : Nat) + 1)
def outE (wd : List Nat) : Nat → Int × Int
  | 0 => (1, (wd.length : Nat))
  | c + 1 => (inE (outE wd c).2 (outE wd c).1 (wd.count c), (outE wd c).2 - (wd.count c : Nat))
theorem outE_free {wd : List Nat} (h : wd.length ≤ 12) : ∀ n : Nat, -(12 * (n : Int)) ≤ (outE wd n).2 ∧ (outE wd n).2 ≤ 12
  | 0 => ⟨by show _ ≤ ((wd.length : Nat) : Int); omega, by show ((wd.length : Nat) : Int) ≤ 12; omega⟩
  | c + 1 => by
    have ih := outE_free h c
    have hc : wd.count c ≤ wd.length := List.count_le_length
    show _ ≤ (outE wd c).2 - ((wd.count c : Nat) : Int) ∧ (outE wd c).2 - ((wd.count c : Nat) : Int) ≤ 12
    omega
def moveStart (v : List Nat) (at' : Nat) : List Nat := v.getD at' 0 :: (v.take at' ++ v.drop (at' + 1))
def moveBefore (v : List Nat) (at' : Nat) : List Nat := v.getD (at' - 1) 0 :: (v.take (at' - 1) ++ v.drop at').reverse
theorem neq_self (x : V) : (!decide (x = x)) = false := by rw [decide_eq_true rfl]; rfl
theorem sum_one (l : List Nat) : ((l.map one).map (·.length)).sum = l.length := by
  induction l with
  | nil => rfl
  | cons a l ih =>
    rw [List.map_cons, List.map_cons, List.sum_cons, ih, List.length_cons]
    show 1 + _ = _
    omega
theorem sorted_is {w : List Nat} {ys : List Str} (hp : ys.Perm ((sOf w).cps.toList.map fun c => (⟨#[c]⟩ : Str))) (hs : sortedS ys = true) : ys = (srt w).map one := by
  obtain ⟨v, h1, h2, h3⟩ := sorted_sOf hp hs
  rw [h1, srt_uniq h2 h3]
def rRepO (K : PySem.W.Frag) : R2 := fun x y H Q => ∃ l k xs, x = .ref l ∧ y = .int k ∧ SqT K H l xs ∧ xs ≠ [] ∧ 1 ≤ k ∧ k ≤ 1000 ∧ xs.length ≤ 1000 ∧ (k = 1 → Q (.ref l) H) ∧ (2 ≤ k → ∀ p, H p = none → Q (.ref p) (upd H p (.tup (List.replicate k.toNat xs).flatten)))
theorem op_repO {X : Cx} : OpR X (binaryOp .Mult) (rRepO X.K) := op_repT1
theorem rep_read {K : PySem.W.Frag} {H : Hp} {l : Addr} {n : Nat} {Q : VK} (hl : H l = some (.tup [.int 1])) (h1 : 1 ≤ n) (h2 : n ≤ 1000) (q : ∀ o H', Same H H' → H' o = some (.tup (szV (ones n))) → Q (.ref o) H') : rRepO K (.ref l) (.int (n : Nat)) H Q := by
  refine ⟨l, n, [.int 1], rfl, rfl, .of hl, by simp, by omega, by omega, by decide, fun e => ?_, fun _ p hp => q p _ (Same.upd hp _) ?_⟩
  · obtain rfl : n = 1 := by omega
    exact q l H (L2.Same.refl H) hl
  · rw [upd_same, Int.toNat_natCast]
    have : ∀ m : Nat, (List.replicate m [V.int 1]).flatten = szV (ones m) := fun m => by
      induction m with
      | zero => rfl
      | succ m ih => rw [List.replicate_succ, List.flatten_cons, ih]; rfl
    rw [this]
/-- what plain Lean must show -/
structure Facts : Prop where
  rest : ∀ sz wd, SzOk sz → WOk sz.length wd → wd.length ≤ 12 → cnt sz (red sz wd) (tal sz.length (red sz wd)) [] = 1
  ends : ∀ ul sz wd, SzOk sz → WOk sz.length wd → wd.length ≤ 12 → endW ul sz (red sz (red sz wd)) (tal sz.length (red sz wd)).sum (tal sz.length (red sz wd)) [] = red sz wd
  moves : ∀ sz wd, SzOk sz → WOk sz.length wd → wd.length ≤ 12 → (cnt sz wd (tal sz.length wd) [] = 1 ↔ noMove sz wd)
  redO : ∀ n wd, red (ones n) wd = []
  count : ∀ n wd, n ≤ 4 → WOk n wd → wd.length ≤ 12 → ((cnt (ones n) wd (tal (ones n).length wd) [] : Nat) : Int) = (outE wd n).1
  first : ∀ n wd, WOk n wd → endW false (ones n) (red (ones n) wd) (tal (ones n).length wd).sum (tal (ones n).length wd) [] = srt wd
  last : ∀ n wd, WOk n wd → endW true (ones n) (red (ones n) wd) (tal (ones n).length wd).sum (tal (ones n).length wd) [] = (srt wd).reverse
  prev : ∀ n v i, WOk n v → v.Pairwise (· ≤ ·) → 1 ≤ i → i < v.length → v.getD i 0 ≠ v.getD (i - 1) 0 → advM true (ones n) (red (ones n) (moveStart v i)) (moveStart v i) (moveStart v i).length = some (moveBefore v i)
  next : ∀ n v i, WOk n v → v.Pairwise (· ≤ ·) → 1 ≤ i → i < v.length → v.getD i 0 ≠ v.getD (i - 1) 0 → advM false (ones n) (red (ones n) (moveBefore v i)) (moveBefore v i) (moveBefore v i).length = some (moveStart v i)
  end5 : ∀ k m, 1 ≤ k → k ≤ 4 → m ≤ 3 → cnt [k, 4] (List.replicate k 0 ++ List.replicate m 1) (tal [k, 4].length (List.replicate k 0 ++ List.replicate m 1)) [] = m + 1
section
variable {P : Program} {w : World} {K : PySem.W.Frag} {mg : Str → Option Value} {base : Heap} {f C : Addr} {fd : FuncData}
/-- the defs that law calls -/
structure Calls' (P : Program) (w : World) (K : PySem.W.Frag) (mg : Str → Option Value) (base : Heap) : Prop where
  random : Cal P w K mg base "_law_random" 1 ["_law_script", "_law_salt"] (spRandom K)
  below : Cal P w K mg base "_law_below" 1 ["_law_d", "_law_limit"] spBelow
  sizes : Cal P w K mg base "_law_sizes" 2 ["_law_d", "_law_limit"] spSizes
  row : Cal P w K mg base "_law_row" 2 ["_law_d", "_law_sizes_here", "_law_limit"] spRow
  residue : Cal P w K mg base "residue" 4 ["sizes", "row"] spResidue
  count : Cal P w K mg base "count_reachable" 18 ["sizes", "row"] spCount
  first : Cal P w K mg base "first_reachable" 20 ["sizes", "row"] (spEnd false)
  last : Cal P w K mg base "last_reachable" 20 ["sizes", "row"] (spEnd true)
  legal : Cal P w K mg base "legal_moves" 5 ["sizes", "row"] spMoves
  next : Cal P w K mg base "next_reachable" 21 ["sizes", "row"] (spNxt false)
  prev : Cal P w K mg base "previous_reachable" 21 ["sizes", "row"] (spNxt true)
def spLaw (K : PySem.W.Frag) : Sp := fun vs H Q _ => ∃ (a : Addr) (ns : List Int), vs = [.ref a] ∧ SqL K H a (ns.map V.int) ∧ ns.length ≤ 63 ∧ ∀ H', Q (.bl true) H'
abbrev nLaw : List Str := ["_law_script", "_law_d", "_law_sizes_here", "_law_row_here", "_law_rest", "_law_ones", "_law_expected", "_law_free", "_law_bead", "_law_k", "_law_ordered", "_law_at", "_law_start", "_law_before", "_law_size", "_law_many"]
theorem scLaw : FnScope nLaw ["_law_script"] (defScope sLaw) := ⟨rfl, rfl, rfl, by decide +kernel, rfl, by decide +kernel, by decide +kernel⟩
theorem ok_law (F : FnP K "law" sLaw f fd) (T : Txt K mg) (M : Facts) (D : Calls' P w K mg base) : FnOk P w K mg base CX0 22 f fd ["_law_script"] (spLaw K) := by
  refine F.fok scLaw (fun vs H Q E h => ?_) (fun cdv A outer s H vs Q E hr h => ?_)
  · obtain ⟨_, _, rfl, _⟩ := h
    rfl
  · obtain ⟨a, ns, rfl, ha, hns, q⟩ := h
    have nd := scLaw.nd
    have hu := hr.units
    refine ⟨_, pss_cons (ps_set (i := 1) nd rfl (.inl rfl) (pe_cal D.random hr (by decide) rfl (pa_cons (pv 0) (pa_cons pe_int pa_nil))))
      (pss_cons (ps_set (i := 2) nd rfl (.inl rfl) (pe_cal D.sizes hr (by decide) rfl (pa_cons (pv 1) (pa_cons pe_int pa_nil))))
      (pss_cons (ps_set (i := 3) nd rfl (.inl rfl) (pe_cal D.row hr (by decide) rfl (pa_cons (pv 1) (pa_cons (pv 2) (pa_cons pe_int pa_nil)))))
      (pss_cons (ps_set (i := 4) nd rfl (.inl rfl) (pe_cal D.residue hr (by decide) rfl (pa_cons (pv 2) (pa_cons (pv 3) pa_nil))))
      (pss_cons (ps_if (PW.pt (pw_or (pt_cmpR op_ne (pe_cal D.count hr (by decide) rfl (pa_cons (pv 2) (pa_cons (pv 4) pa_nil))) pe_int (nomark _))
          (pw_or (pt_cmpR op_ne (pe_cal D.first hr (by decide) rfl (pa_cons (pv 2) (pa_cons (pv 4) pa_nil))) (pv 4) (nomark _))
          (pw_or1 (pt_cmpR op_ne (pe_cal D.last hr (by decide) rfl (pa_cons (pv 2) (pa_cons (pv 4) pa_nil))) (pv 4) (nomark _)))))) (pss_one (ps_ret pe_bl)) pss_nil)
      (pss_cons (ps_if (pt_cmpR op_ne (pe_cmpR op_eq (pe_cal D.count hr (by decide) rfl (pa_cons (pv 2) (pa_cons (pv 3) pa_nil))) pe_int (nomark _)) (pe_cmpR (op_eqNil hu) (pe_cal D.legal hr (by decide) rfl (pa_cons (pv 2) (pa_cons (pv 3) pa_nil))) (pe_lst pa_nil) (nomark _)) (nomark _)) (pss_one (ps_ret pe_bl)) pss_nil)
      (pss_cons (ps_par3 (i := 5) (j := 6) (l := 7) rfl nd rfl rfl rfl (by decide) (by decide) (by decide) rfl rfl rfl
          (pa_cons (pe_op op_repO (pe_tup (pa_cons pe_int pa_nil)) (pe_callB call_len_seq rfl T.len boot_len (pa_cons (pv 2) pa_nil))) (pa_cons pe_int (pa_cons (pe_callB call_len_str rfl T.len boot_len (pa_cons (pv 3) pa_nil)) pa_nil))) rfl)
      (pss_mid (ps_for PassesOwn.never rfl (pi_str (pe_slice sl_str pe_str po_none (po_some (pe_callB call_len_seq rfl T.len boot_len (pa_cons (pv 2) pa_nil))))) (pg_name (i := 8) nd rfl (.inl rfl))
          (pss_cons (ps_for PassesOwn.never rfl (pi_range1 rfl T.range (pa_cons (pe_m1 PySem.F.slot_str_count PySem.F.type_str_count mt_count (pv 3) (pv 8)) pa_nil)) (pg_name (i := 9) nd rfl (.inl rfl))
            (pss_one (ps_set (i := 6) nd rfl (.inl rfl) (pe_op op_fdiv (pe_op op_mul (pv 6) (pe_op op_sub (pv 7) (pv 9))) (pe_op op_add (pv 9) pe_int)))))
          (pss_one (ps_set (i := 7) nd rfl (.inl rfl) (pe_op op_sub (pv 7) (pe_m1 PySem.F.slot_str_count PySem.F.type_str_count mt_count (pv 3) (pv 8)))))))
      (pss_cons (ps_if (PW.pt (pw_or (pt_cmpR op_ne (pe_cal D.count hr (by decide) rfl (pa_cons (pv 5) (pa_cons (pv 3) pa_nil))) (pv 6) (nomark _))
          (pw_or1 (pt_cmpR op_ne (pe_cal D.first hr (by decide) rfl (pa_cons (pv 5) (pa_cons (pv 3) pa_nil))) (pe_join pe_str (pe_callB (cr_sortedTxt rfl) rfl T.sorted boot_sorted (pa_cons (pv 3) pa_nil))) (nomark _))))) (pss_one (ps_ret pe_bl)) pss_nil)
      (pss_cons (ps_if (PW.pt (pw_or (pt_cmpR op_ne (pe_cal D.last hr (by decide) rfl (pa_cons (pv 5) (pa_cons (pv 3) pa_nil))) (pe_revS (pe_join pe_str (pe_callB (cr_sortedTxt rfl) rfl T.sorted boot_sorted (pa_cons (pv 3) pa_nil)))) (nomark _))
          (pw_or1 (pt_cmpR op_ne (pe_cal D.residue hr (by decide) rfl (pa_cons (pv 5) (pa_cons (pv 3) pa_nil))) pe_str (nomark _))))) (pss_one (ps_ret pe_bl)) pss_nil)
      (pss_cons (ps_set (i := 10) nd rfl (.inl rfl) (pe_join pe_str (pe_callB (cr_sortedTxt rfl) rfl T.sorted boot_sorted (pa_cons (pv 3) pa_nil))))
      (pss_mid (ps_for PassesOwn.never rfl (pi_range2 rfl T.range (pa_cons pe_int (pa_cons (pe_callB call_len_str rfl T.len boot_len (pa_cons (pv 10) pa_nil)) pa_nil))) (pg_name (i := 11) nd rfl (.inl rfl))
          (pss_one (ps_if (pt_cmpR op_ne (pe_ix ix_str (pv 10) (pv 11) (fun _ _ => rfl)) (pe_ix ix_str (pv 10) (pe_op op_sub (pv 11) pe_int) (fun _ _ => rfl)) (nomark _))
            (pss_cons (ps_set (i := 12) nd rfl (.inl rfl) (pe_op op_add_str (pe_op op_add_str (pe_ix ix_str (pv 10) (pv 11) (fun _ _ => rfl)) (pe_slice sl_str (pv 10) po_none (po_some (pv 11)))) (pe_slice sl_str (pv 10) (po_some (pe_op op_add (pv 11) pe_int)) po_none)))
            (pss_cons (ps_set (i := 13) nd rfl (.inl rfl) (pe_op op_add_str (pe_ix ix_str (pv 10) (pe_op op_sub (pv 11) pe_int) (fun _ _ => rfl)) (pe_revS (pe_op op_add_str (pe_slice sl_str (pv 10) po_none (po_some (pe_op op_sub (pv 11) pe_int))) (pe_slice sl_str (pv 10) (po_some (pv 11)) po_none)))))
            (pss_one (ps_if (PW.pt (pw_or (pt_cmpR op_ne (pe_cal D.prev hr (by decide) rfl (pa_cons (pv 5) (pa_cons (pv 12) pa_nil))) (pv 13) (nomark _)) (pw_or1 (pt_cmpR op_ne (pe_cal D.next hr (by decide) rfl (pa_cons (pv 5) (pa_cons (pv 13) pa_nil))) (pv 12) (nomark _))))) (pss_one (ps_ret pe_bl)) pss_nil)))) pss_nil)))
      (pss_cons (ps_par (i := 14) (j := 15) rfl nd rfl rfl (by decide) rfl rfl (pa_cons (pe_op op_add pe_int (pe_cal D.below hr (by decide) rfl (pa_cons (pv 1) (pa_cons pe_int pa_nil)))) (pa_cons (pe_cal D.below hr (by decide) rfl (pa_cons (pv 1) (pa_cons pe_int pa_nil))) pa_nil)) rfl)
      (pss_one (ps_ret (pe_cmpR op_eq (pe_cal D.count hr (by decide) rfl (pa_cons (pe_tup (pa_cons (pv 14) (pa_cons pe_int pa_nil))) (pa_cons (pe_op op_add_str (pe_op op_mulS pe_str (pv 14)) (pe_op op_mulS pe_str (pv 15))) pa_nil))) (pe_op op_add (pv 15) pe_int) (nomark _)))))))))))))))), ?_⟩
    refine ⟨_, rfl, a, ns, 16, rfl, ha, hns, by decide, fun Dd H1 s1 hd0 hD1 => ?_⟩
    refine ⟨_, rfl, Dd, rfl, hD1, fun z sz H2 hz hz2 hD2 hb2 => ?_⟩
    have hzD : z ≠ Dd := fun e => by
      obtain ⟨x0, x1, r, h, _⟩ := hD2.ex
      rw [← e, hz2] at h
      cases h
    refine ⟨_, rfl, _, rfl, Dd, z, sz, rfl, hD2, hz2, hz, fun wd H3 hw hl hD3 hb3 => ?_⟩
    have hz3 := hb3 _ _ hzD hz2
    have hzl := hz.le
    have hzn := hz.ne
    refine ⟨_, rfl, _, rfl, z, sz, wd, rfl, hz3, hz, hw, by omega, fun H4 s4 => ?_⟩
    have hrl : (red sz wd).length ≤ 12 := Nat.le_trans (length_red wd) hl
    have hrw : WOk sz.length (red sz wd) := fun c hc => lt_red hw c hc
    have hws : (sOf wd).length ≤ sizeLine := by rw [sOf_len, sizeLine_eq]; omega
    -- the rest
    refine ⟨_, rfl, _, rfl, z, sz, red sz wd, rfl, s4 _ _ hz3, hz, hrw, hrl, fun H5 s5 => ⟨rfl, _, rfl, ?_⟩⟩
    have s5 := s4.trans s5
    rw [M.rest sz wd hz hw hl]
    refine Eq.mpr (congrArg (fun b : Bool => if b = true then _ else _) (neq_self (.int ((1 : Nat) : Int)))) (iteF ?_)
    refine ⟨_, rfl, _, rfl, z, sz, red sz wd, rfl, s5 _ _ hz3, hz, hrw, hrl, fun H6 s6 => ?_⟩
    have s6 := s5.trans s6
    rw [M.ends false sz wd hz hw hl]
    refine ⟨_, rfl, rfl, _, rfl, ?_⟩
    refine Eq.mpr (congrArg (fun b : Bool => if b = true then _ else _) (neq_self (.str (sOf (red sz wd))))) (iteF ?_)
    refine ⟨_, rfl, _, rfl, z, sz, red sz wd, rfl, s6 _ _ hz3, hz, hrw, hrl, fun H7 s7 => ?_⟩
    have s7 := s6.trans s7
    rw [M.ends true sz wd hz hw hl]
    refine ⟨_, rfl, rfl, _, rfl, ?_⟩
    refine Eq.mpr (congrArg (fun b : Bool => if b = true then _ else _) (neq_self (.str (sOf (red sz wd))))) (iteF ?_)
    -- the moves
    refine ⟨_, rfl, _, rfl, z, sz, wd, rfl, s7 _ _ hz3, hz, hw, hl, fun H8 s8 => ⟨rfl, ?_⟩⟩
    have s8 := s7.trans s8
    refine ⟨_, rfl, _, rfl, z, sz, wd, rfl, s8 _ _ hz3, hz, hw, hl, fun R us H9 s9 hR hu => ⟨by decide, fun p hp => ⟨R, p, us, rfl, rfl, .of (Same.upd hp _ _ _ hR), .of upd_same, rfl, _, rfl, ?_⟩⟩⟩
    have s9 := (s8.trans s9).trans (Same.upd hp (.lst []))
    have e6 : decide (V.int ((cnt sz wd (tal sz.length wd) [] : Nat) : Int) = V.int 1) = us.isEmpty := by
      have hm := M.moves sz wd hz hw hl
      cases us with
      | nil => exact decide_eq_true (by rw [hm.mpr (hu.mp rfl)]; rfl)
      | cons y ys =>
        refine decide_eq_false fun h => ?_
        have h1 : cnt sz wd (tal sz.length wd) [] = 1 := by injection h with h; omega
        cases hu.mpr (hm.mp h1)
    have e6' : (!decide (V.bl (decide (V.int ((cnt sz wd (tal sz.length wd) [] : Nat) : Int) = V.int 1)) = V.bl us.isEmpty)) = false := by rw [e6]; exact neq_self _
    refine Eq.mpr (congrArg (fun b : Bool => if b = true then _ else _) e6') (iteF ?_)
    -- ones, expected, free
    refine ⟨(by show 1 ≤ sizeLine; decide), fun l hl0 => ⟨_, rfl, z, _, rfl, .inr (.of (Same.upd hl0 _ _ _ (s9 _ _ hz3))), ?_⟩⟩
    rw [show (szV sz).length = sz.length from List.length_map _]
    refine rep_read upd_same hzn (by omega) fun o H10 s10 ho => ?_
    have s10 := (s9.trans (Same.upd hl0 (.tup [.int 1]))).trans s10
    refine ⟨_, rfl, _, rfl, hws, _, _, _, rfl, ?_⟩
    have hon : (ones sz.length).length = sz.length := List.length_replicate
    have hoz : SzOk (ones sz.length) := ⟨by rw [hon]; exact hzn, by rw [hon]; exact hzl, fun k hk => by rw [List.eq_of_mem_replicate hk]; decide⟩
    have how : WOk (ones sz.length).length wd := by rw [hon]; exact hw
    rw [sOf_len]
    refine ⟨fun σ' H' => ∃ u8 u9, σ' = [some (.ref a), some (.ref Dd), some (.ref z), some (.str (sOf wd)), some (.str (sOf (red sz wd))), some (.ref o), some (.int (outE wd sz.length).1), some (.int (outE wd sz.length).2), u8, u9, none, none, none, none, none, none] ∧ H' = H10, ?_, ?_⟩
    · refine ⟨_, rfl, z, _, rfl, .inr (.of (s10 _ _ hz3)), _, rfl, _, rfl, by decide, _, rfl, ?_⟩
      have e : cutS ("abcdef" : Str) none (some (((szV sz).length : Nat) : Int)) = sOf (List.range sz.length) := by
        rw [colours, cut_to, List.length_map, take_six (by omega)]
      rw [e]
      refine for_it walk_str (fun i σ' H' => ∃ u8 u9, σ' = [some (.ref a), some (.ref Dd), some (.ref z), some (.str (sOf wd)), some (.str (sOf (red sz wd))), some (.ref o), some (.int (outE wd i).1), some (.int (outE wd i).2), u8, u9, none, none, none, none, none, none] ∧ H' = H10) ⟨none, none, rfl, rfl⟩ (fun _ _ _ _ _ => trivial) ?_ ?_
      · rintro c y σ H11 H12 hc ⟨u8, u9, rfl, rfl⟩ ⟨rfl, cc, hcc, rfl⟩
        rw [sOf_size, List.length_range] at hc
        rw [sOf_at, List.getElem?_range hc] at hcc
        obtain rfl : cc = c + 97 := (Option.some.inj hcc).symm
        have hcnt : wd.count c ≤ wd.length := List.count_le_length
        have hfr := outE_free hl c
        refine ⟨_, rfl, ⟨_, rfl⟩, _, rfl, _, _, rfl, rfl, ((wd.count c : Nat) : Int), by rw [← count_sOf]; rfl, by omega, by omega, ?_⟩
        refine for_it (walk_range (lo := 0) (n := wd.count c)) (fun k σ' H' => ∃ u9, σ' = [some (.ref a), some (.ref Dd), some (.ref z), some (.str (sOf wd)), some (.str (sOf (red sz wd))), some (.ref o), some (.int (inE (outE wd c).2 (outE wd c).1 k)), some (.int (outE wd c).2), some (.str (one c)), u9, none, none, none, none, none, none] ∧ H' = H12) ⟨u9, rfl, rfl⟩ (fun _ _ _ _ _ => trivial) ?_ ?_
        · rintro k y σ H12 H13 hk ⟨u9, rfl, rfl⟩ ⟨rfl, ey⟩
          obtain rfl : y = V.int ((k : Nat) : Int) := ey.trans (congrArg V.int (Int.zero_add _))
          refine ⟨_, rfl, _, rfl, _, rfl, _, _, rfl, rfl, _, _, rfl, rfl, .inr ⟨by omega, by omega⟩, _, rfl, _, _, rfl, rfl, _, _, rfl, rfl, ⟨by omega, by omega⟩, _, rfl, rfl⟩
        · rintro σ H12 ⟨u9, rfl, rfl⟩
          refine ⟨_, rfl, _, rfl, ⟨_, rfl⟩, _, rfl, _, _, rfl, rfl, _, _, rfl, rfl, some (.str (one c)), u9, ?_, rfl⟩
          have e2 : (outE wd c).2 - Txt.count (sOf wd) (⟨#[c + 97]⟩ : Str) = (outE wd (c + 1)).2 := by
            rw [show Txt.count (sOf wd) (⟨#[c + 97]⟩ : Str) = _ from count_sOf wd c]
            rfl
          show [_, _, _, _, _, _, _, some (V.int ((outE wd c).2 - Txt.count (sOf wd) (⟨#[c + 97]⟩ : Str))), _, _, _, _, _, _, _, _] = _
          rw [e2]
          rfl
      · rintro σ H11 ⟨u8, u9, rfl, rfl⟩
        rw [sOf_size, List.length_range]
        exact ⟨u8, u9, rfl, rfl⟩
    · rintro σ' H11 ⟨u8, u9, rfl, rfl⟩
      have hvl : (srt wd).length = wd.length := (srt_perm wd).length_eq
      -- the number of arrangements, the first
      refine ⟨_, rfl, _, rfl, o, ones sz.length, wd, rfl, ho, hoz, how, hl, fun H12 t1 => ⟨_, rfl, rfl, _, rfl, ?_⟩⟩
      have e9 : (!decide (V.int ((cnt (ones sz.length) wd (tal (ones sz.length).length wd) [] : Nat) : Int) = V.int (outE wd sz.length).1)) = false := by
        rw [M.count sz.length wd hzl hw hl]
        exact neq_self _
      refine Eq.mpr (congrArg (fun b : Bool => if b = true then _ else _) e9) (iteF ?_)
      refine ⟨_, rfl, _, rfl, o, ones sz.length, wd, rfl, t1 _ _ ho, hoz, how, hl, fun H13 t2 => ?_⟩
      have t2 := t1.trans t2
      rw [M.first sz.length wd hw]
      refine ⟨⟨_, rfl⟩, _, rfl, sOf wd, rfl, by rw [sOf_size]; omega, fun ys p1 hys hss hp1 => ?_⟩
      obtain rfl := sorted_is hys hss
      refine ⟨("" : Str), p1, _, rfl, rfl, .inl (.of upd_same), by rw [sum_one, show ("" : Str).length = 0 from rfl]; omega, rfl, _, rfl, ?_⟩
      have e10 : (!decide (V.str (sOf (srt wd)) = V.str (Txt.join ("" : Str) ((srt wd).map one)))) = false := by rw [join_one]; exact neq_self _
      refine Eq.mpr (congrArg (fun b : Bool => if b = true then _ else _) e10) (iteF ?_)
      have t3 := t2.trans (Same.upd hp1 (.lst (((srt wd).map one).map V.str)))
      -- the last
      refine ⟨_, rfl, _, rfl, o, ones sz.length, wd, rfl, t3 _ _ ho, hoz, how, hl, fun H14 t4 => ?_⟩
      have t4 := t3.trans t4
      rw [M.last sz.length wd hw]
      refine ⟨⟨_, rfl⟩, _, rfl, sOf wd, rfl, by rw [sOf_size]; omega, fun ys p2 hys hss hp2 => ?_⟩
      obtain rfl := sorted_is hys hss
      refine ⟨("" : Str), p2, _, rfl, rfl, .inl (.of upd_same), by rw [sum_one, show ("" : Str).length = 0 from rfl]; omega, _, rfl, by rw [join_one, sOf_len]; omega, rfl, _, rfl, ?_⟩
      have e11 : (!decide (V.str (sOf (srt wd).reverse) = V.str (⟨(Txt.join ("" : Str) ((srt wd).map one)).cps.toList.reverse.toArray⟩ : Str))) = false := by rw [join_one, rev_sOf]; exact neq_self _
      refine Eq.mpr (congrArg (fun b : Bool => if b = true then _ else _) e11) (iteF ?_)
      have t5 := t4.trans (Same.upd hp2 (.lst (((srt wd).map one).map V.str)))
      refine ⟨_, rfl, _, rfl, o, ones sz.length, wd, rfl, t5 _ _ ho, hoz, how, by omega, fun H15 t6 => ?_⟩
      have t6 := t5.trans t6
      rw [M.redO]
      refine ⟨rfl, _, rfl, ?_⟩
      have e12 : (!decide (V.str (sOf []) = V.str ("" : Str))) = false := by rw [sOf_nil]; exact neq_self _
      refine Eq.mpr (congrArg (fun b : Bool => if b = true then _ else _) e12) (iteF ?_)
      -- ordered
      refine ⟨⟨_, rfl⟩, _, rfl, sOf wd, rfl, by rw [sOf_size]; omega, fun ys p3 hys hss hp3 => ?_⟩
      obtain rfl := sorted_is hys hss
      refine ⟨("" : Str), p3, _, rfl, rfl, .inl (.of upd_same), by rw [sum_one, show ("" : Str).length = 0 from rfl]; omega, ?_⟩
      have t7 := t6.trans (Same.upd hp3 (.lst (((srt wd).map one).map V.str)))
      rw [join_one]
      have hvs : (sOf (srt wd)).length ≤ sizeLine := by rw [sOf_len, hvl, sizeLine_eq]; omega
      have hvw : WOk sz.length (srt wd) := fun c hc => hw c ((srt_perm wd).mem_iff.mp hc)
      refine ⟨fun σ' H' => ∃ u11 u12 u13, σ' = [some (.ref a), some (.ref Dd), some (.ref z), some (.str (sOf wd)), some (.str (sOf (red sz wd))), some (.ref o), some (.int (outE wd sz.length).1), some (.int (outE wd sz.length).2), u8, u9, some (.str (sOf (srt wd))), u11, u12, u13, none, none] ∧ Same H11 H', ?_, ?_⟩
      · refine ⟨_, rfl, _, rfl, hvs, 1, ((wd.length : Nat) : Int), by rw [sOf_len, hvl], ⟨by decide, by decide, by omega, by omega⟩, ?_⟩
        refine for_it (walk_range (lo := 1) (n := (((wd.length : Nat) : Int) - 1).toNat)) (fun i σ' H' => ∃ u11 u12 u13, σ' = [some (.ref a), some (.ref Dd), some (.ref z), some (.str (sOf wd)), some (.str (sOf (red sz wd))), some (.ref o), some (.int (outE wd sz.length).1), some (.int (outE wd sz.length).2), u8, u9, some (.str (sOf (srt wd))), u11, u12, u13, none, none] ∧ Same H11 H') ⟨none, none, none, rfl, t7⟩ (fun _ _ _ _ _ => trivial) ?_ ?_
        · rintro t y σ H16 H17 ht ⟨u11, u12, u13, rfl, t8⟩ ⟨rfl, ey⟩
          have hi : t + 1 < (srt wd).length := by rw [hvl]; omega
          have hi0 : t < (srt wd).length := by omega
          obtain rfl : y = V.int ((t + 1 : Nat) : Int) := ey.trans (congrArg V.int (by omega))
          have hat : atI (sOf (srt wd)).cps.toList ((t + 1 : Nat) : Int) = some ((srt wd).getD (t + 1) 0 + 97) := at_sOf hi
          have hat0 : atI (sOf (srt wd)).cps.toList (((t + 1 : Nat) : Int) - 1) = some ((srt wd).getD t 0 + 97) := by
            have := at_sOf hi0
            rw [show ((t : Nat) : Int) = ((t + 1 : Nat) : Int) - 1 by omega] at this
            exact this
          refine ⟨_, rfl, _, rfl, _, _, _, rfl, rfl, hvs, hat, _, rfl, _, rfl, _, _, rfl, rfl, _, _, _, rfl, rfl, hvs, hat0, rfl, _, rfl, ?_⟩
          refine ite2 (fun c2 => ?_) (fun c2 => ⟨_, _, _, rfl, t8⟩)
          have hne : (srt wd).getD (t + 1) 0 ≠ (srt wd).getD t 0 := fun e => by
            rw [e] at c2
            exact absurd c2 (by rw [neq_self]; decide)
          have hne' : (srt wd).getD (t + 1) 0 ≠ (srt wd).getD (t + 1 - 1) 0 := hne
          have hms : (moveStart (srt wd) (t + 1)).length = wd.length := by
            unfold moveStart
            rw [List.length_cons, List.length_append, List.length_take, List.length_drop]
            omega
          have hmb : (moveBefore (srt wd) (t + 1)).length = wd.length := by
            unfold moveBefore
            rw [List.length_cons, List.length_reverse, List.length_append, List.length_take, List.length_drop]
            omega
          have hsw : WOk (ones sz.length).length (moveStart (srt wd) (t + 1)) := by
            rw [hon]
            intro c hc
            unfold moveStart at hc
            rcases List.mem_cons.mp hc with rfl | hc
            · exact getD_lt hvw hi
            · rcases List.mem_append.mp hc with hc | hc
              · exact hvw c (List.mem_of_mem_take hc)
              · exact hvw c (List.mem_of_mem_drop hc)
          have hbw : WOk (ones sz.length).length (moveBefore (srt wd) (t + 1)) := by
            rw [hon]
            intro c hc
            unfold moveBefore at hc
            rcases List.mem_cons.mp hc with rfl | hc
            · exact getD_lt hvw hi0
            · rcases List.mem_append.mp (List.mem_reverse.mp hc) with hc | hc
              · exact hvw c (List.mem_of_mem_take hc)
              · exact hvw c (List.mem_of_mem_drop hc)
          have es : ((⟨#[(srt wd).getD (t + 1) 0 + 97]⟩ : Str) ++ cutS (sOf (srt wd)) none (some ((t + 1 : Nat) : Int))) ++ cutS (sOf (srt wd)) (some (((t + 1 : Nat) : Int) + 1)) none = sOf (moveStart (srt wd) (t + 1)) := by
            rw [cut_to, show ((t + 1 : Nat) : Int) + 1 = ((t + 1 + 1 : Nat) : Int) from rfl, cut_from]
            show (sOf [(srt wd).getD (t + 1) 0] ++ _) ++ _ = _
            rw [sOf_app, sOf_app]
            rfl
          have eb0 : cutS (sOf (srt wd)) none (some (((t + 1 : Nat) : Int) - 1)) ++ cutS (sOf (srt wd)) (some ((t + 1 : Nat) : Int)) none = sOf ((srt wd).take t ++ (srt wd).drop (t + 1)) := by
            rw [show ((t + 1 : Nat) : Int) - 1 = ((t : Nat) : Int) by omega, cut_to, cut_from, sOf_app]
          have eb : (⟨#[(srt wd).getD t 0 + 97]⟩ : Str) ++ (⟨(cutS (sOf (srt wd)) none (some (((t + 1 : Nat) : Int) - 1)) ++ cutS (sOf (srt wd)) (some ((t + 1 : Nat) : Int)) none).cps.toList.reverse.toArray⟩ : Str) = sOf (moveBefore (srt wd) (t + 1)) := by
            rw [eb0, rev_sOf]
            show sOf [(srt wd).getD t 0] ++ _ = _
            rw [sOf_app]
            rfl
          have l1 : (⟨#[(srt wd).getD (t + 1) 0 + 97]⟩ : Str).length + (cutS (sOf (srt wd)) none (some ((t + 1 : Nat) : Int))).length ≤ sizeLine := by
            rw [cut_to, sOf_len, List.length_take, sizeLine_eq]
            show 1 + _ ≤ _
            omega
          have l2 : ((⟨#[(srt wd).getD (t + 1) 0 + 97]⟩ : Str) ++ cutS (sOf (srt wd)) none (some ((t + 1 : Nat) : Int))).length + (cutS (sOf (srt wd)) (some (((t + 1 : Nat) : Int) + 1)) none).length ≤ sizeLine := by
            rw [cut_to, show ((t + 1 : Nat) : Int) + 1 = ((t + 1 + 1 : Nat) : Int) from rfl, cut_from]
            show (sOf [(srt wd).getD (t + 1) 0] ++ _).length + _ ≤ _
            rw [sOf_app, sOf_len, sOf_len, List.length_append, List.length_take, List.length_drop, sizeLine_eq]
            show 1 + _ + _ ≤ _
            omega
          have l3 : (cutS (sOf (srt wd)) none (some (((t + 1 : Nat) : Int) - 1))).length + (cutS (sOf (srt wd)) (some ((t + 1 : Nat) : Int)) none).length ≤ sizeLine := by
            rw [show ((t + 1 : Nat) : Int) - 1 = ((t : Nat) : Int) by omega, cut_to, cut_from, sOf_len, sOf_len, List.length_take, List.length_drop, sizeLine_eq]
            omega
          have l4 : (cutS (sOf (srt wd)) none (some (((t + 1 : Nat) : Int) - 1)) ++ cutS (sOf (srt wd)) (some ((t + 1 : Nat) : Int)) none).length ≤ 1000 := by
            rw [eb0, sOf_len, List.length_append, List.length_take, List.length_drop]
            omega
          have l5 : (⟨#[(srt wd).getD t 0 + 97]⟩ : Str).length + (⟨(cutS (sOf (srt wd)) none (some (((t + 1 : Nat) : Int) - 1)) ++ cutS (sOf (srt wd)) (some ((t + 1 : Nat) : Int)) none).cps.toList.reverse.toArray⟩ : Str).length ≤ sizeLine := by
            rw [eb0, rev_sOf, sOf_len, List.length_reverse, List.length_append, List.length_take, List.length_drop, sizeLine_eq]
            show 1 + _ ≤ _
            omega
          refine ⟨_, rfl, _, rfl, _, _, _, rfl, rfl, hvs, hat, _, rfl, _, rfl, _, rfl, _, rfl, hvs, _, _, rfl, rfl, l1, _, rfl, _, rfl, _, _, rfl, rfl, _, rfl, _, rfl, hvs, _, _, rfl, rfl, l2, ?_⟩
          refine ⟨_, rfl, _, rfl, _, _, rfl, rfl, _, _, _, rfl, rfl, hvs, hat0, _, rfl, _, rfl, _, _, rfl, rfl, _, rfl, _, rfl, hvs, _, rfl, _, rfl, _, rfl, _, rfl, hvs, _, _, rfl, rfl, l3, _, rfl, l4, _, _, rfl, rfl, l5, ?_⟩
          refine ⟨_, rfl, _, rfl, o, ones sz.length, moveStart (srt wd) (t + 1), by rw [← es]; rfl, t8 _ _ ho, hoz, hsw, by omega, fun H18 t9 => ?_⟩
          have t9 := t8.trans t9
          rw [M.prev sz.length (srt wd) (t + 1) hvw (srt_sorted wd) (by omega) hi hne']
          refine ⟨_, rfl, rfl, _, rfl, ?_⟩
          have e13 : (!decide (V.str (sOf (moveBefore (srt wd) (t + 1))) = V.str ((⟨#[(srt wd).getD t 0 + 97]⟩ : Str) ++ (⟨(cutS (sOf (srt wd)) none (some (((t + 1 : Nat) : Int) - 1)) ++ cutS (sOf (srt wd)) (some ((t + 1 : Nat) : Int)) none).cps.toList.reverse.toArray⟩ : Str)))) = false := by
            rw [eb]
            exact neq_self _
          refine Eq.mpr (congrArg (fun b : Bool => if b = true then _ else _) e13) (iteF ?_)
          refine ⟨_, rfl, _, rfl, o, ones sz.length, moveBefore (srt wd) (t + 1), by rw [← eb]; rfl, t9 _ _ ho, hoz, hbw, by omega, fun H19 t10 => ?_⟩
          have t10 := t9.trans t10
          rw [M.next sz.length (srt wd) (t + 1) hvw (srt_sorted wd) (by omega) hi hne']
          refine ⟨_, rfl, rfl, _, rfl, ?_⟩
          have e14 : (!decide (V.str (sOf (moveStart (srt wd) (t + 1))) = V.str (((⟨#[(srt wd).getD (t + 1) 0 + 97]⟩ : Str) ++ cutS (sOf (srt wd)) none (some ((t + 1 : Nat) : Int))) ++ cutS (sOf (srt wd)) (some (((t + 1 : Nat) : Int) + 1)) none))) = false := by
            rw [es]
            exact neq_self _
          refine Eq.mpr (congrArg (fun b : Bool => if b = true then _ else _) e14) (iteF ?_)
          exact ⟨_, _, _, rfl, t10⟩
        · rintro σ' H16 ⟨u11, u12, u13, rfl, t8⟩
          exact ⟨u11, u12, u13, rfl, t8⟩
      · rintro σ' H16 ⟨u11, u12, u13, rfl, t8⟩
        have hD16 : Dat H16 Dd := hD3.keep (s10.trans t8)
        refine ⟨_, rfl, Dd, 4, rfl, hD16, by decide, by decide, fun k H17 hk0 hk1 hD17 hb17 => ⟨_, _, rfl, rfl, _, rfl, Dd, 4, rfl, hD17, by decide, by decide, fun m H18 hm0 hm1 hD18 hb18 => ⟨_, _, rfl, ?_⟩⟩⟩
        obtain ⟨k', rfl⟩ : ∃ k' : Nat, k = (k' : Int) := ⟨k.toNat, (Int.toNat_of_nonneg hk0).symm⟩
        obtain ⟨m', rfl⟩ : ∃ m' : Nat, m = (m' : Int) := ⟨m.toNat, (Int.toNat_of_nonneg hm0).symm⟩
        have ea : Txt.mul ("a" : Str) ((1 : Int) + ((k' : Nat) : Int)) = sOf (List.replicate (k' + 1) 0) := by
          rw [show ("a" : Str) = one 0 by decide +kernel, show (1 : Int) + ((k' : Nat) : Int) = ((k' + 1 : Nat) : Int) by omega, mul_one]
        have eb : Txt.mul ("b" : Str) ((m' : Nat) : Int) = sOf (List.replicate m' 1) := by
          rw [show ("b" : Str) = one 1 by decide +kernel, mul_one]
        have hab : (Txt.mul ("a" : Str) ((1 : Int) + ((k' : Nat) : Int))).length + (Txt.mul ("b" : Str) ((m' : Nat) : Int)).length ≤ sizeLine := by
          rw [ea, eb, sOf_len, sOf_len, List.length_replicate, List.length_replicate, sizeLine_eq]
          omega
        refine ⟨_, rfl, two_fits, fun p4 hp4 => ⟨_, rfl, _, _, rfl, rfl, by omega, by omega, by decide, _, rfl, _, _, rfl, rfl, by omega, by omega, by decide, _, _, rfl, rfl, hab, ?_⟩⟩
        refine ⟨p4, [k' + 1, 4], List.replicate (k' + 1) 0 ++ List.replicate m' 1, by rw [← sOf_app, ← ea, ← eb]; rfl, ?_, ⟨by show 1 ≤ 2; decide, by show 2 ≤ 4; decide, fun j hj => ?_⟩, fun c hc => ?_, ?_, fun H19 t19 => ⟨_, rfl, _, _, rfl, rfl, rfl, ?_⟩⟩
        · rw [upd_same]
          show some (HO.tup [V.int ((1 : Int) + ((k' : Nat) : Int)), V.int 4]) = some (HO.tup [V.int ((k' + 1 : Nat) : Int), V.int 4])
          rw [show (1 : Int) + ((k' : Nat) : Int) = ((k' + 1 : Nat) : Int) by omega]
        · rcases List.mem_cons.mp hj with rfl | hj
          · omega
          · rw [List.mem_singleton.mp hj]; decide
        · show c < 2
          rcases List.mem_append.mp hc with hc | hc
          · rw [List.eq_of_mem_replicate hc]; decide
          · rw [List.eq_of_mem_replicate hc]; decide
        · rw [List.length_append, List.length_replicate, List.length_replicate]
          omega
        · rw [M.end5 (k' + 1) m' (by omega) (by omega) (by omega)]
          have e15 : decide (V.int ((m' + 1 : Nat) : Int) = V.int (((m' : Nat) : Int) + 1)) = true := decide_eq_true rfl
          have := q H19
          rw [← e15] at this
          exact this
end
end Pk

/-! Reduced rows; legal moves and the number of arrangements. -/
namespace Pk
section
variable {sz : List Nat}
theorem mem_start (hp : SPos sz) {wd x : List Nat} : x ∈ comps sz (red sz wd) (tal sz.length wd).sum (tal sz.length wd) [] ↔ (∀ c ∈ x, c < sz.length) ∧ tal sz.length x = tal sz.length wd ∧ red sz x = red sz wd := by
  rw [mem_comps hp _ _ [] x rfl rfl, length_tal, List.nil_append]
theorem one_of {α : Type} {l : List α} {a : α} (hn : l.Nodup) (ha : a ∈ l) (h : ∀ b ∈ l, b = a) : l = [a] := by
  cases l with
  | nil => cases ha
  | cons b r =>
    cases r with
    | nil => rw [h b List.mem_cons_self]
    | cons d r =>
      rw [List.nodup_cons] at hn
      exact absurd (by rw [h b List.mem_cons_self, h d (by simp)]; exact List.mem_cons_self) hn.1
/-- a reduced row stands alone -/
theorem comps_red (hp : SPos sz) {wd : List Nat} (hw : ∀ c ∈ wd, c < sz.length) (hr : red sz wd = wd) : comps sz (red sz wd) (tal sz.length wd).sum (tal sz.length wd) [] = [wd] := by
  refine one_of (nodup_comps _ _ _) ((mem_start hp).mpr ⟨hw, rfl, rfl⟩) fun x hx => ?_
  obtain ⟨h1, h2, h3⟩ := (mem_start hp).mp hx
  have l1 := length_of_tal (n := sz.length) (x := x) (rem := tal sz.length wd) (length_tal _ _) h1 h2
  have l2 := length_of_tal (n := sz.length) (x := wd) (rem := tal sz.length wd) (length_tal _ _) hw rfl
  rw [hr] at h3
  have := red_eq_self (sz := sz) (w := x) (by rw [h3]; omega)
  rw [← this, h3]
/-! ### no pack: the row is reduced -/
def packN (sz wd : List Nat) (i : Nat) : Prop := (wd.drop i).take (siz sz (wd.getD i 0)) = List.replicate (siz sz (wd.getD i 0)) (wd.getD i 0)
theorem pack_of {sz wd a b : List Nat} {c : Nat} (hp : SPos sz) (h : wd = a ++ List.replicate (siz sz c) c ++ b) : a.length < wd.length ∧ packN sz wd a.length := by
  have h1 := hp c
  have hg : wd.getD a.length 0 = c := by
    obtain ⟨k, hk⟩ : ∃ k, siz sz c = k + 1 := ⟨siz sz c - 1, by omega⟩
    rw [h, List.getD_eq_getElem?_getD, List.append_assoc, List.getElem?_append_right (Nat.le_refl _), Nat.sub_self, hk, List.replicate_succ]
    rfl
  refine ⟨by rw [h, List.length_append, List.length_append, List.length_replicate]; omega, ?_⟩
  unfold packN
  rw [hg, h, List.append_assoc, List.drop_left, List.take_left' List.length_replicate]
theorem red_of_none (hp : SPos sz) {wd : List Nat} (h : ∀ i, i < wd.length → ¬ packN sz wd i) : ∀ j, j ≤ wd.length → word (act sz (wd.take j) []) = wd.take j
  | 0, _ => rfl
  | j + 1, hj => by
    have ih := red_of_none hp h j (by omega)
    have hv : Val sz (act sz (wd.take j) []) := val_act hp _ val_nil
    have et : wd.take (j + 1) = wd.take j ++ [wd[j]] := by rw [List.take_succ, List.getElem?_eq_getElem (by omega)]; rfl
    have hwd : wd = wd.take j ++ [wd[j]] ++ wd.drop (j + 1) := by rw [← et, List.take_append_drop]
    rw [et, act_append, act_cons, act_nil]
    by_cases ht : Top wd[j] (act sz (wd.take j) [])
    · rw [push_top ht]
      have h1 : ¬ siz sz wd[j] = 1 := fun e => by
        obtain ⟨g1, g2⟩ := pack_of (sz := sz) (wd := wd) (a := wd.take j) (c := wd[j]) (b := wd.drop (j + 1)) hp (by rw [e]; exact hwd)
        exact h _ g1 g2
      rw [if_neg h1, word_cons, ih]
      rfl
    · cases es : act sz (wd.take j) [] with
      | nil => exact absurd (fun p hp => by rw [es] at hp; cases hp) ht
      | cons p r =>
        obtain ⟨d, k⟩ := p
        have hd : d = wd[j] := by
          by_cases e : d = wd[j]
          · exact e
          · exact absurd (fun p hp => by rw [es] at hp; cases hp; exact e) ht
        subst hd
        rw [es, word_cons] at ih
        rw [push_run]
        have h1 : ¬ k + 1 = siz sz wd[j] := fun e => by
          obtain ⟨g1, g2⟩ := pack_of (sz := sz) (wd := wd) (a := word r) (c := wd[j]) (b := wd.drop (j + 1)) hp (by
            rw [← e, List.replicate_succ', ← List.append_assoc, ih]
            exact hwd)
          exact h _ g1 g2
        rw [if_neg h1, word_cons, List.replicate_succ', ← List.append_assoc, ih]
/-! ### a move gives another row -/
theorem red_past (hp : SPos sz) (a b : List Nat) (c d : Nat) : red sz (a ++ List.replicate (siz sz c) c ++ d :: b) = red sz (a ++ d :: (List.replicate (siz sz c) c ++ b)) := by
  have hv : Val sz (act sz a []) := val_act hp _ val_nil
  have hv2 : Val sz (push sz d (act sz a [])) := val_push hp d hv
  unfold red
  rw [act_append, act_append, act_pack hp c hv, act_append, act_cons, act_cons, act_append, act_pack hp c hv2]
theorem tal_perm {n : Nat} {u v : List Nat} (h : u.Perm v) : tal n u = tal n v := by
  unfold tal
  exact List.map_congr_left fun c _ => h.count_eq c
theorem perm_past (a b : List Nat) (r : List Nat) (d : Nat) : (a ++ r ++ d :: b).Perm (a ++ d :: (r ++ b)) := by
  rw [List.append_assoc]
  exact List.Perm.append_left a List.perm_middle
theorem ne_past {a b : List Nat} {c d k : Nat} (hk : 1 ≤ k) (h : d ≠ c) : a ++ List.replicate k c ++ d :: b ≠ a ++ d :: (List.replicate k c ++ b) := by
  intro e
  obtain ⟨j, rfl⟩ : ∃ j, k = j + 1 := ⟨k - 1, by omega⟩
  rw [List.append_assoc] at e
  have e2 := List.append_cancel_left e
  rw [List.replicate_succ] at e2
  injection e2 with e3 _
  exact h e3.symm
theorem two_of {α : Type} {l : List α} {a b : α} (ha : a ∈ l) (hb : b ∈ l) (h : a ≠ b) : l.length ≠ 1 := by
  intro e
  match l, e with
  | [x], _ => exact h ((List.mem_singleton.mp ha).trans (List.mem_singleton.mp hb).symm)
/-- both rows are arrangements of the other's -/
theorem two_past (hp : SPos sz) {a b : List Nat} {c d : Nat} (h : d ≠ c) (hw : ∀ e ∈ a ++ List.replicate (siz sz c) c ++ d :: b, e < sz.length) :
    (comps sz (red sz (a ++ List.replicate (siz sz c) c ++ d :: b)) (tal sz.length (a ++ List.replicate (siz sz c) c ++ d :: b)).sum (tal sz.length (a ++ List.replicate (siz sz c) c ++ d :: b)) []).length ≠ 1 ∧
    (comps sz (red sz (a ++ d :: (List.replicate (siz sz c) c ++ b))) (tal sz.length (a ++ d :: (List.replicate (siz sz c) c ++ b))).sum (tal sz.length (a ++ d :: (List.replicate (siz sz c) c ++ b))) []).length ≠ 1 := by
  have hp2 := perm_past a b (List.replicate (siz sz c) c) d
  have hr := red_past hp a b c d
  have hw2 : ∀ e ∈ a ++ d :: (List.replicate (siz sz c) c ++ b), e < sz.length := fun e he => hw e (hp2.mem_iff.mpr he)
  have hne := ne_past (a := a) (b := b) (hp c) h
  exact ⟨two_of ((mem_start hp).mpr ⟨hw, rfl, rfl⟩) ((mem_start hp).mpr ⟨hw2, (tal_perm hp2).symm, hr.symm⟩) hne,
    two_of ((mem_start hp).mpr ⟨hw, tal_perm hp2, hr⟩) ((mem_start hp).mpr ⟨hw2, rfl, rfl⟩) hne⟩
end
end Pk

/-! Legal moves: none iff the row stands alone. -/
namespace Pk
section
variable {sz wd : List Nat}
theorem packN_iff {i : Nat} (hi : i < wd.length) : packN sz wd i ↔ i + siz sz (wd.getD i 0) ≤ wd.length ∧ ∀ t, t < siz sz (wd.getD i 0) → wd.getD (i + t) 0 = wd.getD i 0 := by
  unfold packN
  generalize siz sz (wd.getD i 0) = k
  constructor
  · intro h
    have hl : ((wd.drop i).take k).length = k := by rw [h, List.length_replicate]
    rw [List.length_take, List.length_drop] at hl
    refine ⟨by omega, fun t ht => ?_⟩
    have h2 : ((wd.drop i).take k)[t]? = some (wd.getD i 0) := by rw [h, List.getElem?_replicate, if_pos ht]
    rw [List.getElem?_take_of_lt ht, List.getElem?_drop] at h2
    rw [List.getD_eq_getElem?_getD, h2]
    rfl
  · rintro ⟨h1, h2⟩
    apply List.ext_getElem?
    intro t
    by_cases ht : t < k
    · rw [List.getElem?_take_of_lt ht, List.getElem?_drop, List.getElem?_replicate, if_pos ht]
      have := h2 t ht
      rw [List.getD_eq_getElem?_getD, List.getElem?_eq_getElem (by omega)] at this
      rw [List.getElem?_eq_getElem (by omega)]
      exact congrArg some this
    · rw [List.getElem?_replicate, if_neg ht, List.getElem?_eq_none]
      rw [List.length_take]
      omega
theorem packAt_iff {i : Nat} : packAt sz wd i = true ↔ packN sz wd i := by
  unfold packAt packN
  exact decide_eq_true_iff
theorem okMove_left {i : Nat} : okMove sz wd i true = true ↔ packN sz wd i ∧ 1 ≤ i ∧ wd.getD (i - 1) 0 ≠ wd.getD i 0 := by
  unfold okMove
  rw [Bool.and_eq_true, packAt_iff, if_pos rfl, Bool.and_eq_true, decide_eq_true_iff, Bool.not_eq_true', decide_eq_false_iff_not]
theorem okMove_right {i : Nat} : okMove sz wd i false = true ↔ packN sz wd i ∧ i + siz sz (wd.getD i 0) < wd.length ∧ wd.getD (i + siz sz (wd.getD i 0)) 0 ≠ wd.getD i 0 := by
  unfold okMove
  rw [Bool.and_eq_true, packAt_iff, if_neg (by decide), Bool.and_eq_true, decide_eq_true_iff, Bool.not_eq_true', decide_eq_false_iff_not]
/-- the row cut at a pack -/
theorem cut_pack {i : Nat} (h : packN sz wd i) : wd = wd.take i ++ List.replicate (siz sz (wd.getD i 0)) (wd.getD i 0) ++ wd.drop (i + siz sz (wd.getD i 0)) := by
  have e := List.take_append_drop i wd
  have e2 := List.take_append_drop (siz sz (wd.getD i 0)) (wd.drop i)
  unfold packN at h
  rw [h, List.drop_drop] at e2
  rw [← e2, ← List.append_assoc] at e
  exact e.symm
theorem moved (hp : SPos sz) (hw : ∀ c ∈ wd, c < sz.length) {i : Nat} {lf : Bool} (hi : i < wd.length) (h : okMove sz wd i lf = true) : cnt sz wd (tal sz.length wd) [] ≠ 1 := by
  unfold cnt
  cases lf with
  | true =>
    obtain ⟨h1, h2, h3⟩ := okMove_left.mp h
    have e := cut_pack h1
    have et : wd.take i = wd.take (i - 1) ++ [wd.getD (i - 1) 0] := by
      have hj : i - 1 < wd.length := by omega
      have : wd.take (i - 1 + 1) = wd.take (i - 1) ++ [wd[i - 1]] := by rw [List.take_succ, List.getElem?_eq_getElem hj]; rfl
      rw [show i - 1 + 1 = i by omega] at this
      rw [this, List.getD_eq_getElem?_getD, List.getElem?_eq_getElem hj]
      rfl
    rw [et, List.append_assoc, List.append_assoc] at e
    have e : wd = wd.take (i - 1) ++ wd.getD (i - 1) 0 :: (List.replicate (siz sz (wd.getD i 0)) (wd.getD i 0) ++ wd.drop (i + siz sz (wd.getD i 0))) := e
    generalize hc : wd.getD i 0 = c at e h3
    generalize hd : wd.getD (i - 1) 0 = d at e h3
    generalize ha : wd.take (i - 1) = a at e
    generalize hb : wd.drop (i + siz sz c) = b at e
    have hperm := perm_past a b (List.replicate (siz sz c) c) d
    have := (two_past hp (a := a) (b := b) h3 (fun x hx => hw x (by rw [e]; exact hperm.mem_iff.mp hx))).2
    rw [← e] at this
    exact this
  | false =>
    obtain ⟨h1, h2, h3⟩ := okMove_right.mp h
    have e := cut_pack h1
    have et : wd.drop (i + siz sz (wd.getD i 0)) = wd.getD (i + siz sz (wd.getD i 0)) 0 :: wd.drop (i + siz sz (wd.getD i 0) + 1) := by
      rw [List.drop_eq_getElem_cons h2]
      refine congrArg (· :: _) ?_
      exact (by rw [List.getD_eq_getElem?_getD, List.getElem?_eq_getElem h2]; rfl : wd.getD (i + siz sz (wd.getD i 0)) 0 = wd[i + siz sz (wd.getD i 0)]).symm
    rw [et] at e
    generalize hd : wd.getD (i + siz sz (wd.getD i 0)) 0 = d at e h3
    generalize hb : wd.drop (i + siz sz (wd.getD i 0) + 1) = b at e
    generalize hc : wd.getD i 0 = c at e h3
    generalize ha : wd.take i = a at e
    have := (two_past hp (a := a) (b := b) h3 (fun x hx => hw x (by rw [e]; exact hx))).1
    rw [← e] at this
    exact this
/-- a row of one colour stands alone -/
theorem comps_same (hp : SPos sz) (hw : ∀ c ∈ wd, c < sz.length) {c : Nat} (hc : ∀ e ∈ wd, e = c) : comps sz (red sz wd) (tal sz.length wd).sum (tal sz.length wd) [] = [wd] := by
  refine one_of (nodup_comps _ _ _) ((mem_start hp).mpr ⟨hw, rfl, rfl⟩) fun x hx => ?_
  obtain ⟨h1, h2, _⟩ := (mem_start hp).mp hx
  have l1 := length_of_tal (n := sz.length) (x := x) (rem := tal sz.length wd) (length_tal _ _) h1 h2
  have l2 := length_of_tal (n := sz.length) (x := wd) (rem := tal sz.length wd) (length_tal _ _) hw rfl
  have hx2 : ∀ e ∈ x, e = c := fun e he => by
    by_cases q : e = c
    · exact q
    · have h0 : wd.count e = 0 := List.count_eq_zero.mpr fun hm => q (hc e hm)
      have h3 : x.count e = wd.count e := by
        have a1 := tal_get (n := sz.length) x (h1 e he)
        have a2 := tal_get (n := sz.length) wd (h1 e he)
        rw [← a1, ← a2, h2]
      have : 0 < x.count e := List.count_pos_iff.mpr he
      omega
  rw [List.eq_replicate_iff.mpr ⟨rfl, hx2⟩, List.eq_replicate_iff.mpr ⟨rfl, hc⟩, show x.length = wd.length by omega]
/-- without a legal move, a pack makes the row one colour -/
theorem one_colour (hp : SPos sz) (h : noMove sz wd) {i : Nat} (hi : i < wd.length) (hpk : packN sz wd i) : ∀ j, j < wd.length → wd.getD j 0 = wd.getD i 0 := by
  generalize hc : wd.getD i 0 = c
  have hk := hp c
  -- from a pack of c at j to its neighbours
  have up : ∀ j, j < wd.length → wd.getD j 0 = c → packN sz wd j → j + siz sz c < wd.length → wd.getD (j + siz sz c) 0 = c := fun j hj e pk hlt => by
    have := h j hj false
    by_cases q : wd.getD (j + siz sz c) 0 = c
    · exact q
    · exact absurd (okMove_right.mpr ⟨pk, by rw [e]; exact hlt, by rw [e]; exact q⟩) (by rw [this]; decide)
  have down : ∀ j, j < wd.length → wd.getD j 0 = c → packN sz wd j → 1 ≤ j → wd.getD (j - 1) 0 = c := fun j hj e pk h1 => by
    have := h j hj true
    by_cases q : wd.getD (j - 1) 0 = c
    · exact q
    · exact absurd (okMove_left.mpr ⟨pk, h1, by rw [e]; exact q⟩) (by rw [this]; decide)
  have mk : ∀ j, j < wd.length → j + siz sz c ≤ wd.length → (∀ t, t < siz sz c → wd.getD (j + t) 0 = c) → packN sz wd j ∧ wd.getD j 0 = c := fun j hj hl ht => by
    have e : wd.getD j 0 = c := by have := ht 0 (by omega); rwa [Nat.add_zero] at this
    refine ⟨(packN_iff hj).mpr ?_, e⟩
    rw [e]
    exact ⟨hl, ht⟩
  have ofP : ∀ j, j < wd.length → packN sz wd j → wd.getD j 0 = c → j + siz sz c ≤ wd.length ∧ ∀ t, t < siz sz c → wd.getD (j + t) 0 = c := fun j hj pk e => by
    have := (packN_iff hj).mp pk
    rw [e] at this
    exact this
  -- upwards
  have goUp : ∀ m, i + m + siz sz c ≤ wd.length → packN sz wd (i + m) ∧ wd.getD (i + m) 0 = c := fun m => by
    induction m with
    | zero => exact fun _ => ⟨hpk, hc⟩
    | succ m ih =>
      intro hl
      obtain ⟨p1, p2⟩ := ih (by omega)
      obtain ⟨q1, q2⟩ := ofP (i + m) (by omega) p1 p2
      refine mk (i + (m + 1)) (by omega) (by omega) fun t ht => ?_
      by_cases e : t + 1 = siz sz c
      · rw [show i + (m + 1) + t = i + m + siz sz c by omega]
        exact up (i + m) (by omega) p2 p1 (by omega)
      · rw [show i + (m + 1) + t = i + m + (t + 1) by omega]
        exact q2 (t + 1) (by omega)
  have goDown : ∀ m, m ≤ i → packN sz wd (i - m) ∧ wd.getD (i - m) 0 = c := fun m => by
    induction m with
    | zero => exact fun _ => ⟨hpk, hc⟩
    | succ m ih =>
      intro hm
      obtain ⟨p1, p2⟩ := ih (by omega)
      obtain ⟨q1, q2⟩ := ofP (i - m) (by omega) p1 p2
      refine mk (i - (m + 1)) (by omega) (by omega) fun t ht => ?_
      by_cases e : t = 0
      · rw [e, show i - (m + 1) + 0 = i - m - 1 by omega]
        exact down (i - m) (by omega) p2 p1 (by omega)
      · rw [show i - (m + 1) + t = i - m + (t - 1) by omega]
        exact q2 (t - 1) (by omega)
  intro j hj
  by_cases hji : j ≤ i
  · have := (goDown (i - j) (by omega)).2
    rwa [show i - (i - j) = j by omega] at this
  · obtain ⟨l1, l2⟩ := ofP i hi hpk hc
    by_cases hl : j + siz sz c ≤ wd.length
    · have := (goUp (j - i) (by omega)).2
      rwa [show i + (j - i) = j by omega] at this
    · by_cases hs : wd.length - siz sz c < i
      · have := l2 (j - i) (by omega)
        rwa [show i + (j - i) = j by omega] at this
      · obtain ⟨p1, p2⟩ := goUp (wd.length - siz sz c - i) (by omega)
        obtain ⟨q1, q2⟩ := ofP _ (by omega) p1 p2
        have := q2 (j - (wd.length - siz sz c)) (by omega)
        rwa [show i + (wd.length - siz sz c - i) + (j - (wd.length - siz sz c)) = j by omega] at this
theorem moves_iff (hp : SPos sz) (hw : ∀ c ∈ wd, c < sz.length) : cnt sz wd (tal sz.length wd) [] = 1 ↔ noMove sz wd := by
  constructor
  · intro h i hi lf
    cases e : okMove sz wd i lf with
    | false => rfl
    | true => exact absurd h (moved hp hw hi e)
  · intro h
    unfold cnt
    by_cases hex : ∃ i, i < wd.length ∧ packN sz wd i
    · obtain ⟨i, hi, hpk⟩ := hex
      have hall := one_colour hp h hi hpk
      rw [comps_same hp hw (c := wd.getD i 0) fun e he => ?_]
      · rfl
      · obtain ⟨j, hj, rfl⟩ := List.mem_iff_getElem.mp he
        have := hall j hj
        rw [List.getD_eq_getElem?_getD, List.getElem?_eq_getElem hj] at this
        exact this
    · have hr := red_of_none hp (wd := wd) (fun i hi hpk => hex ⟨i, hi, hpk⟩) wd.length (Nat.le_refl _)
      rw [List.take_length] at hr
      rw [comps_red hp hw hr]
      rfl
end
end Pk

/-! Packs of size one: every arrangement counts. -/
namespace Pk
theorem siz_ones (n c : Nat) : siz (ones n) c = 1 := by
  unfold siz
  rw [List.getD_eq_getElem?_getD]
  cases e : (ones n)[c]? with
  | none => rfl
  | some k => exact List.eq_of_mem_replicate (List.mem_of_getElem? e)
theorem pos_ones (n : Nat) : SPos (ones n) := fun c => by rw [siz_ones]; exact Nat.le_refl _
theorem act_ones (n : Nat) : ∀ w : List Nat, act (ones n) w [] = []
  | [] => rfl
  | c :: w => by
    rw [act_cons, push_nil, if_pos (siz_ones n c)]
    exact act_ones n w
theorem red_ones (n : Nat) (w : List Nat) : red (ones n) w = [] := by
  unfold red
  rw [act_ones]
  rfl
theorem mem_ones {n : Nat} {rem x : List Nat} {m : Nat} (hm : rem.sum = m) : x ∈ comps (ones n) [] m rem [] ↔ (∀ c ∈ x, c < rem.length) ∧ tal rem.length x = rem := by
  rw [mem_comps (pos_ones n) m rem [] x hm (red_ones n [])]
  exact ⟨fun h => ⟨h.1, h.2.1⟩, fun h => ⟨h.1, h.2, red_ones n _⟩⟩
/-! ### the number -/
def fac : Nat → Nat
  | 0 => 1
  | n + 1 => (n + 1) * fac n
theorem fac_pos : ∀ n, 0 < fac n
  | 0 => by decide
  | n + 1 => Nat.mul_pos (Nat.succ_pos n) (fac_pos n)
def facs (rem : List Nat) : Nat := (rem.map fac).foldr (· * ·) 1
theorem facs_nil : facs [] = 1 := rfl
theorem facs_cons (a : Nat) (r : List Nat) : facs (a :: r) = fac a * facs r := rfl
theorem facs_pos : ∀ rem : List Nat, 0 < facs rem
  | [] => by decide
  | a :: r => Nat.mul_pos (fac_pos a) (facs_pos r)
theorem facs_dec : ∀ (rem : List Nat) (c : Nat), 0 < rem.getD c 0 → facs rem = rem.getD c 0 * facs (dec rem c)
  | [], c, h => by simp at h
  | a :: r, 0, h => by
    have h : 0 < a := h
    obtain ⟨b, rfl⟩ : ∃ b, a = b + 1 := ⟨a - 1, by omega⟩
    show fac (b + 1) * facs r = (b + 1) * (fac (b + 1 - 1) * facs r)
    rw [Nat.add_sub_cancel, ← Nat.mul_assoc]
    rfl
  | a :: r, c + 1, h => by
    have h : 0 < r.getD c 0 := h
    have ih := facs_dec r c h
    show fac a * facs r = r.getD c 0 * (fac a * facs (dec r c))
    rw [ih, Nat.mul_left_comm]
theorem sum_filter (f : Nat → Nat) : ∀ l : List Nat, ((l.filter fun c => decide (0 < f c)).map f).sum = (l.map f).sum
  | [] => rfl
  | c :: l => by
    have ih := sum_filter f l
    by_cases h : 0 < f c
    · rw [List.filter_cons_of_pos (by simpa using h), List.map_cons, List.map_cons, List.sum_cons, List.sum_cons, ih]
    · rw [List.filter_cons_of_neg (by simpa using h), List.map_cons, List.sum_cons, ih]
      omega
theorem sum_getD : ∀ rem : List Nat, ((List.range rem.length).map fun c => rem.getD c 0).sum = rem.sum := fun rem => by
  congr 1
  apply List.ext_getElem
  · simp
  · intro i h1 h2
    simp [List.getD_eq_getElem?_getD, h2]
theorem sum_succs (rem : List Nat) : ((succs rem).map fun c => rem.getD c 0).sum = rem.sum := by
  unfold succs
  rw [sum_filter (fun c => rem.getD c 0), sum_getD]
theorem sum_mul_const (k : Nat) : ∀ l : List Nat, (l.map fun x => x * k).sum = l.sum * k
  | [] => by simp
  | a :: l => by
    rw [List.map_cons, List.sum_cons, List.sum_cons, sum_mul_const k l, Nat.add_mul]
theorem count_ones (n : Nat) : ∀ (m : Nat) (rem : List Nat), rem.sum = m → (comps (ones n) [] m rem []).length * facs rem = fac m
  | 0, rem, hm => by
    have h0 : ∀ l : List Nat, l.sum = 0 → facs l = 1 := fun l => by
      induction l with
      | nil => exact fun _ => rfl
      | cons a l ih =>
        intro h
        rw [List.sum_cons] at h
        obtain rfl : a = 0 := by omega
        rw [facs_cons, ih (by omega)]
        rfl
    rw [h0 rem hm]
    rfl
  | m + 1, rem, hm => by
    rw [length_comps]
    have e : ((succs rem).map fun c => (comps (ones n) [] m (dec rem c) (red (ones n) ([] ++ [c]))).length).sum * facs rem = ((succs rem).map fun c => rem.getD c 0 * fac m).sum := by
      rw [← sum_mul_const, List.map_map]
      refine congrArg List.sum (List.map_congr_left fun c hc => ?_)
      have hp := mem_succs.mp hc
      have hs := sum_dec hp
      have ih := count_ones n m (dec rem c) (by omega)
      show (comps (ones n) [] m (dec rem c) (red (ones n) ([] ++ [c]))).length * facs rem = _
      rw [red_ones, facs_dec rem c hp, Nat.mul_left_comm, ih]
    rw [e, show (fun c => rem.getD c 0 * fac m) = (fun x => x * fac m) ∘ (fun c => rem.getD c 0) from rfl, ← List.map_map, sum_mul_const, sum_succs, hm]
    rfl
/-! ### the law's loop -/
def bN (f : Nat) : Nat → Nat
  | 0 => 1
  | k + 1 => bN f k * (f - k) / (k + 1)
theorem bN_div : ∀ f, f < 13 → ∀ k, k < f → (k + 1) ∣ bN f k * (f - k) := by decide +kernel
theorem bN_fac : ∀ f, f < 13 → ∀ k, k < f + 1 → bN f k * fac k * fac (f - k) = fac f := by decide +kernel
theorem inE_bN {f : Nat} (hf : f < 13) (e : Int) : ∀ k, k ≤ f → inE (f : Nat) e k = e * (bN f k : Nat)
  | 0, _ => by show e = e * ((1 : Nat) : Int); omega
  | k + 1, hk => by
    show inE (f : Nat) e k * (((f : Nat) : Int) - ((k : Nat) : Int)) / (((k : Nat) : Int) + 1) = _
    rw [inE_bN hf e k (by omega), Int.mul_assoc, show ((f : Nat) : Int) - ((k : Nat) : Int) = ((f - k : Nat) : Int) by omega, show ((bN f k : Nat) : Int) * ((f - k : Nat) : Int) = ((bN f k * (f - k) : Nat) : Int) from rfl]
    have hd : (((k : Nat) : Int) + 1) ∣ ((bN f k * (f - k) : Nat) : Int) := Int.natCast_dvd_natCast.mpr (bN_div f hf k (by omega))
    rw [Int.mul_ediv_assoc _ hd]
    rfl
/-- counts of the first colours -/
def upTo (wd : List Nat) (c : Nat) : Nat := ((List.range c).map fun i => wd.count i).sum
theorem upTo_succ (wd : List Nat) (c : Nat) : upTo wd (c + 1) = upTo wd c + wd.count c := by
  unfold upTo
  rw [List.range_succ, List.map_append, List.sum_append]
  rfl
theorem upTo_tal (wd : List Nat) (n : Nat) : upTo wd n = (tal n wd).sum := rfl
theorem upTo_mono (wd : List Nat) : ∀ {a b : Nat}, a ≤ b → upTo wd a ≤ upTo wd b := fun {a b} h => by
  induction b with
  | zero => rw [show a = 0 by omega]; exact Nat.le_refl _
  | succ b ih =>
    by_cases e : a = b + 1
    · rw [e]; exact Nat.le_refl _
    · rw [upTo_succ]
      have := ih (by omega)
      omega
theorem facs_append (a b : List Nat) : facs (a ++ b) = facs a * facs b := by
  induction a with
  | nil => rw [List.nil_append, facs_nil, Nat.one_mul]
  | cons x a ih => rw [List.cons_append, facs_cons, facs_cons, ih, Nat.mul_assoc]
theorem outE_is {n : Nat} {wd : List Nat} (hw : WOk n wd) (hl : wd.length ≤ 12) : ∀ c, c ≤ n → ∃ q : Nat, (outE wd c).1 = (q : Int) ∧ (outE wd c).2 = ((wd.length - upTo wd c : Nat) : Int) ∧ q * facs ((List.range c).map fun i => wd.count i) * fac (wd.length - upTo wd c) = fac wd.length
  | 0, _ => ⟨1, rfl, rfl, by rw [show upTo wd 0 = 0 from rfl, Nat.sub_zero]; show 1 * 1 * _ = _; omega⟩
  | c + 1, hc => by
    obtain ⟨q, h1, h2, h3⟩ := outE_is hw hl c (by omega)
    have ht : upTo wd n = wd.length := by rw [upTo_tal]; exact sum_tal hw
    have hm := upTo_mono wd hc
    have hs := upTo_succ wd c
    have hk : wd.count c ≤ wd.length - upTo wd c := by omega
    refine ⟨q * bN (wd.length - upTo wd c) (wd.count c), ?_, ?_, ?_⟩
    · show inE (outE wd c).2 (outE wd c).1 (wd.count c) = _
      rw [h1, h2, inE_bN (by omega) _ _ hk]
      rfl
    · show (outE wd c).2 - ((wd.count c : Nat) : Int) = _
      rw [h2]
      omega
    · have hb := bN_fac (wd.length - upTo wd c) (by omega) (wd.count c) (by omega)
      rw [List.range_succ, List.map_append, facs_append, show facs (List.map (fun i => wd.count i) [c]) = fac (wd.count c) from by show fac (wd.count c) * 1 = _; omega, show wd.length - upTo wd (c + 1) = wd.length - upTo wd c - wd.count c by omega]
      rw [← h3, ← hb]
      generalize facs ((List.range c).map fun i => wd.count i) = A
      generalize bN (wd.length - upTo wd c) (wd.count c) = B
      generalize fac (wd.count c) = D
      generalize fac (wd.length - upTo wd c - wd.count c) = F
      simp only [Nat.mul_assoc, Nat.mul_left_comm]
theorem count_is {n : Nat} {wd : List Nat} (hw : WOk n wd) (hl : wd.length ≤ 12) : ((cnt (ones n) wd (tal (ones n).length wd) [] : Nat) : Int) = (outE wd n).1 := by
  obtain ⟨q, h1, h2, h3⟩ := outE_is hw hl n (Nat.le_refl _)
  have ht : upTo wd n = wd.length := by rw [upTo_tal]; exact sum_tal hw
  rw [ht, Nat.sub_self] at h3
  have h4 : q * facs (tal n wd) = fac wd.length := by
    have : q * facs (tal n wd) * 1 = fac wd.length := h3
    omega
  have hon : (ones n).length = n := List.length_replicate
  have h5 := count_ones n (tal n wd).sum (tal n wd) rfl
  rw [h1]
  unfold cnt
  rw [hon, red_ones]
  rw [show (tal n wd).sum = wd.length from sum_tal hw] at h5 ⊢
  rw [← h4] at h5
  exact congrArg _ (Nat.eq_of_mul_eq_mul_right (facs_pos _) h5)
end Pk

/-! Packs of size one: first, last, neighbours. -/
namespace Pk
/-- in the order of that end: rising for the first, falling for the last -/
def ordB (ul : Bool) (a b : Nat) : Prop := if ul then b ≤ a else a ≤ b
theorem ordB_refl (ul : Bool) (a : Nat) : ordB ul a a := by cases ul <;> exact Nat.le_refl _
theorem ordB_anti {ul : Bool} {a b : Nat} (h1 : ordB ul a b) (h2 : ordB ul b a) : a = b := by
  cases ul
  · exact Nat.le_antisymm h1 h2
  · exact Nat.le_antisymm h2 h1
/-- an end of a strictly rising list is the extreme one -/
theorem endL_ext {ul : Bool} {l : List Nat} (hs : l.Pairwise (· < ·)) {c : Nat} (h : endL ul l = some c) : ∀ d ∈ l, ordB ul c d := by
  intro d hd
  cases ul with
  | false =>
    cases l with
    | nil => cases hd
    | cons a r =>
      have e : a = c := Option.some.inj h
      subst e
      rcases List.mem_cons.mp hd with rfl | hd
      · exact Nat.le_refl _
      · exact Nat.le_of_lt ((List.pairwise_cons.mp hs).1 d hd)
  | true =>
    rcases List.eq_nil_or_concat l with e | ⟨r, a, e⟩
    · subst e; cases hd
    · rw [List.concat_eq_append] at e
      subst e
      have e : a = c := by
        have h : (r ++ [a]).getLast? = some c := h
        rw [List.getLast?_append] at h
        exact Option.some.inj h
      subst e
      rcases List.mem_append.mp hd with hd | hd
      · exact Nat.le_of_lt ((List.pairwise_append.mp hs).2.2 d hd a (by simp))
      · rw [List.mem_singleton.mp hd]; exact Nat.le_refl _
theorem endL_some {ul : Bool} {l : List Nat} {d : Nat} (hd : d ∈ l) : ∃ c, endL ul l = some c ∧ c ∈ l := by
  cases ul with
  | false =>
    cases l with
    | nil => cases hd
    | cons a r => exact ⟨a, rfl, List.mem_cons_self⟩
  | true =>
    rcases List.eq_nil_or_concat l with e | ⟨r, a, e⟩
    · subst e; cases hd
    · rw [List.concat_eq_append] at e
      subst e
      exact ⟨a, by show (r ++ [a]).getLast? = _; rw [List.getLast?_append]; rfl, by simp⟩
theorem endL_is {ul : Bool} {l : List Nat} (hs : l.Pairwise (· < ·)) {c : Nat} (hc : c ∈ l) (h : ∀ d ∈ l, ordB ul c d) : endL ul l = some c := by
  obtain ⟨c', h1, h2⟩ := endL_some (ul := ul) hc
  rw [h1, ordB_anti (endL_ext hs h1 c hc) (h c' h2)]
theorem succs_rising (rem : List Nat) : (succs rem).Pairwise (· < ·) := List.pairwise_lt_range.filter _
theorem via_rising (sz tgt : List Nat) (m : Nat) (rem pl : List Nat) : (via sz tgt m rem pl).Pairwise (· < ·) := (succs_rising rem).filter _
section
variable {n : Nat}
theorem tal_cons' {n c : Nat} {y : List Nat} (hc : c < n) : 0 < (tal n (c :: y)).getD c 0 ∧ tal n y = dec (tal n (c :: y)) c :=
  (tal_cons (n := n) (c := c) (y := y) (rem := tal n (c :: y)) (length_tal _ _) hc).mp rfl
theorem mem_of_tal {n c : Nat} {y : List Nat} (h : 0 < (tal n y).getD c 0) : c ∈ y := by
  have hc : c < n := by have := lt_of_getD h; rwa [length_tal] at this
  rw [tal_get y hc] at h
  exact List.count_pos_iff.mp h
theorem tal_pos {n c : Nat} {y : List Nat} (hc : c < n) (h : c ∈ y) : 0 < (tal n y).getD c 0 := by
  rw [tal_get y hc]
  exact List.count_pos_iff.mpr h
/-- a colour that is left can be taken -/
theorem via_ones {n : Nat} {y : List Nat} (hw : WOk n y) {c : Nat} (hc : c ∈ y) : c ∈ via (ones n) [] ((tal n y).sum - 1) (tal n y) [] := by
  have hp := tal_pos (hw c hc) hc
  have hs := sum_dec hp
  refine mem_via hp ?_
  rw [red_ones]
  have hperm := List.perm_cons_erase hc
  have ht := (tal_cons' (n := n) (c := c) (y := y.erase c) (hw c hc)).2
  rw [← tal_perm hperm] at ht
  have : y.erase c ∈ comps (ones n) [] ((tal n y).sum - 1) (dec (tal n y) c) [] := (mem_ones (by omega)).mpr ⟨fun d hd => by
    rw [length_dec, length_tal]; exact hw d (List.mem_of_mem_erase hd), by rw [length_dec, length_tal]; exact ht⟩
  intro e
  rw [e] at this
  cases this
theorem via_mem {n : Nat} {y : List Nat} {m c : Nat} {pl : List Nat} (h : c ∈ via (ones n) [] m (tal n y) pl) : c ∈ y := mem_of_tal (via_pos h).1
/-- the first arrangement is the rising one, the last the falling one -/
theorem end_ones (ul : Bool) {n : Nat} : ∀ (v : List Nat), WOk n v → v.Pairwise (ordB ul) → endW ul (ones n) [] (tal n v).sum (tal n v) [] = v
  | [], _, _ => by
    have e : (tal n ([] : List Nat)).sum = 0 := by
      rw [sum_tal (fun c h => by cases h)]
      rfl
    rw [e]
    cases ul <;> rfl
  | c :: v, hw, hs => by
    have hc : c < n := hw c List.mem_cons_self
    obtain ⟨h1, h2⟩ := tal_cons' (y := v) hc
    have hsum : (tal n (c :: v)).sum = (tal n v).sum + 1 := by rw [h2]; exact (sum_dec h1).symm
    rw [hsum]
    have hv := via_ones hw (c := c) List.mem_cons_self
    rw [hsum, Nat.add_sub_cancel] at hv
    have hne : comps (ones n) [] ((tal n v).sum + 1) (tal n (c :: v)) [] ≠ [] := fun e => by
      have : c :: v ∈ comps (ones n) [] ((tal n v).sum + 1) (tal n (c :: v)) [] := (mem_ones hsum).mpr ⟨by rw [length_tal]; exact hw, by rw [length_tal]⟩
      rw [e] at this
      cases this
    obtain ⟨d, hd, hdm, hdw⟩ := end_step ul hne
    have hdc : d = c := by
      have hdv : d ∈ c :: v := via_mem hdm
      have a1 : ordB ul d c := endL_ext (via_rising _ _ _ _ _) hd c hv
      have a2 : ordB ul c d := by
        rcases List.mem_cons.mp hdv with rfl | hdv
        · exact ordB_refl _ _
        · exact (List.pairwise_cons.mp hs).1 d hdv
      exact ordB_anti a1 a2
    rw [hdw, hdc, red_ones, ← h2, end_ones ul v (fun e he => hw e (List.mem_cons_of_mem _ he)) (List.pairwise_cons.mp hs).2]
theorem stPl_ones (n : Nat) (wd : List Nat) (i : Nat) : stPl (ones n) wd i = [] := red_ones n _
theorem stRem_ones (n : Nat) (wd : List Nat) (i : Nat) : stRem (ones n).length wd i = tal n (wd.drop i) := by
  unfold stRem
  rw [List.length_replicate]
theorem advOpts_ones (bw : Bool) (n : Nat) (wd : List Nat) (p : Nat) : advOpts bw (ones n) [] wd p = (via (ones n) [] ((tal n (wd.drop p)).sum - 1) (tal n (wd.drop p)) []).filter (advP bw (wd.getD p 0)) := by
  unfold advOpts
  rw [stRem_ones, stPl_ones]
/-- behind the first bead nothing can be raised (lowered): the rest stands the other way -/
theorem adv_tail (bw : Bool) {n : Nat} {x : Nat} {t : List Nat} (hs : t.Pairwise (ordB (!bw))) : ∀ p, p ≤ t.length → advM bw (ones n) [] (x :: t) (p + 1) = advM bw (ones n) [] (x :: t) 1
  | 0, _ => rfl
  | p + 1, hp => by
    rw [← adv_tail bw hs p (by omega)]
    apply advM_none
    rw [advOpts_ones]
    have he : (via (ones n) [] ((tal n ((x :: t).drop (p + 1))).sum - 1) (tal n ((x :: t).drop (p + 1))) []).filter (advP bw ((x :: t).getD (p + 1) 0)) = [] := by
      rw [List.filter_eq_nil_iff]
      intro d hd
      have hdm : d ∈ t.drop p := via_mem hd
      have hdrop : t.drop p = t[p] :: t.drop (p + 1) := List.drop_eq_getElem_cons (by omega)
      have hget : (x :: t).getD (p + 1) 0 = t[p] := by
        show t.getD p 0 = _
        rw [List.getD_eq_getElem?_getD, List.getElem?_eq_getElem (by omega)]
        rfl
      have hsd : (t.drop p).Pairwise (ordB (!bw)) := hs.sublist (List.drop_sublist p t)
      rw [hdrop] at hdm hsd
      rw [hget]
      have hle : ordB (!bw) t[p] d := by
        rcases List.mem_cons.mp hdm with rfl | h
        · exact ordB_refl _ _
        · exact (List.pairwise_cons.mp hsd).1 d h
      unfold advP
      cases bw with
      | true =>
        have hle : t[p] ≤ d := hle
        rw [if_pos rfl, decide_eq_true_eq]
        omega
      | false =>
        have hle : d ≤ t[p] := hle
        rw [if_neg (by decide), decide_eq_true_eq]
        omega
    rw [he]
    cases bw <;> rfl
theorem adv_is (bw : Bool) {n x y : Nat} {t u : List Nat} (hw : WOk n (x :: t)) (hs : t.Pairwise (ordB (!bw))) (hu : u.Pairwise (ordB bw)) (hp : (y :: u).Perm (x :: t)) (hxy : advP bw x y = true) (hext : ∀ z ∈ t, advP bw x z = true → ordB bw y z) :
    advM bw (ones n) [] (x :: t) (x :: t).length = some (y :: u) := by
  rw [List.length_cons, adv_tail bw hs t.length (Nat.le_refl _)]
  have hym : y ∈ x :: t := hp.mem_iff.mp List.mem_cons_self
  have hyn : y < n := hw y hym
  have hend : endL bw (advOpts bw (ones n) [] (x :: t) 0) = some y := by
    rw [advOpts_ones]
    show endL bw ((via (ones n) [] ((tal n (x :: t)).sum - 1) (tal n (x :: t)) []).filter (advP bw x)) = _
    refine endL_is ((via_rising _ _ _ _ _).filter _) (List.mem_filter.mpr ⟨via_ones hw hym, hxy⟩) fun z hz => ?_
    obtain ⟨h1, h2⟩ := List.mem_filter.mp hz
    rcases List.mem_cons.mp (via_mem h1) with rfl | h
    · exfalso
      unfold advP at h2
      cases bw <;> simp at h2
    · exact hext z h h2
  rw [advM_some hend]
  congr 1
  show y :: _ = _
  congr 1
  have ht : tal n u = dec (tal n (x :: t)) y := by
    have := (tal_cons' (n := n) (c := y) (y := u) hyn).2
    rw [tal_perm hp] at this
    exact this
  have hpos : 0 < (tal n (x :: t)).getD y 0 := tal_pos hyn hym
  have hsd := sum_dec hpos
  rw [stRem_ones, red_ones]
  show endW bw (ones n) [] ((tal n (x :: t)).sum - 1) (dec (tal n (x :: t)) y) [] = u
  rw [show (tal n (x :: t)).sum - 1 = (dec (tal n (x :: t)) y).sum by omega, ← ht]
  exact end_ones bw u (fun c hc => hw c (hp.mem_iff.mp (List.mem_cons_of_mem _ hc))) hu
end
end Pk

namespace Pk
theorem perm_take (v : List Nat) {i : Nat} (hi : i < v.length) : (v.getD i 0 :: (v.take i ++ v.drop (i + 1))).Perm v := by
  have e : v = v.take i ++ v.getD i 0 :: v.drop (i + 1) := by
    have h := List.take_append_drop i v
    rw [List.drop_eq_getElem_cons hi] at h
    have hg : v.getD i 0 = v[i] := by rw [List.getD_eq_getElem?_getD, List.getElem?_eq_getElem hi]; rfl
    rw [hg]
    exact h.symm
  have h := (List.perm_middle (a := v.getD i 0) (l₁ := v.take i) (l₂ := v.drop (i + 1))).symm
  rw [← e] at h
  exact h
theorem sorted_take {v : List Nat} (hs : v.Pairwise (· ≤ ·)) {i : Nat} (hi : i < v.length) : (v.take i ++ v.drop (i + 1)).Pairwise (· ≤ ·) ∧ (∀ z ∈ v.take i, z ≤ v.getD i 0) ∧ ∀ z ∈ v.drop (i + 1), v.getD i 0 ≤ z := by
  have hg : v.getD i 0 = v[i] := by rw [List.getD_eq_getElem?_getD, List.getElem?_eq_getElem hi]; rfl
  have h := List.take_append_drop i v
  rw [List.drop_eq_getElem_cons hi, ← hg] at h
  rw [← h] at hs
  obtain ⟨h1, h2, h3⟩ := List.pairwise_append.mp hs
  obtain ⟨h4, h5⟩ := List.pairwise_cons.mp h2
  exact ⟨List.pairwise_append.mpr ⟨h1, h5, fun a ha b hb => h3 a ha b (List.mem_cons_of_mem _ hb)⟩, fun z hz => h3 z hz _ List.mem_cons_self, h4⟩
theorem take_le {v : List Nat} (hs : v.Pairwise (· ≤ ·)) {i : Nat} (h1 : 1 ≤ i) (hi : i < v.length) : ∀ z ∈ v.take i, z ≤ v.getD (i - 1) 0 := by
  intro z hz
  obtain ⟨j, hj, e⟩ := List.mem_iff_getElem.mp hz
  rw [List.length_take] at hj
  rw [List.getElem_take] at e
  have hg : v.getD (i - 1) 0 = v[i - 1] := by rw [List.getD_eq_getElem?_getD, List.getElem?_eq_getElem (by omega)]; rfl
  rw [hg, ← e]
  by_cases q : j = i - 1
  · subst q; exact Nat.le_refl _
  · exact List.pairwise_iff_getElem.mp hs j (i - 1) (by omega) (by omega) (by omega)
theorem drop_ge {v : List Nat} (hs : v.Pairwise (· ≤ ·)) {i : Nat} (hi : i < v.length) : ∀ z ∈ v.drop i, v.getD i 0 ≤ z := by
  intro z hz
  rw [List.drop_eq_getElem_cons hi] at hz
  have hg : v.getD i 0 = v[i] := by rw [List.getD_eq_getElem?_getD, List.getElem?_eq_getElem hi]; rfl
  rcases List.mem_cons.mp hz with rfl | hz
  · rw [hg]; exact Nat.le_refl _
  · exact (sorted_take hs hi).2.2 z hz
theorem lt_at {v : List Nat} (hs : v.Pairwise (· ≤ ·)) {i : Nat} (h1 : 1 ≤ i) (hi : i < v.length) (hne : v.getD i 0 ≠ v.getD (i - 1) 0) : v.getD (i - 1) 0 < v.getD i 0 := by
  have hg : v.getD (i - 1) 0 = v[i - 1] := by rw [List.getD_eq_getElem?_getD, List.getElem?_eq_getElem (by omega)]; rfl
  have hg2 : v.getD i 0 = v[i] := by rw [List.getD_eq_getElem?_getD, List.getElem?_eq_getElem hi]; rfl
  have := List.pairwise_iff_getElem.mp hs (i - 1) i (by omega) hi (by omega)
  rw [← hg, ← hg2] at this
  omega
theorem perm_before (v : List Nat) {i : Nat} (h1 : 1 ≤ i) (hi : i < v.length) : (moveBefore v i).Perm v := by
  unfold moveBefore
  have h := perm_take v (i := i - 1) (by omega)
  rw [show i - 1 + 1 = i by omega] at h
  exact ((List.reverse_perm _).cons _).trans h
theorem prev_is {n : Nat} {v : List Nat} {i : Nat} (hw : WOk n v) (hs : v.Pairwise (· ≤ ·)) (h1 : 1 ≤ i) (hi : i < v.length) (hne : v.getD i 0 ≠ v.getD (i - 1) 0) :
    advM true (ones n) (red (ones n) (moveStart v i)) (moveStart v i) (moveStart v i).length = some (moveBefore v i) := by
  rw [red_ones]
  have hps : (moveStart v i).Perm v := perm_take v hi
  have hpb := perm_before v h1 hi
  have hlt := lt_at hs h1 hi hne
  have hsb := (sorted_take hs (i := i - 1) (by omega)).1
  rw [show i - 1 + 1 = i by omega] at hsb
  refine adv_is true (n := n) (fun c hc => hw c (hps.mem_iff.mp hc)) (sorted_take hs hi).1 ?_ (hpb.trans hps.symm) (decide_eq_true hlt) fun z hz hz2 => ?_
  · exact List.pairwise_reverse.mpr hsb
  · have hz2 : z < v.getD i 0 := of_decide_eq_true hz2
    show z ≤ v.getD (i - 1) 0
    rcases List.mem_append.mp hz with hz | hz
    · exact take_le hs h1 hi z hz
    · have := (sorted_take hs hi).2.2 z hz
      omega
theorem next_is {n : Nat} {v : List Nat} {i : Nat} (hw : WOk n v) (hs : v.Pairwise (· ≤ ·)) (h1 : 1 ≤ i) (hi : i < v.length) (hne : v.getD i 0 ≠ v.getD (i - 1) 0) :
    advM false (ones n) (red (ones n) (moveBefore v i)) (moveBefore v i) (moveBefore v i).length = some (moveStart v i) := by
  rw [red_ones]
  have hps : (moveStart v i).Perm v := perm_take v hi
  have hpb := perm_before v h1 hi
  have hlt := lt_at hs h1 hi hne
  have hsb := (sorted_take hs (i := i - 1) (by omega)).1
  rw [show i - 1 + 1 = i by omega] at hsb
  refine adv_is false (n := n) (fun c hc => hw c (hpb.mem_iff.mp hc)) (List.pairwise_reverse.mpr hsb) (sorted_take hs hi).1 (hps.trans hpb.symm) (decide_eq_true hlt) fun z hz hz2 => ?_
  have hz2 : v.getD (i - 1) 0 < z := of_decide_eq_true hz2
  show v.getD i 0 ≤ z
  rcases List.mem_append.mp (List.mem_reverse.mp hz) with hz | hz
  · have := (sorted_take hs (i := i - 1) (by omega)).2.1 z hz
    omega
  · exact drop_ge hs hi z hz
theorem ends_one (ul : Bool) (sz tgt : List Nat) (m : Nat) (rem pl x : List Nat) (h : comps sz tgt m rem pl = [x]) : endW ul sz tgt m rem pl = x := by
  unfold endW fstW lstW
  rw [h]
  cases ul <;> rfl
theorem end_five : ∀ k, k < 5 → ∀ m, m < 4 → 1 ≤ k → cnt [k, 4] (List.replicate k 0 ++ List.replicate m 1) (tal [k, 4].length (List.replicate k 0 ++ List.replicate m 1)) [] = m + 1 := by decide +kernel
theorem facts : Facts where
  rest := fun sz wd hz hw _ => by
    have hr := red_red hz.pos wd
    have h := comps_red hz.pos (wd := red sz wd) (fun c hc => lt_red hw c hc) hr
    unfold cnt
    rw [h]
    rfl
  ends := fun ul sz wd hz hw _ => by
    have hr := red_red hz.pos wd
    exact ends_one ul _ _ _ _ _ _ (comps_red hz.pos (wd := red sz wd) (fun c hc => lt_red hw c hc) hr)
  moves := fun sz wd hz hw _ => moves_iff hz.pos hw
  redO := red_ones
  count := fun n wd _ hw hl => count_is hw hl
  first := fun n wd hw => by
    rw [red_ones, show (ones n).length = n from List.length_replicate, ← tal_perm (srt_perm wd)]
    exact end_ones false (srt wd) (fun c hc => hw c ((srt_perm wd).mem_iff.mp hc)) (srt_sorted wd)
  last := fun n wd hw => by
    have hp : (srt wd).reverse.Perm wd := (List.reverse_perm _).trans (srt_perm wd)
    rw [red_ones, show (ones n).length = n from List.length_replicate, ← tal_perm hp]
    exact end_ones true (srt wd).reverse (fun c hc => hw c (hp.mem_iff.mp hc)) (List.pairwise_reverse.mpr (srt_sorted wd))
  prev := fun n v i hw hs h1 hi hne => prev_is hw hs h1 hi hne
  next := fun n v i hw hs h1 hi hne => next_is hw hs h1 hi hne
  end5 := fun k m h1 h2 h3 => end_five k (by omega) m (by omega) h1
end Pk

namespace Pk
open PySem PySem.Spec L2
open PyProof.Rows hiding St
set_option maxHeartbeats 0
def hfn : List He.DefD := [⟨("is_int_in", none), "is_int_in", "is_int_in", defArgs sIsInt, defBody sIsInt, defScope sIsInt, [], []⟩,
  ⟨("check_sizes", none), "check_sizes", "check_sizes", defArgs sCheckSizes, defBody sCheckSizes, defScope sCheckSizes, [], []⟩,
  ⟨("colors_of", none), "colors_of", "colors_of", defArgs sColors, defBody sColors, defScope sColors, [], []⟩,
  ⟨("size_of", none), "size_of", "size_of", defArgs sSizeOf, defBody sSizeOf, defScope sSizeOf, [], []⟩,
  ⟨("check_row", none), "check_row", "check_row", defArgs sCheckRow, defBody sCheckRow, defScope sCheckRow, [], []⟩,
  ⟨("check_short", none), "check_short", "check_short", defArgs sCheckShort, defBody sCheckShort, defScope sCheckShort, [], []⟩,
  ⟨("tally", none), "tally", "tally", defArgs sTally, defBody sTally, defScope sTally, [], []⟩,
  ⟨("split_runs", none), "split_runs", "split_runs", defArgs sSplit, defBody sSplit, defScope sSplit, [], []⟩,
  ⟨("reduce_row", none), "reduce_row", "reduce_row", defArgs sReduce, defBody sReduce, defScope sReduce, [], []⟩,
  ⟨("residue", none), "residue", "residue", defArgs sResidue, defBody sResidue, defScope sResidue, [], []⟩,
  ⟨("invert_row", none), "invert_row", "invert_row", defArgs sInvert, defBody sInvert, defScope sInvert, [], []⟩,
  ⟨("check_countable", none), "check_countable", "check_countable", defArgs sCountable, defBody sCountable, defScope sCountable, [], []⟩,
  ⟨("count_reachable", none), "count_reachable", "count_reachable", defArgs sCount, defBody sCount, defScope sCount, [], []⟩,
  ⟨("complete", none), "complete", "complete", defArgs sComplete, defBody sComplete, defScope sComplete, [], []⟩,
  ⟨("first_reachable", none), "first_reachable", "first_reachable", defArgs sFirst, defBody sFirst, defScope sFirst, [], []⟩,
  ⟨("last_reachable", none), "last_reachable", "last_reachable", defArgs sLast, defBody sLast, defScope sLast, [], []⟩,
  ⟨("adjacent", none), "adjacent", "adjacent", defArgs sAdjacent, defBody sAdjacent, defScope sAdjacent, [], []⟩,
  ⟨("next_reachable", none), "next_reachable", "next_reachable", defArgs sNext, defBody sNext, defScope sNext, [], []⟩,
  ⟨("previous_reachable", none), "previous_reachable", "previous_reachable", defArgs sPrev, defBody sPrev, defScope sPrev, [], []⟩,
  ⟨("is_pack", none), "is_pack", "is_pack", defArgs sIsPack, defBody sIsPack, defScope sIsPack, [], []⟩,
  ⟨("reject_reason", none), "reject_reason", "reject_reason", defArgs sReject, defBody sReject, defScope sReject, [], []⟩,
  ⟨("list_moves", none), "list_moves", "list_moves", defArgs sList, defBody sList, defScope sList, [], []⟩,
  ⟨("legal_moves", none), "legal_moves", "legal_moves", defArgs sLegal, defBody sLegal, defScope sLegal, [], []⟩,
  ⟨("_law_random", none), "_law_random", "_law_random", defArgs sRandom, defBody sRandom, defScope sRandom, [], []⟩,
  ⟨("_law_below", none), "_law_below", "_law_below", defArgs sBelow, defBody sBelow, defScope sBelow, [], []⟩,
  ⟨("_law_sizes", none), "_law_sizes", "_law_sizes", defArgs sSizes, defBody sSizes, defScope sSizes, [], []⟩,
  ⟨("_law_row", none), "_law_row", "_law_row", defArgs sRow, defBody sRow, defScope sRow, [], []⟩,
  ⟨("law", none), "law", "law", defArgs sLaw, defBody sLaw, defScope sLaw, [], []⟩,
  ⟨("RowCounter", some "__init__"), "__init__", "RowCounter.__init__", defArgs sInit, defBody sInit, defScope sInit, [], []⟩,
  ⟨("RowCounter", some "successors"), "successors", "RowCounter.successors", defArgs sSucc, defBody sSucc, defScope sSucc, [], []⟩,
  ⟨("RowCounter", some "is_feasible"), "is_feasible", "RowCounter.is_feasible", defArgs sFeas, defBody sFeas, defScope sFeas, [], []⟩,
  ⟨("RowCounter", some "ways"), "ways", "RowCounter.ways", defArgs sWays, defBody sWays, defScope sWays, [], []⟩,
  ⟨("RowCounter", some "viable"), "viable", "RowCounter.viable", defArgs sViable, defBody sViable, defScope sViable, [], []⟩]
def hfa : List He.Fa := [.glo "is_int_in", .glo "check_sizes", .glo "colors_of", .glo "size_of", .glo "check_row", .glo "check_short", .glo "tally", .glo "split_runs", .glo "reduce_row", .glo "residue", .glo "invert_row", .glo "check_countable", .glo "count_reachable", .glo "complete", .glo "first_reachable", .glo "last_reachable", .glo "adjacent", .glo "next_reachable", .glo "previous_reachable", .glo "is_pack", .glo "reject_reason", .glo "list_moves", .glo "legal_moves", .glo "_law_random", .glo "_law_below", .glo "_law_sizes", .glo "_law_row", .glo "law", .glo "RowCounter", .glo "SIDES", .cls "RowCounter", .noat "RowCounter" "sizes", .noat "RowCounter" "target", .noat "RowCounter" "start", .noat "RowCounter" "cache", .meth "RowCounter" "successors", .meth "RowCounter" "is_feasible", .meth "RowCounter" "ways", .meth "RowCounter" "viable", .mkr "RowCounter", .free "isinstance", .free "int", .free "bool", .free "tuple", .free "str", .free "enumerate", .free "len", .free "sum", .free "all", .free "zip", .free "range", .free "sorted", .free "abs", .str "COLORS" "abcdef", .str "LEFT" "left", .int "MAX_SIZE" 4, .int "MAX_BEADS" 40, .int "MAX_SHORT" 12]
def hex (K : PySem.W.Frag) : Bool := He.tupB K "SIDES" [.str "left", .str "right"]
abbrev HR : PySem.W.OpenRow := PySem.W.OpenLaw.row PySem.Challenge.rw_packrow_k16_whole_known_counts
abbrev hk : PySem.W.Hook := He.hookX 6 hfa hfn [] [] hex
def hob (s : PySem.W.SharedT) : He.AlX := He.obsX 6 hfa hfn [] [] hex (HandSHeadRun.getT s)
theorem hob_eq (s : PySem.W.SharedT) : hob s = hk.obs s.abs := He.obsX_eq (HandSHeadRun.getT_eq s)
section
variable {P : Program} {w : World} {K : PySem.W.Frag} {mg : Str → Option Value} {h : Heap}
theorem txt_of (X : K.In h) (G : h.Ns mainGlobals mg) (c : He.SaysD hfa hfn K) (hx : hex K = true) : Txt K mg where
  isinstance := He.free_ok X G (c.fact 40 (f := .free "isinstance") rfl)
  int := He.free_ok X G (c.fact 41 (f := .free "int") rfl)
  bool := He.free_ok X G (c.fact 42 (f := .free "bool") rfl)
  tuple := He.free_ok X G (c.fact 43 (f := .free "tuple") rfl)
  str := He.free_ok X G (c.fact 44 (f := .free "str") rfl)
  enumerate := He.free_ok X G (c.fact 45 (f := .free "enumerate") rfl)
  len := He.free_ok X G (c.fact 46 (f := .free "len") rfl)
  sum := He.free_ok X G (c.fact 47 (f := .free "sum") rfl)
  all := He.free_ok X G (c.fact 48 (f := .free "all") rfl)
  zip := He.free_ok X G (c.fact 49 (f := .free "zip") rfl)
  range := He.free_ok X G (c.fact 50 (f := .free "range") rfl)
  sorted := He.free_ok X G (c.fact 51 (f := .free "sorted") rfl)
  abs := He.free_ok X G (c.fact 52 (f := .free "abs") rfl)
  colors := He.str_ok X G (c.fact 53 (f := .str "COLORS" "abcdef") rfl)
  maxSize := He.int_ok X G (c.fact 55 (f := .int "MAX_SIZE" 4) rfl)
  maxBeads := He.int_ok X G (c.fact 56 (f := .int "MAX_BEADS" 40) rfl)
  maxShort := He.int_ok X G (c.fact 57 (f := .int "MAX_SHORT" 12) rfl)
  left := He.str_ok X G (c.fact 54 (f := .str "LEFT" "left") rfl)
  sides := ⟨_, He.glo_ok X G (c.fact 29 (f := .glo "SIDES") rfl), fun H => He.tupB_ok hx H⟩
theorem cls_of (X : K.In h) (G : h.Ns mainGlobals mg) (c : He.SaysD hfa hfn K) : ClsF K mg (He.ga K "RowCounter") where
  cl := He.cls_ok (c.fact 30 (f := .cls "RowCounter") rfl)
  nSizes := He.noat_ok (c.fact 31 (f := .noat "RowCounter" "sizes") rfl)
  nTarget := He.noat_ok (c.fact 32 (f := .noat "RowCounter" "target") rfl)
  nStart := He.noat_ok (c.fact 33 (f := .noat "RowCounter" "start") rfl)
  nCache := He.noat_ok (c.fact 34 (f := .noat "RowCounter" "cache") rfl)
  mgC := He.glo_ok X G (c.fact 28 (f := .glo "RowCounter") rfl)
theorem all_of (X : K.In h) (G : h.Ns mainGlobals mg) (c : He.SaysD hfa hfn K) (hx : hex K = true) (M : Facts) {f : Addr} (hfa' : mg ("law" : Str) = some (.ref f)) :
    ∃ fd : FuncData, (∀ (s : Shared) (v : Value), BindsTo s fd ⟨[v], []⟩ [("_law_script", v)]) ∧ ∀ base : Heap, K.In base → base.Ns mainGlobals mg → FnOk P w K mg base CX0 22 f fd ["_law_script"] (spLaw K) := by
  have T := txt_of X G c hx
  have C := cls_of X G c
  obtain ⟨fd_is_int_in, F_is_int_in⟩ := c.def_ 0 (d := ⟨("is_int_in", none), "is_int_in", "is_int_in", defArgs sIsInt, defBody sIsInt, defScope sIsInt, [], []⟩) rfl
  have g_is_int_in := He.glo_ok X G (c.fact 0 (f := .glo "is_int_in") rfl)
  obtain ⟨fd_check_sizes, F_check_sizes⟩ := c.def_ 1 (d := ⟨("check_sizes", none), "check_sizes", "check_sizes", defArgs sCheckSizes, defBody sCheckSizes, defScope sCheckSizes, [], []⟩) rfl
  have g_check_sizes := He.glo_ok X G (c.fact 1 (f := .glo "check_sizes") rfl)
  obtain ⟨fd_colors_of, F_colors_of⟩ := c.def_ 2 (d := ⟨("colors_of", none), "colors_of", "colors_of", defArgs sColors, defBody sColors, defScope sColors, [], []⟩) rfl
  have g_colors_of := He.glo_ok X G (c.fact 2 (f := .glo "colors_of") rfl)
  obtain ⟨fd_size_of, F_size_of⟩ := c.def_ 3 (d := ⟨("size_of", none), "size_of", "size_of", defArgs sSizeOf, defBody sSizeOf, defScope sSizeOf, [], []⟩) rfl
  have g_size_of := He.glo_ok X G (c.fact 3 (f := .glo "size_of") rfl)
  obtain ⟨fd_check_row, F_check_row⟩ := c.def_ 4 (d := ⟨("check_row", none), "check_row", "check_row", defArgs sCheckRow, defBody sCheckRow, defScope sCheckRow, [], []⟩) rfl
  have g_check_row := He.glo_ok X G (c.fact 4 (f := .glo "check_row") rfl)
  obtain ⟨fd_check_short, F_check_short⟩ := c.def_ 5 (d := ⟨("check_short", none), "check_short", "check_short", defArgs sCheckShort, defBody sCheckShort, defScope sCheckShort, [], []⟩) rfl
  have g_check_short := He.glo_ok X G (c.fact 5 (f := .glo "check_short") rfl)
  obtain ⟨fd_tally, F_tally⟩ := c.def_ 6 (d := ⟨("tally", none), "tally", "tally", defArgs sTally, defBody sTally, defScope sTally, [], []⟩) rfl
  have g_tally := He.glo_ok X G (c.fact 6 (f := .glo "tally") rfl)
  obtain ⟨fd_split_runs, F_split_runs⟩ := c.def_ 7 (d := ⟨("split_runs", none), "split_runs", "split_runs", defArgs sSplit, defBody sSplit, defScope sSplit, [], []⟩) rfl
  have g_split_runs := He.glo_ok X G (c.fact 7 (f := .glo "split_runs") rfl)
  obtain ⟨fd_reduce_row, F_reduce_row⟩ := c.def_ 8 (d := ⟨("reduce_row", none), "reduce_row", "reduce_row", defArgs sReduce, defBody sReduce, defScope sReduce, [], []⟩) rfl
  have g_reduce_row := He.glo_ok X G (c.fact 8 (f := .glo "reduce_row") rfl)
  obtain ⟨fd_residue, F_residue⟩ := c.def_ 9 (d := ⟨("residue", none), "residue", "residue", defArgs sResidue, defBody sResidue, defScope sResidue, [], []⟩) rfl
  have g_residue := He.glo_ok X G (c.fact 9 (f := .glo "residue") rfl)
  obtain ⟨fd_invert_row, F_invert_row⟩ := c.def_ 10 (d := ⟨("invert_row", none), "invert_row", "invert_row", defArgs sInvert, defBody sInvert, defScope sInvert, [], []⟩) rfl
  have g_invert_row := He.glo_ok X G (c.fact 10 (f := .glo "invert_row") rfl)
  obtain ⟨fd_check_countable, F_check_countable⟩ := c.def_ 11 (d := ⟨("check_countable", none), "check_countable", "check_countable", defArgs sCountable, defBody sCountable, defScope sCountable, [], []⟩) rfl
  have g_check_countable := He.glo_ok X G (c.fact 11 (f := .glo "check_countable") rfl)
  obtain ⟨fd_count_reachable, F_count_reachable⟩ := c.def_ 12 (d := ⟨("count_reachable", none), "count_reachable", "count_reachable", defArgs sCount, defBody sCount, defScope sCount, [], []⟩) rfl
  have g_count_reachable := He.glo_ok X G (c.fact 12 (f := .glo "count_reachable") rfl)
  obtain ⟨fd_complete, F_complete⟩ := c.def_ 13 (d := ⟨("complete", none), "complete", "complete", defArgs sComplete, defBody sComplete, defScope sComplete, [], []⟩) rfl
  have g_complete := He.glo_ok X G (c.fact 13 (f := .glo "complete") rfl)
  obtain ⟨fd_first_reachable, F_first_reachable⟩ := c.def_ 14 (d := ⟨("first_reachable", none), "first_reachable", "first_reachable", defArgs sFirst, defBody sFirst, defScope sFirst, [], []⟩) rfl
  have g_first_reachable := He.glo_ok X G (c.fact 14 (f := .glo "first_reachable") rfl)
  obtain ⟨fd_last_reachable, F_last_reachable⟩ := c.def_ 15 (d := ⟨("last_reachable", none), "last_reachable", "last_reachable", defArgs sLast, defBody sLast, defScope sLast, [], []⟩) rfl
  have g_last_reachable := He.glo_ok X G (c.fact 15 (f := .glo "last_reachable") rfl)
  obtain ⟨fd_adjacent, F_adjacent⟩ := c.def_ 16 (d := ⟨("adjacent", none), "adjacent", "adjacent", defArgs sAdjacent, defBody sAdjacent, defScope sAdjacent, [], []⟩) rfl
  have g_adjacent := He.glo_ok X G (c.fact 16 (f := .glo "adjacent") rfl)
  obtain ⟨fd_next_reachable, F_next_reachable⟩ := c.def_ 17 (d := ⟨("next_reachable", none), "next_reachable", "next_reachable", defArgs sNext, defBody sNext, defScope sNext, [], []⟩) rfl
  have g_next_reachable := He.glo_ok X G (c.fact 17 (f := .glo "next_reachable") rfl)
  obtain ⟨fd_previous_reachable, F_previous_reachable⟩ := c.def_ 18 (d := ⟨("previous_reachable", none), "previous_reachable", "previous_reachable", defArgs sPrev, defBody sPrev, defScope sPrev, [], []⟩) rfl
  have g_previous_reachable := He.glo_ok X G (c.fact 18 (f := .glo "previous_reachable") rfl)
  obtain ⟨fd_is_pack, F_is_pack⟩ := c.def_ 19 (d := ⟨("is_pack", none), "is_pack", "is_pack", defArgs sIsPack, defBody sIsPack, defScope sIsPack, [], []⟩) rfl
  have g_is_pack := He.glo_ok X G (c.fact 19 (f := .glo "is_pack") rfl)
  obtain ⟨fd_reject_reason, F_reject_reason⟩ := c.def_ 20 (d := ⟨("reject_reason", none), "reject_reason", "reject_reason", defArgs sReject, defBody sReject, defScope sReject, [], []⟩) rfl
  have g_reject_reason := He.glo_ok X G (c.fact 20 (f := .glo "reject_reason") rfl)
  obtain ⟨fd_list_moves, F_list_moves⟩ := c.def_ 21 (d := ⟨("list_moves", none), "list_moves", "list_moves", defArgs sList, defBody sList, defScope sList, [], []⟩) rfl
  have g_list_moves := He.glo_ok X G (c.fact 21 (f := .glo "list_moves") rfl)
  obtain ⟨fd_legal_moves, F_legal_moves⟩ := c.def_ 22 (d := ⟨("legal_moves", none), "legal_moves", "legal_moves", defArgs sLegal, defBody sLegal, defScope sLegal, [], []⟩) rfl
  have g_legal_moves := He.glo_ok X G (c.fact 22 (f := .glo "legal_moves") rfl)
  obtain ⟨fd_law_random, F_law_random⟩ := c.def_ 23 (d := ⟨("_law_random", none), "_law_random", "_law_random", defArgs sRandom, defBody sRandom, defScope sRandom, [], []⟩) rfl
  have g_law_random := He.glo_ok X G (c.fact 23 (f := .glo "_law_random") rfl)
  obtain ⟨fd_law_below, F_law_below⟩ := c.def_ 24 (d := ⟨("_law_below", none), "_law_below", "_law_below", defArgs sBelow, defBody sBelow, defScope sBelow, [], []⟩) rfl
  have g_law_below := He.glo_ok X G (c.fact 24 (f := .glo "_law_below") rfl)
  obtain ⟨fd_law_sizes, F_law_sizes⟩ := c.def_ 25 (d := ⟨("_law_sizes", none), "_law_sizes", "_law_sizes", defArgs sSizes, defBody sSizes, defScope sSizes, [], []⟩) rfl
  have g_law_sizes := He.glo_ok X G (c.fact 25 (f := .glo "_law_sizes") rfl)
  obtain ⟨fd_law_row, F_law_row⟩ := c.def_ 26 (d := ⟨("_law_row", none), "_law_row", "_law_row", defArgs sRow, defBody sRow, defScope sRow, [], []⟩) rfl
  have g_law_row := He.glo_ok X G (c.fact 26 (f := .glo "_law_row") rfl)
  obtain ⟨fd_law, F_law⟩ := c.def_ 27 (d := ⟨("law", none), "law", "law", defArgs sLaw, defBody sLaw, defScope sLaw, [], []⟩) rfl
  have g_law := He.glo_ok X G (c.fact 27 (f := .glo "law") rfl)
  obtain ⟨fm_init, M_init⟩ := c.def_ 28 (d := ⟨("RowCounter", some "__init__"), "__init__", "RowCounter.__init__", defArgs sInit, defBody sInit, defScope sInit, [], []⟩) rfl
  obtain ⟨fm_successors, M_successors⟩ := c.def_ 29 (d := ⟨("RowCounter", some "successors"), "successors", "RowCounter.successors", defArgs sSucc, defBody sSucc, defScope sSucc, [], []⟩) rfl
  have m_successors := He.meth_ok (c.fact 35 (f := .meth "RowCounter" "successors") rfl)
  obtain ⟨fm_is_feasible, M_is_feasible⟩ := c.def_ 30 (d := ⟨("RowCounter", some "is_feasible"), "is_feasible", "RowCounter.is_feasible", defArgs sFeas, defBody sFeas, defScope sFeas, [], []⟩) rfl
  have m_is_feasible := He.meth_ok (c.fact 36 (f := .meth "RowCounter" "is_feasible") rfl)
  obtain ⟨fm_ways, M_ways⟩ := c.def_ 31 (d := ⟨("RowCounter", some "ways"), "ways", "RowCounter.ways", defArgs sWays, defBody sWays, defScope sWays, [], []⟩) rfl
  have m_ways := He.meth_ok (c.fact 37 (f := .meth "RowCounter" "ways") rfl)
  obtain ⟨fm_viable, M_viable⟩ := c.def_ 32 (d := ⟨("RowCounter", some "viable"), "viable", "RowCounter.viable", defArgs sViable, defBody sViable, defScope sViable, [], []⟩) rfl
  have m_viable := He.meth_ok (c.fact 38 (f := .meth "RowCounter" "viable") rfl)
  have mk0 := He.mkr_ok (c.fact 39 (f := .mkr "RowCounter") rfl)
  have e := hfa'.symm.trans g_law
  cases e
  refine ⟨fd_law, fun s v => FunD.bindsA (ps := ["_law_script"]) F_law (fun _ _ _ _ _ _ us h => match us, h with | [_], _ => rfl) s [v] rfl, fun base _ _ => ?_⟩
  have C_is_int_in := Cal.mk' (st := sIsInt) (P := P) (w := w) (base := base) (mg := mg) F_is_int_in g_is_int_in (ok_isInt F_is_int_in T) (fun _ _ _ _ _ _ us h => match us, h with | [_, _, _], _ => rfl)
  have C_check_sizes := Cal.mk' (st := sCheckSizes) (P := P) (w := w) (base := base) (mg := mg) F_check_sizes g_check_sizes (ok_checkSizes F_check_sizes T C_is_int_in) (fun _ _ _ _ _ _ us h => match us, h with | [_], _ => rfl)
  have C_colors_of := Cal.mk' (st := sColors) (P := P) (w := w) (base := base) (mg := mg) F_colors_of g_colors_of (ok_colors F_colors_of T) (fun _ _ _ _ _ _ us h => match us, h with | [_], _ => rfl)
  have C_size_of := Cal.mk' (st := sSizeOf) (P := P) (w := w) (base := base) (mg := mg) F_size_of g_size_of (ok_sizeOf F_size_of T) (fun _ _ _ _ _ _ us h => match us, h with | [_, _], _ => rfl)
  have C_check_row := Cal.mk' (st := sCheckRow) (P := P) (w := w) (base := base) (mg := mg) F_check_row g_check_row (ok_checkRow F_check_row T C_colors_of) (fun _ _ _ _ _ _ us h => match us, h with | [_, _], _ => rfl)
  have C_check_short := Cal.mk' (st := sCheckShort) (P := P) (w := w) (base := base) (mg := mg) F_check_short g_check_short (ok_checkShort F_check_short T) (fun _ _ _ _ _ _ us h => match us, h with | [_], _ => rfl)
  have C_tally := Cal.mk' (st := sTally) (P := P) (w := w) (base := base) (mg := mg) F_tally g_tally (ok_tally F_tally T C_colors_of) (fun _ _ _ _ _ _ us h => match us, h with | [_, _], _ => rfl)
  have C_split_runs := Cal.mk' (st := sSplit) (P := P) (w := w) (base := base) (mg := mg) F_split_runs g_split_runs (ok_split F_split_runs T C_size_of) (fun _ _ _ _ _ _ us h => match us, h with | [_, _], _ => rfl)
  have C_reduce_row := Cal.mk' (st := sReduce) (P := P) (w := w) (base := base) (mg := mg) F_reduce_row g_reduce_row (ok_reduce F_reduce_row T C_split_runs) (fun _ _ _ _ _ _ us h => match us, h with | [_, _], _ => rfl)
  have C_residue := Cal.mk' (st := sResidue) (P := P) (w := w) (base := base) (mg := mg) F_residue g_residue (ok_residue F_residue T C_check_sizes C_check_row C_reduce_row) (fun _ _ _ _ _ _ us h => match us, h with | [_, _], _ => rfl)
  have C_invert_row := Cal.mk' (st := sInvert) (P := P) (w := w) (base := base) (mg := mg) F_invert_row g_invert_row (ok_invert F_invert_row T C_split_runs C_size_of) (fun _ _ _ _ _ _ us h => match us, h with | [_, _], _ => rfl)
  have O_init := ok_init (P := P) (w := w) (base := base) M_init C C_reduce_row C_tally
  have MC : MkC P w K mg base (He.ga K "RowCounter") := ⟨_, _, mk0, O_init, FunD.bindsN M_init (fun _ _ _ _ _ _ us h => match us, h with | [_, _, _], _ => rfl)⟩
  have N_succ := CalM.mk' (st := sSucc) (P := P) (w := w) (base := base) (mg := mg) M_successors m_successors (ok_succ M_successors T C C_colors_of C_reduce_row) (fun _ _ _ _ _ _ us h => match us, h with | [_, _], _ => rfl)
  have N_feas := CalM.mk' (st := sFeas) (P := P) (w := w) (base := base) (mg := mg) M_is_feasible m_is_feasible (ok_feas M_is_feasible T C C_tally C_reduce_row C_invert_row) (fun _ _ _ _ _ _ us h => match us, h with | [_, _], _ => rfl)
  have N_ways := CalM.mk' (st := sWays) (P := P) (w := w) (base := base) (mg := mg) M_ways m_ways (ok_ways M_ways T C m_ways N_feas N_succ 13) (fun _ _ _ _ _ _ us h => match us, h with | [_, _], _ => rfl)
  have N_viable := CalM.mk' (st := sViable) (P := P) (w := w) (base := base) (mg := mg) M_viable m_viable (ok_viable M_viable T C N_succ N_ways) (fun _ _ _ _ _ _ us h => match us, h with | [_, _], _ => rfl)
  have C_check_countable := Cal.mk' (st := sCountable) (P := P) (w := w) (base := base) (mg := mg) F_check_countable g_check_countable (ok_countable F_check_countable T C_check_sizes C_check_row C_check_short) (fun _ _ _ _ _ _ us h => match us, h with | [_, _], _ => rfl)
  have C_count_reachable := Cal.mk' (st := sCount) (P := P) (w := w) (base := base) (mg := mg) F_count_reachable g_count_reachable (ok_count F_count_reachable T C C_check_countable MC N_ways) (fun _ _ _ _ _ _ us h => match us, h with | [_, _], _ => rfl)
  have K_complete := CalK.mk' (st := sComplete) (P := P) (w := w) (base := base) (mg := mg) (n := 3) (kn := "use_last") F_complete g_complete (ok_complete F_complete T C N_viable) (fun _ _ _ _ _ _ us ws h1 h2 => match us, ws, h1, h2 with | [_, _, _], [_], _, _ => rfl)
  have C_first_reachable := Cal.mk' (st := sFirst) (P := P) (w := w) (base := base) (mg := mg) F_first_reachable g_first_reachable (ok_first F_first_reachable T C C_check_countable MC K_complete) (fun _ _ _ _ _ _ us h => match us, h with | [_, _], _ => rfl)
  have C_last_reachable := Cal.mk' (st := sLast) (P := P) (w := w) (base := base) (mg := mg) F_last_reachable g_last_reachable (ok_last F_last_reachable T C C_check_countable MC K_complete) (fun _ _ _ _ _ _ us h => match us, h with | [_, _], _ => rfl)
  have K_adjacent := CalK.mk' (st := sAdjacent) (P := P) (w := w) (base := base) (mg := mg) (n := 2) (kn := "backward") F_adjacent g_adjacent (ok_adj F_adjacent T C MC N_succ N_viable K_complete) (fun _ _ _ _ _ _ us ws h1 h2 => match us, ws, h1, h2 with | [_, _], [_], _, _ => rfl)
  have C_next_reachable := Cal.mk' (st := sNext) (P := P) (w := w) (base := base) (mg := mg) F_next_reachable g_next_reachable (ok_next F_next_reachable C_check_countable K_adjacent) (fun _ _ _ _ _ _ us h => match us, h with | [_, _], _ => rfl)
  have C_previous_reachable := Cal.mk' (st := sPrev) (P := P) (w := w) (base := base) (mg := mg) F_previous_reachable g_previous_reachable (ok_prev F_previous_reachable C_check_countable K_adjacent) (fun _ _ _ _ _ _ us h => match us, h with | [_, _], _ => rfl)
  have C_is_pack := Cal.mk' (st := sIsPack) (P := P) (w := w) (base := base) (mg := mg) F_is_pack g_is_pack (ok_isPack F_is_pack C_size_of) (fun _ _ _ _ _ _ us h => match us, h with | [_, _, _], _ => rfl)
  have C_reject_reason := Cal.mk' (st := sReject) (P := P) (w := w) (base := base) (mg := mg) F_reject_reason g_reject_reason (ok_reject F_reject_reason T C_is_int_in C_size_of C_is_pack) (fun _ _ _ _ _ _ us h => match us, h with | [_, _, _], _ => rfl)
  have C_list_moves := Cal.mk' (st := sList) (P := P) (w := w) (base := base) (mg := mg) F_list_moves g_list_moves (ok_list F_list_moves T C_reject_reason) (fun _ _ _ _ _ _ us h => match us, h with | [_, _], _ => rfl)
  have C_legal_moves := Cal.mk' (st := sLegal) (P := P) (w := w) (base := base) (mg := mg) F_legal_moves g_legal_moves (ok_legal F_legal_moves C_check_sizes C_check_row C_list_moves) (fun _ _ _ _ _ _ us h => match us, h with | [_, _], _ => rfl)
  have C_law_random := Cal.mk' (st := sRandom) (P := P) (w := w) (base := base) (mg := mg) F_law_random g_law_random (ok_random F_law_random T) (fun _ _ _ _ _ _ us h => match us, h with | [_, _], _ => rfl)
  have C_law_below := Cal.mk' (st := sBelow) (P := P) (w := w) (base := base) (mg := mg) F_law_below g_law_below (ok_below F_law_below T) (fun _ _ _ _ _ _ us h => match us, h with | [_, _], _ => rfl)
  have C_law_sizes := Cal.mk' (st := sSizes) (P := P) (w := w) (base := base) (mg := mg) F_law_sizes g_law_sizes (ok_sizes F_law_sizes T C_law_below) (fun _ _ _ _ _ _ us h => match us, h with | [_, _], _ => rfl)
  have C_law_row := Cal.mk' (st := sRow) (P := P) (w := w) (base := base) (mg := mg) F_law_row g_law_row (ok_row F_law_row T C_law_below) (fun _ _ _ _ _ _ us h => match us, h with | [_, _, _], _ => rfl)
  exact ok_law F_law T M ⟨C_law_random, C_law_below, C_law_sizes, C_law_row, C_residue, C_count_reachable, C_first_reachable, C_last_reachable, C_legal_moves, C_next_reachable, C_previous_reachable⟩
end
def hloose : List Str := (["PackError", "RowTooLong", "InvalidSizes", "InvalidRow", "COLORS", "MAX_SIZE", "MAX_BEADS", "MAX_SHORT", "is_int_in", "check_sizes", "colors_of", "size_of", "check_row", "check_short", "tally", "split_runs", "reduce_row", "residue", "invert_row", "RowCounter"] : List Str) ++ (["check_countable", "count_reachable", "complete", "first_reachable", "last_reachable", "adjacent", "next_reachable", "previous_reachable", "LEFT", "RIGHT", "SIDES", "is_pack", "reject_reason", "list_moves", "legal_moves", "_law_random", "_law_below", "_law_sizes", "_law_row"] : List Str)
theorem hrun (w : World) : HandSHeadRun.RunEq HR (PySem.W.view HR.prog [45]) hk hob 20000 hloose w := by
  intro os
  kernel_rfl
end Pk
open PySem PySem.W PySem.Calls PyProof.Rows
theorem PySem.Challenge.cw_packrow_k16_whole_known_counts_holds : PySem.Challenge.rw_packrow_k16_whole_known_counts.Holds := by
  w_on; o_law
  refine HandSHeadRun.head_any (r := OpenLaw.row PySem.Challenge.rw_packrow_k16_whole_known_counts) (q := view (OpenLaw.row PySem.Challenge.rw_packrow_k16_whole_known_counts).prog [45]) (H := Pk.hk) (ob := Pk.hob) (M := 20000) (loose := Pk.hloose) (d := HandSHeadRun.topDef (OpenLaw.row PySem.Challenge.rw_packrow_k16_whole_known_counts).prog 45) (kwd := []) Pk.hob_eq
    (by kernel_rfl) (fun s => by kernel_rfl) Pk.hrun (by kernel_rfl) (by kernel_rfl) (by kernel_rfl) (by rfl) (by first | assumption | decide +kernel) (by decide +kernel) ⟨rfl, rfl, rfl, rfl, rfl, by decide +kernel⟩ ?hw ?hc
  case hw => w_witness2
  case hc =>
    refine L2.walk_ofE (l := PySem.Challenge.rw_packrow_k16_whole_known_counts) (n := 63) (k := 22) (x := "_law_script") (CX := L2.CX0) rfl (by decide) (by kernel_rfl) ⟨rfl, by decide, by decide⟩ ?F (fun _ _ _ _ z => z)
    intro w mg fa h Y G hmg0
    obtain ⟨K, KX, c⟩ := Y
    have hmg : mg ("law" : PySem.Str) = some (.ref fa) := by
      have e : (HandSHeadRun.topDef (OpenLaw.row PySem.Challenge.rw_packrow_k16_whole_known_counts).prog 45).name = ("law" : PySem.Str) := by kernel_rfl
      rw [← e]
      exact hmg0
    obtain ⟨fd, hb, hF⟩ := Pk.all_of (P := (PySem.Challenge.rw_packrow_k16_whole_known_counts).prog) (w := w) KX G c.t.d c.more Pk.facts hmg
    exact ⟨K, fd, Pk.spLaw K, KX, hb, fun H a ns hl _ hS => ⟨a, ns, rfl, hS, hl, fun _ => rfl⟩, hF⟩
