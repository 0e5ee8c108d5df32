import PyProof.Rows.All
import Wide.All
import OpenK.AllK
import Wide.FinOn
import HandS.ForMost
import HandS.TupAny
import KE.KDictKeyed
import KE.SortData
import PySem.Challenge.RW_textshards_k24_whole_certain_on_every_li
set_option autoImplicit false
/-! The mathematics: longest suffixes, the automaton over lines, closure. No Python here. -/
namespace TX
abbrev T := List Nat

def lsuf (P : T → Bool) : T → T
  | [] => []
  | c :: t => if P (c :: t) = true then c :: t else lsuf P t

theorem lsuf_suffix (P : T → Bool) : ∀ t, lsuf P t <:+ t
  | [] => List.suffix_refl _
  | c :: t => by
    unfold lsuf
    split
    · exact List.suffix_refl _
    · exact (lsuf_suffix P t).trans (List.suffix_cons c t)
theorem lsuf_P {P : T → Bool} (h0 : P [] = true) : ∀ t, P (lsuf P t) = true
  | [] => h0
  | c :: t => by
    unfold lsuf
    split
    · assumption
    · exact lsuf_P h0 t
theorem lsuf_max {P : T → Bool} : ∀ (t : T) {e : T}, e <:+ t → P e = true → e <:+ lsuf P t
  | [], e, h, _ => by
    unfold lsuf
    exact h
  | c :: t, e, h, hp => by
    unfold lsuf
    split
    · exact h
    · rename_i hn
      rcases List.suffix_cons_iff.mp h with h1 | h1
      · subst h1
        exact absurd hp hn
      · exact lsuf_max t h1 hp
theorem suffix_antisymm {a b : T} (h : a <:+ b) (h' : b <:+ a) : a = b :=
  h.eq_of_length (Nat.le_antisymm h.length_le h'.length_le)
theorem suffix_snoc {a t : T} {c : Nat} (h : a <:+ t ++ [c]) : a = [] ∨ ∃ e, a = e ++ [c] ∧ e <:+ t := by
  obtain ⟨b, hb⟩ := h
  rcases List.eq_nil_or_concat a with h | ⟨e, d, h⟩
  · exact .inl h
  · subst h
    right
    have h1 : (b ++ e) ++ [d] = t ++ [c] := by rw [← hb, List.append_assoc]; simp
    have h2 := List.append_inj' h1 rfl
    obtain ⟨h3, h4⟩ := h2
    have h5 : d = c := by simpa using h4
    exact ⟨e, by rw [h5]; simp, ⟨b, h3⟩⟩
theorem snoc_suffix {e t : T} (h : e <:+ t) (c : Nat) : e ++ [c] <:+ t ++ [c] := by
  obtain ⟨b, hb⟩ := h
  exact ⟨b, by rw [← hb]; simp⟩
theorem lsuf_step {P : T → Bool} (h0 : P [] = true) (hpc : ∀ e c, P (e ++ [c]) = true → P e = true) (t : T) (c : Nat) : lsuf P (t ++ [c]) = lsuf P (lsuf P t ++ [c]) := by
  apply suffix_antisymm
  · have hA := lsuf_suffix P (t ++ [c])
    have hP := lsuf_P h0 (t ++ [c])
    rcases suffix_snoc hA with h | ⟨e, h, he⟩
    · rw [h]; exact List.nil_suffix
    · have pe : P e = true := hpc e c (by rw [← h]; exact hP)
      refine lsuf_max _ ?_ hP
      rw [h]
      exact snoc_suffix (lsuf_max t he pe) c
  · refine lsuf_max _ ?_ (lsuf_P h0 _)
    exact (lsuf_suffix P _).trans (snoc_suffix (lsuf_suffix P t) c)
theorem lsuf_at {P : T → Bool} : ∀ (t : T) (i : Nat), i < t.length → (∀ j, j < i → P (t.drop j) = false) → P (t.drop i) = true → lsuf P t = t.drop i
  | [], i, h, _, _ => absurd h (Nat.not_lt_zero _)
  | c :: t, 0, _, _, hp => by
    unfold lsuf
    rw [if_pos (by simpa using hp)]
    rfl
  | c :: t, i + 1, h, hn, hp => by
    unfold lsuf
    have h0 := hn 0 (Nat.succ_pos _)
    rw [if_neg (by simpa using h0)]
    exact lsuf_at t i (by simpa using h) (fun j hj => by simpa using hn (j + 1) (Nat.succ_lt_succ hj)) (by simpa using hp)
theorem lsuf_none {P : T → Bool} : ∀ (t : T), (∀ j, j < t.length → P (t.drop j) = false) → lsuf P t = []
  | [], _ => rfl
  | c :: t, hn => by
    unfold lsuf
    have h0 := hn 0 (Nat.succ_pos _)
    rw [if_neg (by simpa using h0)]
    exact lsuf_none t (fun j hj => by simpa using hn (j + 1) (by simpa using Nat.succ_lt_succ hj))

/-! ### infixes -/
theorem infix_snoc {p t : T} {c : Nat} : p <:+: t ++ [c] ↔ p <:+: t ∨ p <:+ t ++ [c] := by
  constructor
  · rintro ⟨a, b, h⟩
    rcases List.eq_nil_or_concat b with hb | ⟨b', d, hb⟩
    · subst hb
      exact .inr ⟨a, by simpa using h⟩
    · subst hb
      have h1 : (a ++ p ++ b') ++ [d] = t ++ [c] := by rw [← h]; simp
      exact .inl ⟨a, b', (List.append_inj' h1 rfl).1⟩
  · rintro (h | h)
    · exact h.trans (List.prefix_append t [c]).isInfix
    · exact h.isInfix

/-! ### what is read of a word, of the pieces -/
/-- the beginnings of a word -/
def isBeg (w e : T) : Bool := e.isPrefixOf w
theorem isBeg_iff {w e : T} : isBeg w e = true ↔ e <+: w := List.isPrefixOf_iff_prefix
theorem isBeg_nil (w : T) : isBeg w [] = true := isBeg_iff.mpr List.nil_prefix
theorem isBeg_pc (w e : T) (c : Nat) (h : isBeg w (e ++ [c]) = true) : isBeg w e = true :=
  isBeg_iff.mpr ((List.prefix_append e [c]).trans (isBeg_iff.mp h))
def isTail (ps : List T) (e : T) : Bool := e.isEmpty || ps.any fun p => isBeg p e
theorem isTail_nil (ps : List T) : isTail ps [] = true := rfl
theorem isTail_pc (ps : List T) (e : T) (c : Nat) (h : isTail ps (e ++ [c]) = true) : isTail ps e = true := by
  unfold isTail at h ⊢
  have h' : (ps.any fun p => isBeg p (e ++ [c])) = true := by
    rcases Bool.or_eq_true_iff.mp h with h | h
    · simp at h
    · exact h
  obtain ⟨p, hp, hb⟩ := List.any_eq_true.mp h'
  exact Bool.or_eq_true_iff.mpr (.inr (List.any_eq_true.mpr ⟨p, hp, isBeg_pc p e c hb⟩))
theorem isTail_of {ps : List T} {p e : T} (hp : p ∈ ps) (h : e <+: p) : isTail ps e = true :=
  Bool.or_eq_true_iff.mpr (.inr (List.any_eq_true.mpr ⟨p, hp, isBeg_iff.mpr h⟩))

/-- the number of letters matched -/
def mt (w t : T) : Nat := (lsuf (isBeg w) t).length
def tl (ps : List T) (t : T) : T := lsuf (isTail ps) t
theorem take_mt (w t : T) : w.take (mt w t) = lsuf (isBeg w) t := (List.prefix_iff_eq_take.mp (isBeg_iff.mp (lsuf_P (isBeg_nil w) t))).symm
theorem mt_le (w t : T) : mt w t ≤ w.length := (isBeg_iff.mp (lsuf_P (isBeg_nil w) t)).length_le
theorem mt_nil (w : T) : mt w [] = 0 := rfl
theorem mt_step (w t : T) (c : Nat) : mt w (t ++ [c]) = (lsuf (isBeg w) (w.take (mt w t) ++ [c])).length := by
  rw [take_mt]
  unfold mt
  rw [lsuf_step (isBeg_nil w) (isBeg_pc w)]
theorem mt_full {w t : T} : mt w t = w.length ↔ w <:+ t := by
  constructor
  · intro h
    have h1 := take_mt w t
    rw [h, List.take_length] at h1
    rw [h1]
    exact lsuf_suffix _ _
  · intro h
    have h1 : w <:+ lsuf (isBeg w) t := lsuf_max t h (isBeg_iff.mpr (List.prefix_refl w))
    exact Nat.le_antisymm (mt_le w t) h1.length_le
theorem tl_step (ps : List T) (t : T) (c : Nat) : tl ps (t ++ [c]) = lsuf (isTail ps) (tl ps t ++ [c]) := lsuf_step (isTail_nil ps) (isTail_pc ps) t c
theorem tl_ends {ps : List T} {p t : T} (hp : p ∈ ps) : p <:+ tl ps t ↔ p <:+ t :=
  ⟨fun h => h.trans (lsuf_suffix _ _), fun h => lsuf_max t h (isTail_of hp (List.prefix_refl p))⟩

open Classical in
/-- the indexes of the pieces that have occurred -/
noncomputable def fd (ps : List T) (t : T) : List Nat := (List.range ps.length).filter fun k => decide (ps.getD k [] <:+: t)
theorem mem_fd {ps : List T} {t : T} {k : Nat} : k ∈ fd ps t ↔ k < ps.length ∧ ps.getD k [] <:+: t := by
  unfold fd
  rw [List.mem_filter, List.mem_range, decide_eq_true_eq]
theorem fd_eq {ps : List T} {t : T} {l : List Nat} (b : Nat → Bool) (e : l = (List.range ps.length).filter b) (h : ∀ k, k < ps.length → (b k = true ↔ ps.getD k [] <:+: t)) : l = fd ps t := by
  subst e
  unfold fd
  refine List.filter_congr fun k hk => ?_
  have := h k (List.mem_range.mp hk)
  rw [Bool.eq_iff_iff, this]
  simp
theorem fd_nil {ps : List T} (h : ∀ p ∈ ps, p ≠ []) : fd ps [] = [] := by
  refine List.eq_nil_iff_forall_not_mem.mpr fun k hk => ?_
  obtain ⟨h1, h2⟩ := mem_fd.mp hk
  have h3 : ps.getD k [] = [] := List.infix_nil.mp h2
  rw [List.getD_eq_getElem?_getD, List.getElem?_eq_getElem h1] at h3
  exact h _ (List.getElem_mem h1) (by simpa using h3)
theorem fd_le (ps : List T) (t : T) : (fd ps t).length ≤ ps.length := by
  unfold fd
  refine Nat.le_trans (List.length_filter_le _ _) ?_
  rw [List.length_range]
  exact Nat.le_refl _
theorem filter_all {α : Type} {b : α → Bool} : ∀ {l : List α}, (l.filter b).length = l.length → ∀ x ∈ l, b x = true
  | [], _, x, hx => nomatch hx
  | a :: r, h, x, hx => by
    rw [List.filter_cons] at h
    by_cases hb : b a = true
    · rw [if_pos hb, List.length_cons, List.length_cons] at h
      rcases List.mem_cons.mp hx with rfl | hx
      · exact hb
      · exact filter_all (Nat.succ.inj h) x hx
    · rw [if_neg hb, List.length_cons] at h
      have := List.length_filter_le b r
      omega
theorem fd_all {ps : List T} {t : T} (h : (fd ps t).length = ps.length) : ∀ p ∈ ps, p <:+: t := by
  intro p hp
  obtain ⟨k, hk, e⟩ := List.getElem_of_mem hp
  have h2 : (fd ps t).length = (List.range ps.length).length := by rw [h, List.length_range]
  have h3 := filter_all h2 k (List.mem_range.mpr hk)
  have h4 : ps.getD k [] <:+: t := by simpa using h3
  rw [List.getD_eq_getElem?_getD, List.getElem?_eq_getElem hk] at h4
  rw [← e]
  simpa using h4
theorem fd_of_all {ps : List T} {t : T} (h : ∀ p ∈ ps, p <:+: t) : (fd ps t).length = ps.length := by
  have : fd ps t = List.range ps.length := by
    unfold fd
    refine List.filter_eq_self.mpr fun k hk => ?_
    have hk' := List.mem_range.mp hk
    have : ps.getD k [] <:+: t := by
      rw [List.getD_eq_getElem?_getD, List.getElem?_eq_getElem hk']
      exact h _ (List.getElem_mem hk')
    simpa using this
  rw [this, List.length_range]
theorem fd_step {ps : List T} {t : T} {c k : Nat} (hk : k < ps.length) : (k ∈ fd ps t ∨ ps.getD k [] <:+ tl ps (t ++ [c])) ↔ ps.getD k [] <:+: t ++ [c] := by
  have hm : ps.getD k [] ∈ ps := by
    rw [List.getD_eq_getElem?_getD, List.getElem?_eq_getElem hk]
    exact List.getElem_mem hk
  rw [mem_fd, tl_ends hm, infix_snoc]
  simp [hk]

/-! ### windows, explaining texts -/
/-- a window of the pieces -/
def Win (ps : List T) (g : Nat) (x : T) : Prop := ∃ q ∈ ps, ∃ p, p + g ≤ q.length ∧ x = (q.drop p).take g
theorem Win.len {ps : List T} {g : Nat} {x : T} (h : Win ps g x) : x.length = g := by
  obtain ⟨q, _, p, hp, rfl⟩ := h
  rw [List.length_take, List.length_drop]
  omega
/-- every window of the text is one of the pieces -/
def WinOk (ps : List T) (g : Nat) (t : T) : Prop := ∀ p, p + g ≤ t.length → Win ps g ((t.drop p).take g)
def Expl (ps : List T) (g : Nat) (t : T) : Prop := WinOk ps g t ∧ ∀ p ∈ ps, p <:+: t
/-- the last n letters -/
def last (n : Nat) (t : T) : T := t.drop (t.length - n)
theorem last_len {n : Nat} {t : T} (h : n ≤ t.length) : (last n t).length = n := by
  unfold last
  rw [List.length_drop]
  omega
theorem last_snoc {n : Nat} {t : T} (h : n ≤ t.length) (c : Nat) : last n (t ++ [c]) = (last n t ++ [c]).drop 1 := by
  unfold last
  rw [List.length_append, List.length_singleton]
  have e1 : t.length + 1 - n = (t.length - n) + 1 := by omega
  have e2 : t.drop (t.length - n) ++ [c] = (t ++ [c]).drop (t.length - n) := by
    rw [List.drop_append_of_le_length (by omega)]
  rw [e2, List.drop_drop, e1]
theorem last_self {t : T} {n : Nat} (h : t.length = n) : last n t = t := by
  unfold last
  rw [h, Nat.sub_self]
  rfl
/-- a gram of the pieces -/
def Gm (ps : List T) (g : Nat) (y : T) : Prop := ∃ x, Win ps g x ∧ (y = x.dropLast ∨ y = x.drop 1)
theorem Gm.len {ps : List T} {g : Nat} {y : T} (h : Gm ps g y) : y.length = g - 1 := by
  obtain ⟨x, hx, rfl | rfl⟩ := h
  · rw [List.length_dropLast, hx.len]
  · rw [List.length_drop, hx.len]
/-- a text of the search: its windows, its last gram, no word -/
structure Ok (ps : List T) (g : Nat) (w t : T) : Prop where
  len : g - 1 ≤ t.length
  win : WinOk ps g t
  no : ¬ w <:+: t
  gm : Gm ps g (last (g - 1) t)
theorem Ok.first {ps : List T} {g : Nat} {w t : T} (hg : 0 < g) (h : Gm ps g t) (hno : ¬ w <:+: t) : Ok ps g w t :=
  ⟨by have := h.len; omega, fun p hp => by have := h.len; omega, hno, by rw [last_self h.len]; exact h⟩
theorem WinOk.snoc {ps : List T} {g : Nat} {t : T} {c : Nat} (hg : 0 < g) (hl : g - 1 ≤ t.length) (h : WinOk ps g t) (hw : Win ps g (last (g - 1) t ++ [c])) : WinOk ps g (t ++ [c]) := by
  intro p hp
  rw [List.length_append, List.length_singleton] at hp
  by_cases e : p + g ≤ t.length
  · have := h p e
    have e2 : ((t ++ [c]).drop p).take g = (t.drop p).take g := by
      rw [List.drop_append_of_le_length (by omega), List.take_append_of_le_length (by rw [List.length_drop]; omega)]
    rw [e2]
    exact this
  · have e1 : p = t.length - (g - 1) := by omega
    have e2 : ((t ++ [c]).drop p).take g = last (g - 1) t ++ [c] := by
      rw [List.drop_append_of_le_length (by omega), List.take_of_length_le (by rw [List.length_append, List.length_drop, List.length_singleton]; omega), e1]
      rfl
    rw [e2]
    exact hw
theorem Ok.snoc {ps : List T} {g : Nat} {w t : T} {c : Nat} (hg : 0 < g) (h : Ok ps g w t) (hw : Win ps g (last (g - 1) t ++ [c])) (hs : ¬ w <:+ t ++ [c]) : Ok ps g w (t ++ [c]) :=
  ⟨by rw [List.length_append]; have := h.len; omega, h.win.snoc hg h.len hw, fun z => by
    rcases infix_snoc.mp z with z | z
    · exact h.no z
    · exact hs z, ⟨_, hw, .inr (last_snoc h.len c)⟩⟩
/-- the state of a text -/
structure State where
  gram : T
  tail : T
  matched : Nat
  found : List Nat
  deriving DecidableEq
/-- reading t, g being kept as the gram -/
noncomputable def st (ps : List T) (w g t : T) : State := ⟨g, tl ps t, mt w t, fd ps t⟩
noncomputable def sg (ps : List T) (g : Nat) (w t : T) : State := st ps w (last (g - 1) t) t

/-- the search is closed at a text: every way from it leads to a state that is there -/
def ClosedAt (ps : List T) (g : Nat) (w : T) (L : List T) (t : T) : Prop :=
  ∀ c, Win ps g (last (g - 1) t ++ [c]) → ¬ w <:+ t ++ [c] → sg ps g w (t ++ [c]) ∈ L.map (sg ps g w)
theorem sg_next {ps : List T} {g : Nat} {w t u : T} {c : Nat} (ht : g - 1 ≤ t.length) (hu : g - 1 ≤ u.length) (e : sg ps g w t = sg ps g w u) : sg ps g w (t ++ [c]) = sg ps g w (u ++ [c]) := by
  unfold sg st at e ⊢
  injection e with e1 e2 e3 e4
  have h1 : last (g - 1) (t ++ [c]) = last (g - 1) (u ++ [c]) := by rw [last_snoc ht, last_snoc hu, e1]
  have h2 : tl ps (t ++ [c]) = tl ps (u ++ [c]) := by rw [tl_step, tl_step, e2]
  have h3 : mt w (t ++ [c]) = mt w (u ++ [c]) := by rw [mt_step, mt_step, e3]
  have h4 : fd ps (t ++ [c]) = fd ps (u ++ [c]) := by
    unfold fd
    refine List.filter_congr fun k hk => ?_
    have hk' := List.mem_range.mp hk
    have a := fd_step (ps := ps) (t := t) (c := c) hk'
    have b := fd_step (ps := ps) (t := u) (c := c) hk'
    rw [e4, h2] at a
    rw [Bool.eq_iff_iff]
    simp only [decide_eq_true_eq]
    rw [← a, ← b]
  rw [h1, h2, h3, h4]
theorem mt_same {ps : List T} {g : Nat} {w t u : T} {c : Nat} (e : sg ps g w t = sg ps g w u) : w <:+ t ++ [c] ↔ w <:+ u ++ [c] := by
  unfold sg st at e
  injection e with e1 e2 e3 e4
  rw [← mt_full, ← mt_full, mt_step, mt_step, e3]

/-- what a closed search without a finished state says -/
theorem closed_always {ps : List T} {g : Nat} {w : T} {L : List T} (hg : 0 < g) (hne : ps ≠ []) (hlen : ∀ p ∈ ps, g ≤ p.length)
    (hL : ∀ t ∈ L, Ok ps g w t) (h1 : ∀ t, Gm ps g t → ¬ w <:+: t → sg ps g w t ∈ L.map (sg ps g w))
    (hc : ∀ t ∈ L, ClosedAt ps g w L t) (hd : ∀ t ∈ L, (fd ps t).length ≠ ps.length) : ∀ t, Expl ps g t → w <:+: t := by
  intro t ⟨hw, hp⟩
  refine Classical.byContradiction fun hno => ?_
  obtain ⟨p0, hp0⟩ := List.exists_mem_of_ne_nil ps hne
  have hlt : g ≤ t.length := Nat.le_trans (hlen p0 hp0) (hp p0 hp0).length_le
  have key : ∀ n, g - 1 + n ≤ t.length → sg ps g w (t.take (g - 1 + n)) ∈ L.map (sg ps g w) := by
    intro n
    induction n with
    | zero =>
      intro _
      refine h1 _ ⟨(t.drop 0).take g, hw 0 (by omega), .inl ?_⟩ fun z => hno (z.trans (List.take_prefix _ _).isInfix)
      rw [List.dropLast_eq_take, List.drop_zero, List.take_take, List.length_take, Nat.add_zero, Nat.min_eq_left (by omega)]
      congr 1
      omega
    | succ n ih =>
      intro hn
      have ih := ih (by omega)
      obtain ⟨u, hu, e⟩ := List.mem_map.mp ih
      have hi : g - 1 + n < t.length := by omega
      have et : t.take (g - 1 + (n + 1)) = t.take (g - 1 + n) ++ [t[g - 1 + n]] := by
        rw [← Nat.add_assoc, List.take_add_one, List.getElem?_eq_getElem hi]
        rfl
      have l1 : (t.take (g - 1 + n)).length = g - 1 + n := by rw [List.length_take]; omega
      have hwin : Win ps g (last (g - 1) (t.take (g - 1 + n)) ++ [t[g - 1 + n]]) := by
        have := hw n (by omega)
        have e2 : (t.drop n).take g = last (g - 1) (t.take (g - 1 + n)) ++ [t[g - 1 + n]] := by
          unfold last
          rw [l1]
          have e3 : g - 1 + n - (g - 1) = n := by omega
          rw [e3, ← List.drop_append_of_le_length (by rw [l1]; omega), ← et, List.drop_take]
          congr 1
          omega
        rw [← e2]
        exact this
      have e1 : last (g - 1) u = last (g - 1) (t.take (g - 1 + n)) := by
        unfold sg st at e
        injection e
      have hns : ¬ w <:+ t.take (g - 1 + n) ++ [t[g - 1 + n]] := fun z => hno ((by rw [← et] at z; exact z.isInfix.trans (List.take_prefix _ _).isInfix))
      have := hc u hu t[g - 1 + n] (by rw [e1]; exact hwin) (fun z => hns ((mt_same e).mp z))
      rw [et, ← sg_next (hL u hu).len (by rw [l1]; omega) e]
      exact this
  have := key (t.length - (g - 1)) (by omega)
  rw [List.take_of_length_le (by omega)] at this
  obtain ⟨u, hu, e⟩ := List.mem_map.mp this
  refine hd u hu ?_
  have e4 : fd ps u = fd ps t := by
    unfold sg st at e
    injection e
  rw [e4]
  exact fd_of_all hp
theorem done_lacking {ps : List T} {g : Nat} {w t : T} (h : Ok ps g w t) (hd : (fd ps t).length = ps.length) : Expl ps g t ∧ ¬ w <:+: t := ⟨⟨h.win, fd_all hd⟩, h.no⟩

/-! ### how many states there are -/
theorem nodup_le {α : Type} [DecidableEq α] : ∀ (l m : List α), l.Nodup → (∀ x ∈ l, x ∈ m) → l.length ≤ m.length
  | [], _, _, _ => Nat.zero_le _
  | a :: r, m, hn, hs => by
    obtain ⟨h1, h2⟩ := List.nodup_cons.mp hn
    have hm : a ∈ m := hs a List.mem_cons_self
    have ih := nodup_le r (m.erase a) h2 fun x hx => (List.mem_erase_of_ne (fun (e : x = a) => h1 (by rw [← e]; exact hx))).mpr (hs x (List.mem_cons_of_mem _ hx))
    rw [List.length_erase_of_mem hm] at ih
    have : 0 < m.length := List.length_pos_of_mem hm
    rw [List.length_cons]
    omega
def subs : List Nat → List (List Nat)
  | [] => [[]]
  | x :: r => subs r ++ (subs r).map (x :: ·)
theorem subs_len : ∀ l, (subs l).length = 2 ^ l.length
  | [] => rfl
  | x :: r => by
    show (subs r ++ (subs r).map (x :: ·)).length = _
    rw [List.length_append, List.length_map, subs_len r, List.length_cons, Nat.pow_succ]
    omega
theorem filter_subs (b : Nat → Bool) : ∀ l, l.filter b ∈ subs l
  | [] => List.mem_singleton.mpr rfl
  | x :: r => by
    have ih := filter_subs b r
    show (x :: r).filter b ∈ subs r ++ (subs r).map (x :: ·)
    rw [List.filter_cons]
    by_cases h : b x = true
    · rw [if_pos h]
      exact List.mem_append_right _ (List.mem_map.mpr ⟨_, ih, rfl⟩)
    · rw [if_neg h]
      exact List.mem_append_left _ ih
theorem flatMap_le {α β : Type} (f : α → List β) (n : Nat) : ∀ l : List α, (∀ x ∈ l, (f x).length ≤ n) → (l.flatMap f).length ≤ l.length * n
  | [], _ => Nat.zero_le _
  | x :: r, h => by
    have ih := flatMap_le f n r fun y hy => h y (List.mem_cons_of_mem _ hy)
    have h1 := h x List.mem_cons_self
    rw [List.flatMap_cons, List.length_append, List.length_cons, Nat.succ_mul]
    omega
def tails (ps : List T) : List T := [] :: ps.flatMap fun p => (List.range (p.length + 1)).map fun k => p.take k
theorem mem_tails {ps : List T} {e : T} (h : isTail ps e = true) : e ∈ tails ps := by
  rcases Bool.or_eq_true_iff.mp h with h | h
  · have : e = [] := by simpa using h
    rw [this]
    exact List.mem_cons_self
  · obtain ⟨p, hp, hb⟩ := List.any_eq_true.mp h
    have hb := isBeg_iff.mp hb
    refine List.mem_cons_of_mem _ (List.mem_flatMap.mpr ⟨p, hp, List.mem_map.mpr ⟨e.length, List.mem_range.mpr (by have := hb.length_le; omega), ?_⟩⟩)
    exact (List.prefix_iff_eq_take.mp hb).symm
def wins (ps : List T) (g : Nat) : List T := ps.flatMap fun q => (List.range (q.length + 1 - g)).map fun p => (q.drop p).take g
theorem mem_wins {ps : List T} {g : Nat} {x : T} : x ∈ wins ps g ↔ Win ps g x := by
  unfold wins Win
  simp only [List.mem_flatMap, List.mem_map, List.mem_range]
  constructor
  · rintro ⟨q, hq, p, hp, rfl⟩
    exact ⟨q, hq, p, by omega, rfl⟩
  · rintro ⟨q, hq, p, hp, rfl⟩
    exact ⟨q, hq, p, by omega, rfl⟩
def grams (ps : List T) (g : Nat) : List T := (wins ps g).flatMap fun x => [x.dropLast, x.drop 1]
theorem mem_grams {ps : List T} {g : Nat} {y : T} : y ∈ grams ps g ↔ Gm ps g y := by
  unfold grams Gm
  simp only [List.mem_flatMap, mem_wins, List.mem_cons, List.not_mem_nil, or_false]
theorem wins_le {ps : List T} {g n : Nat} (h : ∀ p ∈ ps, p.length + 1 - g ≤ n) : (wins ps g).length ≤ ps.length * n :=
  flatMap_le _ _ _ fun p hp => by rw [List.length_map, List.length_range]; exact h p hp
def states (ps : List T) (g : Nat) (w : T) : List State :=
  (grams ps g).flatMap fun y => (tails ps).flatMap fun e => (List.range w.length).flatMap fun m => (subs (List.range ps.length)).map fun f => ⟨y, e, m, f⟩
theorem mem_states {ps : List T} {g : Nat} {w t : T} (h : Ok ps g w t) : sg ps g w t ∈ states ps g w := by
  have hm : mt w t < w.length := by
    have h1 := mt_le w t
    have h2 : mt w t ≠ w.length := fun e => h.no (mt_full.mp e).isInfix
    omega
  exact List.mem_flatMap.mpr ⟨_, mem_grams.mpr h.gm, List.mem_flatMap.mpr ⟨_, mem_tails (lsuf_P (isTail_nil ps) t), List.mem_flatMap.mpr ⟨_, List.mem_range.mpr hm, List.mem_map.mpr ⟨_, filter_subs _ _, rfl⟩⟩⟩⟩
/-- few pieces, short ones, a short word -/
structure Small (ps : List T) (w : T) : Prop where
  n : ps.length ≤ 6
  l : ∀ p ∈ ps, p.length ≤ 9
  w : w.length ≤ 8
theorem grams_le {ps : List T} {g : Nat} (h1 : ps.length ≤ 6) (h2 : ∀ p ∈ ps, p.length ≤ 9) (hg : 0 < g) : (grams ps g).length ≤ 108 := by
  have a := wins_le (ps := ps) (g := g) (n := 9) fun p hp => by have := h2 p hp; omega
  have b : (grams ps g).length ≤ (wins ps g).length * 2 := flatMap_le _ _ _ fun x _ => Nat.le_refl _
  omega
theorem states_le {ps : List T} {g : Nat} {w : T} (h : Small ps w) (hg : 0 < g) : (states ps g w).length ≤ 4000000 := by
  have hp : 2 ^ ps.length ≤ 2 ^ 6 := Nat.pow_le_pow_right (by decide) h.n
  have t1 : (tails ps).length ≤ 61 := by
    have : (ps.flatMap fun p => (List.range (p.length + 1)).map fun k => p.take k).length ≤ ps.length * 10 := flatMap_le _ _ _ fun p hp => by
      rw [List.length_map, List.length_range]
      have := h.l p hp
      omega
    have hn := h.n
    show (ps.flatMap fun p => (List.range (p.length + 1)).map fun k => p.take k).length + 1 ≤ 61
    omega
  have g1 := grams_le h.n h.l hg
  have s1 : ∀ (y e : T) (m : Nat), ((subs (List.range ps.length)).map fun f => (⟨y, e, m, f⟩ : State)).length ≤ 64 := fun y e m => by
    rw [List.length_map, subs_len, List.length_range]
    exact hp
  have s2 : ∀ (y e : T), ((List.range w.length).flatMap fun m => (subs (List.range ps.length)).map fun f => (⟨y, e, m, f⟩ : State)).length ≤ 512 := fun y e => by
    refine Nat.le_trans (flatMap_le _ 64 _ fun m _ => s1 y e m) ?_
    rw [List.length_range]
    have := h.w
    omega
  have s3 : ∀ (y : T), ((tails ps).flatMap fun e => (List.range w.length).flatMap fun m => (subs (List.range ps.length)).map fun f => (⟨y, e, m, f⟩ : State)).length ≤ 31232 := fun y => by
    refine Nat.le_trans (flatMap_le _ 512 _ fun e _ => s2 y e) ?_
    omega
  refine Nat.le_trans (flatMap_le _ 31232 _ fun y _ => s3 y) ?_
  omega
/-- the search has few texts -/
theorem search_le {ps : List T} {g : Nat} {w : T} {L : List T} (h : Small ps w) (hg : 0 < g) (hL : ∀ t ∈ L, Ok ps g w t) (hn : (L.map (sg ps g w)).Nodup) : L.length ≤ 4000000 := by
  have := nodup_le (L.map (sg ps g w)) (states ps g w) hn fun x hx => by
    obtain ⟨t, ht, rfl⟩ := List.mem_map.mp hx
    exact mem_states (hL t ht)
  rw [List.length_map] at this
  exact Nat.le_trans this (states_le h hg)
end TX

set_option Elab.async false
set_option linter.all false
set_option maxRecDepth 100000
/-! Rules of our own over the layer: texts as lists of code points, tuples that are states, dicts keyed by states, sorted of any data. -/
namespace TX
open PySem PySem.Spec PyProof.Rows L2

/-! ### texts -/
def S (l : T) : Str := ⟨l.toArray⟩
def vs (l : T) : V := .str (S l)
theorem S_tl (l : T) : (S l).cps.toList = l := rfl
theorem S_len (l : T) : (S l).length = l.length := by
  show l.toArray.size = l.length
  rw [List.size_toArray]
theorem S_inj {a b : T} (h : S a = S b) : a = b := by
  have := congrArg (fun z : Str => z.cps.toList) h
  exact this
theorem S_of (z : Str) : S z.cps.toList = z := rfl
theorem S_app (a b : T) : S a ++ S b = S (a ++ b) := by
  show (⟨a.toArray ++ b.toArray⟩ : Str) = ⟨(a ++ b).toArray⟩
  rw [List.append_toArray]
theorem vs_inj {a b : T} (h : vs a = vs b) : a = b := S_inj (V.str.inj h)
def cutL (l : T) (lo hi : Option Int) : T := (l.drop (HT.sIx l.length 0 lo)).take (HT.sIx l.length l.length hi - HT.sIx l.length 0 lo)
theorem cut_S (l : T) (lo hi : Option Int) : cutS (S l) lo hi = S (cutL l lo hi) := by
  unfold cutS cutL
  rw [S_len]
  rfl

/-! ### states -/
def kint (k : Nat) : V := .int (k : Int)
def StAt (H : Hp) (b : Addr) (s : State) : Prop := ∃ f, H b = some (.tup [vs s.gram, vs s.tail, .int (s.matched : Int), .ref f]) ∧ H f = some (.tup (s.found.map kint))
theorem StAt.same {H H' : Hp} {b : Addr} {s : State} (h : StAt H b s) (k : ∀ c xs, H c = some (.tup xs) → H' c = some (.tup xs)) : StAt H' b s := by
  obtain ⟨f, h1, h2⟩ := h
  exact ⟨f, k _ _ h1, k _ _ h2⟩
theorem kint_inj {a b : Nat} (h : kint a = kint b) : a = b := by
  have : (a : Int) = (b : Int) := V.int.inj h
  omega
theorem map_inj {α β : Type} {f : α → β} (hf : ∀ a b, f a = f b → a = b) : ∀ {l m : List α}, l.map f = m.map f → l = m
  | [], [], _ => rfl
  | [], _ :: _, h => by simp at h
  | _ :: _, [], h => by simp at h
  | a :: l, b :: m, h => by
    rw [List.map_cons, List.map_cons] at h
    injection h with h1 h2
    rw [hf a b h1, map_inj hf h2]
def knum (k : Nat) : NestedKey := .num (k : Int)
def key (s : State) : NestedKey := .tup [.text (S s.gram), .text (S s.tail), .num (s.matched : Int), .tup (s.found.map knum)]
theorem key_inj {a b : State} (h : key a = key b) : a = b := by
  unfold key at h
  injection h with h
  injection h with h1 h
  injection h with h2 h
  injection h with h3 h
  injection h with h4 _
  injection h1 with h1
  injection h2 with h2
  injection h3 with h3
  injection h4 with h4
  have e4 : a.found = b.found := map_inj (fun x y q => by unfold knum at q; injection q with q; omega) h4
  cases a
  cases b
  simp only at h1 h2 h3 e4
  have h3' := Int.ofNat.inj h3
  subst e4
  rw [S_inj h1, S_inj h2, h3']
theorem depth_nums : ∀ l : List Nat, NestedKey.depthAll (l.map knum) = 0
  | [] => rfl
  | x :: r => by
    show max (NestedKey.depth (knum x)) (NestedKey.depthAll (r.map knum)) = 0
    rw [depth_nums r]
    rfl
theorem key_depth (s : State) : (key s).depth ≤ 8 := by
  unfold key
  simp only [NestedKey.depth, NestedKey.depthAll, depth_nums]
  decide
theorem nested_ints {h : Heap} : ∀ {l : List Nat} {us : List Value}, Vals (l.map kint) us → NestedAll h (l.map knum) us
  | [], _, r => by rw [List.map_nil] at r; cases r; exact .nil
  | k :: ks, _, r => by
    rw [List.map_cons] at r
    cases r with
    | cons a t =>
      obtain ⟨tk, rfl⟩ := a
      exact .cons (.int _ _) (nested_ints t)
section
variable {P : Program} {w : World} {H : Hp} {h : Heap}
theorem st_vals {s : State} {f : Addr} {its : List Value} (r : Vals [vs s.gram, vs s.tail, .int (s.matched : Int), .ref f] its) : ∃ t1 t2 t3, its = [.str (S s.gram) t1, .str (S s.tail) t2, .int (s.matched : Int) t3, .ref f] := by
  cases r with
  | cons a r =>
    cases r with
    | cons b r =>
      cases r with
      | cons c r =>
        cases r with
        | cons d r =>
          cases r
          obtain ⟨t1, rfl⟩ := a
          obtain ⟨t2, rfl⟩ := b
          obtain ⟨t3, rfl⟩ := c
          cases d
          exact ⟨t1, t2, t3, rfl⟩
theorem st_is (ok : HOk P w H h) {b : Addr} {s : State} (e : StAt H b s) : (nestedKind P w).is h (key s) b := by
  obtain ⟨f, h1, h2⟩ := e
  obtain ⟨_, its, r, o, q1, q2, n, q3⟩ := (show ObjOk P w H h b (.tup _) from ok b _ h1)
  obtain ⟨_, its', r', o', p1, p2, n', p3⟩ := (show ObjOk P w H h f (.tup _) from ok f _ h2)
  obtain ⟨t1, t2, t3, rfl⟩ := st_vals r
  refine ⟨.tup q1 q2 q3 ?_, key_depth s⟩
  refine .cons (.text _ _) (.cons (.text _ _) (.cons (.int _ _) (.cons (.tup p1 p2 p3 ?_) .nil)))
  exact nested_ints (by simpa using r')
def pint (k : Nat) : PyData := .int (k : Int)
def enc (s : State) : PyData := .tuple [.str (S s.gram), .str (S s.tail), .int (s.matched : Int), .tuple (s.found.map pint)]
theorem reads_ints {h : Heap} : ∀ {l : List Nat} {us : List Value}, Vals (l.map kint) us → ∃ as, ReadsAll h us (l.map pint) as
  | [], _, r => by rw [List.map_nil] at r; cases r; exact ⟨_, .nil⟩
  | k :: ks, _, r => by
    rw [List.map_cons] at r
    cases r with
    | cons a t =>
      obtain ⟨tk, rfl⟩ := a
      obtain ⟨as, q⟩ := reads_ints (h := h) t
      exact ⟨_, .cons (.int _ _) q⟩
theorem st_reads (ok : HOk P w H h) {b : Addr} {s : State} (e : StAt H b s) : ∃ as, Reads h (.ref b) (enc s) as := by
  obtain ⟨f, h1, h2⟩ := e
  obtain ⟨_, its, r, o, q1, q2, n, q3⟩ := (show ObjOk P w H h b (.tup _) from ok b _ h1)
  obtain ⟨_, its', r', o', p1, p2, n', p3⟩ := (show ObjOk P w H h f (.tup _) from ok f _ h2)
  obtain ⟨t1, t2, t3, rfl⟩ := st_vals r
  obtain ⟨as, q⟩ := reads_ints (h := h) r'
  exact ⟨_, .tuple q1 q2 q3 (.cons (.str _ _) (.cons (.str _ _) (.cons (.int _ _) (.cons (.tuple p1 p2 p3 (by simpa using q)) .nil))))⟩
theorem alike_pints : ∀ xs ys : List Nat, PySem.W.alikeAll (xs.map pint) (ys.map pint) = true
  | [], _ => by simp [PySem.W.alikeAll]
  | _ :: _, [] => by simp [PySem.W.alikeAll]
  | x :: xs, y :: ys => by
    show PySem.W.alikeAll (.int x :: xs.map pint) (.int y :: ys.map pint) = true
    rw [PySem.W.alikeAll, alike_pints xs ys]
    simp [PySem.W.alike]
theorem enc_alike (a b : State) : PySem.W.alike (enc a) (enc b) = true := by
  unfold enc
  simp [PySem.W.alike, PySem.W.alikeAll, alike_pints]
theorem depth_pints : ∀ l : List Nat, PyData.depthAll (l.map pint) = 0
  | [] => by simp [PyData.depthAll]
  | x :: r => by
    show PyData.depthAll (.int x :: r.map pint) = 0
    rw [PyData.depthAll, depth_pints r]
    simp [PyData.depth]
theorem enc_depth (s : State) : (enc s).depth ≤ 4 := by
  unfold enc
  simp [PyData.depth, PyData.depthAll, depth_pints]
end

/-! ### a dict keyed by states -/
abbrev Ent := State × Addr × V
def DRel : List Ent → List (NestedKey × Addr × Value) → Prop := Paired fun p q => key p.1 = q.1 ∧ p.2.1 = q.2.1 ∧ RelV p.2.2 q.2.2
def dictP (P : Program) (w : World) (d : Addr) (es : List Ent) (h : Heap) : Prop :=
  (d == sysModules) = false ∧ es.length ≤ sizeLine ∧ ∃ xs, DRel es xs ∧ ∃ o ens ep, h.get? d = some o ∧ o.ExactDict ∧ o.data = .dict ens ep ∧ ens.toList = xs.map (entryOfKey (nestedKind P w)) ∧ (xs.map (·.1)).Nodup
/-- a dict of states stands at d -/
structure DN (P : Program) (w : World) (H : Hp) (d : Addr) (es : List Ent) : Prop where
  ob : H d = some (.ext (dictP P w d es))
  ks : ∀ e ∈ es, StAt H e.2.1 e.1
def look (es : List Ent) (s : State) : Option V := (es.find? fun e => decide (e.1 = s)).map (·.2.2)
theorem DRel.val : ∀ {es : List Ent} {xs : List (NestedKey × Addr × Value)} (_ : DRel es xs) (s : State), RelO (look es s) ((atKey xs (key s)).map (·.2)) := by
  intro es xs r s
  induction r with
  | nil => exact True.intro
  | @cons p q ps qs hh t ih =>
    obtain ⟨h1, h2, h3⟩ := hh
    by_cases e : p.1 = s
    · have e' : q.1 = key s := by rw [← h1, e]
      have a : look (p :: ps) s = some p.2.2 := by simp [look, List.find?_cons, e]
      have b : atKey (q :: qs) (key s) = some q.2 := by simp [atKey, List.find?_cons, e']
      rw [a, b]
      exact h3
    · have e' : ¬ q.1 = key s := fun z => e (key_inj (h1.trans z))
      have a : look (p :: ps) s = look ps s := by simp [look, List.find?_cons, e]
      have b : atKey (q :: qs) (key s) = atKey qs (key s) := by simp [atKey, List.find?_cons, e']
      rw [a, b]
      exact ih
section
variable {P : Program} {w : World} {H : Hp} {h : Heap} {d : Addr} {es : List Ent}
theorem dn_of (ok : HOk P w H h) (e : DN P w H d es) : (d == sysModules) = false ∧ es.length ≤ sizeLine ∧ ∃ xs, DRel es xs ∧ h.DictOfH (nestedKind P w) d xs := by
  obtain ⟨⟨hd, hl, xs, r, o, ens, ep, h1, h2, h3, h4, h5⟩, _, _⟩ := (show ObjOk P w H h d (.ext (dictP P w d es)) from ok d _ e.ob)
  refine ⟨hd, hl, xs, r, o, ens, ep, h1, h2, h3, h4, fun x hx => ?_, h5⟩
  have all : ∀ {l : List Ent} {m : List (NestedKey × Addr × Value)}, DRel l m → (∀ e ∈ l, StAt H e.2.1 e.1) → ∀ x ∈ m, (nestedKind P w).is h x.1 x.2.1 := by
    intro l m q
    induction q with
    | nil => intro _ x hx; exact nomatch hx
    | @cons p q ps qs hq t ih =>
      intro hk x hx
      rcases List.mem_cons.mp hx with e | hx
      · subst e
        obtain ⟨e1, e2, _⟩ := hq
        rw [← e1, ← e2]
        exact st_is ok (hk p List.mem_cons_self)
      · exact ih (fun e he => hk e (List.mem_cons_of_mem _ he)) x hx
  exact all r e.ks x hx
theorem dictP_stay : ∀ h1 h2 : Heap, dictP P w d es h1 → (∀ o, h1.get? d = some o → h2.get? d = some o) → dictP P w d es h2 := by
  intro h1 h2 ⟨hd, hl, xs, r, o, ens, ep, a, b⟩ k
  exact ⟨hd, hl, xs, r, o, ens, ep, k _ a, b⟩
theorem dn_new {H' : Hp} {h' : Heap} {xs : List (NestedKey × Addr × Value)} (hd : (d == sysModules) = false) (hl : es.length ≤ sizeLine) (r : DRel es xs) (m : h'.DictOfH (nestedKind P w) d xs) :
    ObjOk P w H' h' d (.ext (dictP P w d es)) := by
  obtain ⟨o, ens, ep, h1, h2, h3, h4, _, h5⟩ := m
  exact ⟨⟨hd, hl, xs, r, o, ens, ep, h1, h2, h3, h4, h5⟩, ⟨o, h1⟩, dictP_stay⟩
end
section
variable {X : Cx} {pins : List (Addr × Obj)} {σ : L2.St} {H : Hp} {s : Shared} {d b : Addr} {es : List Ent} {z : State} {v : V} {r : Value} {A : Around} {E : Value → Shared → Prop}
theorem n_room (hu : A.units + 16 < cLine) : (nestedKind X.prog X.w).room A.in1 := by
  show A.units + 1 + 8 < cLine
  omega
theorem n_getItem {Q : Value → Shared → Prop} (hu : A.units + 16 < cLine) (I : Inv X pins σ H s) (g : DN X.prog X.w H d es) (hz : StAt H b z) (hv : look es z = some v) (h : ∀ w' s', Inv X pins σ H s' → RelV v w' → Q w' s') :
    wpAny (model X.prog X.w) A (getItem (.ref d) (.ref b)) Q E s := by
  obtain ⟨hd, _, xs, rel, dd⟩ := dn_of I.hok g
  obtain ⟨w', hw, rw'⟩ := RelO.some_of (v := v) (o := (atKey xs (key z)).map (·.2)) (by rw [← hv]; exact rel.val z)
  obtain ⟨p, hp, hp2⟩ := Option.map_eq_some_iff.mp hw
  refine wpAny_getItem_heap (n_room hu) (st_is I.hok hz) dd hp ?_
  rw [hp2]
  exact h w' _ (I.tok _) rw'
theorem n_notIn {Q : Value → Shared → Prop} (hu : A.units + 16 < cLine) (I : Inv X pins σ H s) (g : DN X.prog X.w H d es) (hz : StAt H b z) (h : ∀ s', Inv X pins σ H s' → Q (.bool (!(look es z).isSome)) s') :
    wpAny (model X.prog X.w) A (compareOp .NotIn (.ref b) (.ref d)) Q E s := by
  obtain ⟨hd, _, xs, rel, dd⟩ := dn_of I.hok g
  refine wpAny_notIn_heap (n_room hu) (st_is I.hok hz) hd dd ?_
  have q := (rel.val z).isSome_eq
  rw [Option.isSome_map] at q
  rw [← q]
  exact h _ (I.tok _)
theorem n_setItem {Q : Unit → Shared → Prop} (hu : A.units + 16 < cLine) (I : Inv X pins σ H s) (g : DN X.prog X.w H d es) (hz : StAt H b z) (hn : look es z = none) (hl : es.length < sizeLine) (rv : RelV v r)
    (h : ∀ s', Inv X pins σ (upd H d (.ext (dictP X.prog X.w d (es ++ [(z, b, v)])))) s' → Q () s') :
    wpAny (model X.prog X.w) A (setItem (.ref d) (.ref b) r) Q E s := by
  obtain ⟨hd, hl0, xs, rel, dd⟩ := dn_of I.hok g
  have hx : xs.length ≤ sizeLine := by rw [← Paired.length rel]; exact hl0
  have hnone : atKey xs (key z) = none := by
    have q := (rel.val z).isSome_eq
    rw [hn, Option.isSome_map] at q
    exact Option.not_isSome_iff_eq_none.mp (by rw [← q]; decide)
  refine wpAny_setItem_heap (hsz := hx) (n_room hu) (st_is I.hok hz) dd fun h' dd' hs => h _ ?_
  rw [storedH_new hnone] at dd'
  have rel' : DRel (es ++ [(z, b, v)]) (xs ++ [(key z, b, r)]) := Paired.snoc rel ⟨rfl, rfl, rv⟩
  have he : ∃ q, h'.get? d = some q := let ⟨q, _, _, hq, _⟩ := dd'; ⟨q, hq⟩
  refine d_write I (by rw [g.ob]; exact True.intro) hs he (dn_new hd ?_ rel' dd')
  rw [List.length_append]
  exact hl
theorem n_typeIs (I : Inv X pins σ H s) (g : DN X.prog X.w H d es) : s.TypeIs (.ref d) "dict" := by
  obtain ⟨_, _, xs, _, dd⟩ := dn_of I.hok g
  exact dd.typeIs
end
/-- d[y], y not in d, d[y] = v (y new) -/
def tNGet (P : Program) (w : World) (td ty : TE) : TE := fun σ H Q => td σ H fun x H1 => ty σ H1 fun y H2 => ∃ d b es z v, x = .ref d ∧ y = .ref b ∧ DN P w H2 d es ∧ StAt H2 b z ∧ look es z = some v ∧ Q v H2
def tNNotIn (P : Program) (w : World) (ty td : TE) : TE := fun σ H Q => ty σ H fun y H1 => td σ H1 fun x H2 => ∃ d b es z, x = .ref d ∧ y = .ref b ∧ DN P w H2 d es ∧ StAt H2 b z ∧ Q (.bl (!(look es z).isSome)) H2
def sNPut (P : Program) (w : World) (td ty tv : TE) : TS := fun D σ H => tv σ H fun v H1 => td σ H1 fun x H2 => ty σ H2 fun y H3 => ∃ d b es z, x = .ref d ∧ y = .ref b ∧ DN P w H3 d es ∧ StAt H3 b z ∧ look es z = none ∧ es.length < sizeLine ∧
  D.nx σ (upd H3 d (.ext (dictP P w d (es ++ [(z, b, v)]))))
def tNNew (P : Program) (w : World) : TE := fun _ H Q => ∀ p, H p = none → Q (.ref p) (upd H p (.ext (dictP P w p [])))
section
variable {X : Cx} {o i e value : Expr} {pos pos' tpos : Pos} {td ty tv : TE}
theorem pe_nget (hu : X.A.units + 16 < cLine) (ho : PE X o td) (hi : PE X i ty) (hs : NoSl i) : PE X (.Subscript o i pos) (tNGet X.prog X.w td ty) := by
  refine ⟨fun pins s σ H Q I h => ?_⟩
  refine subD_of PySem.F.slot_dict_getitem.lookup hs (thn (ho.run pins s σ H _ I h) fun u s1 ⟨x, H1, I1, rx, q1⟩ => thn (hi.run pins s1 σ H1 _ I1 q1) fun iv s2 ⟨y, H2, I2, ry, d, b, es, z, v, ex, ey, g, hz, hv, q2⟩ => ?_)
  subst ex ey
  obtain rfl : u = Value.ref d := rx
  obtain rfl : iv = Value.ref b := ry
  exact ⟨n_typeIs I2 g, n_getItem hu I2 g hz hv fun w' s3 I3 rw' => ⟨v, H2, I3, rw', q2⟩⟩
theorem pc_nnotin (hu : X.A.units + 16 < cLine) (hi : PE X i ty) (ho : PE X o td) : PC X .NotIn i o (tNNotIn X.prog X.w ty td) := by
  refine ⟨fun pins s σ H Q I h => ?_⟩
  refine thn (hi.run pins s σ H _ I h) fun iv s1 ⟨y, H1, I1, ry, q1⟩ => thn (ho.run pins s1 σ H1 _ I1 q1) fun u s2 ⟨x, H2, I2, rx, d, b, es, z, ex, ey, g, hz, q2⟩ => ?_
  subst ex ey
  obtain rfl : u = Value.ref d := rx
  obtain rfl : iv = Value.ref b := ry
  exact n_notIn hu I2 g hz fun s3 I3 => ⟨.bl _, H2, I3, rfl, q2⟩
theorem ps_nput (hu : X.A.units + 16 < cLine) (ho : PE X o td) (hi : PE X i ty) (hv : PE X value tv) (hs : swapsWith value (some (.Subscript o i pos')) pos.line X.env = pure false) :
    PS X (.Assign [.Subscript o i pos'] value pos) (sNPut X.prog X.w td ty tv) := by
  refine ⟨fun pins s σ H D I h => ?_⟩
  refine wpAny_Assign_Subscript (thn (hv.run pins s σ H _ I h) fun r s1 ⟨v, H1, I1, rv, q1⟩ => thn (ho.run pins s1 σ H1 _ I1 q1) fun u s2 ⟨x, H2, I2, rx, q2⟩ => thn (hi.run pins s2 σ H2 _ I2 q2) fun iv s3 ⟨y, H3, I3, ry, d, b, es, z, ex, ey, g, hz, hn, hl, q3⟩ => ?_) hs
  subst ex ey
  obtain rfl : u = Value.ref d := rx
  obtain rfl : iv = Value.ref b := ry
  exact n_setItem hu I3 g hz hn hl rv fun s4 I4 => ⟨σ, _, I4, q3⟩
theorem pe_nnew : PE X (.Dict [] [] pos) (tNNew X.prog X.w) := ⟨fun pins s σ H Q I h =>
  wpAny_Dict_empty ⟨.ref s.heap.objs.size, _, I.laid (a := s.heap.objs.size) (o := .ext (dictP X.prog X.w s.heap.objs.size [])) (t' := s.toks) (fun _ _ q => Heap.get?_push_of_some _ q) (Nat.le_refl _)
    (dn_new (beq_eq_false_iff_ne.mpr (Ne.symm (Nat.ne_of_lt I.big))) (Nat.zero_le _) .nil (Heap.DictOfH.new s.heap)), rfl, h _ (I.hok.fresh (Nat.le_refl _))⟩⟩
end

/-! ### sorted of data, any number: some rearrangement -/
section
variable {X : Cx} {β : Type}
theorem each_of_vals {toV : β → V} : ∀ {bs : List β} {us : List Value}, Vals (bs.map toV) us → PySem.W.EachIs (fun u b => RelV (toV b) u) us bs
  | [], _, r => by rw [List.map_nil] at r; cases r; exact .nil
  | b :: bs, _, r => by
    rw [List.map_cons] at r
    cases r with
    | cons a t => exact .cons a (each_of_vals t)
theorem vals_of_each {toV : β → V} : ∀ {bs : List β} {us : List Value}, PySem.W.EachIs (fun u b => RelV (toV b) u) us bs → Vals (bs.map toV) us
  | _, _, .nil => .nil
  | _, _, .cons a t => .cons a (vals_of_each t)
theorem each_imp {R R' : Value → β → Prop} : ∀ {bs : List β} {us : List Value}, PySem.W.EachIs R us bs → (∀ u b, b ∈ bs → R u b → R' u b) → PySem.W.EachIs R' us bs
  | _, _, .nil, _ => .nil
  | _, _, .cons a t, k => .cons (k _ _ List.mem_cons_self a) (each_imp t fun u b hb => k u b (List.mem_cons_of_mem _ hb))
def rSortD (K : PySem.W.Frag) (toV : β → V) (Rd' : Hp → β → Prop) : List V → Hp → VK → Prop := fun xs H Q => ∃ (a : Addr) (bs : List β), xs = [.ref a] ∧ SqL K H a (bs.map toV) ∧ (∀ b ∈ bs, Rd' H b) ∧
  ∀ (bs' : List β) (p : Addr), bs'.Perm bs → H p = none → Q (.ref p) (upd H p (.lst (bs'.map toV)))
theorem cr_sortD {toV : β → V} {Rd' : Hp → β → Prop} {en : β → PyData} (hu : X.A.units + 16 < cLine) (hal : ∀ b b', PySem.W.alike (en b) (en b') = true) (hk : ∀ bs : List β, PySem.W.Sortable (bs.map en)) (hdp : ∀ b, (en b).depth ≤ 8)
    (hr : ∀ {H : Hp} {h : Heap} (_ : HOk X.prog X.w H h) {b : β} {u : Value}, Rd' H b → RelV (toV b) u → ∃ as, Reads h u (en b) as) : CallR X (.builtin "sorted") (rSortD X.K toV Rd') := by
  intro pins s σ H xs us Q I r h
  obtain ⟨a, bs, rfl, hs, hb, q⟩ := h
  obtain ⟨its, rv, hl, hz⟩ := I.list hs
  rw [Vals.ref1 r]
  rw [List.length_map] at hz
  have e0 := each_of_vals rv
  refine PySem.W.sorted_data (R := fun u b => RelV (toV b) u) (enc := en) hl.isList e0 (each_imp e0 fun u b m q => hr I.hok (hb b m) q) (PySem.W.AllAlike.of hal) (hk bs) hz (fun b _ => by have := hdp b; omega) fun out ho eo => ?_
  obtain ⟨ep, he'⟩ := PyProof.Rows.sortedAll_at s.heap its out.toArray
  have hp : (bs.mergeSort (PySem.W.dataLe false en)).Perm bs := List.mergeSort_perm _ _
  have hlen : ((bs.mergeSort (PySem.W.dataLe false en)).map toV).length ≤ sizeLine := by
    rw [List.length_map, hp.length_eq]
    exact hz
  exact ⟨.ref _, upd H (s.heap.objs.size + 1) (.lst ((bs.mergeSort (PySem.W.dataLe false en)).map toV)), I.laid (t' := s.toks) (fun _ _ => PyProof.Rows.sortedAll_old) (Nat.le_succ _) ⟨hlen, out, ep, vals_of_each eo, he'⟩, rfl, q _ _ hp (I.hok.fresh (Nat.le_succ _))⟩
/-- of texts -/
theorem cr_sortT (hu : X.A.units + 16 < cLine) : CallR X (.builtin "sorted") (rSortD X.K vs (fun _ _ => True)) :=
  cr_sortD (en := fun l => .str (S l)) hu (fun _ _ => by simp [PySem.W.alike]) (fun bs => PySem.W.Sortable.others fun b => ⟨fun z => PyData.noConfusion z, fun xs z => PyData.noConfusion z⟩) (fun b => by simp [PyData.depth]) fun {H h} _ {b u} _ ru => by
    obtain ⟨t, rfl⟩ := ru
    exact ⟨_, .str _ _⟩
/-- of states -/
theorem cr_sortN (hu : X.A.units + 16 < cLine) : CallR X (.builtin "sorted") (rSortD X.K (fun e : State × Addr => V.ref e.2) (fun H e => StAt H e.2 e.1)) :=
  cr_sortD (en := fun e => enc e.1) hu (fun _ _ => enc_alike _ _) (fun bs => PySem.W.Sortable.tuples fun b => ⟨_, _, rfl⟩) (fun b => Nat.le_trans (enc_depth b.1) (by decide)) fun {H h} ok {b u} hb ru => by
    cases ru
    exact st_reads ok hb
end
end TX

set_option Elab.async false
set_option linter.all false
set_option maxRecDepth 100000
/-! The layer's rules for texts, said of lists of code points; calls; the walks' ends. -/
namespace TX
open PySem PySem.Spec PyProof.Rows L2

/-! ### texts by their lists -/
section
variable {X : Cx}
theorem call_lenT : CallR X (.builtin "len") (fun xs H Q => ∃ l : T, xs = [vs l] ∧ l.length ≤ sizeLine ∧ Q (.int l.length) H) := by
  intro pins s σ H xs us Q I r h
  obtain ⟨l, rfl, hl, q⟩ := h
  exact call_len_str pins s σ H _ us Q I r ⟨S l, rfl, by rw [S_len]; exact hl, by rw [S_len]; exact q⟩
theorem op_addT : OpR X (binaryOp .Add) (fun x y H Q => ∃ a b : T, x = vs a ∧ y = vs b ∧ a.length + b.length ≤ sizeLine ∧ Q (vs (a ++ b)) H) := by
  intro pins s σ H x y v u Q I rx ry h
  obtain ⟨a, b, rfl, rfl, hl, q⟩ := h
  exact op_add_str pins s σ H _ _ v u Q I rx ry ⟨S a, S b, rfl, rfl, by rw [S_len, S_len]; exact hl, by rw [S_app]; exact q⟩
theorem sl_T : SlR X (fun x lo hi H Q => ∃ l : T, x = vs l ∧ l.length ≤ sizeLine ∧ Q (vs (cutL l lo hi)) H) := by
  intro pins s σ H x v vl vu lo hi sl Q I rx hs pl pu h
  obtain ⟨l, rfl, hl, q⟩ := h
  exact sl_str pins s σ H _ v vl vu lo hi sl Q I rx hs pl pu ⟨S l, rfl, by rw [S_len]; exact hl, by rw [cut_S]; exact q⟩
theorem ix_T : IxR X (fun x y H Q => ∃ (l : T) (i : Int) (c : Nat), x = vs l ∧ y = .int i ∧ l.length ≤ sizeLine ∧ atI l i = some c ∧ Q (vs [c]) H) := by
  intro value slice pins s σ H x y v u Q I rx ry h hs
  obtain ⟨l, i, c, rfl, rfl, hl, hc, q⟩ := h
  exact ix_str value slice pins s σ H _ _ v u Q I rx ry ⟨S l, i, c, rfl, rfl, by rw [S_len]; exact hl, hc, q⟩ hs
theorem dec_vs (a b : T) : decide (vs a = vs b) = decide (a = b) := by
  by_cases h : a = b
  · subst h; simp
  · rw [decide_eq_false h, decide_eq_false fun e => h (vs_inj e)]
theorem op_eqT : OpR X (compareOp .Eq) (fun x y H Q => ∃ a b : T, x = vs a ∧ y = vs b ∧ Q (.bl (decide (a = b))) H) := by
  intro pins s σ H x y v u Q I rx ry h
  obtain ⟨a, b, rfl, rfl, q⟩ := h
  exact op_eq pins s σ H _ _ v u Q I rx ry ⟨rfl, by rw [dec_vs]; exact q⟩
theorem op_neT : OpR X (compareOp .NotEq) (fun x y H Q => ∃ a b : T, x = vs a ∧ y = vs b ∧ Q (.bl (!decide (a = b))) H) := by
  intro pins s σ H x y v u Q I rx ry h
  obtain ⟨a, b, rfl, rfl, q⟩ := h
  exact op_ne pins s σ H _ _ v u Q I rx ry ⟨rfl, by rw [dec_vs]; exact q⟩
theorem inV_vs (a : T) : ∀ ws : List T, inV (vs a) (ws.map vs) = decide (a ∈ ws)
  | [] => by simp [inV]
  | b :: r => by
    have ih := inV_vs a r
    unfold inV at ih ⊢
    rw [List.map_cons, List.any_cons, ih]
    have e : eqV (vs b) (vs a) = decide (a = b) := by
      show (S b == S a) = decide (a = b)
      by_cases h : a = b
      · subst h; simp
      · rw [decide_eq_false h]
        exact beq_eq_false_iff_ne.mpr fun e => h (S_inj e).symm
    rw [e]
    by_cases h : a = b <;> simp [h]
theorem flat_vs (ws : List T) : (ws.map vs).all flatV = true := by
  rw [List.all_eq_true]
  intro x hx
  obtain ⟨l, _, rfl⟩ := List.mem_map.mp hx
  rfl
theorem op_inT : OpR X (compareOp .In) (fun x y H Q => ∃ (p : Addr) (a : T) (ws : List T), x = vs a ∧ y = .ref p ∧ (SqL X.K H p (ws.map vs) ∨ SqT X.K H p (ws.map vs)) ∧ Q (.bl (decide (a ∈ ws))) H) := by
  intro pins s σ H x y v u Q I rx ry h
  obtain ⟨p, a, ws, rfl, rfl, hq, q⟩ := h
  exact op_in_seq pins s σ H _ _ v u Q I rx ry ⟨p, _, rfl, hq, rfl, flat_vs ws, by
    rw [if_neg Bool.false_ne_true, inV_vs]
    exact q⟩
theorem op_notInT : OpR X (compareOp .NotIn) (fun x y H Q => ∃ (p : Addr) (a : T) (ws : List T), x = vs a ∧ y = .ref p ∧ (SqL X.K H p (ws.map vs) ∨ SqT X.K H p (ws.map vs)) ∧ Q (.bl (!decide (a ∈ ws))) H) := by
  intro pins s σ H x y v u Q I rx ry h
  obtain ⟨p, a, ws, rfl, rfl, hq, q⟩ := h
  exact op_notIn_seq pins s σ H _ _ v u Q I rx ry ⟨p, _, rfl, hq, rfl, flat_vs ws, by
    rw [if_pos rfl, inV_vs]
    exact q⟩
/-- a natural number in a tuple of such -/
theorem inV_kint (a : Nat) : ∀ ws : List Nat, inV (kint a) (ws.map kint) = decide (a ∈ ws)
  | [] => by simp [inV]
  | b :: r => by
    have ih := inV_kint a r
    unfold inV at ih ⊢
    rw [List.map_cons, List.any_cons, ih]
    have e : eqV (kint b) (kint a) = decide (a = b) := by
      show ((b : Int) == (a : Int)) = decide (a = b)
      by_cases h : a = b
      · subst h; simp
      · rw [decide_eq_false h]
        exact beq_eq_false_iff_ne.mpr fun e => h (by omega)
    rw [e]
    by_cases h : a = b <;> simp [h]
theorem op_inK : OpR X (compareOp .In) (fun x y H Q => ∃ (p : Addr) (a : Nat) (ws : List Nat), x = kint a ∧ y = .ref p ∧ SqT X.K H p (ws.map kint) ∧ Q (.bl (decide (a ∈ ws))) H) := by
  intro pins s σ H x y v u Q I rx ry h
  obtain ⟨p, a, ws, rfl, rfl, hq, q⟩ := h
  refine op_in_seq pins s σ H _ _ v u Q I rx ry ⟨p, _, rfl, .inr hq, rfl, ?_, by
    rw [if_neg Bool.false_ne_true, inV_kint]
    exact q⟩
  rw [List.all_eq_true]
  intro x hx
  obtain ⟨l, _, rfl⟩ := List.mem_map.mp hx
  rfl
/-- a text occurs in a text -/
theorem found_infix (x y : T) : (!(Builtin.Str.occurrences (S x) (S y) 0 (S x).length 1).isEmpty) = true ↔ y <:+: x := by
  rw [PySem.StrLaws.found_iff]
  simp only [PySem.StrLaws.subAt_eq, S_len, S_tl, beq_iff_eq]
  constructor
  · rintro ⟨i, _, h⟩
    refine ⟨x.take i, (x.drop i).drop y.length, ?_⟩
    have e : y ++ (x.drop i).drop y.length = x.drop i := by
      conv => lhs; lhs; rw [← h]
      exact List.take_append_drop _ _
    rw [List.append_assoc, e, List.take_append_drop]
  · rintro ⟨a, b, rfl⟩
    refine ⟨a.length, by simp only [List.length_append]; omega, ?_⟩
    rw [List.append_assoc, List.drop_left, List.take_left]
theorem op_subT : OpR X (compareOp .In) (fun x y H Q => ∃ a b : T, x = vs a ∧ y = vs b ∧ ∀ k : Bool, (k = true ↔ a <:+: b) → Q (.bl k) H) := by
  intro pins s σ H x y v u Q I rx ry h
  obtain ⟨a, b, rfl, rfl, q⟩ := h
  exact op_in_str pins s σ H _ _ v u Q I rx ry ⟨S a, S b, rfl, rfl, q _ (found_infix b a)⟩
theorem op_notSubT : OpR X (compareOp .NotIn) (fun x y H Q => ∃ a b : T, x = vs a ∧ y = vs b ∧ ∀ k : Bool, (k = true ↔ ¬ a <:+: b) → Q (.bl k) H) := by
  intro pins s σ H x y v u Q I rx ry h
  obtain ⟨a, b, rfl, rfl, q⟩ := h
  refine op_notIn_str pins s σ H _ _ v u Q I rx ry ⟨S a, S b, rfl, rfl, q _ ?_⟩
  have := found_infix b a
  cases e : (!(Builtin.Str.occurrences (S b) (S a) 0 (S b).length 1).isEmpty) with
  | true => rw [e] at this; simp [this.mp rfl]
  | false =>
    rw [e] at this
    simp only [Bool.not_false, true_iff]
    intro z
    exact absurd (this.mpr z) (by decide)
theorem op_notSignT : OpR X (compareOp .NotIn) (fun x y H Q => ∃ (c : Nat) (b : T), x = vs [c] ∧ y = vs b ∧ Q (.bl (!decide (c ∈ b))) H) := by
  intro pins s σ H x y v u Q I rx ry h
  obtain ⟨c, b, rfl, rfl, q⟩ := h
  exact op_notIn_sign pins s σ H _ _ v u Q I rx ry ⟨c, S b, rfl, rfl, q⟩
theorem endswith_iff (a b : T) : Txt.endswith (S a) (S b) = true ↔ b <:+ a := by
  unfold Txt.endswith
  rw [PySem.StrLaws.subAt_eq]
  simp only [S_len, S_tl, Bool.and_eq_true, decide_eq_true_eq, beq_iff_eq, Nat.zero_add]
  constructor
  · rintro ⟨h1, h2⟩
    refine ⟨a.take (a.length - b.length), ?_⟩
    have e : (a.drop (a.length - b.length)).take b.length = a.drop (a.length - b.length) := List.take_of_length_le (by rw [List.length_drop]; omega)
    rw [e] at h2
    rw [← h2, List.length_drop]
    have : a.length - (a.length - (a.length - b.length)) = a.length - b.length := by omega
    rw [this, List.take_append_drop]
  · rintro ⟨c, rfl⟩
    refine ⟨by simp only [List.length_append]; omega, ?_⟩
    have e : (c ++ b).length - b.length = c.length := by simp
    rw [e, List.drop_left, List.take_length]
theorem mt_endsT : MtR X "str.endswith" (fun x xs H Q => ∃ a b : T, x = vs a ∧ xs = [vs b] ∧ ∀ k : Bool, (k = true ↔ b <:+ a) → Q (.bl k) H) := by
  intro pins s σ H x xs v us Q I rx rxs h
  obtain ⟨a, b, rfl, rfl, q⟩ := h
  exact mt_endswith pins s σ H _ _ v us Q I rx rxs ⟨S a, S b, rfl, rfl, q _ (endswith_iff a b)⟩
theorem join_nil : ∀ ws : List T, Str.join (S []) (ws.map S) = S ws.flatten
  | [] => rfl
  | [x] => by
    show S x = S ([x].flatten)
    simp
  | x :: y :: r => by
    have ih := join_nil (y :: r)
    show S x ++ S [] ++ Str.join (S []) ((y :: r).map S) = _
    rw [ih, S_app, S_app, List.append_nil]
    rfl
theorem mt_joinT : MtR X "str.join" (fun x xs H Q => ∃ (p : Addr) (ws : List T), x = vs [] ∧ xs = [.ref p] ∧ SqL X.K H p (ws.map vs) ∧ (ws.map (·.length)).sum ≤ 16777216 ∧ Q (vs ws.flatten) H) := by
  intro pins s σ H x xs v us Q I rx rxs h
  obtain ⟨p, ws, rfl, rfl, hq, hl, q⟩ := h
  refine mt_join pins s σ H _ _ v us Q I rx rxs ⟨S [], p, ws.map S, rfl, rfl, .inl (by rw [List.map_map]; exact hq), ?_, ?_⟩
  · rw [List.map_map, List.length_map]
    have e : (fun x : Str => x.length) ∘ S = fun l : T => l.length := by
      funext l
      exact S_len l
    show (ws.map ((fun x : Str => x.length) ∘ S)).sum + ws.length * (S []).length ≤ 16777216
    rw [e]
    exact hl
  · have e : Txt.join (S []) (ws.map S) = S ws.flatten := (PySem.StrLaws.glued_eq_join _ _).trans (join_nil ws)
    rw [e]
    exact q
end
end TX

set_option Elab.async false
set_option linter.all false
set_option maxRecDepth 100000
/-! The text by places, the names of the defs, what the top leaves, the promises. -/
namespace TX
open PySem PySem.Spec PyProof.Rows L2

def topS (i : Nat) : Stmt := PySem.Challenge.pw_textshards_k24_whole_certain_on_every_li.main.body.getD i (.Pass ⟨0, 0, 0, 0⟩)
abbrev s_check_shards : Stmt := topS 14
theorem sc_check_shards : FnScope ["pieces", "grain", "piece"] ["pieces", "grain"] (defScope s_check_shards) := ⟨rfl, rfl, rfl, by decide +kernel, rfl, by decide +kernel, by decide +kernel⟩
abbrev s_check_shape : Stmt := topS 15
theorem sc_check_shape : FnScope ["shape"] ["shape"] (defScope s_check_shape) := ⟨rfl, rfl, rfl, by decide +kernel, rfl, by decide +kernel, by decide +kernel⟩
abbrev s_window_list : Stmt := topS 16
theorem sc_window_list : FnScope ["pieces", "grain", "found", "piece", "p"] ["pieces", "grain"] (defScope s_window_list) := ⟨rfl, rfl, rfl, by decide +kernel, rfl, by decide +kernel, by decide +kernel⟩
abbrev s_gram_list : Stmt := topS 17
theorem sc_gram_list : FnScope ["windows", "found", "window", "gram"] ["windows"] (defScope s_gram_list) := ⟨rfl, rfl, rfl, by decide +kernel, rfl, by decide +kernel, by decide +kernel⟩
abbrev s_following : Stmt := topS 18
theorem sc_following : FnScope ["windows", "gram", "window"] ["windows", "gram"] (defScope s_following) := ⟨rfl, rfl, rfl, by decide +kernel, rfl, by decide +kernel, by decide +kernel⟩
abbrev s_advance : Stmt := topS 20
theorem sc_advance : FnScope ["word", "matched", "letter", "read", "k"] ["word", "matched", "letter"] (defScope s_advance) := ⟨rfl, rfl, rfl, by decide +kernel, rfl, by decide +kernel, by decide +kernel⟩
abbrev s_check_word : Stmt := topS 23
theorem sc_check_word : FnScope ["word"] ["word"] (defScope s_check_word) := ⟨rfl, rfl, rfl, by decide +kernel, rfl, by decide +kernel, by decide +kernel⟩
abbrev s_check_line : Stmt := topS 29
theorem sc_check_line : FnScope ["pieces"] ["pieces"] (defScope s_check_line) := ⟨rfl, rfl, rfl, by decide +kernel, rfl, by decide +kernel, by decide +kernel⟩
abbrev s_tail_after : Stmt := topS 30
theorem sc_tail_after : FnScope ["pieces", "tail", "letter", "read", "start", "end", "piece"] ["pieces", "tail", "letter"] (defScope s_tail_after) := ⟨rfl, rfl, rfl, by decide +kernel, rfl, by decide +kernel, by decide +kernel⟩
abbrev s_state_after : Stmt := topS 31
theorem sc_state_after : FnScope ["pieces", "word", "state", "letter", "gram", "tail", "matched", "found", "fresh", "longer", "now", "k"] ["pieces", "word", "state", "letter"] (defScope s_state_after) := ⟨rfl, rfl, rfl, by decide +kernel, rfl, by decide +kernel, by decide +kernel⟩
abbrev s_first_list : Stmt := topS 32
theorem sc_first_list : FnScope ["pieces", "windows", "word", "states", "gram", "state", "letter"] ["pieces", "windows", "word"] (defScope s_first_list) := ⟨rfl, rfl, rfl, by decide +kernel, rfl, by decide +kernel, by decide +kernel⟩
abbrev s_line_way_of : Stmt := topS 33
theorem sc_line_way_of : FnScope ["pieces", "windows", "word", "state", "letter"] ["pieces", "windows", "word", "state", "letter"] (defScope s_line_way_of) := ⟨rfl, rfl, rfl, by decide +kernel, rfl, by decide +kernel, by decide +kernel⟩
abbrev s_line_decision : Stmt := topS 43
theorem sc_line_decision : FnScope ["pieces", "windows", "word", "texts", "order", "state", "at", "letter", "other"] ["pieces", "windows", "word"] (defScope s_line_decision) := ⟨rfl, rfl, rfl, by decide +kernel, rfl, by decide +kernel, by decide +kernel⟩
abbrev s_decided : Stmt := topS 44
theorem sc_decided : FnScope ["pieces", "grain", "word", "shape", "windows"] ["pieces", "grain", "word", "shape"] (defScope s_decided) := ⟨rfl, rfl, rfl, by decide +kernel, rfl, by decide +kernel, by decide +kernel⟩
abbrev s_check_question : Stmt := topS 45
theorem sc_check_question : FnScope ["pieces", "grain", "shape"] ["pieces", "grain", "shape"] (defScope s_check_question) := ⟨rfl, rfl, rfl, by decide +kernel, rfl, by decide +kernel, by decide +kernel⟩
abbrev s_decide : Stmt := topS 46
theorem sc_decide : FnScope ["pieces", "grain", "word", "shape"] ["pieces", "grain", "word", "shape"] (defScope s_decide) := ⟨rfl, rfl, rfl, by decide +kernel, rfl, by decide +kernel, by decide +kernel⟩
abbrev s_example : Stmt := topS 47
theorem sc_example : FnScope ["pieces", "grain", "shape", "answer", "found"] ["pieces", "grain", "shape"] (defScope s_example) := ⟨rfl, rfl, rfl, by decide +kernel, rfl, by decide +kernel, by decide +kernel⟩
abbrev s_l_begin : Stmt := topS 49
theorem sc_l_begin : FnScope ["_law_script", "_law_seed", "_law_cell"] ["_law_script"] (defScope s_l_begin) := ⟨rfl, rfl, rfl, by decide +kernel, rfl, by decide +kernel, by decide +kernel⟩
abbrev s_l_take : Stmt := topS 50
theorem sc_l_take : FnScope ["_law_d", "_law_many", "_law_small", "_law_digit"] ["_law_d", "_law_many"] (defScope s_l_take) := ⟨rfl, rfl, rfl, by decide +kernel, rfl, by decide +kernel, by decide +kernel⟩
abbrev s_l_letters : Stmt := topS 51
theorem sc_l_letters : FnScope [] [] (defScope s_l_letters) := ⟨rfl, rfl, rfl, by decide +kernel, rfl, by decide +kernel, by decide +kernel⟩
abbrev s_l_signs : Stmt := topS 52
theorem sc_l_signs : FnScope ["_law_d", "_law_menu", "_law_signs_here", "_law_at"] ["_law_d"] (defScope s_l_signs) := ⟨rfl, rfl, rfl, by decide +kernel, rfl, by decide +kernel, by decide +kernel⟩
abbrev s_l_text : Stmt := topS 53
theorem sc_l_text : FnScope ["_law_d", "_law_signs_here", "_law_size", "_law_k"] ["_law_d", "_law_signs_here", "_law_size"] (defScope s_l_text) := ⟨rfl, rfl, rfl, by decide +kernel, rfl, by decide +kernel, by decide +kernel⟩
abbrev s_l_rich : Stmt := topS 54
theorem sc_l_rich : FnScope ["_law_d", "_law_signs_here", "_law_size", "_law_text_here", "_law_menu", "_law_at"] ["_law_d", "_law_signs_here", "_law_size"] (defScope s_l_rich) := ⟨rfl, rfl, rfl, by decide +kernel, rfl, by decide +kernel, by decide +kernel⟩
abbrev s_l_round : Stmt := topS 55
theorem sc_l_round : FnScope ["_law_circle", "_law_start", "_law_count", "_law_k"] ["_law_circle", "_law_start", "_law_count"] (defScope s_l_round) := ⟨rfl, rfl, rfl, by decide +kernel, rfl, by decide +kernel, by decide +kernel⟩
abbrev s_l_windows : Stmt := topS 57
theorem sc_l_windows : FnScope ["_law_pieces", "_law_grain", "_law_found", "_law_piece", "_law_p"] ["_law_pieces", "_law_grain"] (defScope s_l_windows) := ⟨rfl, rfl, rfl, by decide +kernel, rfl, by decide +kernel, by decide +kernel⟩
abbrev s_l_explains : Stmt := topS 58
theorem sc_l_explains : FnScope ["_law_pieces", "_law_grain", "_law_text_here", "_law_shape", "_law_windows_here", "_law_piece", "_law_p"] ["_law_pieces", "_law_grain", "_law_text_here", "_law_shape"] (defScope s_l_explains) := ⟨rfl, rfl, rfl, by decide +kernel, rfl, by decide +kernel, by decide +kernel⟩
abbrev s_l_cut : Stmt := topS 59
theorem sc_l_cut : FnScope ["_law_d", "_law_text_here", "_law_grain", "_law_shape", "_law_many", "_law_pieces", "_law_step", "_law_at", "_law_size", "_law_order"] ["_law_d", "_law_text_here", "_law_grain", "_law_shape", "_law_many"] (defScope s_l_cut) := ⟨rfl, rfl, rfl, by decide +kernel, rfl, by decide +kernel, by decide +kernel⟩
abbrev s_l_shards : Stmt := topS 60
theorem sc_l_shards : FnScope ["_law_d", "_law_shape", "_law_signs_here", "_law_grain", "_law_text_here", "_law_pieces"] ["_law_d", "_law_shape"] (defScope s_l_shards) := ⟨rfl, rfl, rfl, by decide +kernel, rfl, by decide +kernel, by decide +kernel⟩
abbrev s_l_word : Stmt := topS 61
theorem sc_l_word : FnScope ["_law_d", "_law_pieces", "_law_text_here", "_law_signs_here", "_law_most", "_law_menu", "_law_size", "_law_piece", "_law_at"] ["_law_d", "_law_pieces", "_law_text_here", "_law_signs_here", "_law_most"] (defScope s_l_word) := ⟨rfl, rfl, rfl, by decide +kernel, rfl, by decide +kernel, by decide +kernel⟩
abbrev s_l_walk : Stmt := topS 62
theorem sc_l_walk : FnScope ["_law_d", "_law_pieces", "_law_grain", "_law_start", "_law_size", "_law_windows_here", "_law_text_here", "_law_k", "_law_gram", "_law_signs_here", "_law_window"] ["_law_d", "_law_pieces", "_law_grain", "_law_start", "_law_size"] (defScope s_l_walk) := ⟨rfl, rfl, rfl, by decide +kernel, rfl, by decide +kernel, by decide +kernel⟩
abbrev s_l_joined : Stmt := topS 63
theorem sc_l_joined : FnScope ["_law_d", "_law_pieces", "_law_grain", "_law_order", "_law_left", "_law_k", "_law_at", "_law_text_here", "_law_piece", "_law_n", "_law_found"] ["_law_d", "_law_pieces", "_law_grain"] (defScope s_l_joined) := ⟨rfl, rfl, rfl, by decide +kernel, rfl, by decide +kernel, by decide +kernel⟩
abbrev s_law : Stmt := topS 64
theorem sc_law : FnScope ["_law_script", "_law_d", "_law_pieces", "_law_grain", "_law_text_here", "_law_signs_here", "_law_word_here", "_law_answer", "_law_told", "_law_lines", "_law_k", "_law_joined_here", "_law_start", "_law_found", "_law_line"] ["_law_script"] (defScope s_law) := ⟨rfl, rfl, rfl, by decide +kernel, rfl, by decide +kernel, by decide +kernel⟩

/-! ### built-ins and constants -/
theorem b_len : bootBuiltins "len" = some (.builtin "len") := by decide +kernel
theorem b_abs : bootBuiltins "abs" = some (.builtin "abs") := by decide +kernel
theorem b_min : bootBuiltins "min" = some (.builtin "min") := by decide +kernel
theorem b_max : bootBuiltins "max" = some (.builtin "max") := by decide +kernel
theorem b_all : bootBuiltins "all" = some (.builtin "all") := by decide +kernel
theorem b_sorted : bootBuiltins "sorted" = some (.builtin "sorted") := by decide +kernel
theorem b_int : bootBuiltins "int" = some (.type "int") := by decide +kernel
theorem b_list : bootBuiltins "list" = some (.type "list") := by decide +kernel
theorem b_tuple : bootBuiltins "tuple" = some (.type "tuple") := by decide +kernel
/-- what the module's names hold -/
structure Txt (mg : Str → Option Value) : Prop where
  m_len : mg "len" = none
  m_abs : mg "abs" = none
  m_min : mg "min" = none
  m_max : mg "max" = none
  m_all : mg "all" = none
  m_sorted : mg "sorted" = none
  m_int : mg "int" = none
  m_list : mg "list" = none
  m_tuple : mg "tuple" = none
  m_range : mg "range" = none
  g_GRAIN_LIMIT : ∃ t, mg "GRAIN_LIMIT" = some (.int 12 t)
  g_PIECE_LIMIT : ∃ t, mg "PIECE_LIMIT" = some (.int 40 t)
  g_LETTER_LIMIT : ∃ t, mg "LETTER_LIMIT" = some (.int 60 t)
  g_WORD_LIMIT : ∃ t, mg "WORD_LIMIT" = some (.int 60 t)
  g_LINE_LIMIT : ∃ t, mg "LINE_LIMIT" = some (.int 8 t)
  g_NOWHERE : ∃ t, mg "NOWHERE" = some (.str (S [32]) t)
section
variable {X : Cx} {x : Str} {pos : Pos}
theorem pe_globI {i : Int} (hg : Gl X x) (h : ∃ t, X.mg x = some (.int i t)) (hd : (x == ("__debug__" : Str)) = false := by decide) : PE X (.Name x pos) (tC (.int i)) := by
  obtain ⟨t, e⟩ := h
  exact pe_glob hg e ⟨t, rfl⟩ hd
theorem pe_globS {z : Str} (hg : Gl X x) (h : ∃ t, X.mg x = some (.str z t)) (hd : (x == ("__debug__" : Str)) = false := by decide) : PE X (.Name x pos) (tC (.str z)) := by
  obtain ⟨t, e⟩ := h
  exact pe_glob hg e ⟨t, rfl⟩ hd
end
/-- a def that stands, with its promise -/
structure Gd (P : Program) (w : World) (K : PySem.W.Frag) (mg : Str → Option Value) (base : Heap) (k : Nat) (x : Str) (ps : List Str) (sp : Sp) (f : Addr) (fd : FuncData) : Prop where
  ok : FnOk P w K mg base CX0 k f fd ps sp
  gl : mg x = some (.ref f)
  kp : PySem.W.keepIn K (.ref f) = true
  bd : Binds K fd ps []
section
variable {X : Cx} {x : Str} {p pos : Pos} {k j : Nat} {ps : List Str} {sp : Sp} {f : Addr} {fd : FuncData} {e : Expr} {es : List Expr} {t : TA}
theorem pcall (g : Gd X.prog X.w X.K X.mg X.base k x ps sp f fd) (hr : Room j X.A) (hj : k ≤ j) (hg : Gl X x) (ha : PA X (e :: es) t) (hdb : (x == ("__debug__" : Str)) = false := by decide)
    (he : starEach (e :: es) X.env = (false, eval e X.env) :: starEach es X.env := by rfl) (hpl : (backTo pos (starEach es X.env)).any (·.1) = false := by rfl) : PE X (.Call (.Name x p) (e :: es) [] pos) (tCall sp [] E0 t) :=
  pe_call g.ok (hr.mono hj) hg g.gl g.kp g.bd .nil pass0 ha hdb he hpl
theorem pcall0 (g : Gd X.prog X.w X.K X.mg X.base k x ps sp f fd) (hr : Room j X.A) (hj : k ≤ j) (hg : Gl X x) (hdb : (x == ("__debug__" : Str)) = false := by decide) : PE X (.Call (.Name x p) [] [] pos) (tCall sp [] E0 tNil) :=
  pe_call0 g.ok (hr.mono hj) hg g.gl g.kp g.bd .nil pass0 hdb
end
theorem hu16 {A : Around} {k : Nat} (hr : Room k A) : A.units + 16 < cLine := by
  have := hr.un
  omega

/-! ### small words -/
/-- a written text's letters -/
def lst (s : String) : T := (Str.ofString s).cps.toList
theorem lst_nil : lst "" = [] := by decide +kernel
theorem ki {i : Int} {n : Nat} (h : i = (n : Int)) : V.int i = kint n := by
  subst h
  rfl
theorem same_upd {H : Hp} {p : Addr} {o : HO} (h : H p = Option.none) : Same H (upd H p o) := fun b x e => by
  rw [upd_ne (ne_of_none e h)]
  exact e
/-- the pieces and the grain of a law's input -/
structure Pcs (ps : List T) (g : Nat) : Prop where
  ne : ps ≠ []
  n : ps.length ≤ 6
  l : ∀ p ∈ ps, g ≤ p.length ∧ p.length ≤ 9
  g0 : 0 < g
  g1 : g ≤ 3
/-- the law's draws stand at d, the script's list at s -/
def DrS (H : Hp) (d s : Addr) : Prop := ∃ (ns : List Int) (i : Nat) (cur seed : Int), H d = some (.lst [.ref s, kint i, .int cur, .int seed]) ∧ H s = some (.lst (ns.map V.int)) ∧ s ≠ d ∧ 0 ≤ cur ∧ 0 ≤ seed ∧ seed < 2147483647
def Dr (H : Hp) (d : Addr) : Prop := ∃ s : Addr, DrS H d s
/-- all but the draws is as it was -/
def FrD (d : Addr) (H H' : Hp) : Prop := ∀ b o, b ≠ d → H b = some o → H' b = some o
structure DD (d : Addr) (H H' : Hp) : Prop where
  fr : FrD d H H'
  keep : ∀ s, DrS H d s → DrS H' d s
  dr : Dr H' d
theorem DrS.one {H : Hp} {d s s' : Addr} (h : DrS H d s) (h' : DrS H d s') : s = s' := by
  obtain ⟨_, _, _, _, h1, _⟩ := h
  obtain ⟨_, _, _, _, h2, _⟩ := h'
  rw [h1] at h2
  injection h2 with h2
  injection h2 with h2
  injection h2 with h2
  injection h2 with h2
theorem DD.of {d s : Addr} {H H' : Hp} (h : DrS H d s) (f : FrD d H H') (h' : DrS H' d s) : DD d H H' := ⟨f, fun s' hs => by rw [hs.one h]; exact h', s, h'⟩
theorem DD.refl {d : Addr} {H : Hp} (h : Dr H d) : DD d H H := ⟨fun _ _ _ e => e, fun _ h => h, h⟩
theorem DD.trans {d : Addr} {H H1 H2 : Hp} (a : DD d H H1) (b : DD d H1 H2) : DD d H H2 := ⟨fun c o n e => b.fr c o n (a.fr c o n e), fun s h => b.keep s (a.keep s h), b.dr⟩
theorem DrS.same {d s : Addr} {H H' : Hp} (h : DrS H d s) (x : Same H H') : DrS H' d s := by
  obtain ⟨ns, i, cur, seed, h1, h2, h3⟩ := h
  exact ⟨ns, i, cur, seed, x _ _ h1, x _ _ h2, h3⟩
theorem Dr.same {d : Addr} {H H' : Hp} (h : Dr H d) (x : Same H H') : Dr H' d := by
  obtain ⟨s, h⟩ := h
  exact ⟨s, h.same x⟩
theorem DD.same {d : Addr} {H H' : Hp} (h : Dr H d) (x : Same H H') : DD d H H' := ⟨fun b o _ e => x b o e, fun s z => z.same x, h.same x⟩
theorem DD.to {d : Addr} {H H1 H2 : Hp} (a : DD d H H1) (s : Same H1 H2) : DD d H H2 := a.trans (.same a.dr s)
theorem Dr.at {d : Addr} {H : Hp} (h : Dr H d) : ∃ xs, H d = some (.lst xs) := by
  obtain ⟨_, _, _, _, _, h1, _⟩ := h
  exact ⟨_, h1⟩
theorem Dr.netup {d a : Addr} {H : Hp} {xs : List V} (h : Dr H d) (e : H a = some (.tup xs)) : a ≠ d := by
  obtain ⟨ys, h1⟩ := h.at
  exact ne_of e h1 (fun z => nomatch z)
theorem DD.tup {d a : Addr} {H H' : Hp} {xs : List V} (h : Dr H d) (x : DD d H H') (e : H a = some (.tup xs)) : H' a = some (.tup xs) := x.fr _ _ (h.netup e) e
/-- an object that is not of the entry is stored -/
theorem DD.put {d D : Addr} {H H1 : Hp} {o : HO} (h : Dr H d) (hD : H D = Option.none) (x : DD d H H1) : DD d H (upd H1 D o) := by
  obtain ⟨s, hs⟩ := h
  obtain ⟨ns, i, cur, seed, h1, h2, h3⟩ := x.keep s hs
  obtain ⟨_, _, _, _, k1, k2, _⟩ := id hs
  refine DD.of hs (fun b u nb e => ?_) ⟨ns, i, cur, seed, ?_, ?_, h3⟩
  · rw [upd_ne (ne_of_none e hD)]
    exact x.fr b u nb e
  · rw [upd_ne (ne_of_none k1 hD)]
    exact h1
  · rw [upd_ne (ne_of_none k2 hD)]
    exact h2
theorem Dr.ne {d D : Addr} {H : Hp} (h : Dr H d) (hD : H D = Option.none) : D ≠ d := by
  obtain ⟨ys, h1⟩ := h.at
  exact (ne_of_none h1 hD).symm

/-! ### the promises -/
def sp_check_shards : Sp := fun xs H Q _ => ∃ (a : Addr) (ps : List T) (g : Nat), xs = [.ref a, kint g] ∧ H a = some (.tup (ps.map vs)) ∧ Pcs ps g ∧ Q .non H
def sp_check_shape : Sp := fun xs H Q _ => xs = [vs (lst "line")] ∧ Q .non H
def sp_check_word : Sp := fun xs H Q _ => ∃ w : T, xs = [vs w] ∧ w ≠ [] ∧ w.length ≤ 60 ∧ Q .non H
def sp_check_line : Sp := fun xs H Q _ => ∃ (a : Addr) (ps : List T), xs = [.ref a] ∧ H a = some (.tup (ps.map vs)) ∧ ps.length ≤ 8 ∧ Q .non H
def sp_check_question : Sp := fun xs H Q _ => ∃ (a : Addr) (ps : List T) (g : Nat), xs = [.ref a, kint g, vs (lst "line")] ∧ H a = some (.tup (ps.map vs)) ∧ Pcs ps g ∧ Q .non H
def sp_window_list : Sp := fun xs H Q _ => ∃ (a : Addr) (ps : List T) (g : Nat), xs = [.ref a, kint g] ∧ H a = some (.tup (ps.map vs)) ∧ Pcs ps g ∧
  ∀ (H' : Hp) (p : Addr) (ws : List T), Same H H' → H' p = some (.tup (ws.map vs)) → (∀ x, x ∈ ws ↔ Win ps g x) → ws.Nodup → Q (.ref p) H'
def sp_gram_list : Sp := fun xs H Q _ => ∃ (a : Addr) (ws : List T), xs = [.ref a] ∧ H a = some (.tup (ws.map vs)) ∧ ws.length ≤ 100 ∧ (∀ x ∈ ws, x.length ≤ 60) ∧
  ∀ (H' : Hp) (p : Addr) (gs : List T), Same H H' → H' p = some (.tup (gs.map vs)) → gs.Nodup → gs.length ≤ 200 → (∀ y, y ∈ gs ↔ ∃ x ∈ ws, y = x.dropLast ∨ y = x.drop 1) → Q (.ref p) H'
def sp_following : Sp := fun xs H Q _ => ∃ (a : Addr) (ws : List T) (gr : T), xs = [.ref a, vs gr] ∧ H a = some (.tup (ws.map vs)) ∧ ws.length ≤ 100 ∧ (∀ x ∈ ws, x ≠ [] ∧ x.length ≤ 60) ∧
  ∀ (H' : Hp) (l : T), Same H H' → (∀ c, c ∈ l ↔ gr ++ [c] ∈ ws) → l.length ≤ 100 → Q (vs l) H'
def sp_advance : Sp := fun xs H Q _ => ∃ (w : T) (m c : Nat), xs = [vs w, kint m, vs [c]] ∧ m < w.length ∧ w.length ≤ 60 ∧ Q (kint (lsuf (isBeg w) (w.take m ++ [c])).length) H
def sp_tail_after : Sp := fun xs H Q _ => ∃ (a : Addr) (ps : List T) (tl : T) (c : Nat), xs = [.ref a, vs tl, vs [c]] ∧ H a = some (.tup (ps.map vs)) ∧ tl.length ≤ 60 ∧ (∀ p ∈ ps, p.length ≤ 60) ∧ Q (vs (lsuf (isTail ps) (tl ++ [c]))) H
def sp_state_after : Sp := fun xs H Q _ => ∃ (a b : Addr) (ps : List T) (w gr t : T) (c : Nat), xs = [.ref a, vs w, .ref b, vs [c]] ∧ H a = some (.tup (ps.map vs)) ∧ StAt H b (st ps w gr t) ∧ w.length ≤ 60 ∧ ¬ w <:+ t ∧
  ps.length ≤ 6 ∧ (∀ p ∈ ps, p.length ≤ 9) ∧ gr.length ≤ 60 ∧ (w <:+ t ++ [c] → ∀ H', Same H H' → Q .non H') ∧
  (¬ w <:+ t ++ [c] → ∀ (H' : Hp) (b' : Addr), Same H H' → StAt H' b' (st ps w ((gr ++ [c]).drop 1) (t ++ [c])) → Q (.ref b') H')
/-- the pieces, the windows and the word of a search -/
structure Srch (H : Hp) (a aw : Addr) (ps ws : List T) (g : Nat) (w : T) : Prop where
  pa : H a = some (.tup (ps.map vs))
  wa : H aw = some (.tup (ws.map vs))
  pc : Pcs ps g
  wm : ∀ x, x ∈ ws ↔ Win ps g x
  wn : ws.Nodup
  w0 : w ≠ []
  w8 : w.length ≤ 8
theorem Srch.same {H H' : Hp} {a aw : Addr} {ps ws : List T} {g : Nat} {w : T} (h : Srch H a aw ps ws g w) (s : Same H H') : Srch H' a aw ps ws g w := ⟨s _ _ h.pa, s _ _ h.wa, h.pc, h.wm, h.wn, h.w0, h.w8⟩
def sp_first_list : Sp := fun xs H Q _ => ∃ (a aw : Addr) (ps ws : List T) (g : Nat) (w : T), xs = [.ref a, .ref aw, vs w] ∧ Srch H a aw ps ws g w ∧
  ∀ (H' : Hp) (p : Addr) (es : List (T × Addr)), Same H H' → H' p = some (.tup (es.map fun e => V.ref e.2)) → (∀ e ∈ es, StAt H' e.2 (sg ps g w e.1)) → (es.map (·.1)).Nodup →
    (∀ t, t ∈ es.map (·.1) ↔ Gm ps g t ∧ ¬ w <:+: t) → Q (.ref p) H'
def sp_line_way_of : Sp := fun xs H Q _ => ∃ (a aw b : Addr) (ps ws : List T) (g : Nat) (w t : T) (c : Nat), xs = [.ref a, .ref aw, vs w, .ref b, vs [c]] ∧ Srch H a aw ps ws g w ∧ StAt H b (sg ps g w t) ∧ g - 1 ≤ t.length ∧
  Win ps g (last (g - 1) t ++ [c]) ∧ ¬ w <:+ t ∧ (w <:+ t ++ [c] → ∀ H', Same H H' → Q .non H') ∧ (¬ w <:+ t ++ [c] → ∀ (H' : Hp) (b' : Addr), Same H H' → StAt H' b' (sg ps g w (t ++ [c])) → Q (.ref b') H')
/-- what a decision hands back at p -/
def Dec (H : Hp) (p : Addr) (ps : List T) (g : Nat) (w : T) : Prop :=
  (∃ t : T, H p = some (.tup [vs (lst "lacking"), vs t]) ∧ Expl ps g t ∧ ¬ w <:+: t ∧ t.length ≤ 5000000) ∨ ∃ v : V, H p = some (.tup [vs (lst "always"), v]) ∧ ∀ t, Expl ps g t → w <:+: t
def sp_line_decision : Sp := fun xs H Q _ => ∃ (a aw : Addr) (ps ws : List T) (g : Nat) (w : T), xs = [.ref a, .ref aw, vs w] ∧ Srch H a aw ps ws g w ∧ ∀ (H' : Hp) (p : Addr), Same H H' → Dec H' p ps g w → Q (.ref p) H'
def sp_decided : Sp := fun xs H Q _ => ∃ (a : Addr) (ps : List T) (g : Nat) (w : T), xs = [.ref a, kint g, vs w, vs (lst "line")] ∧ H a = some (.tup (ps.map vs)) ∧ Pcs ps g ∧ w ≠ [] ∧ w.length ≤ 8 ∧
  ∀ (H' : Hp) (p : Addr), Same H H' → Dec H' p ps g w → Q (.ref p) H'
def sp_decide : Sp := sp_decided
def sp_example : Sp := fun xs H Q _ => ∃ (a : Addr) (ps : List T) (g : Nat), xs = [.ref a, kint g, vs (lst "line")] ∧ H a = some (.tup (ps.map vs)) ∧ Pcs ps g ∧
  ∀ (H' : Hp) (r : V), Same H H' → (r = .non ∨ ∃ t : T, r = vs t ∧ t.length ≤ 5000000) → Q r H'
def sp_l_begin (K : PySem.W.Frag) : Sp := fun xs H Q _ => ∃ (a : Addr) (ns : List Int), xs = [.ref a] ∧ SqL K H a (ns.map V.int) ∧ ns.length ≤ 63 ∧ ∀ (H' : Hp) (d : Addr), Same H H' → H d = Option.none → Dr H' d → Q (.ref d) H'
def sp_l_take : Sp := fun xs H Q _ => ∃ (d : Addr) (n : Nat), xs = [.ref d, kint n] ∧ Dr H d ∧ 0 < n ∧ n < 1073741824 ∧ ∀ (H' : Hp) (r : Nat), DD d H H' → r < n → Q (kint r) H'
def sp_l_letters : Sp := fun xs H Q _ => xs = [] ∧ ∀ l : T, 85 ≤ l.length → l.length ≤ 100 → Q (vs l) H
def sp_l_signs : Sp := fun xs H Q _ => ∃ d : Addr, xs = [.ref d] ∧ Dr H d ∧ ∀ (H' : Hp) (l : T), DD d H H' → l ≠ [] → l.length ≤ 100 → Q (vs l) H'
def sp_l_text : Sp := fun xs H Q _ => ∃ (d : Addr) (l : T) (n : Nat), xs = [.ref d, vs l, kint n] ∧ Dr H d ∧ l ≠ [] ∧ l.length ≤ 100 ∧ n ≤ 100 ∧ ∀ (H' : Hp) (t : T), DD d H H' → t.length = n → Q (vs t) H'
def sp_l_rich : Sp := fun xs H Q _ => ∃ (d : Addr) (l : T) (n : Nat), xs = [.ref d, vs l, kint n] ∧ Dr H d ∧ l ≠ [] ∧ l.length ≤ 100 ∧ 0 < n ∧ n ≤ 9 ∧ ∀ (H' : Hp) (t : T), DD d H H' → t.length = n → Q (vs t) H'
def sp_l_round : Sp := fun xs H Q _ => ∃ (c : T) (s n : Nat), xs = [vs c, kint s, kint n] ∧ c ≠ [] ∧ c.length ≤ 100 ∧ n ≤ 100 ∧ ∀ (H' : Hp) (t : T), Same H H' → t.length = n → Q (vs t) H'
def sp_l_windows : Sp := fun xs H Q _ => ∃ (a : Addr) (ps : List T) (g : Nat), xs = [.ref a, kint g] ∧ H a = some (.tup (ps.map vs)) ∧ Pcs ps g ∧
  ∀ (H' : Hp) (p : Addr) (ws : List T), Same H H' → H p = Option.none → H' p = some (.lst (ws.map vs)) → (∀ x, x ∈ ws ↔ Win ps g x) → ws.Nodup → Q (.ref p) H'
def sp_l_explains : Sp := fun xs H Q _ => ∃ (a : Addr) (ps : List T) (g : Nat) (t : T), xs = [.ref a, kint g, vs t, vs (lst "line")] ∧ H a = some (.tup (ps.map vs)) ∧ Pcs ps g ∧ t.length ≤ 6000000 ∧
  ∀ (H' : Hp) (k : Bool), Same H H' → (k = true ↔ Expl ps g t) → Q (.bl k) H'
def sp_l_cut : Sp := fun xs H Q _ => ∃ (d : Addr) (t : T) (g : Nat), xs = [.ref d, vs t, kint g, vs (lst "line"), kint 8] ∧ Dr H d ∧ 0 < g ∧ g ≤ 3 ∧ g ≤ t.length ∧ t.length ≤ 9 ∧
  ∀ (H' : Hp) (p : Addr) (ps : List T), DD d H H' → H' p = some (.tup (ps.map vs)) → ps ≠ [] → ps.length ≤ 5 → (∀ q ∈ ps, g ≤ q.length ∧ q.length ≤ 9) → Q (.ref p) H'
def sp_l_shards : Sp := fun xs H Q _ => ∃ d : Addr, xs = [.ref d, vs (lst "line")] ∧ Dr H d ∧
  ∀ (H' : Hp) (p a : Addr) (ps : List T) (g : Nat) (t l : T), DD d H H' → H' p = some (.tup [.ref a, kint g, vs t, vs l]) → H' a = some (.tup (ps.map vs)) → Pcs ps g → t ≠ [] → t.length ≤ 9 → l ≠ [] → l.length ≤ 100 → Q (.ref p) H'
def sp_l_word : Sp := fun xs H Q _ => ∃ (d a : Addr) (ps : List T) (t l : T), xs = [.ref d, .ref a, vs t, vs l, kint 7] ∧ Dr H d ∧ H a = some (.tup (ps.map vs)) ∧ ps ≠ [] ∧ ps.length ≤ 6 ∧ (∀ q ∈ ps, 0 < q.length ∧ q.length ≤ 9) ∧
  t ≠ [] ∧ t.length ≤ 9 ∧ l ≠ [] ∧ l.length ≤ 100 ∧ ∀ (H' : Hp) (w : T), DD d H H' → w ≠ [] → w.length ≤ 8 → Q (vs w) H'
def sp_l_walk : Sp := fun xs H Q _ => ∃ (d a : Addr) (ps : List T) (g : Nat) (s : T) (n : Nat), xs = [.ref d, .ref a, kint g, vs s, kint n] ∧ Dr H d ∧ H a = some (.tup (ps.map vs)) ∧ Pcs ps g ∧ s.length ≤ 6000 ∧ n ≤ 100 ∧
  ∀ (H' : Hp) (t : T), DD d H H' → t.length ≤ s.length + n → Q (vs t) H'
def sp_l_joined : Sp := fun xs H Q _ => ∃ (d a : Addr) (ps : List T) (g : Nat), xs = [.ref d, .ref a, kint g] ∧ Dr H d ∧ H a = some (.tup (ps.map vs)) ∧ Pcs ps g ∧ ∀ (H' : Hp) (t : T), DD d H H' → t.length ≤ 200 → Q (vs t) H'
def sp_law (K : PySem.W.Frag) : Sp := fun xs H Q _ => ∃ (a : Addr) (ns : List Int), xs = [.ref a] ∧ SqL K H a (ns.map V.int) ∧ ns.length ≤ 63 ∧ ∀ H', Q (.bl true) H'
end TX

set_option Elab.async false
set_option linter.all false
set_option maxRecDepth 100000
/-! Small lemmas for the readings: slices, lists, windows by and by. -/
namespace TX
open PySem PySem.Spec PyProof.Rows L2

theorem cut_to (l : T) (k : Nat) : cutL l none (some (k : Int)) = l.take k := by
  unfold cutL
  rw [HT.sIx_none, HT.sIx_nat, List.drop_zero, Nat.sub_zero]
  by_cases h : k ≤ l.length
  · rw [Nat.min_eq_left h]
  · rw [Nat.min_eq_right (by omega), List.take_length, List.take_of_length_le (by omega)]
theorem cut_from (l : T) (k : Nat) : cutL l (some (k : Int)) none = l.drop k := by
  unfold cutL
  rw [HT.sIx_none, HT.sIx_nat]
  by_cases h : k ≤ l.length
  · rw [Nat.min_eq_left h]
    exact List.take_of_length_le (by rw [List.length_drop]; exact Nat.le_refl _)
  · rw [Nat.min_eq_right (by omega), List.drop_length, List.drop_of_length_le (by omega)]
    simp
theorem cut_mid (l : T) (i j : Nat) : cutL l (some (i : Int)) (some (j : Int)) = (l.drop i).take (j - i) := by
  unfold cutL
  rw [HT.sIx_nat, HT.sIx_nat]
  by_cases h : i ≤ l.length
  · rw [Nat.min_eq_left h]
    by_cases h2 : j ≤ l.length
    · rw [Nat.min_eq_left h2]
    · rw [Nat.min_eq_right (by omega), List.take_of_length_le (by rw [List.length_drop]; exact Nat.le_refl _), List.take_of_length_le (by rw [List.length_drop]; omega)]
  · rw [Nat.min_eq_right (a := i) (by omega), List.drop_length, List.drop_of_length_le (by omega)]
    simp
theorem cut_neg (l : T) : cutL l none (some (-1)) = l.dropLast := by
  unfold cutL
  rw [HT.sIx_none, List.drop_zero, List.dropLast_eq_take]
  have e : HT.sIx l.length l.length (some (-1)) = l.length - 1 := by
    unfold HT.sIx
    simp only
    rw [if_pos (by decide)]
    omega
  rw [e, Nat.sub_zero]
theorem cutL_le (l : T) (lo hi : Option Int) : (cutL l lo hi).length ≤ l.length := by
  unfold cutL
  rw [List.length_take, List.length_drop]
  omega
theorem ktake {m n : Nat} : V.int ((m : Int) + (n : Int)) = kint (m + n) := ki (by omega)
theorem sz {n : Nat} (h : n ≤ 10000000) : n ≤ sizeLine := Nat.le_trans h (by decide)
theorem szl {n : Nat} (h : n ≤ 10000000) : n < sizeLine := Nat.lt_of_le_of_lt h (by decide)
theorem map_get {α β : Type} {f : α → β} {xs : List α} {i : Nat} {x : β} (h : (xs.map f)[i]? = some x) : ∃ y, xs[i]? = some y ∧ x = f y := by
  rw [List.getElem?_map] at h
  obtain ⟨p, hp, e⟩ := Option.map_eq_some_iff.mp h
  exact ⟨p, hp, e.symm⟩
theorem map_at {α β : Type} {f : α → β} {xs : List α} {i : Nat} {y : α} (h : xs[i]? = some y) : (xs.map f)[i]? = some (f y) := by
  rw [List.getElem?_map, h]
  rfl
theorem at_nat {xs : List V} {i : Int} {j : Nat} {v : V} (e : i = (j : Int)) (h : xs[j]? = some v) : atI xs i = some v := by
  subst e
  exact atI_nat h
theorem at_natT {xs : T} {i : Int} {j c : Nat} (e : i = (j : Int)) (h : xs[j]? = some c) : atI xs i = some c := by
  subst e
  exact atI_nat h
theorem at_end {α : Type} {xs : List α} {v : α} (h : xs.getLast? = some v) : atI xs (-1) = some v := by
  have hne : xs ≠ [] := fun z => by
    subst z
    simp at h
  have e : xs.dropLast ++ [xs.getLast hne] = xs := List.dropLast_concat_getLast hne
  have e2 : xs.getLast hne = v := by
    rw [List.getLast?_eq_getLast hne] at h
    exact Option.some.inj h
  rw [← e, e2]
  exact atI_last _ _

/-! ### the windows by and by -/
theorem win_zero {ps : List T} {g : Nat} {x : T} : ¬ Win (ps.take 0) g x := by
  rintro ⟨q, hq, _⟩
  simp at hq
theorem win_succ {ps : List T} {g i : Nat} {q x : T} (h : ps[i]? = some q) : Win (ps.take (i + 1)) g x ↔ Win (ps.take i) g x ∨ ∃ p, p + g ≤ q.length ∧ x = (q.drop p).take g := by
  unfold Win
  rw [List.take_add_one, h]
  constructor
  · rintro ⟨r, hr, p, hp, e⟩
    rcases List.mem_append.mp hr with hr | hr
    · exact .inl ⟨r, hr, p, hp, e⟩
    · have : r = q := by simpa using hr
      subst this
      exact .inr ⟨p, hp, e⟩
  · rintro (⟨r, hr, p, hp, e⟩ | ⟨p, hp, e⟩)
    · exact ⟨r, List.mem_append_left _ hr, p, hp, e⟩
    · exact ⟨q, List.mem_append_right _ (by simp), p, hp, e⟩
/-- what was found so far: the windows of the first i pieces, the first j of the next -/
def Fnd (ps : List T) (g i : Nat) (q : T) (j : Nat) (fo : List T) : Prop := fo.Nodup ∧ ∀ x, x ∈ fo ↔ Win (ps.take i) g x ∨ ∃ p, p < j ∧ x = (q.drop p).take g
def Fnd0 (ps : List T) (g i : Nat) (fo : List T) : Prop := fo.Nodup ∧ ∀ x, x ∈ fo ↔ Win (ps.take i) g x
theorem Fnd0.start {ps : List T} {g : Nat} : Fnd0 ps g 0 [] := ⟨List.nodup_nil, fun x => ⟨fun h => absurd h (by simp), fun h => absurd h win_zero⟩⟩
theorem Fnd.start {ps : List T} {g i : Nat} {q : T} {fo : List T} (h : Fnd0 ps g i fo) : Fnd ps g i q 0 fo := ⟨h.1, fun x => by
  rw [h.2]
  constructor
  · exact .inl
  · rintro (h | ⟨p, hp, _⟩)
    · exact h
    · exact absurd hp (Nat.not_lt_zero _)⟩
theorem Fnd.done {ps : List T} {g i n : Nat} {q : T} {fo : List T} (hq : ps[i]? = some q) (hn : n + g = q.length + 1) (h : Fnd ps g i q n fo) : Fnd0 ps g (i + 1) fo := ⟨h.1, fun x => by
  rw [h.2, win_succ hq]
  constructor
  · rintro (h | ⟨p, hp, e⟩)
    · exact .inl h
    · exact .inr ⟨p, by omega, e⟩
  · rintro (h | ⟨p, hp, e⟩)
    · exact .inl h
    · exact .inr ⟨p, by omega, e⟩⟩
theorem Fnd.old {ps : List T} {g i j : Nat} {q : T} {fo : List T} (h : Fnd ps g i q j fo) (hm : (q.drop j).take g ∈ fo) : Fnd ps g i q (j + 1) fo := ⟨h.1, fun x => by
  constructor
  · intro hx
    rcases (h.2 x).mp hx with z | ⟨p, hp, e⟩
    · exact .inl z
    · exact .inr ⟨p, by omega, e⟩
  · rintro (z | ⟨p, hp, e⟩)
    · exact (h.2 x).mpr (.inl z)
    · by_cases hpj : p = j
      · subst hpj
        rw [e]
        exact hm
      · exact (h.2 x).mpr (.inr ⟨p, by omega, e⟩)⟩
theorem nodup_snoc {α : Type} {l : List α} {x : α} (h : l.Nodup) (hx : ¬ x ∈ l) : (l ++ [x]).Nodup := by
  rw [List.nodup_append]
  refine ⟨h, by simp, fun a ha b hb => ?_⟩
  have : b = x := by simpa using hb
  subst this
  exact fun e => hx (e ▸ ha)
theorem Fnd.new {ps : List T} {g i j : Nat} {q : T} {fo : List T} (h : Fnd ps g i q j fo) (hm : ¬ (q.drop j).take g ∈ fo) : Fnd ps g i q (j + 1) (fo ++ [(q.drop j).take g]) := ⟨nodup_snoc h.1 hm, fun x => by
  rw [List.mem_append, h.2 x]
  constructor
  · rintro ((z | ⟨p, hp, e⟩) | z)
    · exact .inl z
    · exact .inr ⟨p, by omega, e⟩
    · exact .inr ⟨j, by omega, by simpa using z⟩
  · rintro (z | ⟨p, hp, e⟩)
    · exact .inl (.inl z)
    · by_cases hpj : p = j
      · subst hpj
        exact .inr (by rw [e]; simp)
      · exact .inl (.inr ⟨p, by omega, e⟩)⟩
theorem Pcs.winsLe {ps : List T} {g : Nat} (pc : Pcs ps g) : (wins ps g).length ≤ 54 := by
  have a := wins_le (ps := ps) (g := g) (n := 9) fun p hp => by
    have := pc.l p hp
    have := pc.g0
    omega
  have := pc.n
  omega
/-- few windows -/
theorem Pcs.few {ps : List T} {g : Nat} {ws : List T} (pc : Pcs ps g) (hn : ws.Nodup) (h : ∀ x ∈ ws, Win ps g x) : ws.length ≤ 54 :=
  Nat.le_trans (nodup_le ws (wins ps g) hn fun x hx => mem_wins.mpr (h x hx)) pc.winsLe
theorem Win.mono {ps : List T} {g i : Nat} {x : T} (h : Win (ps.take i) g x) : Win ps g x := by
  obtain ⟨q, hq, r⟩ := h
  exact ⟨q, List.mem_of_mem_take hq, r⟩
theorem Fnd.few {ps : List T} {g i j : Nat} {q : T} {fo : List T} (pc : Pcs ps g) (hq : ps[i]? = some q) (hj : j + g ≤ q.length + 1) (h : Fnd ps g i q j fo) : fo.length ≤ 54 :=
  pc.few h.1 fun x hx => by
    rcases (h.2 x).mp hx with z | ⟨p, hp, e⟩
    · exact z.mono
    · exact ⟨q, List.mem_of_getElem? hq, p, by omega, e⟩
theorem Fnd0.all {ps : List T} {g : Nat} {fo : List T} (h : Fnd0 ps g ps.length fo) : ∀ x, x ∈ fo ↔ Win ps g x := fun x => by
  rw [h.2, List.take_length]

/-! ### the letters behind a gram -/
def foll (gr : T) (ws : List T) : T := ws.filterMap fun x => if x.dropLast = gr then x.getLast? else none
theorem mem_foll {gr : T} {ws : List T} {c : Nat} : c ∈ foll gr ws ↔ gr ++ [c] ∈ ws := by
  unfold foll
  rw [List.mem_filterMap]
  constructor
  · rintro ⟨x, hx, e⟩
    by_cases h : x.dropLast = gr
    · rw [if_pos h] at e
      have hne : x ≠ [] := fun z => by
        subst z
        simp at e
      have e2 : x.getLast hne = c := by
        rw [List.getLast?_eq_getLast hne] at e
        exact Option.some.inj e
      rw [← h, ← e2, List.dropLast_concat_getLast hne]
      exact hx
    · rw [if_neg h] at e
      cases e
  · intro h
    exact ⟨_, h, by simp⟩
theorem foll_succ {gr : T} {ws : List T} {i : Nat} {x : T} (h : ws[i]? = some x) (hne : x ≠ []) : foll gr (ws.take (i + 1)) = foll gr (ws.take i) ++ (if x.dropLast = gr then [x.getLast hne] else []) := by
  unfold foll
  rw [List.take_add_one, h, List.filterMap_append]
  congr 1
  by_cases e : x.dropLast = gr
  · rw [if_pos e]
    simp [e, List.getLast?_eq_getLast hne]
  · rw [if_neg e]
    simp [e]
theorem foll_le (gr : T) (ws : List T) : (foll gr ws).length ≤ ws.length := List.length_filterMap_le _ _
theorem s_nil : V.str ("" : Str) = vs [] := by decide +kernel
def one (l : T) : List T := l.map fun c => [c]
theorem one_flat (l : T) : (one l).flatten = l := by
  unfold one
  induction l with
  | nil => rfl
  | cons a r ih => simp [ih]
theorem one_sum (l : T) : ((one l).map (·.length)).sum = l.length := by
  unfold one
  induction l with
  | nil => rfl
  | cons a r ih =>
    simp only [List.map_cons, List.sum_cons, List.length_cons, List.length_nil] at ih ⊢
    omega
theorem one_snoc (l : T) (c : Nat) : (one (l ++ [c])).map vs = (one l).map vs ++ [vs [c]] := by
  unfold one
  simp

/-! ### rules within a comprehension's block, the written part said -/
theorem ix_tupK {X : Cx} {K : PySem.W.Frag} (h : X.K = K) : IxR X (rIxT K) := by
  subst h
  exact ix_tup
theorem op_inTK {X : Cx} {K : PySem.W.Frag} (h : X.K = K) : OpR X (compareOp .In) (fun x y H Q => ∃ (p : Addr) (a : T) (ws : List T), x = vs a ∧ y = .ref p ∧ (SqL K H p (ws.map vs) ∨ SqT K H p (ws.map vs)) ∧ Q (.bl (decide (a ∈ ws))) H) := by
  subst h
  exact op_inT
theorem op_inKK {X : Cx} {K : PySem.W.Frag} (h : X.K = K) : OpR X (compareOp .In) (fun x y H Q => ∃ (p : Addr) (a : Nat) (ws : List Nat), x = kint a ∧ y = .ref p ∧ SqT K H p (ws.map kint) ∧ Q (.bl (decide (a ∈ ws))) H) := by
  subst h
  exact op_inK

/-! ### a text walked, sign by sign; sorted of states by their texts -/
theorem for_strT {l : T} {g : TG} {tb : TS} {D : Ends} {σ : L2.St} {H : Hp} (Pv : Nat → L2.St → Hp → Prop) (h0 : Pv 0 σ H)
    (hs : ∀ i c σ H, l[i]? = some c → Pv i σ H → g (vs [c]) σ H fun σ2 H2 => tb { D with nx := Pv (i + 1), ct := Pv (i + 1), bk := D.nx } σ2 H2) (hd : ∀ σ H, Pv l.length σ H → D.nx σ H) :
    ∃ W : Nat → Nat → L2.St → Hp → Prop, (∃ m, W 0 m σ H) ∧ ∀ i m σ H, W i m σ H →
      ((Its (S l)).stop i H ∧ D.nx σ H) ∨ ((Its (S l)).go i H ∧ ∃ N : L2.St → Hp → Prop, (∀ σ' H', N σ' H' → ∃ m', m' < m ∧ W (i + 1) m' σ' H') ∧ ∀ x H', (Its (S l)).yld i H x H' → g x σ H' fun σ2 H2 => tb { D with nx := N, ct := N, bk := D.nx } σ2 H2) := by
  have sz : (S l).cps.size = l.length := S_len l
  refine ⟨fun i m σ H => m = l.length - i ∧ i ≤ l.length ∧ Pv i σ H, ⟨l.length, by simp, Nat.zero_le _, h0⟩, ?_⟩
  rintro i m σ H ⟨rfl, hi, p⟩
  by_cases hlt : i < l.length
  · refine .inr ⟨by show i < (S l).cps.size; rw [sz]; exact hlt, Pv (i + 1), fun σ' H' p' => ⟨l.length - (i + 1), by omega, rfl, hlt, p'⟩, fun x H' y => ?_⟩
    obtain ⟨e, c, hc, ex⟩ := y
    subst e ex
    have hc' : l[i]? = some c := by
      have : l.toArray[i]? = some c := hc
      simpa using this
    exact hs i c σ _ hc' p
  · have e : i = l.length := by omega
    subst e
    exact .inl ⟨by show (S l).cps.size ≤ l.length; rw [sz]; exact Nat.le_refl _, hd σ H p⟩
theorem cr_sortNf {X : Cx} {α : Type} (hu : X.A.units + 16 < cLine) (f : α → State) : CallR X (.builtin "sorted") (rSortD X.K (fun e : α × Addr => V.ref e.2) (fun H e => StAt H e.2 (f e.1))) :=
  cr_sortD (en := fun e => enc (f e.1)) hu (fun _ _ => enc_alike _ _) (fun bs => PySem.W.Sortable.tuples fun b => ⟨_, _, rfl⟩) (fun b => Nat.le_trans (enc_depth (f b.1)) (by decide)) fun {H h} ok {b u} hb ru => by
    cases ru
    exact st_reads ok hb
theorem StAt.up {H : Hp} {b p : Addr} {s : State} {o : HO} (h : StAt H b s) (n : H p = Option.none) : StAt (upd H p o) b s := h.same fun c xs e => by
  rw [upd_ne (ne_of_none e n)]
  exact e
theorem StAt.ov {H : Hp} {b p : Addr} {s : State} {o : HO} {xs : List V} (h : StAt H b s) (n : H p = some (.lst xs)) : StAt (upd H p o) b s := h.same fun c ys e => by
  rw [upd_ne (ne_of e n (fun z => nomatch z))]
  exact e
end TX

set_option Elab.async false
set_option linter.all false
set_option maxRecDepth 100000
/-! The search's invariant. -/
namespace TX
open PySem PySem.Spec PyProof.Rows L2

section
variable {ps : List T} {g : Nat} {wd : T}
noncomputable abbrev sge (ps : List T) (g : Nat) (wd : T) (e : T × Addr) : State := sg ps g wd e.1
noncomputable abbrev ents (ps : List T) (g : Nat) (wd : T) (es : List (T × Addr)) : List Ent := es.map fun e => (sg ps g wd e.1, e.2, vs e.1)
theorem look_none : ∀ {es : List (T × Addr)} {z : State}, ¬ z ∈ es.map (sge ps g wd) → look (ents ps g wd es) z = none
  | [], _, _ => rfl
  | e :: r, z, h => by
    have h1 : ¬ sg ps g wd e.1 = z := fun q => h (List.mem_map.mpr ⟨e, List.mem_cons_self, q⟩)
    have ih := look_none (es := r) (z := z) fun q => h (by
      obtain ⟨x, hx, ex⟩ := List.mem_map.mp q
      exact List.mem_map.mpr ⟨x, List.mem_cons_of_mem _ hx, ex⟩)
    unfold look at ih ⊢
    unfold ents at ih ⊢
    rw [List.map_cons, List.find?_cons]
    simp only [decide_eq_false h1]
    exact ih
theorem look_some : ∀ {es : List (T × Addr)} {e : T × Addr}, (es.map (sge ps g wd)).Nodup → e ∈ es → look (ents ps g wd es) (sg ps g wd e.1) = some (vs e.1)
  | [], _, _, h => nomatch h
  | x :: r, e, hn, h => by
    rw [List.map_cons, List.nodup_cons] at hn
    by_cases q : sg ps g wd x.1 = sg ps g wd e.1
    · have hxe : x = e := by
        rcases List.mem_cons.mp h with h | h
        · exact h.symm
        · exact absurd (List.mem_map.mpr ⟨e, h, q.symm⟩) hn.1
      subst hxe
      unfold look ents
      rw [List.map_cons, List.find?_cons]
      simp
    · have h' : e ∈ r := by
        rcases List.mem_cons.mp h with h | h
        · subst h
          exact absurd rfl q
        · exact h
      have ih := look_some (es := r) (e := e) hn.2 h'
      unfold look ents at ih ⊢
      rw [List.map_cons, List.find?_cons]
      simp only [decide_eq_false q]
      exact ih
theorem look_is {es : List (T × Addr)} {z : State} (hn : (es.map (sge ps g wd)).Nodup) : (look (ents ps g wd es) z).isSome = decide (z ∈ es.map (sge ps g wd)) := by
  by_cases h : z ∈ es.map (sge ps g wd)
  · obtain ⟨e, he, rfl⟩ := List.mem_map.mp h
    rw [look_some hn he, decide_eq_true h]
    rfl
  · rw [look_none h, decide_eq_false h]
    rfl
end
/-- the search stands: the order at o, the texts at d -/
structure BInv (P : Program) (w : World) (H0 H : Hp) (d o : Addr) (ps : List T) (g : Nat) (wd : T) (es : List (T × Addr)) : Prop where
  same : Same H0 H
  d0 : H0 d = Option.none
  o0 : H0 o = Option.none
  ord : H o = some (.lst (es.map fun e => V.ref e.2))
  dic : DN P w H d (ents ps g wd es)
  nd : (es.map (sge ps g wd)).Nodup
  ok : ∀ e ∈ es, Ok ps g wd e.1
  len : ∀ (i : Nat) e, es[i]? = some e → e.1.length ≤ 2 + i
section
variable {P : Program} {w : World} {H0 H H1 : Hp} {d o : Addr} {ps : List T} {g : Nat} {wd : T} {es : List (T × Addr)}
theorem DN.same {es : List Ent} (h : DN P w H d es) (s : Same H H1) : DN P w H1 d es := ⟨s _ _ h.ob, fun e he => (h.ks e he).same fun c xs z => s _ _ z⟩
theorem BInv.to (b : BInv P w H0 H d o ps g wd es) (s : Same H H1) : BInv P w H0 H1 d o ps g wd es :=
  ⟨b.same.trans s, b.d0, b.o0, s _ _ b.ord, b.dic.same s, b.nd, b.ok, b.len⟩
theorem BInv.st (b : BInv P w H0 H d o ps g wd es) {e : T × Addr} (he : e ∈ es) : StAt H e.2 (sg ps g wd e.1) := b.dic.ks (sg ps g wd e.1, e.2, vs e.1) (List.mem_map.mpr ⟨e, he, rfl⟩)
theorem BInv.few (b : BInv P w H0 H d o ps g wd es) (pc : Pcs ps g) (h8 : wd.length ≤ 8) : es.length ≤ 4000000 := by
  have h : ((es.map (·.1)).map (sg ps g wd)).Nodup := by
    rw [List.map_map]
    exact b.nd
  have := search_le (L := es.map (·.1)) ⟨pc.n, fun p hp => (pc.l p hp).2, h8⟩ pc.g0 (fun t ht => by
    obtain ⟨e, he, rfl⟩ := List.mem_map.mp ht
    exact b.ok e he) h
  rw [List.length_map] at this
  exact this
theorem BInv.ndo (b : BInv P w H0 H d o ps g wd es) : d ≠ o := ne_of b.dic.ob b.ord (fun z => nomatch z)
/-- one more -/
theorem BInv.add (b : BInv P w H0 H d o ps g wd es) {t : T} {x : Addr} (hx : StAt H x (sg ps g wd t)) (hn : ¬ sg ps g wd t ∈ es.map (sge ps g wd)) (hok : Ok ps g wd t) (hl : t.length ≤ 2 + es.length) :
    BInv P w H0 (upd (upd H d (.ext (dictP P w d (ents ps g wd es ++ [(sg ps g wd t, x, vs t)])))) o (.lst ((es.map fun e => V.ref e.2) ++ [.ref x]))) d o ps g wd (es ++ [(t, x)]) := by
  have ndo := b.ndo
  have keep : ∀ c xs, H c = some (.tup xs) → (upd (upd H d (.ext (dictP P w d (ents ps g wd es ++ [(sg ps g wd t, x, vs t)])))) o (.lst ((es.map fun e => V.ref e.2) ++ [.ref x]))) c = some (.tup xs) := fun c xs e => by
    rw [upd_ne (ne_of e b.ord (fun z => nomatch z)), upd_ne (ne_of e b.dic.ob (fun z => nomatch z))]
    exact e
  refine ⟨fun c z e => ?_, b.d0, b.o0, ?_, ⟨?_, fun e he => ?_⟩, ?_, fun e he => ?_, fun i e he => ?_⟩
  · rw [upd_ne (ne_of_none e b.o0), upd_ne (ne_of_none e b.d0)]
    exact b.same _ _ e
  · rw [upd_same, List.map_append]
    rfl
  · rw [upd_ne ndo, upd_same]
    unfold ents
    rw [List.map_append]
    rfl
  · unfold ents at he
    rw [List.map_append] at he
    rcases List.mem_append.mp he with he | he
    · exact (b.dic.ks e he).same keep
    · have : e = (sg ps g wd t, x, vs t) := by simpa using he
      subst this
      exact hx.same keep
  · rw [List.map_append]
    exact nodup_snoc b.nd hn
  · rcases List.mem_append.mp he with he | he
    · exact b.ok e he
    · have : e = (t, x) := by simpa using he
      subst this
      exact hok
  · by_cases h : i < es.length
    · rw [List.getElem?_append_left h] at he
      exact b.len i e he
    · have hi : i < (es ++ [(t, x)]).length := (List.getElem?_eq_some_iff.mp he).1
      rw [List.length_append, List.length_singleton] at hi
      have : i = es.length := by omega
      subst this
      rw [List.getElem?_append_right (Nat.le_refl _), Nat.sub_self] at he
      have : e = (t, x) := by simpa using he.symm
      subst this
      exact hl
/-- all that a finished search says -/
theorem closed_es (pc : Pcs ps g) (hok : ∀ e ∈ es, Ok ps g wd e.1) (h1 : ∀ t, Gm ps g t → ¬ wd <:+: t → sg ps g wd t ∈ es.map (sge ps g wd))
    (hc : ∀ e ∈ es, ∀ c, Win ps g (last (g - 1) e.1 ++ [c]) → ¬ wd <:+ e.1 ++ [c] → sg ps g wd (e.1 ++ [c]) ∈ es.map (sge ps g wd)) (hd : ∀ e ∈ es, (TX.fd ps e.1).length ≠ ps.length) : ∀ t, Expl ps g t → wd <:+: t := by
  have em : es.map (sge ps g wd) = (es.map (·.1)).map (sg ps g wd) := by
    rw [List.map_map]
    rfl
  rw [em] at h1 hc
  refine closed_always (L := es.map (·.1)) pc.g0 pc.ne (fun p hp => (pc.l p hp).1) (fun t ht => ?_) h1 (fun t ht => ?_) (fun t ht => ?_)
  · obtain ⟨e, he, rfl⟩ := List.mem_map.mp ht
    exact hok e he
  · obtain ⟨e, he, rfl⟩ := List.mem_map.mp ht
    exact hc e he
  · obtain ⟨e, he, rfl⟩ := List.mem_map.mp ht
    exact hd e he
end
/-- the place that the search has come to -/
def atOf (σ : L2.St) : Int := match σ[6]? with
  | some (some (V.int i)) => i
  | _ => 0
end TX

set_option Elab.async false
set_option linter.all false
set_option maxRecDepth 100000
/-! Small lemmas for the law's own defs. -/
namespace TX
open PySem PySem.Spec PyProof.Rows L2

theorem fmod_pos {a n : Int} (h : 0 < n) : 0 ≤ a.fmod n ∧ a.fmod n < n := by
  rw [Int.fmod_eq_emod_of_nonneg _ (by omega)]
  exact ⟨Int.emod_nonneg _ (by omega), Int.emod_lt_of_pos _ h⟩
theorem fmod_nat {a : Int} {n : Nat} (h : 0 < n) : ∃ r : Nat, a.fmod (n : Int) = (r : Int) ∧ r < n := by
  obtain ⟨h1, h2⟩ := fmod_pos (a := a) (n := (n : Int)) (by omega)
  exact ⟨(a.fmod n).toNat, by omega, by omega⟩
theorem fdiv_nonneg {a n : Int} (h : 0 ≤ a) (hn : 0 < n) : 0 ≤ a.fdiv n := by
  rw [Int.fdiv_eq_ediv_of_nonneg _ (by omega)]
  exact Int.ediv_nonneg h (by omega)

/-- the length of the text in the fourth slot -/
def tOf (σ : L2.St) : Nat := match σ[3]? with
  | some (some (V.str z)) => z.length
  | _ => 0

/-- how long the list at o is -/
def lenAt (H : Hp) (o : Addr) : Nat := match H o with
  | some (.lst xs) => xs.length
  | _ => 0
theorem lenAt_of {H : Hp} {o : Addr} {xs : List V} (h : H o = some (.lst xs)) : lenAt H o = xs.length := by
  unfold lenAt
  rw [h]
theorem cutV_to (xs : List V) (k : Nat) : cutV xs none (some (k : Int)) = xs.take k := by
  unfold cutV
  rw [HT.sIx_none, HT.sIx_nat, List.drop_zero, Nat.sub_zero]
  by_cases h : k ≤ xs.length
  · rw [Nat.min_eq_left h]
  · rw [Nat.min_eq_right (by omega), List.take_length, List.take_of_length_le (by omega)]
theorem cutV_from (xs : List V) (k : Nat) : cutV xs (some (k : Int)) none = xs.drop k := by
  unfold cutV
  rw [HT.sIx_none, HT.sIx_nat]
  by_cases h : k ≤ xs.length
  · rw [Nat.min_eq_left h]
    exact List.take_of_length_le (by rw [List.length_drop]; exact Nat.le_refl _)
  · rw [Nat.min_eq_right (by omega), List.drop_length, List.drop_of_length_le (by omega)]
    simp
/-- a new object, tracked beside -/
theorem DD.lay {d D : Addr} {H H1 : Hp} {o : HO} (x : DD d H H1) (n : H1 D = Option.none) : DD d H (upd H1 D o) := x.to (same_upd n)

theorem DD.none {d x : Addr} {H H' : Hp} (h : DD d H H') (n : H' x = Option.none) : H x = Option.none := by
  cases e : H x with
  | none => rfl
  | some o =>
    by_cases hx : x = d
    · subst hx
      obtain ⟨ys, h1⟩ := h.dr.at
      rw [n] at h1
      cases h1
    · rw [h.fr x o hx e] at n
      cases n
/-- the law's lines stand at x -/
structure Lns (H0 H : Hp) (d x pa : Addr) (ps : List T) (n : Nat) (ls : List T) : Prop where
  dd : DD d H0 H
  x0 : H0 x = Option.none
  nx : x ≠ d
  at' : H x = some (.lst (ls.map vs))
  pa : H pa = some (.tup (ps.map vs))
  few : ls.length ≤ n
  len : ∀ y ∈ ls, y.length ≤ 5000000
theorem Lns.go {H0 H H' : Hp} {d x pa : Addr} {ps : List T} {n : Nat} {ls : List T} (h : Lns H0 H d x pa ps n ls) (k : DD d H H') : Lns H0 H' d x pa ps n ls :=
  ⟨h.dd.trans k, h.x0, h.nx, k.fr _ _ h.nx h.at', k.tup h.dd.dr h.pa, h.few, h.len⟩
theorem Lns.to {H0 H H' : Hp} {d x pa : Addr} {ps : List T} {n : Nat} {ls : List T} (h : Lns H0 H d x pa ps n ls) (k : Same H H') : Lns H0 H' d x pa ps n ls := h.go (.same h.dd.dr k)
theorem Lns.add {H0 H : Hp} {d x pa : Addr} {ps : List T} {n : Nat} {ls : List T} {y : T} (h : Lns H0 H d x pa ps n ls) (hd : Dr H0 d) (hy : y.length ≤ 5000000) : Lns H0 (upd H x (.lst (ls.map vs ++ [vs y]))) d x pa ps (n + 1) (ls ++ [y]) := by
  refine ⟨h.dd.put hd h.x0, h.x0, h.nx, ?_, (upd_ne (ne_of h.pa h.at' (fun z => nomatch z))).trans h.pa, ?_, fun z hz => ?_⟩
  · rw [upd_same, List.map_append]
    rfl
  · rw [List.length_append, List.length_singleton]
    have := h.few
    omega
  · rcases List.mem_append.mp hz with e | e
    · exact h.len z e
    · have : z = y := by simpa using e
      rw [this]
      exact hy
end TX

set_option Elab.async false
set_option maxHeartbeats 0
set_option linter.all false
set_option maxRecDepth 100000
namespace TX
open PySem PySem.Spec PyProof.Rows L2
section
variable {P : Program} {w : World} {K : PySem.W.Frag} {mg : Str → Option Value} {base : Heap}
theorem ok_check_shards {f : Addr} {fd : FuncData} (F : Fun K "check_shards" "check_shards" s_check_shards f fd) (Tx : Txt mg) :
    FnOk P w K mg base CX0 1 f fd ["pieces", "grain"] sp_check_shards := by
  refine F.ok sc_check_shards (fun xs H Q E h => ?_) (fun cdv A outer sh H xs Q E hr h => ?_)
  · obtain ⟨a, ps, g, rfl, ha, pc, q⟩ := h
    rfl
  · obtain ⟨a, ps, g, rfl, ha, pc, q⟩ := h
    have hu := hu16 hr
    refine ⟨_, (pss_cons (ps_if (PW.pt (pw_or (pt_cmpR op_lt (pv 1) pe_int (nomark _)) (pw_or1 (pt_cmpR op_gt (pv 1) (pe_globI (by rfl) Tx.g_GRAIN_LIMIT) (nomark _))))) (pss_one ps_never) pss_nil)
      (pss_cons (ps_if (pt_cmpR op_eq (pe_callB call_len_seq (by rfl) Tx.m_len b_len (pa_cons (pv 0) pa_nil)) pe_int (nomark _)) (pss_one ps_never) pss_nil)
      (pss_cons (ps_if (pt_cmpR op_gt (pe_callB call_len_seq (by rfl) Tx.m_len b_len (pa_cons (pv 0) pa_nil)) (pe_globI (by rfl) Tx.g_PIECE_LIMIT) (nomark _)) (pss_one ps_never) pss_nil)
      (pss_one (ps_for PassesOwn.never rfl (pi_tup (pv 0)) (pg_name (i := 2) sc_check_shards.nd rfl (Or.inl rfl)) (pss_cons (ps_if (pt_cmpR op_lt (pe_callB call_lenT (by rfl) Tx.m_len b_len (pa_cons (pv 2) pa_nil)) (pv 1) (nomark _)) (pss_one ps_never) pss_nil)
        (pss_one (ps_if (pt_cmpR op_gt (pe_callB call_lenT (by rfl) Tx.m_len b_len (pa_cons (pv 2) pa_nil)) (pe_globI (by rfl) Tx.g_LETTER_LIMIT) (nomark _)) (pss_one ps_never) pss_nil)))))))), ?_⟩
    have g0 := pc.g0
    have g1 := pc.g1
    have hn := pc.n
    have hne : ps.length ≠ 0 := fun z => pc.ne (List.length_eq_zero_iff.mp z)
    refine ⟨_, rfl, _, _, rfl, rfl, _, rfl, ?_⟩
    rw [decide_eq_false (by omega)]
    refine iteF ⟨_, rfl, _, _, rfl, rfl, _, rfl, ?_⟩
    rw [decide_eq_false (by omega)]
    refine iteF ⟨_, rfl, a, _, rfl, .inr (SqT.of ha), rfl, _, rfl, ?_⟩
    rw [List.length_map, decide_eq_false (fun z => hne (by have := V.int.inj z; omega))]
    refine iteF ⟨_, rfl, a, _, rfl, .inr (SqT.of ha), _, _, rfl, rfl, _, rfl, ?_⟩
    rw [List.length_map, decide_eq_false (by omega)]
    refine iteF ⟨_, rfl, a, rfl, ⟨_, SqT.of ha⟩, for_tup (K := K) (a := a) (xs := ps.map vs) (fun i σ H1 => ∃ v, σ = [some (.ref a), some (kint g), v] ∧ H1 = H) ⟨none, rfl, rfl⟩ (fun i σ H1 _ ⟨_, _, e⟩ => by rw [e]; exact SqT.of ha) ?_ ?_⟩
    · rintro i x σ H1 hi ⟨v, rfl, rfl⟩
      rw [List.getElem?_map] at hi
      obtain ⟨p, hp, rfl⟩ := Option.map_eq_some_iff.mp hi
      obtain ⟨l1, l2⟩ := pc.l p (List.mem_of_getElem? hp)
      refine ⟨_, rfl, p, rfl, Nat.le_of_lt (small1000 (by omega)), _, rfl, _, _, rfl, rfl, _, rfl, ?_⟩
      rw [decide_eq_false (by omega)]
      refine iteF ⟨_, rfl, p, rfl, Nat.le_of_lt (small1000 (by omega)), _, _, rfl, rfl, _, rfl, ?_⟩
      rw [decide_eq_false (by omega)]
      exact iteF ⟨_, rfl, rfl⟩
    · rintro σ H1 ⟨v, rfl, rfl⟩
      exact q

theorem ok_check_shape {f : Addr} {fd : FuncData} (F : Fun K "check_shape" "check_shape" s_check_shape f fd) (Tx : Txt mg) :
    FnOk P w K mg base CX0 1 f fd ["shape"] sp_check_shape := by
  refine F.ok sc_check_shape (fun xs H Q E h => ?_) (fun cdv A outer sh H xs Q E hr h => ?_)
  · obtain ⟨rfl, q⟩ := h
    rfl
  · obtain ⟨rfl, q⟩ := h
    have hu := hu16 hr
    refine ⟨_, (pss_one (ps_if (PW.pt (pw_and (pt_cmpR op_neT (pv 0) pe_str (nomark _)) (pw_and1 (pt_cmpR op_neT (pv 0) pe_str (nomark _))))) (pss_one ps_never) pss_nil)), ?_⟩
    have e1 : decide (lst "line" = lst "circle") = false := by decide +kernel
    refine ⟨_, rfl, lst "line", lst "circle", rfl, rfl, _, rfl, ?_⟩
    rw [e1]
    refine iteT ⟨_, rfl, lst "line", lst "line", rfl, rfl, _, rfl, ?_⟩
    rw [decide_eq_true rfl]
    exact iteF q

theorem ok_window_list {f : Addr} {fd : FuncData} (F : Fun K "window_list" "window_list" s_window_list f fd) (Tx : Txt mg) :
    FnOk P w K mg base CX0 1 f fd ["pieces", "grain"] sp_window_list := by
  refine F.ok sc_window_list (fun xs H Q E h => ?_) (fun cdv A outer sh H xs Q E hr h => ?_)
  · obtain ⟨a, ps, g, rfl, ha, pc, q⟩ := h
    rfl
  · obtain ⟨a, ps, g, rfl, ha, pc, q⟩ := h
    have hu := hu16 hr
    refine ⟨_, (pss_cons (ps_set (i := 2) sc_window_list.nd rfl (Or.inl rfl) (pe_lst pa_nil))
      (pss_cons (ps_for PassesOwn.never rfl (pi_tup (pv 0)) (pg_name (i := 3) sc_window_list.nd rfl (Or.inl rfl)) (pss_one (ps_for PassesOwn.never rfl (pi_range1 (by rfl) Tx.m_range (pa_cons (pe_op op_add (pe_op op_sub (pe_callB call_lenT (by rfl) Tx.m_len b_len (pa_cons (pv 3) pa_nil)) (pv 1)) pe_int) pa_nil)) (pg_name (i := 4) sc_window_list.nd rfl (Or.inl rfl)) (pss_one (ps_if (pt_cmpR op_notInT (pe_slice sl_T (pv 3) (po_some (pv 4)) (po_some (pe_op op_add (pv 4) (pv 1)))) (pv 2) (by rfl)) (pss_one (ps_expr (pe_bm PySem.F.plainAttrs_list PySem.F.slot_list_append PySem.F.type_list_append mt_append (pv 2) (pa_cons (pe_slice sl_T (pv 3) (po_some (pv 4)) (po_some (pe_op op_add (pv 4) (pv 1)))) pa_nil)))) pss_nil)))))
      (pss_one (ps_ret (pe_callTy call_tuple_of (by rfl) Tx.m_tuple b_tuple (pa_cons (pe_callB (cr_sortT hu) (by rfl) Tx.m_sorted b_sorted (pa_cons (pv 2) pa_nil)) pa_nil)))))), ?_⟩
    have g0 := pc.g0
    have g1 := pc.g1
    refine ⟨Nat.zero_le _, fun o no => ?_⟩
    have s1 : Same H (upd H o (.lst [])) := same_upd no
    have nao : a ≠ o := ne_of_none ha no
    refine ⟨_, rfl, a, rfl, ⟨_, SqT.of (s1 _ _ ha)⟩, for_tup (K := K) (a := a) (xs := ps.map vs) (fun i σ H1 => ∃ v4 v5 fo, σ = [some (.ref a), some (kint g), some (.ref o), v4, v5] ∧ H1 = upd H o (.lst (fo.map vs)) ∧ Fnd0 ps g i fo)
      ⟨none, none, [], rfl, rfl, Fnd0.start⟩ (fun i σ H1 _ ⟨_, _, fo, _, e, _⟩ => by rw [e]; exact SqT.of ((upd_ne nao).trans ha)) ?_ ?_⟩
    · rintro i x σ H1 hi ⟨v4, v5, fo, rfl, rfl, hf⟩
      obtain ⟨p, hp, rfl⟩ := map_get hi
      obtain ⟨l1, l2⟩ := pc.l p (List.mem_of_getElem? hp)
      refine ⟨_, rfl, p, rfl, sz (by omega), _, rfl, _, _, rfl, rfl, _, _, rfl, rfl, _, rfl, by omega, by omega, ?_⟩
      have en : ((p.length : Int) - (g : Int) + 1).toNat = p.length + 1 - g := by omega
      rw [en]
      refine for_range (lo := 0) (n := p.length + 1 - g) (fun j σ H1 => ∃ v5 fo, σ = [some (.ref a), some (kint g), some (.ref o), some (vs p), v5] ∧ H1 = upd H o (.lst (fo.map vs)) ∧ Fnd ps g i p j fo)
        ⟨v5, fo, rfl, rfl, Fnd.start hf⟩ ?_ ?_
      · rintro j σ H1 hj ⟨v5, fo, rfl, rfl, hf⟩
        have ej : V.int (0 + (j : Int)) = kint j := ki (by omega)
        rw [ej]
        have fw := hf.few pc hp (by omega)
        have ecut : cutL p (some (j : Int)) (some ((j : Int) + (g : Int))) = (p.drop j).take g := by
          have : (j : Int) + (g : Int) = ((j + g : Nat) : Int) := by omega
          rw [this, cut_mid]
          congr 1
          omega
        refine ⟨_, rfl, _, rfl, (j : Int), rfl, _, rfl, _, rfl, _, _, rfl, rfl, _, rfl, p, rfl, sz (by omega), ?_⟩
        rw [ecut]
        refine ⟨_, rfl, o, _, fo, rfl, rfl, .inl (SqL.of upd_same), _, rfl, ?_⟩
        by_cases hm : (p.drop j).take g ∈ fo
        · rw [decide_eq_true hm]
          exact iteF ⟨_, fo, rfl, rfl, hf.old hm⟩
        · rw [decide_eq_false hm]
          refine iteT ⟨_, rfl, .inl ⟨rfl, _, SqL.of upd_same⟩, _, rfl, _, rfl, (j : Int), rfl, _, rfl, _, rfl, _, _, rfl, rfl, _, rfl, p, rfl, sz (by omega), ?_⟩
          rw [ecut]
          refine ⟨o, _, _, rfl, rfl, upd_same, szl (by rw [List.length_map]; omega), _, fo ++ [(p.drop j).take g], rfl, ?_, hf.new hm⟩
          rw [upd_upd, List.map_append]
          rfl
      · rintro σ H1 ⟨v5, fo, rfl, rfl, hf⟩
        exact ⟨_, _, fo, rfl, rfl, hf.done hp (by omega)⟩
    · rintro σ H1 ⟨v4, v5, fo, rfl, rfl, hf⟩
      rw [List.length_map] at hf
      refine ⟨_, rfl, o, fo, rfl, SqL.of upd_same, fun _ _ => trivial, fun fo' p hperm np => ?_⟩
      have npo : o ≠ p := ne_of_none upd_same np
      have np0 : H p = none := by
        rw [upd_ne npo.symm] at np
        exact np
      refine ⟨p, _, rfl, .inl ⟨SqL.of upd_same, fun r nr => ?_⟩⟩
      have nr1 : r ≠ p := fun z => by
        rw [z, upd_same] at nr
        cases nr
      have nr2 : (upd H o (.lst (fo.map vs))) r = none := by
        rw [upd_ne nr1] at nr
        exact nr
      refine q _ r fo' (fun b z e => ?_) upd_same (fun x => by rw [hperm.mem_iff]; exact hf.all x) (hperm.nodup_iff.mpr hf.1)
      have nbo : b ≠ o := ne_of_none e no
      have e1 : (upd H o (.lst (fo.map vs))) b = some z := by
        rw [upd_ne nbo]
        exact e
      rw [upd_ne (ne_of_none e1 nr2), upd_ne (ne_of_none e np0)]
      exact e1

theorem ok_gram_list {f : Addr} {fd : FuncData} (F : Fun K "gram_list" "gram_list" s_gram_list f fd) (Tx : Txt mg) :
    FnOk P w K mg base CX0 1 f fd ["windows"] sp_gram_list := by
  refine F.ok sc_gram_list (fun xs H Q E h => ?_) (fun cdv A outer sh H xs Q E hr h => ?_)
  · obtain ⟨a, ws, rfl, ha, hn, hl, q⟩ := h
    rfl
  · obtain ⟨a, ws, rfl, ha, hn, hl, q⟩ := h
    have hu := hu16 hr
    refine ⟨_, (pss_cons (ps_set (i := 1) sc_gram_list.nd rfl (Or.inl rfl) (pe_lst pa_nil))
      (pss_cons (ps_for PassesOwn.never rfl (pi_tup (pv 0)) (pg_name (i := 2) sc_gram_list.nd rfl (Or.inl rfl)) (pss_one (ps_for PassesOwn.never rfl (pi_tup (pe_tup (pa_cons (pe_slice sl_T (pv 2) po_none (po_some (pe_un un_neg pe_int))) (pa_cons (pe_slice sl_T (pv 2) (po_some pe_int) po_none) pa_nil)))) (pg_name (i := 3) sc_gram_list.nd rfl (Or.inl rfl)) (pss_one (ps_if (pt_cmpR op_notInT (pv 3) (pv 1) (by rfl)) (pss_one (ps_expr (pe_bm PySem.F.plainAttrs_list PySem.F.slot_list_append PySem.F.type_list_append mt_append (pv 1) (pa_cons (pv 3) pa_nil)))) pss_nil)))))
      (pss_one (ps_ret (pe_callTy call_tuple_of (by rfl) Tx.m_tuple b_tuple (pa_cons (pe_callB (cr_sortT hu) (by rfl) Tx.m_sorted b_sorted (pa_cons (pv 1) pa_nil)) pa_nil)))))), ?_⟩
    refine ⟨Nat.zero_le _, fun o no => ?_⟩
    have s1 : Same H (upd H o (.lst [])) := same_upd no
    have nao : a ≠ o := ne_of_none ha no
    refine ⟨_, rfl, a, rfl, ⟨_, SqT.of (s1 _ _ ha)⟩, for_tup (K := K) (a := a) (xs := ws.map vs) (fun i σ H1 => ∃ v2 v3 fo, σ = [some (.ref a), some (.ref o), v2, v3] ∧ H1 o = some (.lst (fo.map vs)) ∧ Same H H1 ∧ fo.Nodup ∧ fo.length ≤ 2 * i ∧ ∀ y, y ∈ fo ↔ ∃ x ∈ ws.take i, y = x.dropLast ∨ y = x.drop 1)
      ⟨none, none, [], rfl, upd_same, s1, List.nodup_nil, Nat.le_refl _, fun y => by simp⟩ (fun i σ H1 _ ⟨_, _, fo, _, _, s, _⟩ => SqT.of (s _ _ ha)) ?_ ?_⟩
    · rintro i x σ H1 hi ⟨v2, v3, fo, rfl, ho, sm, hnd, hlen, hm⟩
      obtain ⟨x, hx, rfl⟩ := map_get hi
      have hxm := List.mem_of_getElem? hx
      have lx := hl x hxm
      have hi2 : i < ws.length := (List.getElem?_eq_some_iff.mp hx).1
      have ec1 : cutL x none (some (-1)) = x.dropLast := cut_neg x
      have ec2 : cutL x (some 1) none = x.drop 1 := cut_from x 1
      refine ⟨_, rfl, 1, rfl, _, rfl, x, rfl, sz (by omega), _, rfl, 1, rfl, x, rfl, sz (by omega), by show 2 ≤ sizeLine; decide, fun t nt => ?_⟩
      have nto : o ≠ t := ne_of_none ho nt
      refine ⟨t, rfl, ⟨_, SqT.of upd_same⟩, ?_⟩
      rw [ec1, ec2]
      have et : [vs x.dropLast, vs (x.drop 1)] = [x.dropLast, x.drop 1].map vs := rfl
      rw [et]
      refine for_tup (K := K) (a := t) (xs := [x.dropLast, x.drop 1].map vs) (fun j σ H2 => ∃ v3 fo, σ = [some (.ref a), some (.ref o), some (vs x), v3] ∧ H2 o = some (.lst (fo.map vs)) ∧ H2 t = some (.tup ([x.dropLast, x.drop 1].map vs)) ∧ Same H H2 ∧ fo.Nodup ∧ fo.length ≤ 2 * i + j ∧
        ∀ y, y ∈ fo ↔ (∃ x ∈ ws.take i, y = x.dropLast ∨ y = x.drop 1) ∨ y ∈ [x.dropLast, x.drop 1].take j)
        ⟨v3, fo, rfl, (upd_ne nto).trans ho, upd_same, sm.trans (same_upd nt), hnd, hlen, fun y => by rw [hm]; simp⟩ (fun j σ H2 _ ⟨_, _, _, _, e, _⟩ => SqT.of e) ?_ ?_
      · rintro j z σ H2 hj ⟨v3, fo, rfl, ho, ht, sm, hnd, hlen, hm⟩
        obtain ⟨y, hy, rfl⟩ := map_get hj
        have hj2 : j < 2 := (List.getElem?_eq_some_iff.mp hy).1
        refine ⟨_, rfl, _, rfl, o, y, fo, rfl, rfl, .inl (SqL.of ho), _, rfl, ?_⟩
        have et2 : [x.dropLast, x.drop 1].take (j + 1) = [x.dropLast, x.drop 1].take j ++ [y] := by
          rw [List.take_add_one, hy]
          rfl
        by_cases hmm : y ∈ fo
        · rw [decide_eq_true hmm]
          refine iteF ⟨_, fo, rfl, ho, ht, sm, hnd, by omega, fun y' => ?_⟩
          rw [hm, et2, List.mem_append]
          constructor
          · rintro (h | h)
            · exact .inl h
            · exact .inr (.inl h)
          · rintro (h | h | h)
            · exact .inl h
            · exact .inr h
            · have : y' = y := by simpa using h
              rw [this]
              exact (hm y).mp hmm
        · rw [decide_eq_false hmm]
          have nto : t ≠ o := ne_of ht ho (fun z => nomatch z)
          refine iteT ⟨_, rfl, .inl ⟨rfl, _, SqL.of ho⟩, _, rfl, o, _, _, rfl, rfl, ho, szl (by rw [List.length_map]; omega), _, fo ++ [y], rfl, ?_, (upd_ne nto).trans ht, fun b z e => ?_, nodup_snoc hnd hmm, by rw [List.length_append, List.length_singleton]; omega, fun y' => ?_⟩
          · rw [upd_same, List.map_append]
            rfl
          · rw [upd_ne (ne_of_none e no)]
            exact sm _ _ e
          · rw [List.mem_append, hm, et2, List.mem_append]
            constructor
            · rintro ((h | h) | h)
              · exact .inl h
              · exact .inr (.inl h)
              · exact .inr (.inr h)
            · rintro (h | h | h)
              · exact .inl (.inl h)
              · exact .inl (.inr h)
              · exact .inr h
      · rintro σ H2 ⟨v3, fo, rfl, ho, ht, sm, hnd, hlen, hm⟩
        refine ⟨_, _, fo, rfl, ho, sm, hnd, by simp at hlen; omega, fun y => ?_⟩
        rw [hm, List.take_add_one, hx]
        constructor
        · rintro (⟨x', hx', e⟩ | h)
          · exact ⟨x', List.mem_append_left _ hx', e⟩
          · exact ⟨x, List.mem_append_right _ (by simp), by simpa using h⟩
        · rintro ⟨x', hx', e⟩
          rcases List.mem_append.mp hx' with h | h
          · exact .inl ⟨x', h, e⟩
          · have : x' = x := by simpa using h
            subst this
            exact .inr (by simpa using e)
    · rintro σ H1 ⟨v2, v3, fo, rfl, ho, sm, hnd, hlen, hm⟩
      rw [List.length_map] at hlen hm
      refine ⟨_, rfl, o, fo, rfl, SqL.of ho, fun _ _ => trivial, fun fo' p hperm np => ?_⟩
      refine ⟨p, _, rfl, .inl ⟨SqL.of upd_same, fun r nr => ?_⟩⟩
      refine q _ r fo' ((sm.trans (same_upd np)).trans (same_upd nr)) upd_same (hperm.nodup_iff.mpr hnd) (by rw [hperm.length_eq]; omega) (fun y => ?_)
      rw [hperm.mem_iff, hm, List.take_length]

theorem ok_following {f : Addr} {fd : FuncData} (F : Fun K "following" "following" s_following f fd) (Tx : Txt mg) :
    FnOk P w K mg base CX0 1 f fd ["windows", "gram"] sp_following := by
  refine F.ok sc_following (fun xs H Q E h => ?_) (fun cdv A outer sh H xs Q E hr h => ?_)
  · obtain ⟨a, ws, gr, rfl, ha, hn, hl, q⟩ := h
    rfl
  · obtain ⟨a, ws, gr, rfl, ha, hn, hl, q⟩ := h
    have hu := hu16 hr
    refine ⟨_, (pss_one (ps_ret (pe_m1 PySem.F.slot_str_join PySem.F.type_str_join mt_joinT pe_str (pe_lc (own := [("window", 2)]) (g := gName 2) rfl sc_following.nd (pi_tup (pv 0)) (blkOk_by (N := ["windows", "gram", "window"]) (sc := defScope s_following) (by decide +kernel)) (fun _ _ _ _ _ => pg_name (i := 2) sc_following.nd rfl (Or.inl rfl)) (fun _ _ _ _ _ => (pts_one (pt_cmpR op_eqT (pe_slice sl_T (pv 2) po_none (po_some (pe_un un_neg pe_int))) (pv 1) (nomark _)))) (fun _ _ _ _ _ => (pe_ix ix_T (pv 2) (pe_un un_neg pe_int) (fun _ _ => rfl))))))), ?_⟩
    refine ⟨⟨_, rfl⟩, _, rfl, a, rfl, ⟨_, SqT.of ha⟩, fun D hD => ?_⟩
    have naD : a ≠ D := ne_of_none ha hD
    refine lc_tup (K := K) (a := a) (xs := ws.map vs) (fun i H1 => H1 = upd H D (.lst ((one (foll gr (ws.take i))).map vs))) rfl (fun i H1 _ e => by rw [e]; exact SqT.of ((upd_ne naD).trans ha)) ?_ ?_
    · rintro i x H1 hi rfl
      obtain ⟨x, hx, rfl⟩ := map_get hi
      obtain ⟨hne, lx⟩ := hl x (List.mem_of_getElem? hx)
      have ec : cutL x none (some (-1)) = x.dropLast := cut_neg x
      refine ⟨rfl, _, rfl, 1, rfl, _, rfl, x, rfl, sz (by omega), ?_⟩
      rw [ec]
      refine ⟨_, rfl, _, _, rfl, rfl, _, rfl, ?_⟩
      by_cases e : x.dropLast = gr
      · rw [decide_eq_true e]
        refine iteT ⟨_, rfl, 1, rfl, x, -1, x.getLast hne, rfl, rfl, sz (by omega), at_end (List.getLast?_eq_getLast hne), _, upd_same, szl ?_, ?_⟩
        · rw [List.length_map]
          unfold one
          rw [List.length_map]
          have := foll_le gr (ws.take i)
          rw [List.length_take] at this
          omega
        · rw [upd_upd, foll_succ hx hne, if_pos e, one_snoc]
      · rw [decide_eq_false e]
        refine iteF ?_
        rw [foll_succ hx hne, if_neg e, List.append_nil]
    · rintro H1 rfl
      rw [List.length_map, List.take_length]
      refine ⟨D, one (foll gr ws), s_nil, rfl, SqL.of upd_same, ?_, ?_⟩
      · rw [one_sum]
        have := foll_le gr ws
        omega
      · rw [one_flat]
        exact q _ _ (same_upd hD) (fun c => mem_foll) (Nat.le_trans (foll_le gr ws) hn)

theorem ok_advance {f : Addr} {fd : FuncData} (F : Fun K "advance" "advance" s_advance f fd) (Tx : Txt mg) :
    FnOk P w K mg base CX0 1 f fd ["word", "matched", "letter"] sp_advance := by
  refine F.ok sc_advance (fun xs H Q E h => ?_) (fun cdv A outer sh H xs Q E hr h => ?_)
  · obtain ⟨w, m, c, rfl, hm, h60, q⟩ := h
    rfl
  · obtain ⟨w, m, c, rfl, hm, h60, q⟩ := h
    have hu := hu16 hr
    refine ⟨_, (pss_cons (ps_set (i := 3) sc_advance.nd rfl (Or.inl rfl) (pe_op op_addT (pe_slice sl_T (pv 0) po_none (po_some (pv 1))) (pv 2)))
      (pss_cons (ps_for PassesOwn.never rfl (pi_range3 (by rfl) Tx.m_range (pa_cons (pe_callB (call_min2 rfl) (by rfl) Tx.m_min b_min (pa_cons (pe_callB call_lenT (by rfl) Tx.m_len b_len (pa_cons (pv 3) pa_nil)) (pa_cons (pe_callB call_lenT (by rfl) Tx.m_len b_len (pa_cons (pv 0) pa_nil)) pa_nil))) (pa_cons pe_int (pa_cons (pe_un un_neg pe_int) pa_nil)))) (pg_name (i := 4) sc_advance.nd rfl (Or.inl rfl)) (pss_one (ps_if (pt_cmpR op_eqT (pe_slice sl_T (pv 3) (po_some (pe_op op_sub (pe_callB call_lenT (by rfl) Tx.m_len b_len (pa_cons (pv 3) pa_nil)) (pv 4))) po_none) (pe_slice sl_T (pv 0) po_none (po_some (pv 4))) (nomark _)) (pss_one (ps_ret (pv 4))) pss_nil)))
      (pss_one (ps_ret pe_int)))), ?_⟩
    have cut1 : cutL w none (some (m : Int)) = w.take m := by
      unfold cutL
      rw [HT.sIx_none, HT.sIx_nat, Nat.min_eq_left (by omega)]
      simp
    refine ⟨_, rfl, _, rfl, (m : Int), rfl, w, rfl, Nat.le_of_lt (small1000 (by omega)), ?_⟩
    rw [cut1]
    have hl : (w.take m ++ [c]).length = m + 1 := by
      rw [List.length_append, List.length_take, List.length_singleton]
      omega
    refine ⟨_, rfl, w.take m, [c], rfl, rfl, Nat.le_of_lt (small1000 (by rw [List.length_take, List.length_singleton]; omega)), ?_⟩
    generalize hrd : w.take m ++ [c] = rd at hl q ⊢
    -- for k in range(min(len(read), len(word)), 0, -1)
    refine ⟨_, rfl, rd, rfl, Nat.le_of_lt (small1000 (by omega)), _, rfl, w, rfl, Nat.le_of_lt (small1000 (by omega)), _, _, rfl, ?_⟩
    have e1 : (if (w.length : Int) < (rd.length : Int) then (w.length : Int) else (rd.length : Int)) = ((m + 1 : Nat) : Int) := by
      rw [hl]
      split <;> omega
    rw [e1]
    refine ⟨_, rfl, ((m + 1 : Nat) : Int), 0, -1, (((m + 1 : Nat) : Int) - 0).toNat, rfl, RgC.neg (by omega) (by omega) (by decide) (by decide), ?_⟩
    have e2 : (((m + 1 : Nat) : Int) - 0).toNat = m + 1 := by omega
    rw [e2]
    refine for_rangeC (lo := ((m + 1 : Nat) : Int)) (c := -1) (n := m + 1) (fun i σ H1 => ∃ v, σ = [some (vs w), some (kint m), some (vs [c]), some (vs rd), v] ∧ H1 = H ∧ ∀ j, j < i → isBeg w (rd.drop j) = false) ⟨none, rfl, rfl, fun j z => absurd z (Nat.not_lt_zero _)⟩ ?_ ?_
    · rintro i σ H1 hi ⟨v, rfl, rfl, hf⟩
      have ek : ((m + 1 : Nat) : Int) + (i : Nat) * (-1) = ((m + 1 - i : Nat) : Int) := by omega
      rw [ek]
      have cut2 : cutL rd (some (((m + 1 : Nat) : Int) - ((m + 1 - i : Nat) : Int))) none = rd.drop i := by
        unfold cutL
        have : ((m + 1 : Nat) : Int) - ((m + 1 - i : Nat) : Int) = (i : Int) := by omega
        rw [this, HT.sIx_nat, HT.sIx_none, Nat.min_eq_left (by omega)]
        exact List.take_of_length_le (by rw [List.length_drop]; exact Nat.le_refl _)
      have cut3 : cutL w none (some ((m + 1 - i : Nat) : Int)) = w.take (m + 1 - i) := by
        unfold cutL
        rw [HT.sIx_none, HT.sIx_nat, Nat.min_eq_left (by omega)]
        simp
      refine ⟨_, rfl, _, rfl, rd, rfl, Nat.le_of_lt (small1000 (by omega)), _, rfl, _, _, rfl, rfl, _, rfl, rd, rfl, Nat.le_of_lt (small1000 (by omega)), ?_⟩
      rw [hl, cut2]
      refine ⟨_, rfl, _, rfl, _, rfl, w, rfl, Nat.le_of_lt (small1000 (by omega)), ?_⟩
      rw [cut3]
      refine ⟨_, _, rfl, rfl, _, rfl, ?_⟩
      have hb : isBeg w (rd.drop i) = decide (rd.drop i = w.take (m + 1 - i)) := by
        have hd : (rd.drop i).length = m + 1 - i := by
          rw [List.length_drop]
          omega
        rw [Bool.eq_iff_iff, isBeg_iff, decide_eq_true_eq, List.prefix_iff_eq_take, hd]
      refine ite2 (fun e => ?_) (fun e => ?_)
      · rw [← hb] at e
        refine ⟨_, rfl, ?_⟩
        have := lsuf_at rd i (by omega) hf e
        rw [this] at q
        have e3 : (rd.drop i).length = m + 1 - i := by
          rw [List.length_drop]
          omega
        rw [e3] at q
        exact q
      · rw [← hb] at e
        refine ⟨_, rfl, rfl, fun j hj => ?_⟩
        by_cases hji : j = i
        · subst hji
          exact Bool.not_eq_true _ ▸ e
        · exact hf j (by omega)
    · rintro σ H1 ⟨v, rfl, rfl, hf⟩
      have := lsuf_none rd (fun j hj => hf j (by omega))
      rw [this] at q
      exact q

theorem ok_check_word {f : Addr} {fd : FuncData} (F : Fun K "check_word" "check_word" s_check_word f fd) (Tx : Txt mg) :
    FnOk P w K mg base CX0 1 f fd ["word"] sp_check_word := by
  refine F.ok sc_check_word (fun xs H Q E h => ?_) (fun cdv A outer sh H xs Q E hr h => ?_)
  · obtain ⟨w, rfl, h0, h60, q⟩ := h
    rfl
  · obtain ⟨w, rfl, h0, h60, q⟩ := h
    have hu := hu16 hr
    refine ⟨_, (pss_cons (ps_if (pt_cmpR op_eqT (pv 0) pe_str (nomark _)) (pss_one ps_never) pss_nil)
      (pss_one (ps_if (pt_cmpR op_gt (pe_callB call_lenT (by rfl) Tx.m_len b_len (pa_cons (pv 0) pa_nil)) (pe_globI (by rfl) Tx.g_WORD_LIMIT) (nomark _)) (pss_one ps_never) pss_nil))), ?_⟩
    have e1 : decide (w = lst "") = false := by
      rw [lst_nil]
      exact decide_eq_false h0
    refine ⟨_, rfl, w, lst "", rfl, rfl, _, rfl, ?_⟩
    rw [e1]
    refine iteF ⟨_, rfl, w, rfl, ?_, _, _, rfl, rfl, _, rfl, ?_⟩
    · exact Nat.le_of_lt (small1000 (by omega))
    · rw [decide_eq_false (by omega)]
      exact iteF q

theorem ok_check_line {f : Addr} {fd : FuncData} (F : Fun K "check_line" "check_line" s_check_line f fd) (Tx : Txt mg) :
    FnOk P w K mg base CX0 1 f fd ["pieces"] sp_check_line := by
  refine F.ok sc_check_line (fun xs H Q E h => ?_) (fun cdv A outer sh H xs Q E hr h => ?_)
  · obtain ⟨a, ps, rfl, ha, h8, q⟩ := h
    rfl
  · obtain ⟨a, ps, rfl, ha, h8, q⟩ := h
    have hu := hu16 hr
    refine ⟨_, (pss_one (ps_if (pt_cmpR op_gt (pe_callB call_len_seq (by rfl) Tx.m_len b_len (pa_cons (pv 0) pa_nil)) (pe_globI (by rfl) Tx.g_LINE_LIMIT) (nomark _)) (pss_one ps_never) pss_nil)), ?_⟩
    refine ⟨_, rfl, a, _, rfl, .inr (SqT.of ha), _, _, rfl, rfl, _, rfl, ?_⟩
    rw [List.length_map, decide_eq_false (by omega)]
    exact iteF q

theorem ok_tail_after {f : Addr} {fd : FuncData} (F : Fun K "tail_after" "tail_after" s_tail_after f fd) (Tx : Txt mg) :
    FnOk P w K mg base CX0 1 f fd ["pieces", "tail", "letter"] sp_tail_after := by
  refine F.ok sc_tail_after (fun xs H Q E h => ?_) (fun cdv A outer sh H xs Q E hr h => ?_)
  · obtain ⟨a, ps, tl, c, rfl, ha, htl, hps, q⟩ := h
    rfl
  · obtain ⟨a, ps, tl, c, rfl, ha, htl, hps, q⟩ := h
    have hu := hu16 hr
    refine ⟨_, (pss_cons (ps_set (i := 3) sc_tail_after.nd rfl (Or.inl rfl) (pe_op op_addT (pv 1) (pv 2)))
      (pss_cons (ps_for PassesOwn.never rfl (pi_range1 (by rfl) Tx.m_range (pa_cons (pe_callB call_lenT (by rfl) Tx.m_len b_len (pa_cons (pv 3) pa_nil)) pa_nil)) (pg_name (i := 4) sc_tail_after.nd rfl (Or.inl rfl)) (pss_cons (ps_set (i := 5) sc_tail_after.nd rfl (Or.inl rfl) (pe_slice sl_T (pv 3) (po_some (pv 4)) po_none))
        (pss_one (ps_for PassesOwn.never rfl (pi_tup (pv 0)) (pg_name (i := 6) sc_tail_after.nd rfl (Or.inl rfl)) (pss_one (ps_if (pt_cmpR op_eqT (pe_slice sl_T (pv 6) po_none (po_some (pe_callB call_lenT (by rfl) Tx.m_len b_len (pa_cons (pv 5) pa_nil)))) (pv 5) (nomark _)) (pss_one (ps_ret (pv 5))) pss_nil))))))
      (pss_one (ps_ret pe_str)))), ?_⟩
    refine ⟨_, rfl, _, rfl, tl, [c], rfl, rfl, sz (by rw [List.length_singleton]; omega), ?_⟩
    have hl : (tl ++ [c]).length = tl.length + 1 := by rw [List.length_append, List.length_singleton]
    generalize tl ++ [c] = rd at hl q ⊢
    refine ⟨_, rfl, rd, rfl, sz (by omega), _, rfl, by omega, by omega, ?_⟩
    rw [Int.toNat_natCast]
    refine for_range (lo := 0) (n := rd.length) (fun i σ H1 => ∃ v4 v5 v6, σ = [some (.ref a), some (vs tl), some (vs [c]), some (vs rd), v4, v5, v6] ∧ H1 = H ∧ ∀ j, j < i → isTail ps (rd.drop j) = false)
      ⟨none, none, none, rfl, rfl, fun j z => absurd z (Nat.not_lt_zero _)⟩ ?_ ?_
    · rintro i σ H1 hi ⟨v4, v5, v6, rfl, rfl, hf⟩
      have ei : V.int (0 + (i : Int)) = kint i := ki (by omega)
      rw [ei]
      refine ⟨_, rfl, _, rfl, (i : Int), rfl, rd, rfl, sz (by omega), ?_⟩
      rw [cut_from]
      have hdl : (rd.drop i).length = rd.length - i := List.length_drop
      generalize hend : rd.drop i = en at hdl
      refine ⟨_, rfl, a, rfl, ⟨_, SqT.of ha⟩, for_tup (K := K) (a := a) (xs := ps.map vs) (fun k σ H2 => ∃ v6, σ = [some (.ref a), some (vs tl), some (vs [c]), some (vs rd), some (kint i), some (vs en), v6] ∧ H2 = H1 ∧ ∀ p ∈ ps.take k, isBeg p en = false)
        ⟨v6, rfl, rfl, fun p z => by simp at z⟩ (fun k σ H2 _ ⟨_, _, e, _⟩ => by rw [e]; exact SqT.of ha) ?_ ?_⟩
      · rintro k x σ H2 hk ⟨v6, rfl, rfl, hg⟩
        obtain ⟨p, hp, rfl⟩ := map_get hk
        have hpm := List.mem_of_getElem? hp
        have lp := hps p hpm
        refine ⟨_, rfl, _, rfl, en, rfl, sz (by omega), (en.length : Int), rfl, p, rfl, sz (by omega), ?_⟩
        rw [cut_to]
        refine ⟨_, rfl, _, _, rfl, rfl, _, rfl, ?_⟩
        have hb : isBeg p en = decide (p.take en.length = en) := by
          rw [Bool.eq_iff_iff, isBeg_iff, decide_eq_true_eq, List.prefix_iff_eq_take]
          exact eq_comm
        rw [← hb]
        cases e : isBeg p en with
        | true =>
          refine iteT ⟨_, rfl, ?_⟩
          have ht : isTail ps (rd.drop i) = true := by
            rw [hend]
            exact isTail_of hpm (isBeg_iff.mp e)
          have := lsuf_at rd i hi hf ht
          rw [this, hend] at q
          exact q
        | false =>
          refine iteF ⟨_, rfl, rfl, fun p' hp' => ?_⟩
          rw [List.take_add_one, hp] at hp'
          rcases List.mem_append.mp hp' with z | z
          · exact hg p' z
          · have : p' = p := by simpa using z
            rw [this]
            exact e
      · rintro σ H2 ⟨v6, rfl, rfl, hg⟩
        rw [List.length_map, List.take_length] at hg
        refine ⟨_, _, _, rfl, rfl, fun j hj => ?_⟩
        by_cases hji : j = i
        · subst hji
          rw [hend]
          have h1 : en.isEmpty = false := by
            cases en with
            | nil => simp at hdl; omega
            | cons _ _ => rfl
          unfold isTail
          rw [h1, Bool.false_or]
          exact List.any_eq_false.mpr fun p hp => by rw [hg p hp]; decide
        · exact hf j (by omega)
    · rintro σ H1 ⟨v4, v5, v6, rfl, rfl, hf⟩
      have := lsuf_none rd hf
      rw [this] at q
      rw [s_nil]
      exact q

theorem ok_state_after {f : Addr} {fd : FuncData} (F : Fun K "state_after" "state_after" s_state_after f fd) (Tx : Txt mg) {f_advance : Addr} {fd_advance : FuncData} (h_advance : Gd P w K mg base 1 "advance" ["word", "matched", "letter"] sp_advance f_advance fd_advance) {f_tail_after : Addr} {fd_tail_after : FuncData} (h_tail_after : Gd P w K mg base 1 "tail_after" ["pieces", "tail", "letter"] sp_tail_after f_tail_after fd_tail_after) :
    FnOk P w K mg base CX0 2 f fd ["pieces", "word", "state", "letter"] sp_state_after := by
  refine F.ok sc_state_after (fun xs H Q E h => ?_) (fun cdv A outer sh H xs Q E hr h => ?_)
  · obtain ⟨a, b, ps, w, gr, t, c, rfl, ha, ⟨fo, hb, hfo⟩, hw60, hns, hps, hpl, hgr, q1, q2⟩ := h
    rfl
  · obtain ⟨a, b, ps, w, gr, t, c, rfl, ha, ⟨fo, hb, hfo⟩, hw60, hns, hps, hpl, hgr, q1, q2⟩ := h
    have hu := hu16 hr
    refine ⟨_, (pss_cons (ps_asg (pv 2) (pg_tup (by rfl) (pgs_cons (pg_name (i := 4) sc_state_after.nd rfl (Or.inl rfl)) (pgs_cons (pg_name (i := 5) sc_state_after.nd rfl (Or.inl rfl)) (pgs_cons (pg_name (i := 6) sc_state_after.nd rfl (Or.inl rfl)) (pgs_cons (pg_name (i := 7) sc_state_after.nd rfl (Or.inr rfl)) pgs_nil))))))
      (pss_cons (ps_set (i := 8) sc_state_after.nd rfl (Or.inl rfl) (pcall h_advance hr (by decide) (by rfl) (pa_cons (pv 1) (pa_cons (pv 6) (pa_cons (pv 3) pa_nil)))))
      (pss_cons (ps_if (pt_cmpR op_eq (pv 8) (pe_callB call_lenT (by rfl) Tx.m_len b_len (pa_cons (pv 1) pa_nil)) (nomark _)) (pss_one (ps_ret pe_non)) pss_nil)
      (pss_cons (ps_set (i := 9) sc_state_after.nd rfl (Or.inr rfl) (pcall h_tail_after hr (by decide) (by rfl) (pa_cons (pv 0) (pa_cons (pv 5) (pa_cons (pv 3) pa_nil)))))
      (pss_cons (ps_set (i := 10) sc_state_after.nd rfl (Or.inl rfl) (pe_callTy call_tuple_of (by rfl) Tx.m_tuple b_tuple (pa_cons (pe_lc (own := [("k", 11)]) (g := gName 11) rfl sc_state_after.nd (pi_range1 (by rfl) Tx.m_range (pa_cons (pe_callB call_len_seq (by rfl) Tx.m_len b_len (pa_cons (pv 0) pa_nil)) pa_nil)) (blkOk_by (N := ["pieces", "word", "state", "letter", "gram", "tail", "matched", "found", "fresh", "longer", "now", "k"]) (sc := defScope s_state_after) (by decide +kernel)) (fun _ _ _ _ _ => pg_name (i := 11) sc_state_after.nd rfl (Or.inl rfl)) (fun _ _ _ _ _ => (pts_one (PW.pt (pw_or (pt_cmpR (op_inKK (K := K) rfl) (pv 11) (pv 7) (by rfl)) (pw_or1 (pt_val (pe_m1 PySem.F.slot_str_endswith PySem.F.type_str_endswith mt_endsT (pv 9) (pe_ix (ix_tupK (K := K) rfl) (pv 0) (pv 11) (fun _ _ => rfl))))))))) (fun _ _ _ _ _ => (pv 11))) pa_nil)))
      (pss_one (ps_ret (pe_tup (pa_cons (pe_slice sl_T (pe_op op_addT (pv 4) (pv 3)) (po_some pe_int) po_none) (pa_cons (pv 9) (pa_cons (pv 8) (pa_cons (pv 10) pa_nil)))))))))))), ?_⟩
    have hb : H b = some (.tup [vs gr, vs (tl ps t), kint (mt w t), .ref fo]) := hb
    have hfo : H fo = some (.tup ((TX.fd ps t).map kint)) := hfo
    have hm : mt w t < w.length := by
      have h1 := mt_le w t
      have h2 : mt w t ≠ w.length := fun e => hns (mt_full.mp e)
      omega
    have htl : (tl ps t).length ≤ 9 := by
      rcases Bool.or_eq_true_iff.mp (lsuf_P (isTail_nil ps) t) with h | h
      · have : tl ps t = [] := List.isEmpty_iff.mp h
        rw [this]
        decide
      · obtain ⟨p, hp, hbg⟩ := List.any_eq_true.mp h
        exact Nat.le_trans (isBeg_iff.mp hbg).length_le (hpl p hp)
    refine ⟨_, rfl, b, _, rfl, SqT.of hb, rfl, _, _, rfl, _, _, rfl, _, _, rfl, _, _, rfl, rfl, ?_⟩
    refine ⟨_, rfl, _, rfl, _, rfl, w, mt w t, c, rfl, hm, hw60, ?_⟩
    rw [← mt_step]
    refine ⟨_, rfl, _, rfl, w, rfl, sz (by omega), rfl, _, rfl, ?_⟩
    refine ite2 (fun e => ?_) (fun e => ?_)
    · have e := of_decide_eq_true e
      have e : mt w (t ++ [c]) = w.length := by
        have := V.int.inj e
        omega
      exact q1 (mt_full.mp e) H (Same.refl H)
    · have hns2 : ¬ w <:+ t ++ [c] := fun z => e (decide_eq_true (by rw [mt_full.mpr z]; rfl))
      refine ⟨_, rfl, _, rfl, _, rfl, a, ps, tl ps t, c, rfl, ha, by omega, fun p hp => by have := hpl p hp; omega, ?_⟩
      rw [← tl_step]
      generalize hlo : tl ps (t ++ [c]) = lo
      have hbb : (List.range ps.length).filter (fun k => decide (k ∈ TX.fd ps t) || (ps.getD k []).isSuffixOf lo) = TX.fd ps (t ++ [c]) := fd_eq _ rfl fun k hk => by
        rw [Bool.or_eq_true, decide_eq_true_eq, List.isSuffixOf_iff_suffix, ← hlo]
        exact fd_step hk
      generalize hbf : (fun k => decide (k ∈ TX.fd ps t) || (ps.getD k []).isSuffixOf lo) = bb at hbb
      refine ⟨_, rfl, a, _, rfl, .inr (SqT.of ha), _, rfl, by rw [List.length_map]; omega, by rw [List.length_map]; omega, fun D hD => ?_⟩
      have naD : a ≠ D := ne_of_none ha hD
      have nfD : fo ≠ D := ne_of_none hfo hD
      rw [List.length_map, Int.toNat_natCast]
      refine lc_range (lo := 0) (n := ps.length) (fun i H1 => H1 = upd H D (.lst (((List.range i).filter bb).map kint))) rfl ?_ ?_
      · rintro i H1 hi rfl
        have ei : V.int (0 + (i : Int)) = kint i := ki (by omega)
        rw [ei]
        have er : (List.range (i + 1)).filter bb = (List.range i).filter bb ++ (if bb i = true then [i] else []) := by
          rw [List.range_succ, List.filter_append]
          congr 1
          by_cases h : bb i = true
          · rw [if_pos h]
            simp [h]
          · rw [if_neg h]
            simp [h]
        have hgi : ps[i]? = some (ps.getD i []) := by
          rw [List.getD_eq_getElem?_getD, List.getElem?_eq_getElem hi]
          rfl
        -- behind the tests
        have finT : bb i = true → ∃ acc, (upd H D (.lst (((List.range i).filter bb).map kint))) D = some (.lst acc) ∧ acc.length < sizeLine ∧
            upd (upd H D (.lst (((List.range i).filter bb).map kint))) D (.lst (acc ++ [kint i])) = upd H D (.lst (((List.range (i + 1)).filter bb).map kint)) := by
          intro h
          refine ⟨_, upd_same, szl ?_, ?_⟩
          · rw [List.length_map]
            refine Nat.le_trans (List.length_filter_le _ _) ?_
            rw [List.length_range]
            omega
          · rw [upd_upd, er, h, if_pos rfl, List.map_append]
            rfl
        have finF : bb i = false → upd H D (.lst (((List.range i).filter bb).map kint)) = upd H D (.lst (((List.range (i + 1)).filter bb).map kint)) := by
          intro h
          rw [er, h, if_neg (by decide), List.append_nil]
        refine ⟨rfl, _, rfl, _, rfl, fo, i, _, rfl, rfl, SqT.of ((upd_ne nfD).trans hfo), _, rfl, ?_⟩
        refine ite2 (fun e => ?_) (fun e => ?_)
        · exact iteT ⟨_, rfl, finT (by rw [← hbf]; simp only [e, Bool.true_or])⟩
        · refine ⟨_, rfl, ⟨_, rfl⟩, _, rfl, _, rfl, a, _, (i : Int), _, rfl, rfl, SqT.of ((upd_ne naD).trans ha), at_nat rfl (map_at hgi), lo, ps.getD i [], rfl, rfl, fun k hk => ?_⟩
          have ek : k = bb i := by
            rw [← hbf]
            simp only [Bool.not_eq_true] at e
            show k = (decide (i ∈ TX.fd ps t) || (ps.getD i []).isSuffixOf lo)
            rw [e, Bool.false_or, Bool.eq_iff_iff, hk, List.isSuffixOf_iff_suffix]
          refine ⟨k, rfl, ?_⟩
          cases h : bb i with
          | true =>
            rw [ek, h]
            exact iteT ⟨_, rfl, finT h⟩
          | false =>
            rw [ek, h]
            exact iteF (finF h)
      · rintro H1 rfl
        rw [hbb]
        refine ⟨D, _, rfl, .inl ⟨SqL.of upd_same, fun r nr => ?_⟩⟩
        have nDr : D ≠ r := ne_of_none upd_same nr
        have sm : Same H (upd (upd H D (.lst ((TX.fd ps (t ++ [c])).map kint))) r (.tup ((TX.fd ps (t ++ [c])).map kint))) := (same_upd hD).trans (same_upd nr)
        have ec : cutL (gr ++ [c]) (some 1) none = (gr ++ [c]).drop 1 := cut_from _ 1
        refine ⟨_, rfl, _, rfl, gr, [c], rfl, rfl, sz (by rw [List.length_singleton]; omega), 1, rfl, gr ++ [c], rfl, sz (by rw [List.length_append, List.length_singleton]; omega), ?_⟩
        rw [ec]
        refine ⟨_, rfl, _, rfl, _, rfl, by show 4 ≤ sizeLine; decide, fun x nx => ?_⟩
        have nxr : r ≠ x := ne_of_none upd_same nx
        refine q2 hns2 _ x (sm.trans (same_upd nx)) ⟨r, ?_, ?_⟩
        · rw [upd_same]
          show some (HO.tup [_, vs lo, _, _]) = some (HO.tup [_, vs (tl ps (t ++ [c])), _, _])
          rw [hlo]
          rfl
        · rw [upd_ne nxr, upd_same]
          rfl

theorem ok_first_list {f : Addr} {fd : FuncData} (F : Fun K "first_list" "first_list" s_first_list f fd) (Tx : Txt mg) {f_gram_list : Addr} {fd_gram_list : FuncData} (h_gram_list : Gd P w K mg base 1 "gram_list" ["windows"] sp_gram_list f_gram_list fd_gram_list) {f_state_after : Addr} {fd_state_after : FuncData} (h_state_after : Gd P w K mg base 2 "state_after" ["pieces", "word", "state", "letter"] sp_state_after f_state_after fd_state_after) :
    FnOk P w K mg base CX0 3 f fd ["pieces", "windows", "word"] sp_first_list := by
  refine F.ok sc_first_list (fun xs H Q E h => ?_) (fun cdv A outer sh H xs Q E hr h => ?_)
  · obtain ⟨a, aw, ps, ws, g, wd, rfl, sr, q⟩ := h
    rfl
  · obtain ⟨a, aw, ps, ws, g, wd, rfl, sr, q⟩ := h
    have hu := hu16 hr
    refine ⟨_, (pss_cons (ps_set (i := 3) sc_first_list.nd rfl (Or.inl rfl) (pe_lst pa_nil))
      (pss_cons (ps_for PassesOwn.never rfl (pi_tup (pcall h_gram_list hr (by decide) (by rfl) (pa_cons (pv 1) pa_nil))) (pg_name (i := 4) sc_first_list.nd rfl (Or.inl rfl)) (pss_cons (ps_set (i := 5) sc_first_list.nd rfl (Or.inl rfl) (pe_tup (pa_cons pe_str (pa_cons pe_str (pa_cons pe_int (pa_cons (pe_tup pa_nil) pa_nil))))))
        (pss_cons (ps_for PassesOwn.never rfl (pi_str (pv 4)) (pg_name (i := 6) sc_first_list.nd rfl (Or.inl rfl)) (pss_one (ps_if (pt_cmpR op_notN (pv 5) pe_non (nomark _)) (pss_one (ps_set (i := 5) sc_first_list.nd rfl (Or.inl rfl) (pcall h_state_after hr (by decide) (by rfl) (pa_cons (pv 0) (pa_cons (pv 2) (pa_cons (pv 5) (pa_cons (pv 6) pa_nil))))))) pss_nil)))
        (pss_one (ps_if (pt_cmpR op_notN (pv 5) pe_non (nomark _)) (pss_one (ps_expr (pe_bm PySem.F.plainAttrs_list PySem.F.slot_list_append PySem.F.type_list_append mt_append (pv 3) (pa_cons (pe_tup (pa_cons (pv 4) (pa_cons (pe_ix ix_tup (pv 5) pe_int (fun _ _ => rfl)) (pa_cons (pe_ix ix_tup (pv 5) pe_int (fun _ _ => rfl)) (pa_cons (pe_ix ix_tup (pv 5) pe_int (fun _ _ => rfl)) pa_nil))))) pa_nil)))) pss_nil)))))
      (pss_one (ps_ret (pe_callTy call_tuple_of (by rfl) Tx.m_tuple b_tuple (pa_cons (pe_callB (cr_sortNf hu (sg ps g wd)) (by rfl) Tx.m_sorted b_sorted (pa_cons (pv 3) pa_nil)) pa_nil)))))), ?_⟩
    have pc := sr.pc
    have g0 := pc.g0
    have g1 := pc.g1
    have hn := pc.n
    have hw8 := sr.w8
    have hwl := pc.few sr.wn fun x hx => (sr.wm x).mp hx
    have pne : ∀ p ∈ ps, p ≠ [] := fun p hp z => by
      have := (pc.l p hp).1
      rw [z] at this
      simp at this
      omega
    refine ⟨Nat.zero_le _, fun o no => ?_⟩
    have s1 : Same H (upd H o (.lst [])) := same_upd no
    refine ⟨_, rfl, aw, ws, rfl, s1 _ _ sr.wa, by omega, fun x hx => by have := ((sr.wm x).mp hx).len; omega, fun H1 G gs sm1 hG gn gl gm => ?_⟩
    have gm' : ∀ y, y ∈ gs ↔ Gm ps g y := fun y => by
      rw [gm]
      unfold Gm
      simp only [sr.wm]
    have nGo : H1 o = some (.lst []) := sm1 _ _ upd_same
    refine ⟨G, rfl, ⟨_, SqT.of hG⟩, for_tup (K := K) (a := G) (xs := gs.map vs) (fun i σ H2 => ∃ (v4 v5 v6 : Option V) (es : List (T × Addr)), σ = [some (.ref a), some (.ref aw), some (vs wd), some (.ref o), v4, v5, v6] ∧ H2 o = some (.lst (es.map fun e : T × Addr => V.ref e.2)) ∧ Same H H2 ∧ H2 G = some (.tup (gs.map vs)) ∧
        (∀ e ∈ es, StAt H2 e.2 (sg ps g wd e.1)) ∧ (es.map fun e : T × Addr => e.1).Nodup ∧ es.length ≤ i ∧ ∀ t : T, t ∈ (es.map fun e : T × Addr => e.1) ↔ t ∈ gs.take i ∧ ¬ wd <:+: t)
      ⟨none, none, none, [], rfl, nGo, s1.trans sm1, hG, fun e z => (nomatch z), List.nodup_nil, Nat.le_refl _, fun t => by simp⟩ (fun i σ H2 _ ⟨_, _, _, _, _, _, _, e, _⟩ => SqT.of e) ?_ ?_⟩
    · rintro i x σ H2 hi ⟨v4, v5, v6, es, rfl, ho, sm, hG2, hst, hnd, hlen, hm⟩
      obtain ⟨gr, hgr, rfl⟩ := map_get hi
      have hgl : gr.length = g - 1 := ((gm' gr).mp (List.mem_of_getElem? hgr)).len
      refine ⟨by show 0 ≤ sizeLine; decide, fun f0 nf0 => ⟨by show 4 ≤ sizeLine; decide, fun b0 nb0 => ?_⟩⟩
      have sm2 : Same H2 (upd (upd H2 f0 (.tup [])) b0 (.tup [.str (Str.ofString ""), .str (Str.ofString ""), .int 0, .ref f0])) := (same_upd nf0).trans (same_upd nb0)
      have st0 : StAt (upd (upd H2 f0 (.tup [])) b0 (.tup [.str (Str.ofString ""), .str (Str.ofString ""), .int 0, .ref f0])) b0 (st ps wd [] []) := by
        have nf : f0 ≠ b0 := ne_of_none upd_same nb0
        refine ⟨f0, ?_, ?_⟩
        · rw [upd_same]
          show some (HO.tup [V.str (Str.ofString ""), V.str (Str.ofString ""), V.int 0, V.ref f0]) = some (HO.tup [vs [], vs (tl ps []), _, _])
          rw [s_nil]
          rfl
        · rw [upd_ne nf, upd_same]
          show some (HO.tup []) = some (HO.tup ((TX.fd ps []).map kint))
          rw [fd_nil pne]
          rfl
      generalize upd (upd H2 f0 (.tup [])) b0 (.tup [.str (Str.ofString ""), .str (Str.ofString ""), .int 0, .ref f0]) = H3 at sm2 st0
      refine ⟨_, rfl, S gr, rfl, for_strT (l := gr) (fun j σ H4 => ∃ (v5 : V) (v6 : Option V), σ = [some (.ref a), some (.ref aw), some (vs wd), some (.ref o), some (vs gr), some v5, v6] ∧ Same H2 H4 ∧
        ((v5 = .non ∧ wd <:+: gr.take j) ∨ ∃ b, v5 = .ref b ∧ StAt H4 b (st ps wd [] (gr.take j)) ∧ ¬ wd <:+: gr.take j)) ⟨_, v6, rfl, sm2, .inr ⟨b0, rfl, by simpa using st0, fun z => sr.w0 (by simpa using z)⟩⟩ ?_ ?_⟩
      · rintro j c σ H4 hj ⟨v5, v6, rfl, sm4, hc⟩
        have et : gr.take (j + 1) = gr.take j ++ [c] := by
          rw [List.take_add_one, hj]
          rfl
        refine ⟨_, rfl, rfl, _, rfl, ?_⟩
        rcases hc with ⟨rfl, hin⟩ | ⟨b, rfl, hsb, hnin⟩
        · rw [decide_eq_true rfl]
          refine iteF ⟨_, _, rfl, sm4, .inl ⟨rfl, ?_⟩⟩
          rw [et]
          exact infix_snoc.mpr (.inl hin)
        · rw [decide_eq_false (fun z => V.noConfusion z)]
          refine iteT ⟨_, rfl, _, rfl, _, rfl, _, rfl, a, b, ps, wd, [], gr.take j, c, rfl, sm4 _ _ (sm _ _ sr.pa), hsb, by omega, fun z => hnin z.isInfix, hn, fun p hp => (pc.l p hp).2, by simp, fun hs H5 sm5 => ?_, fun hs H5 b' sm5 hsb' => ?_⟩
          · refine ⟨_, _, rfl, sm4.trans sm5, .inl ⟨rfl, ?_⟩⟩
            rw [et]
            exact hs.isInfix
          · refine ⟨_, _, rfl, sm4.trans sm5, .inr ⟨b', rfl, ?_, fun z => ?_⟩⟩
            · rw [et]
              simpa using hsb'
            · rw [et] at z
              rcases infix_snoc.mp z with z | z
              · exact hnin z
              · exact hs z
      · rintro σ H4 ⟨v5, v6, rfl, sm4, hc⟩
        rw [List.take_length] at hc
        have ho4 := sm4 _ _ ho
        have hG4 := sm4 _ _ hG2
        have et : gs.take (i + 1) = gs.take i ++ [gr] := by
          rw [List.take_add_one, hgr]
          rfl
        refine ⟨_, rfl, rfl, _, rfl, ?_⟩
        rcases hc with ⟨rfl, hin⟩ | ⟨b, rfl, hsb, hnin⟩
        · rw [decide_eq_true rfl]
          refine iteF ⟨_, _, _, es, rfl, ho4, sm.trans sm4, hG4, fun e he => (hst e he).same fun c xs z => sm4 _ _ z, hnd, by omega, fun t => ?_⟩
          rw [hm, et, List.mem_append]
          constructor
          · rintro ⟨h1, h2⟩
            exact ⟨.inl h1, h2⟩
          · rintro ⟨h1 | h1, h2⟩
            · exact ⟨h1, h2⟩
            · have : t = gr := by simpa using h1
              rw [this] at h2
              exact absurd hin h2
        · rw [decide_eq_false (fun z => V.noConfusion z)]
          obtain ⟨fo, hb1, hb2⟩ := hsb
          refine iteT ⟨_, rfl, .inl ⟨rfl, _, SqL.of ho4⟩, _, rfl, _, rfl, b, _, 1, _, rfl, rfl, SqT.of hb1, rfl, _, rfl, b, _, 2, _, rfl, rfl, SqT.of hb1, rfl, _, rfl, b, _, 3, _, rfl, rfl, SqT.of hb1, rfl, by show 4 ≤ sizeLine; decide, fun x nx => ?_⟩
          have nxo : o ≠ x := ne_of_none ho4 nx
          refine ⟨o, _, _, rfl, rfl, (upd_ne nxo).trans ho4, szl (by rw [List.length_map]; have := List.getElem?_eq_some_iff.mp hgr; obtain ⟨h, _⟩ := this; omega), ?_⟩
          have hox : (upd H4 x (.tup [vs gr, vs (tl ps gr), kint (mt wd gr), .ref fo])) o = some (.lst (es.map fun e : T × Addr => V.ref e.2)) := (upd_ne nxo).trans ho4
          refine ⟨_, _, _, es ++ [(gr, x)], rfl, ?_, ?_, ?_, ?_, ?_, ?_, ?_⟩
          · rw [upd_same, List.map_append]
            rfl
          · intro b z e
            rw [upd_ne (ne_of_none e no), upd_ne (ne_of_none (sm4 _ _ (sm _ _ e)) nx)]
            exact sm4 _ _ (sm _ _ e)
          · rw [upd_ne (ne_of hG4 ho4 (fun z => nomatch z)), upd_ne (ne_of_none hG4 nx)]
            exact hG4
          · intro e he
            rcases List.mem_append.mp he with he | he
            · exact StAt.ov (((hst e he).same fun c xs z => sm4 _ _ z).up nx) hox
            · have : e = (gr, x) := by simpa using he
              subst this
              refine StAt.ov (p := o) ?_ hox
              refine ⟨fo, ?_, (upd_ne (ne_of_none hb2 nx)).trans hb2⟩
              rw [upd_same]
              show some (HO.tup [vs gr, _, _, _]) = some (HO.tup [vs (last (g - 1) gr), _, _, _])
              rw [last_self hgl]
              rfl
          · rw [List.map_append]
            refine nodup_snoc hnd fun z => ?_
            have := ((hm gr).mp z).1
            obtain ⟨h, e⟩ := List.getElem?_eq_some_iff.mp hgr
            rw [List.mem_take_iff_getElem] at this
            obtain ⟨k, hk, e2⟩ := this
            have := (List.getElem_inj gn).mp (e2.trans e.symm)
            omega
          · rw [List.length_append, List.length_singleton]
            omega
          · intro t
            rw [List.map_append, List.mem_append, hm, et, List.mem_append]
            constructor
            · rintro (⟨h1, h2⟩ | h)
              · exact ⟨.inl h1, h2⟩
              · have : t = gr := by simpa using h
                rw [this]
                exact ⟨.inr (by simp), hnin⟩
            · rintro ⟨h1 | h1, h2⟩
              · exact .inl ⟨h1, h2⟩
              · exact .inr (by simpa using h1)
    · rintro σ H2 ⟨v4, v5, v6, es, rfl, ho, sm, hG2, hst, hnd, hlen, hm⟩
      rw [List.length_map, List.take_length] at hm
      refine ⟨_, rfl, o, es, rfl, SqL.of ho, hst, fun es' p hperm np => ?_⟩
      refine ⟨p, _, rfl, .inl ⟨SqL.of upd_same, fun r nr => ?_⟩⟩
      refine q _ r es' ((sm.trans (same_upd np)).trans (same_upd nr)) upd_same (fun e he => ((hst e (hperm.mem_iff.mp he)).up np).up nr) ((hperm.map _).nodup_iff.mpr hnd) (fun t => ?_)
      rw [(hperm.map _).mem_iff, hm, gm']

theorem ok_line_way_of {f : Addr} {fd : FuncData} (F : Fun K "line_way_of" "line_way_of" s_line_way_of f fd) (Tx : Txt mg) {f_following : Addr} {fd_following : FuncData} (h_following : Gd P w K mg base 1 "following" ["windows", "gram"] sp_following f_following fd_following) {f_state_after : Addr} {fd_state_after : FuncData} (h_state_after : Gd P w K mg base 2 "state_after" ["pieces", "word", "state", "letter"] sp_state_after f_state_after fd_state_after) :
    FnOk P w K mg base CX0 3 f fd ["pieces", "windows", "word", "state", "letter"] sp_line_way_of := by
  refine F.ok sc_line_way_of (fun xs H Q E h => ?_) (fun cdv A outer sh H xs Q E hr h => ?_)
  · obtain ⟨a, aw, b, ps, ws, g, wd, t, c, rfl, sr, hb, hgl, hwin, hns, q1, q2⟩ := h
    rfl
  · obtain ⟨a, aw, b, ps, ws, g, wd, t, c, rfl, sr, hb, hgl, hwin, hns, q1, q2⟩ := h
    have hu := hu16 hr
    refine ⟨_, (pss_cons (ps_if (PW.pt (pw_or (pt_cmpR op_eqT (pv 4) pe_str (nomark _)) (pw_or1 (pt_cmpR op_notSignT (pv 4) (pcall h_following hr (by decide) (by rfl) (pa_cons (pv 1) (pa_cons (pe_ix ix_tup (pv 3) pe_int (fun _ _ => rfl)) pa_nil))) (by rfl))))) (pss_one (ps_ret pe_non)) pss_nil)
      (pss_one (ps_ret (pcall h_state_after hr (by decide) (by rfl) (pa_cons (pv 0) (pa_cons (pv 2) (pa_cons (pv 3) (pa_cons (pv 4) pa_nil)))))))), ?_⟩
    have pc := sr.pc
    have g1 := pc.g1
    have hn := pc.n
    have hw8 := sr.w8
    have hwl := pc.few sr.wn fun x hx => (sr.wm x).mp hx
    obtain ⟨fo, hb1, hb2⟩ := id hb
    have e1 : decide ([c] = lst "") = false := by
      rw [lst_nil]
      exact decide_eq_false (fun z => nomatch z)
    refine ⟨_, rfl, [c], lst "", rfl, rfl, _, rfl, ?_⟩
    rw [e1]
    refine iteF ⟨_, rfl, _, rfl, _, rfl, b, _, 0, _, rfl, rfl, SqT.of hb1, rfl, aw, ws, last (g - 1) t, rfl, sr.wa, by omega, fun x hx => ?_, fun H1 l sm hl hll => ⟨c, l, rfl, rfl, _, rfl, ?_⟩⟩
    · have := ((sr.wm x).mp hx).len
      have g0 := pc.g0
      refine ⟨fun z => ?_, by omega⟩
      rw [z] at this
      simp at this
      omega
    · rw [decide_eq_true ((hl c).mpr ((sr.wm _).mpr hwin))]
      refine iteF ⟨_, rfl, _, rfl, _, rfl, _, rfl, a, b, ps, wd, last (g - 1) t, t, c, rfl, sm _ _ sr.pa, hb.same fun c xs z => sm _ _ z, by omega, hns, hn, fun p hp => (pc.l p hp).2, by rw [last_len hgl]; omega, fun hs H2 sm2 => q1 hs H2 (sm.trans sm2), fun hs H2 b' sm2 hb' => q2 hs H2 b' (sm.trans sm2) ?_⟩
      unfold sg
      rw [last_snoc hgl]
      exact hb'

theorem ok_line_decision {f : Addr} {fd : FuncData} (F : Fun K "line_decision" "line_decision" s_line_decision f fd) (Tx : Txt mg) {f_first_list : Addr} {fd_first_list : FuncData} (h_first_list : Gd P w K mg base 3 "first_list" ["pieces", "windows", "word"] sp_first_list f_first_list fd_first_list) {f_following : Addr} {fd_following : FuncData} (h_following : Gd P w K mg base 1 "following" ["windows", "gram"] sp_following f_following fd_following) {f_line_way_of : Addr} {fd_line_way_of : FuncData} (h_line_way_of : Gd P w K mg base 3 "line_way_of" ["pieces", "windows", "word", "state", "letter"] sp_line_way_of f_line_way_of fd_line_way_of) :
    FnOk P w K mg base CX0 4 f fd ["pieces", "windows", "word"] sp_line_decision := by
  refine F.ok sc_line_decision (fun xs H Q E h => ?_) (fun cdv A outer sh H xs Q E hr h => ?_)
  · obtain ⟨a, aw, ps, ws, g, wd, rfl, sr, q⟩ := h
    rfl
  · obtain ⟨a, aw, ps, ws, g, wd, rfl, sr, q⟩ := h
    have hu := hu16 hr
    refine ⟨_, (pss_cons (ps_set (i := 3) sc_line_decision.nd rfl (Or.inl rfl) pe_nnew)
      (pss_cons (ps_set (i := 4) sc_line_decision.nd rfl (Or.inl rfl) (pe_lst pa_nil))
      (pss_cons (ps_for PassesOwn.never rfl (pi_tup (pcall h_first_list hr (by decide) (by rfl) (pa_cons (pv 0) (pa_cons (pv 1) (pa_cons (pv 2) pa_nil))))) (pg_name (i := 5) sc_line_decision.nd rfl (Or.inl rfl)) (pss_cons (ps_nput hu (pv 3) (pv 5) (pe_ix ix_tup (pv 5) pe_int (fun _ _ => rfl)) rfl)
        (pss_one (ps_expr (pe_bm PySem.F.plainAttrs_list PySem.F.slot_list_append PySem.F.type_list_append mt_append (pv 4) (pa_cons (pv 5) pa_nil))))))
      (pss_cons (ps_set (i := 6) sc_line_decision.nd rfl (Or.inl rfl) pe_int)
      (pss_cons (ps_while PassesOwn.never (pt_cmpR op_lt (pv 6) (pe_callB call_len_seq (by rfl) Tx.m_len b_len (pa_cons (pv 4) pa_nil)) (nomark _)) (pss_cons (ps_set (i := 5) sc_line_decision.nd rfl (Or.inl rfl) (pe_ix ix_list (pv 4) (pv 6) (fun _ _ => rfl)))
        (pss_cons (ps_if (pt_cmpR op_eq (pe_callB call_len_seq (by rfl) Tx.m_len b_len (pa_cons (pe_ix ix_tup (pv 5) pe_int (fun _ _ => rfl)) pa_nil)) (pe_callB call_len_seq (by rfl) Tx.m_len b_len (pa_cons (pv 0) pa_nil)) (nomark _)) (pss_one (ps_ret (pe_tup (pa_cons pe_str (pa_cons (pe_nget hu (pv 3) (pv 5) (fun _ _ => rfl)) pa_nil))))) pss_nil)
        (pss_cons (ps_for PassesOwn.never rfl (pi_str (pcall h_following hr (by decide) (by rfl) (pa_cons (pv 1) (pa_cons (pe_ix ix_tup (pv 5) pe_int (fun _ _ => rfl)) pa_nil)))) (pg_name (i := 7) sc_line_decision.nd rfl (Or.inl rfl)) (pss_cons (ps_set (i := 8) sc_line_decision.nd rfl (Or.inl rfl) (pcall h_line_way_of hr (by decide) (by rfl) (pa_cons (pv 0) (pa_cons (pv 1) (pa_cons (pv 2) (pa_cons (pv 5) (pa_cons (pv 7) pa_nil)))))))
          (pss_one (ps_if (PW.pt (pw_and (pt_cmpR op_notN (pv 8) pe_non (nomark _)) (pw_and1 (pt_cmp (pc_nnotin hu (pv 8) (pv 3)))))) (pss_cons (ps_nput hu (pv 3) (pv 8) (pe_op op_addT (pe_nget hu (pv 3) (pv 5) (fun _ _ => rfl)) (pv 7)) rfl)
            (pss_one (ps_expr (pe_bm PySem.F.plainAttrs_list PySem.F.slot_list_append PySem.F.type_list_append mt_append (pv 4) (pa_cons (pv 8) pa_nil))))) pss_nil))))
        (pss_one (ps_set (i := 6) sc_line_decision.nd rfl (Or.inl rfl) (pe_op op_add (pv 6) pe_int)))))))
      (pss_one (ps_ret (pe_tup (pa_cons pe_str (pa_cons (pe_callTy call_tuple_of (by rfl) Tx.m_tuple b_tuple (pa_cons (pe_callB (cr_sortNf hu (sg ps g wd)) (by rfl) Tx.m_sorted b_sorted (pa_cons (pv 4) pa_nil)) pa_nil)) pa_nil)))))))))), ?_⟩
    have pc := sr.pc
    have g0 := pc.g0
    have g1 := pc.g1
    have hn := pc.n
    have hw8 := sr.w8
    have hwl := pc.few sr.wn fun x hx => (sr.wm x).mp hx
    intro d nd
    have s1 : Same H (upd H d (.ext (dictP P w d []))) := same_upd nd
    refine ⟨Nat.zero_le _, fun o no => ?_⟩
    have nod : d ≠ o := ne_of_none upd_same no
    have no0 : H o = none := by
      rw [upd_ne nod.symm] at no
      exact no
    have s2 : Same (upd H d (.ext (dictP P w d []))) (upd (upd H d (.ext (dictP P w d []))) o (.lst [])) := same_upd no
    have b0 : BInv P w H (upd (upd H d (.ext (dictP P w d []))) o (.lst [])) d o ps g wd [] :=
      ⟨s1.trans s2, nd, no0, upd_same, ⟨by rw [upd_ne nod, upd_same]; rfl, fun e he => (nomatch he)⟩, List.nodup_nil, fun e he => (nomatch he), fun i e he => by simp at he⟩
    refine ⟨_, rfl, _, rfl, _, rfl, a, aw, ps, ws, g, wd, rfl, (sr.same (s1.trans s2)), fun H1 p es0 sm1 hp hst hnd hm => ?_⟩
    have hgl : ∀ e ∈ es0, e.1.length = g - 1 := fun e he => (((hm e.1).mp (List.mem_map.mpr ⟨e, he, rfl⟩)).1).len
    refine ⟨p, rfl, ⟨_, SqT.of hp⟩, for_tup (K := K) (a := p) (xs := es0.map fun e => V.ref e.2) (fun i σ H2 => ∃ v5 : Option V, σ = [some (.ref a), some (.ref aw), some (vs wd), some (.ref d), some (.ref o), v5, none, none, none] ∧ H2 p = some (.tup (es0.map fun e => V.ref e.2)) ∧ (∀ e ∈ es0, StAt H2 e.2 (sg ps g wd e.1)) ∧ BInv P w H H2 d o ps g wd (es0.take i))
      ⟨none, rfl, hp, hst, b0.to sm1⟩ (fun i σ H2 _ ⟨_, _, e, _⟩ => SqT.of e) ?_ ?_⟩
    · rintro i x σ H2 hi ⟨v5, rfl, hp2, hst2, bi⟩
      obtain ⟨e, he, rfl⟩ := map_get hi
      have hem := List.mem_of_getElem? he
      obtain ⟨hil, hie⟩ := List.getElem?_eq_some_iff.mp he
      have hse := hst2 e hem
      obtain ⟨hgm, hno⟩ := (hm e.1).mp (List.mem_map.mpr ⟨e, hem, rfl⟩)
      have hlast : last (g - 1) e.1 = e.1 := last_self (hgl e hem)
      have hnew : ¬ sg ps g wd e.1 ∈ (es0.take i).map (sge ps g wd) := fun z => by
        obtain ⟨e', he', eq⟩ := List.mem_map.mp z
        have eq' : last (g - 1) e'.1 = last (g - 1) e.1 := congrArg State.gram eq
        rw [last_self (hgl e' (List.mem_of_mem_take he')), hlast] at eq'
        rw [List.mem_take_iff_getElem] at he'
        obtain ⟨k, hk, e2⟩ := he'
        have hk' : k < es0.length := by omega
        have h1 : (es0.map (·.1))[k]? = some e.1 := by
          rw [List.getElem?_map, List.getElem?_eq_getElem hk', e2]
          exact congrArg some eq'
        have h2 : (es0.map (·.1))[i]? = some e.1 := by
          rw [List.getElem?_map, he]
          rfl
        have := nd_ix hnd h1 h2
        omega
      obtain ⟨fo, hb1, hb2⟩ := id hse
      have hadd := bi.add hse hnew (Ok.first g0 hgm hno) (by have := hgl e hem; omega)
      have hb1 : H2 e.2 = some (.tup [vs e.1, vs (tl ps e.1), .int (mt wd e.1 : Int), .ref fo]) := by
        have hb1 : H2 e.2 = some (.tup [vs (last (g - 1) e.1), vs (tl ps e.1), .int (mt wd e.1 : Int), .ref fo]) := hb1
        rw [hlast] at hb1
        exact hb1
      refine ⟨_, rfl, e.2, _, 0, _, rfl, rfl, SqT.of hb1, rfl, _, rfl, _, rfl, d, e.2, _, sg ps g wd e.1, rfl, rfl, bi.dic, hse, look_none hnew, ?_, ?_⟩
      · show (List.map _ (es0.take i)).length < sizeLine
        rw [List.length_map]
        have := bi.few pc hw8
        exact szl (by omega)
      have hol : (upd H2 d (.ext (dictP P w d (ents ps g wd (es0.take i) ++ [(sg ps g wd e.1, e.2, vs e.1)])))) o = some (.lst ((es0.take i).map fun e => V.ref e.2)) := by
        rw [upd_ne bi.ndo.symm]
        exact bi.ord
      refine ⟨_, rfl, .inl ⟨rfl, _, SqL.of hol⟩, _, rfl, o, _, _, rfl, rfl, hol, ?_, ?_⟩
      · rw [List.length_map]
        have := bi.few pc hw8
        exact szl (by omega)
      have keep : ∀ c xs, H2 c = some (.tup xs) → (upd (upd H2 d (.ext (dictP P w d (ents ps g wd (es0.take i) ++ [(sg ps g wd e.1, e.2, vs e.1)])))) o (.lst (((es0.take i).map fun e => V.ref e.2) ++ [.ref e.2]))) c = some (.tup xs) := fun c xs z => by
        rw [upd_ne (ne_of z bi.ord (fun z => nomatch z)), upd_ne (ne_of z bi.dic.ob (fun z => nomatch z))]
        exact z
      refine ⟨_, rfl, keep _ _ hp2, fun e he => (hst2 e he).same keep, ?_⟩
      have et : es0.take (i + 1) = es0.take i ++ [e] := by
        rw [List.take_add_one, he]
        rfl
      rw [et]
      exact hadd
    · rintro σ H2 ⟨v5, rfl, hp2, hst2, bi⟩
      rw [List.length_map, List.take_length] at bi
      -- at = 0; while at < len(order)
      have hfirst : ∀ t, Gm ps g t → ¬ wd <:+: t → sg ps g wd t ∈ es0.map (sge ps g wd) := fun t h1 h2 => by
        obtain ⟨e, he, e1⟩ := List.mem_map.mp ((hm t).mpr ⟨h1, h2⟩)
        exact List.mem_map.mpr ⟨e, he, by show sg ps g wd e.1 = _; rw [e1]⟩
      obtain ⟨B, hB⟩ : ∃ B : Nat, B = 4000001 := ⟨_, rfl⟩
      refine while_by (fun σ H3 => ∃ (at' : Nat) (v5 v7 v8 : Option V) (es : List (T × Addr)), σ = [some (.ref a), some (.ref aw), some (vs wd), some (.ref d), some (.ref o), v5, some (kint at'), v7, v8] ∧ BInv P w H H3 d o ps g wd es ∧ at' ≤ es.length ∧
          (∀ t, Gm ps g t → ¬ wd <:+: t → sg ps g wd t ∈ es.map (sge ps g wd)) ∧
          (∀ e ∈ es.take at', ∀ c, Win ps g (last (g - 1) e.1 ++ [c]) → ¬ wd <:+ e.1 ++ [c] → sg ps g wd (e.1 ++ [c]) ∈ es.map (sge ps g wd)) ∧ (∀ e ∈ es.take at', (TX.fd ps e.1).length ≠ ps.length))
        (fun σ _ => B - (atOf σ).toNat) ⟨0, v5, none, none, es0, rfl, bi, Nat.zero_le _, hfirst, fun e he => by simp at he, fun e he => by simp at he⟩ ?_ ?_
      · rintro σ H3 ⟨at', v5, v7, v8, es, rfl, bi, hat, c1, c2, c3⟩
        refine ⟨_, rfl, _, rfl, o, _, rfl, .inl (SqL.of bi.ord), _, _, rfl, rfl, _, rfl, ?_⟩
        rw [List.length_map]
        refine ite2 (fun e => ?_) (fun e => ?_)
        · have hlt : at' < es.length := by
            have := of_decide_eq_true e
            omega
          have he : es[at']? = some es[at'] := List.getElem?_eq_getElem hlt
          generalize hee : es[at'] = x at he
          have hxm := List.mem_of_getElem? he
          have hsx := bi.st hxm
          have hokx := bi.ok x hxm
          have hlx := bi.len _ _ he
          have hfew := bi.few pc hw8
          obtain ⟨fo, hb1, hb2⟩ := id hsx
          refine ⟨_, rfl, _, rfl, o, _, (at' : Int), _, rfl, rfl, SqL.of bi.ord, at_nat rfl (map_at he), ?_⟩
          refine ⟨_, rfl, x.2, _, 3, _, rfl, rfl, SqT.of hb1, rfl, fo, _, rfl, .inr (SqT.of hb2), _, rfl, a, _, rfl, .inr (SqT.of (bi.same _ _ sr.pa)), rfl, _, rfl, ?_⟩
          rw [List.length_map, List.length_map]
          refine ite2 (fun ed => ?_) (fun ed => ?_)
          · have ed : (TX.fd ps x.1).length = ps.length := by
              have := V.int.inj (of_decide_eq_true ed)
              have : ((TX.fd ps x.1).length : Int) = (ps.length : Int) := this
              omega
            refine ⟨_, rfl, _, rfl, d, x.2, _, sg ps g wd x.1, _, rfl, rfl, bi.dic, hsx, look_some bi.nd hxm, by show 2 ≤ sizeLine; decide, fun p np => ?_⟩
            obtain ⟨l1, l2⟩ := done_lacking hokx ed
            refine q _ p (bi.same.trans (same_upd np)) (.inl ⟨x.1, upd_same, l1, l2, by omega⟩)
          · have ed : (TX.fd ps x.1).length ≠ ps.length := fun z => ed (decide_eq_true (by
              show V.int ((TX.fd ps x.1).length : Int) = V.int (ps.length : Int)
              rw [z]))
            -- for letter in following(windows, state[0])
            refine ⟨_, rfl, _, rfl, x.2, _, 0, _, rfl, rfl, SqT.of hb1, rfl, aw, ws, last (g - 1) x.1, rfl, bi.same _ _ sr.wa, by omega, fun y hy => ?_, fun H4 l sm4 hl hll => ?_⟩
            · have := ((sr.wm y).mp hy).len
              refine ⟨fun z => ?_, by omega⟩
              rw [z] at this
              simp at this
              omega
            have bi4 := bi.to sm4
            refine ⟨S l, rfl, for_strT (l := l) (fun j σ H5 => ∃ (v7 v8 : Option V) (es' : List (T × Addr)), σ = [some (.ref a), some (.ref aw), some (vs wd), some (.ref d), some (.ref o), some (.ref x.2), some (kint at'), v7, v8] ∧ BInv P w H H5 d o ps g wd es' ∧ es <+: es' ∧
                ∀ c ∈ l.take j, ¬ wd <:+ x.1 ++ [c] → sg ps g wd (x.1 ++ [c]) ∈ es'.map (sge ps g wd)) ⟨v7, v8, es, rfl, bi4, List.prefix_refl _, fun c hc => by simp at hc⟩ ?_ ?_⟩
            · rintro j c σ H5 hj ⟨v7, v8, es', rfl, b5, hpre, hcl⟩
              have hxm5 : x ∈ es' := hpre.subset hxm
              have hsx5 := b5.st hxm5
              have hok5 := b5.ok x hxm5
              have hfew5 := b5.few pc hw8
              have hwin : Win ps g (last (g - 1) x.1 ++ [c]) := (sr.wm _).mp ((hl c).mp (List.mem_of_getElem? hj))
              have elt : l.take (j + 1) = l.take j ++ [c] := by
                rw [List.take_add_one, hj]
                rfl
              refine ⟨_, rfl, _, rfl, _, rfl, _, rfl, _, rfl, a, aw, x.2, ps, ws, g, wd, x.1, c, rfl, sr.same b5.same, hsx5, hok5.len, hwin, fun z => hok5.no z.isInfix, fun hs H6 sm6 => ?_, fun hs H6 b' sm6 hb' => ?_⟩
              · -- the word would occur
                refine ⟨_, rfl, rfl, _, rfl, ?_⟩
                rw [decide_eq_true rfl]
                refine iteF ⟨_, _, es', rfl, b5.to sm6, hpre, fun c' hc' hns => ?_⟩
                rw [elt] at hc'
                rcases List.mem_append.mp hc' with z | z
                · exact hcl c' z hns
                · have : c' = c := by simpa using z
                  rw [this] at hns
                  exact absurd hs hns
              · have b6 := b5.to sm6
                refine ⟨_, rfl, rfl, _, rfl, ?_⟩
                rw [decide_eq_false (fun z => V.noConfusion z)]
                refine iteT ⟨_, rfl, _, rfl, d, b', _, sg ps g wd (x.1 ++ [c]), rfl, rfl, b6.dic, hb', _, rfl, ?_⟩
                rw [look_is b6.nd]
                by_cases hm6 : sg ps g wd (x.1 ++ [c]) ∈ es'.map (sge ps g wd)
                · rw [decide_eq_true hm6]
                  refine iteF ⟨_, _, es', rfl, b6, hpre, fun c' hc' hns => ?_⟩
                  rw [elt] at hc'
                  rcases List.mem_append.mp hc' with z | z
                  · exact hcl c' z hns
                  · have : c' = c := by simpa using z
                    rw [this]
                    exact hm6
                · rw [decide_eq_false hm6]
                  have hsx6 := b6.st hxm5
                  have hidx : at' < es'.length := Nat.lt_of_lt_of_le hlt hpre.length_le
                  have hadd := b6.add (t := x.1 ++ [c]) (x := b') hb' hm6 (hok5.snoc g0 hwin hs) (by rw [List.length_append, List.length_singleton]; omega)
                  refine iteT ⟨_, rfl, _, rfl, d, x.2, _, sg ps g wd x.1, _, rfl, rfl, b6.dic, hsx6, look_some b6.nd hxm5, _, rfl, x.1, [c], rfl, rfl, sz (by rw [List.length_singleton]; omega), _, rfl, _, rfl, d, b', _, sg ps g wd (x.1 ++ [c]), rfl, rfl, b6.dic, hb', look_none hm6, ?_, ?_⟩
                  · show (List.map _ es').length < sizeLine
                    rw [List.length_map]
                    exact szl (by omega)
                  have hol : (upd H6 d (.ext (dictP P w d (ents ps g wd es' ++ [(sg ps g wd (x.1 ++ [c]), b', vs (x.1 ++ [c]))])))) o = some (.lst (es'.map fun e => V.ref e.2)) := by
                    rw [upd_ne b6.ndo.symm]
                    exact b6.ord
                  refine ⟨_, rfl, .inl ⟨rfl, _, SqL.of hol⟩, _, rfl, o, _, _, rfl, rfl, hol, szl (by rw [List.length_map]; omega), ?_⟩
                  refine ⟨_, _, es' ++ [(x.1 ++ [c], b')], rfl, hadd, hpre.trans (List.prefix_append _ _), fun c' hc' hns => ?_⟩
                  rw [List.map_append, List.mem_append]
                  rw [elt] at hc'
                  rcases List.mem_append.mp hc' with z | z
                  · exact .inl (hcl c' z hns)
                  · have : c' = c := by simpa using z
                    rw [this]
                    exact .inr (by simp)
            · rintro σ H5 ⟨v7, v8, es', rfl, b5, hpre, hcl⟩
              rw [List.take_length] at hcl
              refine ⟨_, rfl, _, _, rfl, rfl, ?_⟩
              have hle := hpre.length_le
              have hk : V.int ((at' : Int) + 1) = kint (at' + 1) := ki (by omega)
              have hat5 : es'[at']? = some x := by
                obtain ⟨r, hr⟩ := hpre
                rw [← hr, List.getElem?_append_left hlt]
                exact he
              have etk : es'.take (at' + 1) = es'.take at' ++ [x] := by
                rw [List.take_add_one, hat5]
                rfl
              have etk2 : es'.take at' = es.take at' := by
                obtain ⟨r, hr⟩ := hpre
                rw [← hr, List.take_append_of_le_length (by omega)]
              have hsub : ∀ z, z ∈ es.map (sge ps g wd) → z ∈ es'.map (sge ps g wd) := fun z hz => by
                obtain ⟨y, hy, e⟩ := List.mem_map.mp hz
                exact List.mem_map.mpr ⟨y, hpre.subset hy, e⟩
              refine ⟨⟨at' + 1, _, _, _, es', congrArg (fun z => [some (V.ref a), some (V.ref aw), some (vs wd), some (V.ref d), some (V.ref o), some (V.ref x.2), some z, v7, v8]) hk, b5, by omega, fun t h1 h2 => hsub _ (c1 t h1 h2), fun y hy c hwn hns => ?_, fun y hy => ?_⟩, ?_⟩
              · rw [etk, etk2] at hy
                rcases List.mem_append.mp hy with z | z
                · exact hsub _ (c2 y z c hwn hns)
                · have : y = x := by simpa using z
                  subst this
                  exact hcl c ((hl c).mpr ((sr.wm _).mpr hwn)) hns
              · rw [etk, etk2] at hy
                rcases List.mem_append.mp hy with z | z
                · exact c3 y z
                · have : y = x := by simpa using z
                  subst this
                  exact ed
              · have hfB : at' < B := by omega
                clear hB
                show B - ((at' : Int) + 1).toNat < B - (at' : Int).toNat
                omega
        · -- nothing was done
          have hge : at' = es.length := by
            have : ¬ (at' : Int) < (es.length : Int) := fun z => e (decide_eq_true z)
            omega
          rw [hge, List.take_length] at c2 c3
          refine ⟨_, rfl, o, es, rfl, SqL.of bi.ord, fun e he => bi.st he, fun es' p hperm np => ?_⟩
          refine ⟨p, _, rfl, .inl ⟨SqL.of upd_same, fun r nr => ?_⟩⟩
          refine ⟨by show 2 ≤ sizeLine; decide, fun u nu => ?_⟩
          refine q _ u (((bi.same.trans (same_upd np)).trans (same_upd nr)).trans (same_upd nu)) (.inr ⟨.ref r, upd_same, closed_es pc bi.ok c1 c2 c3⟩)
      · rintro σ H Q Q' hq ⟨v, e1, v', e2, p, ys, e3, hs, i, j, e4, e5, k, e6, r⟩
        exact ⟨v, e1, v', e2, p, ys, e3, hs, i, j, e4, e5, k, e6, hq _ _ r⟩

theorem ok_decided {f : Addr} {fd : FuncData} (F : Fun K "decided" "decided" s_decided f fd) (Tx : Txt mg) {f_window_list : Addr} {fd_window_list : FuncData} (h_window_list : Gd P w K mg base 1 "window_list" ["pieces", "grain"] sp_window_list f_window_list fd_window_list) {f_line_decision : Addr} {fd_line_decision : FuncData} (h_line_decision : Gd P w K mg base 4 "line_decision" ["pieces", "windows", "word"] sp_line_decision f_line_decision fd_line_decision) :
    FnOk P w K mg base CX0 5 f fd ["pieces", "grain", "word", "shape"] sp_decided := by
  refine F.ok sc_decided (fun xs H Q E h => ?_) (fun cdv A outer sh H xs Q E hr h => ?_)
  · obtain ⟨a, ps, g, wd, rfl, ha, pc, hw0, hw8, q⟩ := h
    rfl
  · obtain ⟨a, ps, g, wd, rfl, ha, pc, hw0, hw8, q⟩ := h
    have hu := hu16 hr
    refine ⟨_, (pss_cons (ps_set (i := 4) sc_decided.nd rfl (Or.inl rfl) (pcall h_window_list hr (by decide) (by rfl) (pa_cons (pv 0) (pa_cons (pv 1) pa_nil))))
      (pss_cons (ps_if (pt_cmpR op_eqT (pv 3) pe_str (nomark _)) pss_never pss_nil)
      (pss_one (ps_ret (pcall h_line_decision hr (by decide) (by rfl) (pa_cons (pv 0) (pa_cons (pv 4) (pa_cons (pv 2) pa_nil)))))))), ?_⟩
    have e1 : decide (lst "line" = lst "circle") = false := by decide +kernel
    refine ⟨_, rfl, _, rfl, a, ps, g, rfl, ha, pc, fun H1 p ws sm hp hm hn => ?_⟩
    refine ⟨_, rfl, lst "line", lst "circle", rfl, rfl, _, rfl, ?_⟩
    rw [e1]
    refine iteF ⟨_, rfl, _, rfl, _, rfl, a, p, ps, ws, g, wd, rfl, ⟨sm _ _ ha, hp, pc, hm, hn, hw0, hw8⟩, fun H2 r sm2 hd => q H2 r (sm.trans sm2) hd⟩

theorem ok_check_question {f : Addr} {fd : FuncData} (F : Fun K "check_question" "check_question" s_check_question f fd) (Tx : Txt mg) {f_check_shards : Addr} {fd_check_shards : FuncData} (h_check_shards : Gd P w K mg base 1 "check_shards" ["pieces", "grain"] sp_check_shards f_check_shards fd_check_shards) {f_check_shape : Addr} {fd_check_shape : FuncData} (h_check_shape : Gd P w K mg base 1 "check_shape" ["shape"] sp_check_shape f_check_shape fd_check_shape) :
    FnOk P w K mg base CX0 2 f fd ["pieces", "grain", "shape"] sp_check_question := by
  refine F.ok sc_check_question (fun xs H Q E h => ?_) (fun cdv A outer sh H xs Q E hr h => ?_)
  · obtain ⟨a, ps, g, rfl, ha, pc, q⟩ := h
    rfl
  · obtain ⟨a, ps, g, rfl, ha, pc, q⟩ := h
    have hu := hu16 hr
    refine ⟨_, (pss_cons (ps_expr (pcall h_check_shards hr (by decide) (by rfl) (pa_cons (pv 0) (pa_cons (pv 1) pa_nil))))
      (pss_one (ps_expr (pcall h_check_shape hr (by decide) (by rfl) (pa_cons (pv 2) pa_nil))))), ?_⟩
    exact ⟨_, rfl, _, rfl, a, ps, g, rfl, ha, pc, _, rfl, rfl, q⟩

theorem ok_decide {f : Addr} {fd : FuncData} (F : Fun K "decide" "decide" s_decide f fd) (Tx : Txt mg) {f_check_question : Addr} {fd_check_question : FuncData} (h_check_question : Gd P w K mg base 2 "check_question" ["pieces", "grain", "shape"] sp_check_question f_check_question fd_check_question) {f_check_word : Addr} {fd_check_word : FuncData} (h_check_word : Gd P w K mg base 1 "check_word" ["word"] sp_check_word f_check_word fd_check_word) {f_check_line : Addr} {fd_check_line : FuncData} (h_check_line : Gd P w K mg base 1 "check_line" ["pieces"] sp_check_line f_check_line fd_check_line) {f_decided : Addr} {fd_decided : FuncData} (h_decided : Gd P w K mg base 5 "decided" ["pieces", "grain", "word", "shape"] sp_decided f_decided fd_decided) :
    FnOk P w K mg base CX0 6 f fd ["pieces", "grain", "word", "shape"] sp_decide := by
  refine F.ok sc_decide (fun xs H Q E h => ?_) (fun cdv A outer sh H xs Q E hr h => ?_)
  · obtain ⟨a, ps, g, wd, rfl, ha, pc, hw0, hw8, q⟩ := h
    rfl
  · obtain ⟨a, ps, g, wd, rfl, ha, pc, hw0, hw8, q⟩ := h
    have hu := hu16 hr
    refine ⟨_, (pss_cons (ps_expr (pcall h_check_question hr (by decide) (by rfl) (pa_cons (pv 0) (pa_cons (pv 1) (pa_cons (pv 3) pa_nil)))))
      (pss_cons (ps_expr (pcall h_check_word hr (by decide) (by rfl) (pa_cons (pv 2) pa_nil)))
      (pss_cons (ps_if (pt_cmpR op_eqT (pv 3) pe_str (nomark _)) (pss_one (ps_expr (pcall h_check_line hr (by decide) (by rfl) (pa_cons (pv 0) pa_nil)))) pss_nil)
      (pss_one (ps_ret (pcall h_decided hr (by decide) (by rfl) (pa_cons (pv 0) (pa_cons (pv 1) (pa_cons (pv 2) (pa_cons (pv 3) pa_nil)))))))))), ?_⟩
    have hn := pc.n
    refine ⟨_, rfl, _, rfl, _, rfl, a, ps, g, rfl, ha, pc, ?_⟩
    refine ⟨_, rfl, wd, rfl, hw0, by omega, ?_⟩
    refine ⟨_, rfl, lst "line", lst "line", rfl, rfl, _, rfl, ?_⟩
    rw [decide_eq_true rfl]
    refine iteT ⟨_, rfl, a, ps, rfl, ha, by omega, ?_⟩
    exact ⟨_, rfl, _, rfl, _, rfl, _, rfl, a, ps, g, wd, rfl, ha, pc, hw0, hw8, q⟩

theorem ok_example {f : Addr} {fd : FuncData} (F : Fun K "example" "example" s_example f fd) (Tx : Txt mg) {f_check_question : Addr} {fd_check_question : FuncData} (h_check_question : Gd P w K mg base 2 "check_question" ["pieces", "grain", "shape"] sp_check_question f_check_question fd_check_question) {f_check_line : Addr} {fd_check_line : FuncData} (h_check_line : Gd P w K mg base 1 "check_line" ["pieces"] sp_check_line f_check_line fd_check_line) {f_decided : Addr} {fd_decided : FuncData} (h_decided : Gd P w K mg base 5 "decided" ["pieces", "grain", "word", "shape"] sp_decided f_decided fd_decided) :
    FnOk P w K mg base CX0 6 f fd ["pieces", "grain", "shape"] sp_example := by
  refine F.ok sc_example (fun xs H Q E h => ?_) (fun cdv A outer sh H xs Q E hr h => ?_)
  · obtain ⟨a, ps, g, rfl, ha, pc, q⟩ := h
    rfl
  · obtain ⟨a, ps, g, rfl, ha, pc, q⟩ := h
    have hu := hu16 hr
    refine ⟨_, (pss_cons (ps_expr (pcall h_check_question hr (by decide) (by rfl) (pa_cons (pv 0) (pa_cons (pv 1) (pa_cons (pv 2) pa_nil)))))
      (pss_cons (ps_if (pt_cmpR op_eqT (pv 2) pe_str (nomark _)) (pss_one (ps_expr (pcall h_check_line hr (by decide) (by rfl) (pa_cons (pv 0) pa_nil)))) pss_nil)
      (pss_cons (ps_asg (pcall h_decided hr (by decide) (by rfl) (pa_cons (pv 0) (pa_cons (pv 1) (pa_cons (pe_globS (by rfl) Tx.g_NOWHERE) (pa_cons (pv 2) pa_nil))))) (pg_tup (by rfl) (pgs_cons (pg_name (i := 3) sc_example.nd rfl (Or.inl rfl)) (pgs_cons (pg_name (i := 4) sc_example.nd rfl (Or.inl rfl)) pgs_nil))))
      (pss_cons (ps_if (pt_cmpR op_eqT (pv 3) pe_str (nomark _)) (pss_one (ps_ret (pv 4))) pss_nil)
      (pss_one (ps_ret pe_non)))))), ?_⟩
    have hn := pc.n
    refine ⟨_, rfl, _, rfl, _, rfl, a, ps, g, rfl, ha, pc, ?_⟩
    refine ⟨_, rfl, lst "line", lst "line", rfl, rfl, _, rfl, ?_⟩
    rw [decide_eq_true rfl]
    refine iteT ⟨_, rfl, a, ps, rfl, ha, by omega, ?_⟩
    refine ⟨_, rfl, _, rfl, _, rfl, a, ps, g, [32], rfl, ha, pc, fun z => (nomatch z), by decide, fun H1 p sm hd => ?_⟩
    have e1 : decide (lst "always" = lst "lacking") = false := by decide +kernel
    rcases hd with ⟨t, hp, _, _, hl⟩ | ⟨v, hp, _⟩
    · refine ⟨p, _, rfl, SqT.of hp, rfl, _, _, rfl, _, _, rfl, rfl, ?_⟩
      refine ⟨_, rfl, lst "lacking", lst "lacking", rfl, rfl, _, rfl, ?_⟩
      rw [decide_eq_true rfl]
      exact iteT ⟨_, rfl, q _ _ sm (.inr ⟨t, rfl, hl⟩)⟩
    · refine ⟨p, _, rfl, SqT.of hp, rfl, _, _, rfl, _, _, rfl, rfl, ?_⟩
      refine ⟨_, rfl, lst "always", lst "lacking", rfl, rfl, _, rfl, ?_⟩
      rw [e1]
      exact iteF (q _ _ sm (.inl rfl))

theorem ok_l_begin {f : Addr} {fd : FuncData} (F : Fun K "_law_begin" "_law_begin" s_l_begin f fd) (Tx : Txt mg) :
    FnOk P w K mg base CX0 1 f fd ["_law_script"] (sp_l_begin K) := by
  refine F.ok sc_l_begin (fun xs H Q E h => ?_) (fun cdv A outer sh H xs Q E hr h => ?_)
  · obtain ⟨a, ns, rfl, hS, h63, q⟩ := h
    rfl
  · obtain ⟨a, ns, rfl, hS, h63, q⟩ := h
    have hu := hu16 hr
    refine ⟨_, (pss_cons (ps_set (i := 1) sc_l_begin.nd rfl (Or.inl rfl) pe_int)
      (pss_cons (ps_for PassesOwn.never rfl (pi_list (pv 0)) (pg_name (i := 2) sc_l_begin.nd rfl (Or.inl rfl)) (pss_one (ps_set (i := 1) sc_l_begin.nd rfl (Or.inl rfl) (pe_op op_modN (pe_op op_add (pe_op op_add (pe_op op_mul (pv 1) pe_int) (pe_op op_modN (pe_callTy call_int1 (by rfl) Tx.m_int b_int (pa_cons (pv 2) pa_nil)) pe_int)) pe_int) pe_int))))
      (pss_one (ps_ret (pe_lst (pa_cons (pe_callTy call_list_of (by rfl) Tx.m_list b_list (pa_cons (pv 0) pa_nil)) (pa_cons pe_int (pa_cons pe_int (pa_cons (pv 1) pa_nil))))))))), ?_⟩
    refine ⟨_, rfl, a, rfl, ⟨_, hS⟩, for_list (K := K) (a := a) (xs := ns.map V.int) (fun i σ H1 => ∃ (z : Int) (v2 : Option V), σ = [some (.ref a), some (.int z), v2] ∧ H1 = H ∧ 0 ≤ z ∧ z < 2147483647)
      ⟨1, none, rfl, rfl, by decide, by decide⟩ (fun i σ H1 _ ⟨_, _, _, e, _⟩ => by rw [e]; exact hS) ?_ ?_⟩
    · rintro i x σ H1 hi ⟨z, v2, rfl, rfl, h1, h2⟩
      obtain ⟨u, hu', rfl⟩ := map_get hi
      refine ⟨_, rfl, z, 69621, rfl, rfl, .inl ⟨by omega, by omega⟩, _, rfl, .inl ⟨u, rfl, u, 2147483629, rfl, rfl, (by show (2147483629 : Int) ≠ 0; decide), _, _, rfl, rfl, _, _, rfl, rfl, _, 2147483647, rfl, rfl, (by show (2147483647 : Int) ≠ 0; decide), ?_⟩⟩
      obtain ⟨k1, k2⟩ := fmod_pos (a := z * 69621 + u.fmod 2147483629 + 7) (n := 2147483647) (by decide)
      exact ⟨_, _, rfl, rfl, k1, k2⟩
    · rintro σ H1 ⟨z, v2, rfl, rfl, h1, h2⟩
      refine ⟨_, rfl, a, _, rfl, .inl hS, fun s hs => ?_⟩
      refine ⟨_, rfl, by show 4 ≤ sizeLine; decide, fun d hd => ?_⟩
      have nds : d ≠ s := fun e => by
        rw [e, upd_same] at hd
        cases hd
      have hd0 : H1 d = none := by
        rw [upd_ne nds] at hd
        exact hd
      refine q _ d ((same_upd hs).trans (same_upd hd)) hd0 ⟨s, ns, 0, 0, z, upd_same, by rw [upd_ne nds.symm, upd_same], nds.symm, by decide, h1, h2⟩

theorem ok_l_take {f : Addr} {fd : FuncData} (F : Fun K "_law_take" "_law_take" s_l_take f fd) (Tx : Txt mg) :
    FnOk P w K mg base CX0 1 f fd ["_law_d", "_law_many"] sp_l_take := by
  refine F.ok sc_l_take (fun xs H Q E h => ?_) (fun cdv A outer sh H xs Q E hr h => ?_)
  · obtain ⟨d, n, rfl, ⟨s, ns, i, cur, seed, hd, hss, nsd, hc, hsd1, hsd2⟩, h0, h30, q⟩ := h
    rfl
  · obtain ⟨d, n, rfl, ⟨s, ns, i, cur, seed, hd, hss, nsd, hc, hsd1, hsd2⟩, h0, h30, q⟩ := h
    have hu := hu16 hr
    refine ⟨_, (pss_cons (ps_if (PW.pt (pw_and (pt_cmpR op_eq (pe_ix ix_list (pv 0) pe_int (fun _ _ => rfl)) pe_int (nomark _)) (pw_and1 (pt_cmpR op_lt (pe_ix ix_list (pv 0) pe_int (fun _ _ => rfl)) (pe_callB call_len_seq (by rfl) Tx.m_len b_len (pa_cons (pe_ix ix_list (pv 0) pe_int (fun _ _ => rfl)) pa_nil)) (nomark _))))) (pss_cons (ps_asg (pe_callB call_abs (by rfl) Tx.m_abs b_abs (pa_cons (pe_callTy call_int1 (by rfl) Tx.m_int b_int (pa_cons (pe_ix ix_list (pe_ix ix_list (pv 0) pe_int (fun _ _ => rfl)) (pe_ix ix_list (pv 0) pe_int (fun _ _ => rfl)) (fun _ _ => rfl)) pa_nil)) pa_nil)) (pg_sub (pv 0) pe_int set_list))
        (pss_cons (ps_asg (pe_op op_add (pe_ix ix_list (pv 0) pe_int (fun _ _ => rfl)) pe_int) (pg_sub (pv 0) pe_int set_list))
        (pss_one (ps_if (pt_cmpR op_lt (pe_ix ix_list (pv 0) pe_int (fun _ _ => rfl)) (pe_op op_pow pe_int pe_int) (nomark _)) (pss_cons (ps_set (i := 2) sc_l_take.nd rfl (Or.inl rfl) (pe_callTy call_int1 (by rfl) Tx.m_int b_int (pa_cons (pe_ix ix_list (pv 0) pe_int (fun _ _ => rfl)) pa_nil)))
          (pss_cons (ps_asg pe_int (pg_sub (pv 0) pe_int set_list))
          (pss_one (ps_ret (pe_op op_modN (pv 2) (pv 1)))))) pss_nil)))) pss_nil)
      (pss_cons (ps_if (pt_cmpR op_gt (pe_ix ix_list (pv 0) pe_int (fun _ _ => rfl)) pe_int (nomark _)) (pss_cons (ps_set (i := 3) sc_l_take.nd rfl (Or.inl rfl) (pe_op op_modN (pe_callTy call_int1 (by rfl) Tx.m_int b_int (pa_cons (pe_ix ix_list (pv 0) pe_int (fun _ _ => rfl)) pa_nil)) (pv 1)))
        (pss_cons (ps_asg (pe_op op_fdivN (pe_callTy call_int1 (by rfl) Tx.m_int b_int (pa_cons (pe_ix ix_list (pv 0) pe_int (fun _ _ => rfl)) pa_nil)) (pv 1)) (pg_sub (pv 0) pe_int set_list))
        (pss_one (ps_ret (pv 3))))) pss_nil)
      (pss_cons (ps_asg (pe_op op_modN (pe_callTy call_int1 (by rfl) Tx.m_int b_int (pa_cons (pe_op op_add (pe_op op_mul (pe_ix ix_list (pv 0) pe_int (fun _ _ => rfl)) pe_int) pe_int) pa_nil)) pe_int) (pg_sub (pv 0) pe_int set_list))
      (pss_one (ps_ret (pe_op op_modN (pe_callTy call_int1 (by rfl) Tx.m_int b_int (pa_cons (pe_op op_fdivN (pe_ix ix_list (pv 0) pe_int (fun _ _ => rfl)) pe_int) pa_nil)) (pv 1))))))), ?_⟩
    have hdr : DrS H d s := ⟨ns, i, cur, seed, hd, hss, nsd, hc, hsd1, hsd2⟩
    refine ⟨_, rfl, d, _, 2, _, rfl, rfl, SqL.of hd, rfl, rfl, _, rfl, ?_⟩
    refine ite2 (fun e1 => ?_) (fun e1 => ?_)
    · refine ⟨_, rfl, d, _, 1, _, rfl, rfl, SqL.of hd, rfl, _, rfl, d, _, 0, _, rfl, rfl, SqL.of hd, rfl, s, _, rfl, .inl (SqL.of hss), _, _, rfl, rfl, _, rfl, ?_⟩
      rw [List.length_map]
      refine ite2 (fun e2 => ?_) (fun e2 => ?_)
      · have hi : i < ns.length := by
          have := of_decide_eq_true e2
          omega
        have hx : ns[i]? = some ns[i] := List.getElem?_eq_getElem hi
        generalize ns[i] = x at hx
        -- d[2] = abs(int(d[0][d[1]]))
        refine ⟨_, rfl, d, _, 0, _, rfl, rfl, SqL.of hd, rfl, _, rfl, d, _, 1, _, rfl, rfl, SqL.of hd, rfl, s, _, (i : Int), _, rfl, rfl, SqL.of hss, at_nat rfl (map_at hx), .inl ⟨x, rfl, x, rfl, ?_⟩⟩
        have hax : 0 ≤ (if x < 0 then -x else x) := by
          split <;> omega
        generalize (if x < 0 then -x else x) = ax at hax
        refine ⟨_, rfl, d, _, 2, 2, rfl, rfl, hd, rfl, ?_⟩
        -- d[1] = d[1] + 1
        refine ⟨_, rfl, d, _, 1, _, rfl, rfl, SqL.of upd_same, rfl, _, _, rfl, rfl, _, rfl, d, _, 1, 1, rfl, rfl, upd_same, rfl, ?_⟩
        rw [upd_upd]
        have ek : V.int ((i : Int) + 1) = kint (i + 1) := ki (by omega)
        have el : (([V.ref s, kint i, V.int cur, V.int seed].set 2 (V.int ax)).set 1 (V.int ((i : Int) + 1))) = [V.ref s, kint (i + 1), V.int ax, V.int seed] := by
          rw [ek]
          rfl
        rw [el]
        -- if d[2] < 10 ** 18
        refine ⟨_, rfl, d, _, 2, _, rfl, rfl, SqL.of upd_same, rfl, _, _, rfl, rfl, ⟨by decide, by decide, by decide⟩, _, _, rfl, rfl, _, rfl, ?_⟩
        refine ite2 (fun e3 => ?_) (fun e3 => ?_)
        · refine ⟨_, rfl, d, _, 2, _, rfl, rfl, SqL.of upd_same, rfl, .inl ⟨ax, rfl, _, rfl, d, _, 2, 2, rfl, rfl, upd_same, rfl, ?_⟩⟩
          refine ⟨_, rfl, _, rfl, ax, (n : Int), rfl, rfl, (by show (n : Int) ≠ 0; omega), ?_⟩
          obtain ⟨r, er, hrn⟩ := fmod_nat (a := ax) h0
          show Q (V.int (ax.fmod (n : Int))) _
          rw [er, upd_upd]
          refine q _ r (DD.of hdr (fun b o nb e => ?_) ⟨ns, i + 1, 0, seed, upd_same, ?_, nsd, by decide, hsd1, hsd2⟩) hrn
          · rw [upd_ne nb]
            exact e
          · rw [upd_ne nsd]
            exact hss
        · have fr0 : FrD d H (upd H d (.lst [V.ref s, kint (i + 1), V.int ax, V.int seed])) := fun b o nb e => by
            rw [upd_ne nb]
            exact e
          have hd0 : (upd H d (.lst [V.ref s, kint (i + 1), V.int ax, V.int seed])) d = some (.lst [V.ref s, kint (i + 1), V.int ax, V.int seed]) := upd_same
          have hs0 : (upd H d (.lst [V.ref s, kint (i + 1), V.int ax, V.int seed])) s = some (.lst (ns.map V.int)) := fr0 _ _ nsd hss
          generalize upd H d (.lst [V.ref s, kint (i + 1), V.int ax, V.int seed]) = H1 at fr0 hd0 hs0
          obtain ⟨i1, cur1, seed1, hd1, hss1, hc1, hs1, hs2, fr1⟩ : ∃ (i1 : Nat) (cur1 seed1 : Int), H1 d = some (.lst [.ref s, kint i1, .int cur1, .int seed1]) ∧ H1 s = some (.lst (ns.map V.int)) ∧ 0 ≤ cur1 ∧ 0 ≤ seed1 ∧ seed1 < 2147483647 ∧ FrD d H H1 := ⟨i + 1, ax, seed, hd0, hs0, hax, hsd1, hsd2, fr0⟩
          refine ⟨_, rfl, d, _, 2, _, rfl, rfl, SqL.of hd1, rfl, _, _, rfl, rfl, _, rfl, ?_⟩
          refine ite2 (fun f1 => ?_) (fun f1 => ?_)
          · refine ⟨_, rfl, d, _, 2, _, rfl, rfl, SqL.of hd1, rfl, .inl ⟨cur1, rfl, _, rfl, cur1, (n : Int), rfl, rfl, (by show (n : Int) ≠ 0; omega), ?_⟩⟩
            obtain ⟨r, er, hrn⟩ := fmod_nat (a := cur1) h0
            refine ⟨_, rfl, d, _, 2, _, rfl, rfl, SqL.of hd1, rfl, .inl ⟨cur1, rfl, _, rfl, cur1, (n : Int), rfl, rfl, (by show (n : Int) ≠ 0 ∧ (n : Int).natAbs < 1073741824; omega), ?_⟩⟩
            refine ⟨_, rfl, d, _, 2, 2, rfl, rfl, hd1, rfl, ?_⟩
            refine ⟨_, rfl, ?_⟩
            show Q (V.int (cur1.fmod (n : Int))) _
            rw [er]
            refine q _ r (DD.of hdr (fun b o nb e => ?_) ⟨ns, i1, cur1.fdiv (n : Int), seed1, upd_same, ?_, nsd, fdiv_nonneg hc1 (by omega), hs1, hs2⟩) hrn
            · rw [upd_ne nb]
              exact fr1 _ _ nb e
            · rw [upd_ne nsd]
              exact hss1
          · refine ⟨_, rfl, d, _, 3, _, rfl, rfl, SqL.of hd1, rfl, seed1, 48271, rfl, rfl, .inl ⟨by omega, by omega⟩, _, _, rfl, rfl, .inl ⟨_, rfl, _, 2147483647, rfl, rfl, (by show (2147483647 : Int) ≠ 0; decide), ?_⟩⟩
            obtain ⟨k1, k2⟩ := fmod_pos (a := seed1 * 48271 + 11) (n := 2147483647) (by decide)
            refine ⟨_, rfl, d, _, 3, 3, rfl, rfl, hd1, rfl, ?_⟩
            refine ⟨_, rfl, d, _, 3, _, rfl, rfl, SqL.of upd_same, rfl, _, 3, rfl, rfl, (by show (3 : Int) ≠ 0 ∧ (3 : Int).natAbs < 1073741824; decide), .inl ⟨_, rfl, _, rfl, _, (n : Int), rfl, rfl, (by show (n : Int) ≠ 0; omega), ?_⟩⟩
            obtain ⟨r, er, hrn⟩ := fmod_nat (a := ((seed1 * 48271 + 11).fmod 2147483647).fdiv 3) h0
            show Q (V.int ((((seed1 * 48271 + 11).fmod 2147483647).fdiv 3).fmod (n : Int))) _
            rw [er]
            refine q _ r (DD.of hdr (fun b o nb e => ?_) ⟨ns, i1, cur1, _, upd_same, ?_, nsd, hc1, k1, k2⟩) hrn
            · rw [upd_ne nb]
              exact fr1 _ _ nb e
            · rw [upd_ne nsd]
              exact hss1
      · obtain ⟨i1, cur1, seed1, hd1, hss1, hc1, hs1, hs2, fr1⟩ : ∃ (i1 : Nat) (cur1 seed1 : Int), H d = some (.lst [.ref s, kint i1, .int cur1, .int seed1]) ∧ H s = some (.lst (ns.map V.int)) ∧ 0 ≤ cur1 ∧ 0 ≤ seed1 ∧ seed1 < 2147483647 ∧ FrD d H H := ⟨i, cur, seed, hd, hss, hc, hsd1, hsd2, fun _ _ _ e => e⟩
        refine ⟨_, rfl, d, _, 2, _, rfl, rfl, SqL.of hd1, rfl, _, _, rfl, rfl, _, rfl, ?_⟩
        refine ite2 (fun f1 => ?_) (fun f1 => ?_)
        · refine ⟨_, rfl, d, _, 2, _, rfl, rfl, SqL.of hd1, rfl, .inl ⟨cur1, rfl, _, rfl, cur1, (n : Int), rfl, rfl, (by show (n : Int) ≠ 0; omega), ?_⟩⟩
          obtain ⟨r, er, hrn⟩ := fmod_nat (a := cur1) h0
          refine ⟨_, rfl, d, _, 2, _, rfl, rfl, SqL.of hd1, rfl, .inl ⟨cur1, rfl, _, rfl, cur1, (n : Int), rfl, rfl, (by show (n : Int) ≠ 0 ∧ (n : Int).natAbs < 1073741824; omega), ?_⟩⟩
          refine ⟨_, rfl, d, _, 2, 2, rfl, rfl, hd1, rfl, ?_⟩
          refine ⟨_, rfl, ?_⟩
          show Q (V.int (cur1.fmod (n : Int))) _
          rw [er]
          refine q _ r (DD.of hdr (fun b o nb e => ?_) ⟨ns, i1, cur1.fdiv (n : Int), seed1, upd_same, ?_, nsd, fdiv_nonneg hc1 (by omega), hs1, hs2⟩) hrn
          · rw [upd_ne nb]
            exact fr1 _ _ nb e
          · rw [upd_ne nsd]
            exact hss1
        · refine ⟨_, rfl, d, _, 3, _, rfl, rfl, SqL.of hd1, rfl, seed1, 48271, rfl, rfl, .inl ⟨by omega, by omega⟩, _, _, rfl, rfl, .inl ⟨_, rfl, _, 2147483647, rfl, rfl, (by show (2147483647 : Int) ≠ 0; decide), ?_⟩⟩
          obtain ⟨k1, k2⟩ := fmod_pos (a := seed1 * 48271 + 11) (n := 2147483647) (by decide)
          refine ⟨_, rfl, d, _, 3, 3, rfl, rfl, hd1, rfl, ?_⟩
          refine ⟨_, rfl, d, _, 3, _, rfl, rfl, SqL.of upd_same, rfl, _, 3, rfl, rfl, (by show (3 : Int) ≠ 0 ∧ (3 : Int).natAbs < 1073741824; decide), .inl ⟨_, rfl, _, rfl, _, (n : Int), rfl, rfl, (by show (n : Int) ≠ 0; omega), ?_⟩⟩
          obtain ⟨r, er, hrn⟩ := fmod_nat (a := ((seed1 * 48271 + 11).fmod 2147483647).fdiv 3) h0
          show Q (V.int ((((seed1 * 48271 + 11).fmod 2147483647).fdiv 3).fmod (n : Int))) _
          rw [er]
          refine q _ r (DD.of hdr (fun b o nb e => ?_) ⟨ns, i1, cur1, _, upd_same, ?_, nsd, hc1, k1, k2⟩) hrn
          · rw [upd_ne nb]
            exact fr1 _ _ nb e
          · rw [upd_ne nsd]
            exact hss1
    · obtain ⟨i1, cur1, seed1, hd1, hss1, hc1, hs1, hs2, fr1⟩ : ∃ (i1 : Nat) (cur1 seed1 : Int), H d = some (.lst [.ref s, kint i1, .int cur1, .int seed1]) ∧ H s = some (.lst (ns.map V.int)) ∧ 0 ≤ cur1 ∧ 0 ≤ seed1 ∧ seed1 < 2147483647 ∧ FrD d H H := ⟨i, cur, seed, hd, hss, hc, hsd1, hsd2, fun _ _ _ e => e⟩
      refine ⟨_, rfl, d, _, 2, _, rfl, rfl, SqL.of hd1, rfl, _, _, rfl, rfl, _, rfl, ?_⟩
      refine ite2 (fun f1 => ?_) (fun f1 => ?_)
      · refine ⟨_, rfl, d, _, 2, _, rfl, rfl, SqL.of hd1, rfl, .inl ⟨cur1, rfl, _, rfl, cur1, (n : Int), rfl, rfl, (by show (n : Int) ≠ 0; omega), ?_⟩⟩
        obtain ⟨r, er, hrn⟩ := fmod_nat (a := cur1) h0
        refine ⟨_, rfl, d, _, 2, _, rfl, rfl, SqL.of hd1, rfl, .inl ⟨cur1, rfl, _, rfl, cur1, (n : Int), rfl, rfl, (by show (n : Int) ≠ 0 ∧ (n : Int).natAbs < 1073741824; omega), ?_⟩⟩
        refine ⟨_, rfl, d, _, 2, 2, rfl, rfl, hd1, rfl, ?_⟩
        refine ⟨_, rfl, ?_⟩
        show Q (V.int (cur1.fmod (n : Int))) _
        rw [er]
        refine q _ r (DD.of hdr (fun b o nb e => ?_) ⟨ns, i1, cur1.fdiv (n : Int), seed1, upd_same, ?_, nsd, fdiv_nonneg hc1 (by omega), hs1, hs2⟩) hrn
        · rw [upd_ne nb]
          exact fr1 _ _ nb e
        · rw [upd_ne nsd]
          exact hss1
      · refine ⟨_, rfl, d, _, 3, _, rfl, rfl, SqL.of hd1, rfl, seed1, 48271, rfl, rfl, .inl ⟨by omega, by omega⟩, _, _, rfl, rfl, .inl ⟨_, rfl, _, 2147483647, rfl, rfl, (by show (2147483647 : Int) ≠ 0; decide), ?_⟩⟩
        obtain ⟨k1, k2⟩ := fmod_pos (a := seed1 * 48271 + 11) (n := 2147483647) (by decide)
        refine ⟨_, rfl, d, _, 3, 3, rfl, rfl, hd1, rfl, ?_⟩
        refine ⟨_, rfl, d, _, 3, _, rfl, rfl, SqL.of upd_same, rfl, _, 3, rfl, rfl, (by show (3 : Int) ≠ 0 ∧ (3 : Int).natAbs < 1073741824; decide), .inl ⟨_, rfl, _, rfl, _, (n : Int), rfl, rfl, (by show (n : Int) ≠ 0; omega), ?_⟩⟩
        obtain ⟨r, er, hrn⟩ := fmod_nat (a := ((seed1 * 48271 + 11).fmod 2147483647).fdiv 3) h0
        show Q (V.int ((((seed1 * 48271 + 11).fmod 2147483647).fdiv 3).fmod (n : Int))) _
        rw [er]
        refine q _ r (DD.of hdr (fun b o nb e => ?_) ⟨ns, i1, cur1, _, upd_same, ?_, nsd, hc1, k1, k2⟩) hrn
        · rw [upd_ne nb]
          exact fr1 _ _ nb e
        · rw [upd_ne nsd]
          exact hss1

theorem ok_l_letters {f : Addr} {fd : FuncData} (F : Fun K "_law_letters" "_law_letters" s_l_letters f fd) (Tx : Txt mg) :
    FnOk P w K mg base CX0 1 f fd [] sp_l_letters := by
  refine F.ok sc_l_letters (fun xs H Q E h => ?_) (fun cdv A outer sh H xs Q E hr h => ?_)
  · obtain ⟨rfl, q⟩ := h
    rfl
  · obtain ⟨rfl, q⟩ := h
    have hu := hu16 hr
    refine ⟨_, (pss_one (ps_ret pe_str)), ?_⟩
    have e : ∀ z : Str, V.str z = vs z.cps.toList := fun _ => rfl
    show Q (V.str _) H
    rw [e]
    exact q _ (by decide +kernel) (by decide +kernel)

theorem ok_l_signs {f : Addr} {fd : FuncData} (F : Fun K "_law_signs" "_law_signs" s_l_signs f fd) (Tx : Txt mg) {f_l_take : Addr} {fd_l_take : FuncData} (h_l_take : Gd P w K mg base 1 "_law_take" ["_law_d", "_law_many"] sp_l_take f_l_take fd_l_take) {f_l_letters : Addr} {fd_l_letters : FuncData} (h_l_letters : Gd P w K mg base 1 "_law_letters" [] sp_l_letters f_l_letters fd_l_letters) :
    FnOk P w K mg base CX0 2 f fd ["_law_d"] sp_l_signs := by
  refine F.ok sc_l_signs (fun xs H Q E h => ?_) (fun cdv A outer sh H xs Q E hr h => ?_)
  · obtain ⟨d, rfl, hd, q⟩ := h
    rfl
  · obtain ⟨d, rfl, hd, q⟩ := h
    have hu := hu16 hr
    refine ⟨_, (pss_cons (ps_set (i := 1) sc_l_signs.nd rfl (Or.inl rfl) (pe_tup (pa_cons pe_str (pa_cons pe_str (pa_cons pe_str (pa_cons pe_str (pa_cons pe_str (pa_cons pe_str pa_nil))))))))
      (pss_cons (ps_set (i := 2) sc_l_signs.nd rfl (Or.inl rfl) (pe_ix ix_tup (pv 1) (pcall h_l_take hr (by decide) (by rfl) (pa_cons (pv 0) (pa_cons pe_int pa_nil))) (fun _ _ => rfl)))
      (pss_cons (ps_if (pt_cmpR op_eq (pcall h_l_take hr (by decide) (by rfl) (pa_cons (pv 0) (pa_cons pe_int pa_nil))) pe_int (nomark _)) (pss_cons (ps_set (i := 3) sc_l_signs.nd rfl (Or.inl rfl) (pcall h_l_take hr (by decide) (by rfl) (pa_cons (pv 0) (pa_cons pe_int pa_nil))))
        (pss_one (ps_set (i := 2) sc_l_signs.nd rfl (Or.inl rfl) (pe_slice sl_T (pcall0 h_l_letters hr (by decide) (by rfl)) (po_some (pv 3)) (po_some (pe_op op_add (pe_op op_add (pv 3) pe_int) (pcall h_l_take hr (by decide) (by rfl) (pa_cons (pv 0) (pa_cons pe_int pa_nil))))))))) pss_nil)
      (pss_one (ps_ret (pv 2)))))), ?_⟩
    refine ⟨by show 6 ≤ sizeLine; decide, fun m hm => ?_⟩
    have smm := same_upd (o := HO.tup [.str (Str.ofString "ab"), .str (Str.ofString "abc"), .str (Str.ofString "ba"), .str (Str.ofString "zy0"), .str (Str.ofString "+A"), .str (Str.ofString "abcd")]) hm
    refine ⟨_, rfl, _, rfl, d, 6, rfl, hd.same smm, by decide, by decide, fun H1 r dd1 hr6 => ?_⟩
    have hm1 : H1 m = some (.tup [.str (Str.ofString "ab"), .str (Str.ofString "abc"), .str (Str.ofString "ba"), .str (Str.ofString "zy0"), .str (Str.ofString "+A"), .str (Str.ofString "abcd")]) := dd1.tup (hd.same smm) upd_same
    obtain ⟨l, hl, hl0, hl1⟩ : ∃ l : T, [V.str (Str.ofString "ab"), .str (Str.ofString "abc"), .str (Str.ofString "ba"), .str (Str.ofString "zy0"), .str (Str.ofString "+A"), .str (Str.ofString "abcd")][r]? = some (vs l) ∧ l ≠ [] ∧ l.length ≤ 100 := by
      match r, hr6 with
      | 0, _ => exact ⟨lst "ab", rfl, by decide +kernel, by decide +kernel⟩
      | 1, _ => exact ⟨lst "abc", rfl, by decide +kernel, by decide +kernel⟩
      | 2, _ => exact ⟨lst "ba", rfl, by decide +kernel, by decide +kernel⟩
      | 3, _ => exact ⟨lst "zy0", rfl, by decide +kernel, by decide +kernel⟩
      | 4, _ => exact ⟨lst "+A", rfl, by decide +kernel, by decide +kernel⟩
      | 5, _ => exact ⟨lst "abcd", rfl, by decide +kernel, by decide +kernel⟩
    have d1 : DD d H H1 := (DD.same hd smm).trans dd1
    refine ⟨m, _, (r : Int), _, rfl, rfl, SqT.of hm1, at_nat rfl hl, ?_⟩
    refine ⟨_, rfl, d, 4, rfl, dd1.dr, by decide, by decide, fun H2 r2 dd2 _ => ?_⟩
    have d2 := d1.trans dd2
    refine ⟨rfl, _, rfl, ?_⟩
    refine ite2 (fun _ => ?_) (fun _ => ?_)
    · refine ⟨_, rfl, d, 80, rfl, dd2.dr, by decide, by decide, fun H3 at' dd3 hat => ?_⟩
      refine ⟨rfl, fun l3 h3 h3' => ?_⟩
      refine ⟨_, rfl, (at' : Int), rfl, _, rfl, _, _, rfl, rfl, _, rfl, d, 5, rfl, dd3.dr, by decide, by decide, fun H4 r4 dd4 hr4 => ⟨_, _, rfl, rfl, _, rfl, l3, rfl, sz (by omega), ?_⟩⟩
      have e : (at' : Int) + 1 + (r4 : Int) = ((at' + 1 + r4 : Nat) : Int) := by omega
      rw [e, cut_mid]
      refine ⟨_, rfl, q _ _ ((d2.trans dd3).trans dd4) (fun z => ?_) ?_⟩
      · have := congrArg List.length z
        rw [List.length_take, List.length_drop, List.length_nil] at this
        omega
      · rw [List.length_take, List.length_drop]
        omega
    · exact ⟨_, rfl, q _ _ d2 hl0 hl1⟩

theorem ok_l_text {f : Addr} {fd : FuncData} (F : Fun K "_law_text" "_law_text" s_l_text f fd) (Tx : Txt mg) {f_l_take : Addr} {fd_l_take : FuncData} (h_l_take : Gd P w K mg base 1 "_law_take" ["_law_d", "_law_many"] sp_l_take f_l_take fd_l_take) :
    FnOk P w K mg base CX0 2 f fd ["_law_d", "_law_signs_here", "_law_size"] sp_l_text := by
  refine F.ok sc_l_text (fun xs H Q E h => ?_) (fun cdv A outer sh H xs Q E hr h => ?_)
  · obtain ⟨d, l, n, rfl, hd, hl0, hl1, hn, q⟩ := h
    rfl
  · obtain ⟨d, l, n, rfl, hd, hl0, hl1, hn, q⟩ := h
    have hu := hu16 hr
    refine ⟨_, (pss_one (ps_ret (pe_m1 PySem.F.slot_str_join PySem.F.type_str_join mt_joinT pe_str (pe_lc (own := [("_law_k", 3)]) (g := gName 3) (tt := tYes) rfl sc_l_text.nd (pi_range1 (by rfl) Tx.m_range (pa_cons (pv 2) pa_nil)) (blkOk_by (N := ["_law_d", "_law_signs_here", "_law_size", "_law_k"]) (sc := defScope s_l_text) (by decide +kernel)) (fun _ _ _ _ _ => pg_name (i := 3) sc_l_text.nd rfl (Or.inl rfl)) (fun _ _ _ _ _ => pts_nil) (fun _ _ _ _ _ => (pe_ix ix_T (pv 1) (pcall h_l_take hr (by decide) (by rfl) (pa_cons (pv 0) (pa_cons (pe_callB call_lenT (by rfl) Tx.m_len b_len (pa_cons (pv 1) pa_nil)) pa_nil))) (fun _ _ => rfl))))))), ?_⟩
    have hlp : 0 < l.length := List.length_pos_iff.mpr hl0
    refine ⟨⟨_, rfl⟩, _, rfl, _, rfl, by omega, by omega, fun D hD => ?_⟩
    rw [Int.toNat_natCast]
    have nDd := hd.ne hD
    refine lc_range (lo := 0) (n := n) (fun i H1 => ∃ t : T, t.length = i ∧ H1 D = some (.lst ((one t).map vs)) ∧ DD d H H1) ⟨[], rfl, upd_same, (DD.refl hd).put hd hD⟩ ?_ ?_
    · rintro i H1 hi ⟨t, ht, hD1, d1⟩
      refine ⟨rfl, ?_⟩
      unfold tYes
      refine iteT ?_
      refine ⟨_, rfl, _, rfl, _, rfl, l, rfl, sz (by omega), d, l.length, rfl, d1.dr, hlp, by omega, fun H2 r dd2 hr => ?_⟩
      have hc : l[r]? = some l[r] := List.getElem?_eq_getElem hr
      generalize l[r] = c at hc
      have hD2 := dd2.fr _ _ nDd hD1
      refine ⟨l, (r : Int), c, rfl, rfl, sz (by omega), at_natT rfl hc, _, hD2, szl (by unfold one; rw [List.length_map, List.length_map]; omega), t ++ [c], by rw [List.length_append, ht]; rfl, ?_, (d1.trans dd2).put hd hD⟩
      rw [upd_same, one_snoc]
    · rintro H1 ⟨t, ht, hD1, d1⟩
      refine ⟨D, one t, s_nil, rfl, SqL.of hD1, by rw [one_sum]; omega, ?_⟩
      rw [one_flat]
      exact q _ _ d1 ht

theorem ok_l_rich {f : Addr} {fd : FuncData} (F : Fun K "_law_rich" "_law_rich" s_l_rich f fd) (Tx : Txt mg) {f_l_text : Addr} {fd_l_text : FuncData} (h_l_text : Gd P w K mg base 2 "_law_text" ["_law_d", "_law_signs_here", "_law_size"] sp_l_text f_l_text fd_l_text) {f_l_take : Addr} {fd_l_take : FuncData} (h_l_take : Gd P w K mg base 1 "_law_take" ["_law_d", "_law_many"] sp_l_take f_l_take fd_l_take) :
    FnOk P w K mg base CX0 3 f fd ["_law_d", "_law_signs_here", "_law_size"] sp_l_rich := by
  refine F.ok sc_l_rich (fun xs H Q E h => ?_) (fun cdv A outer sh H xs Q E hr h => ?_)
  · obtain ⟨d, l, n, rfl, hd, hl0, hl1, hn0, hn, q⟩ := h
    rfl
  · obtain ⟨d, l, n, rfl, hd, hl0, hl1, hn0, hn, q⟩ := h
    have hu := hu16 hr
    refine ⟨_, (pss_cons (ps_set (i := 3) sc_l_rich.nd rfl (Or.inl rfl) (pcall h_l_text hr (by decide) (by rfl) (pa_cons (pv 0) (pa_cons (pv 1) (pa_cons (pe_op op_add pe_int (pcall h_l_take hr (by decide) (by rfl) (pa_cons (pv 0) (pa_cons pe_int pa_nil)))) pa_nil)))))
      (pss_cons (ps_while PassesOwn.never (pt_cmpR op_lt (pe_callB call_lenT (by rfl) Tx.m_len b_len (pa_cons (pv 3) pa_nil)) (pv 2) (nomark _)) (pss_cons (ps_set (i := 4) sc_l_rich.nd rfl (Or.inl rfl) (pcall h_l_take hr (by decide) (by rfl) (pa_cons (pv 0) (pa_cons pe_int pa_nil))))
        (pss_one (ps_if (pt_cmpR op_eq (pv 4) pe_int (nomark _)) (pss_one (ps_set (i := 3) sc_l_rich.nd rfl (Or.inl rfl) (pe_op op_addT (pv 3) (pv 3)))) (pss_one (ps_if (pt_cmpR op_eq (pv 4) pe_int (nomark _)) (pss_cons (ps_set (i := 5) sc_l_rich.nd rfl (Or.inl rfl) (pcall h_l_take hr (by decide) (by rfl) (pa_cons (pv 0) (pa_cons (pe_callB call_lenT (by rfl) Tx.m_len b_len (pa_cons (pv 3) pa_nil)) pa_nil))))
            (pss_one (ps_set (i := 3) sc_l_rich.nd rfl (Or.inl rfl) (pe_op op_addT (pv 3) (pe_slice sl_T (pv 3) (po_some (pv 5)) (po_some (pe_op op_add (pv 5) pe_int))))))) (pss_one (ps_set (i := 3) sc_l_rich.nd rfl (Or.inl rfl) (pe_op op_addT (pv 3) (pe_ix ix_T (pv 1) (pcall h_l_take hr (by decide) (by rfl) (pa_cons (pv 0) (pa_cons (pe_callB call_lenT (by rfl) Tx.m_len b_len (pa_cons (pv 1) pa_nil)) pa_nil))) (fun _ _ => rfl)))))))))))
      (pss_one (ps_ret (pe_slice sl_T (pv 3) po_none (po_some (pv 2))))))), ?_⟩
    have hlp : 0 < l.length := List.length_pos_iff.mpr hl0
    refine ⟨_, rfl, _, rfl, _, rfl, d, 4, rfl, hd, by decide, by decide, fun H1 r dd1 hr4 => ?_⟩
    refine ⟨_, _, rfl, rfl, d, l, 1 + r, ?_, dd1.dr, hl0, hl1, by omega, fun H2 t dd2 ht => ?_⟩
    · have e : V.int (1 + (r : Int)) = kint (1 + r) := ki (by omega)
      show [V.ref d, vs l, V.int (1 + (r : Int))] = _
      rw [e]
    refine while_by (fun σ H3 => ∃ (t : T) (v4 v5 : Option V), σ = [some (.ref d), some (vs l), some (kint n), some (vs t), v4, v5] ∧ DD d H H3 ∧ 0 < t.length ∧ t.length ≤ 18) (fun σ _ => n - tOf σ)
      ⟨t, none, none, rfl, dd1.trans dd2, by omega, by omega⟩ ?_ ?_
    · rintro σ H3 ⟨t, v4, v5, rfl, dd, h0, h18⟩
      have em : ∀ (v4 v5 : Option V), tOf [some (.ref d), some (vs l), some (kint n), some (vs t), v4, v5] = t.length := fun _ _ => S_len t
      have em2 : ∀ (t : T) (v4 v5 : Option V), tOf [some (.ref d), some (vs l), some (kint n), some (vs t), v4, v5] = t.length := fun t _ _ => S_len t
      refine ⟨_, rfl, t, rfl, sz (by omega), _, rfl, _, _, rfl, rfl, _, rfl, ?_⟩
      refine ite2 (fun e => ?_) (fun e => ?_)
      · have hlt : t.length < n := by
          have := of_decide_eq_true e
          omega
        refine ⟨_, rfl, d, 3, rfl, dd.dr, by decide, by decide, fun H4 m dd4 hm => ?_⟩
        have d4 := dd.trans dd4
        refine ⟨_, rfl, rfl, _, rfl, ?_⟩
        refine ite2 (fun _ => ?_) (fun _ => ?_)
        · refine ⟨_, rfl, _, rfl, t, t, rfl, rfl, sz (by omega), ⟨t ++ t, _, _, rfl, d4, by rw [List.length_append]; omega, by rw [List.length_append]; omega⟩, ?_⟩
          show n - tOf [some (.ref d), some (vs l), some (kint n), some (vs (t ++ t)), _, _] < n - tOf [some (.ref d), some (vs l), some (kint n), some (vs t), _, _]
          rw [em2, em2, List.length_append]
          omega
        · refine ⟨_, rfl, rfl, _, rfl, ?_⟩
          refine ite2 (fun _ => ?_) (fun _ => ?_)
          · refine ⟨_, rfl, _, rfl, t, rfl, sz (by omega), d, t.length, rfl, d4.dr, h0, by omega, fun H5 at' dd5 hat => ?_⟩
            have ee : (at' : Int) + 3 = ((at' + 3 : Nat) : Int) := by omega
            refine ⟨_, rfl, _, rfl, _, rfl, (at' : Int), rfl, _, rfl, _, _, rfl, rfl, _, rfl, t, rfl, sz (by omega), ?_⟩
            rw [ee, cut_mid]
            have hl5 : ((t.drop at').take (at' + 3 - at')).length = min 3 (t.length - at') := by
              rw [List.length_take, List.length_drop]
              congr 1
              omega
            generalize (t.drop at').take (at' + 3 - at') = u at hl5
            refine ⟨t, u, rfl, rfl, sz (by omega), ⟨t ++ u, _, _, rfl, d4.trans dd5, by rw [List.length_append]; omega, by rw [List.length_append]; omega⟩, ?_⟩
            show n - tOf [some (.ref d), some (vs l), some (kint n), some (vs (t ++ u)), _, _] < n - tOf [some (.ref d), some (vs l), some (kint n), some (vs t), _, _]
            rw [em2, em2, List.length_append]
            omega
          · refine ⟨_, rfl, _, rfl, _, rfl, _, rfl, l, rfl, sz (by omega), d, l.length, rfl, d4.dr, hlp, by omega, fun H5 r5 dd5 hr5 => ?_⟩
            have hc : l[r5]? = some l[r5] := List.getElem?_eq_getElem hr5
            generalize l[r5] = c at hc
            refine ⟨l, (r5 : Int), c, rfl, rfl, sz (by omega), at_natT rfl hc, t, [c], rfl, rfl, sz (by rw [List.length_singleton]; omega), ⟨t ++ [c], _, _, rfl, d4.trans dd5, by rw [List.length_append]; omega, by rw [List.length_append, List.length_singleton]; omega⟩, ?_⟩
            show n - tOf [some (.ref d), some (vs l), some (kint n), some (vs (t ++ [c])), _, _] < n - tOf [some (.ref d), some (vs l), some (kint n), some (vs t), _, _]
            rw [em2, em2, List.length_append, List.length_singleton]
            omega
      · have hge : n ≤ t.length := by
          have : ¬ (t.length : Int) < (n : Int) := fun z => e (decide_eq_true z)
          omega
        refine ⟨_, rfl, _, rfl, (n : Int), rfl, t, rfl, sz (by omega), ?_⟩
        rw [cut_to]
        exact q _ _ dd (by rw [List.length_take]; omega)
    · rintro σ H Q Q' hq ⟨v, e1, l', e2, hl', v', e3, i, j, e4, e5, k, e6, r⟩
      exact ⟨v, e1, l', e2, hl', v', e3, i, j, e4, e5, k, e6, hq _ _ r⟩

theorem ok_l_round {f : Addr} {fd : FuncData} (F : Fun K "_law_round" "_law_round" s_l_round f fd) (Tx : Txt mg) :
    FnOk P w K mg base CX0 1 f fd ["_law_circle", "_law_start", "_law_count"] sp_l_round := by
  refine F.ok sc_l_round (fun xs H Q E h => ?_) (fun cdv A outer sh H xs Q E hr h => ?_)
  · obtain ⟨ci, s, n, rfl, hc0, hc1, hn, q⟩ := h
    rfl
  · obtain ⟨ci, s, n, rfl, hc0, hc1, hn, q⟩ := h
    have hu := hu16 hr
    refine ⟨_, (pss_one (ps_ret (pe_m1 PySem.F.slot_str_join PySem.F.type_str_join mt_joinT pe_str (pe_lc (own := [("_law_k", 3)]) (g := gName 3) (tt := tYes) rfl sc_l_round.nd (pi_range1 (by rfl) Tx.m_range (pa_cons (pv 2) pa_nil)) (blkOk_by (N := ["_law_circle", "_law_start", "_law_count", "_law_k"]) (sc := defScope s_l_round) (by decide +kernel)) (fun _ _ _ _ _ => pg_name (i := 3) sc_l_round.nd rfl (Or.inl rfl)) (fun _ _ _ _ _ => pts_nil) (fun _ _ _ _ _ => (pe_ix ix_T (pv 0) (pe_op op_modN (pe_callTy call_int1 (by rfl) Tx.m_int b_int (pa_cons (pe_op op_add (pv 1) (pv 3)) pa_nil)) (pe_callB call_lenT (by rfl) Tx.m_len b_len (pa_cons (pv 0) pa_nil))) (fun _ _ => rfl))))))), ?_⟩
    have hcp : 0 < ci.length := List.length_pos_iff.mpr hc0
    refine ⟨⟨_, rfl⟩, _, rfl, _, rfl, by omega, by omega, fun D hD => ?_⟩
    rw [Int.toNat_natCast]
    refine lc_range (lo := 0) (n := n) (fun i H1 => ∃ t : T, t.length = i ∧ H1 = upd H D (.lst ((one t).map vs))) ⟨[], rfl, rfl⟩ ?_ ?_
    · rintro i H1 hi ⟨t, ht, rfl⟩
      refine ⟨rfl, ?_⟩
      unfold tYes
      refine iteT ?_
      obtain ⟨r, er, hr⟩ := fmod_nat (a := (s : Int) + (0 + (i : Int))) hcp
      refine ⟨_, rfl, _, rfl, _, rfl, _, _, rfl, rfl, .inl ⟨_, rfl, _, rfl, ci, rfl, sz (by omega), _, (ci.length : Int), rfl, rfl, (by show (ci.length : Int) ≠ 0; omega), ?_⟩⟩
      have hc : ci[r]? = some ci[r] := List.getElem?_eq_getElem hr
      generalize ci[r] = c at hc
      refine ⟨ci, _, c, rfl, rfl, sz (by omega), at_natT er hc, _, upd_same, szl (by unfold one; rw [List.length_map, List.length_map]; omega), t ++ [c], by rw [List.length_append, ht]; rfl, ?_⟩
      rw [upd_upd, one_snoc]
    · rintro H1 ⟨t, ht, rfl⟩
      refine ⟨D, one t, s_nil, rfl, SqL.of upd_same, by rw [one_sum]; omega, ?_⟩
      rw [one_flat]
      exact q _ _ (same_upd hD) ht

theorem ok_l_windows {f : Addr} {fd : FuncData} (F : Fun K "_law_windows" "_law_windows" s_l_windows f fd) (Tx : Txt mg) :
    FnOk P w K mg base CX0 1 f fd ["_law_pieces", "_law_grain"] sp_l_windows := by
  refine F.ok sc_l_windows (fun xs H Q E h => ?_) (fun cdv A outer sh H xs Q E hr h => ?_)
  · obtain ⟨a, ps, g, rfl, ha, pc, q⟩ := h
    rfl
  · obtain ⟨a, ps, g, rfl, ha, pc, q⟩ := h
    have hu := hu16 hr
    refine ⟨_, (pss_cons (ps_set (i := 2) sc_l_windows.nd rfl (Or.inl rfl) (pe_lst pa_nil))
      (pss_cons (ps_for PassesOwn.never rfl (pi_tup (pv 0)) (pg_name (i := 3) sc_l_windows.nd rfl (Or.inl rfl)) (pss_one (ps_for PassesOwn.never rfl (pi_range1 (by rfl) Tx.m_range (pa_cons (pe_op op_add (pe_op op_sub (pe_callB call_lenT (by rfl) Tx.m_len b_len (pa_cons (pv 3) pa_nil)) (pv 1)) pe_int) pa_nil)) (pg_name (i := 4) sc_l_windows.nd rfl (Or.inl rfl)) (pss_one (ps_if (pt_cmpR op_notInT (pe_slice sl_T (pv 3) (po_some (pv 4)) (po_some (pe_op op_add (pv 4) (pv 1)))) (pv 2) (by rfl)) (pss_one (ps_expr (pe_bm PySem.F.plainAttrs_list PySem.F.slot_list_append PySem.F.type_list_append mt_append (pv 2) (pa_cons (pe_slice sl_T (pv 3) (po_some (pv 4)) (po_some (pe_op op_add (pv 4) (pv 1)))) pa_nil)))) pss_nil)))))
      (pss_one (ps_ret (pe_callB (cr_sortT hu) (by rfl) Tx.m_sorted b_sorted (pa_cons (pv 2) pa_nil)))))), ?_⟩
    have g0 := pc.g0
    have g1 := pc.g1
    refine ⟨Nat.zero_le _, fun o no => ?_⟩
    have s1 : Same H (upd H o (.lst [])) := same_upd no
    have nao : a ≠ o := ne_of_none ha no
    refine ⟨_, rfl, a, rfl, ⟨_, SqT.of (s1 _ _ ha)⟩, for_tup (K := K) (a := a) (xs := ps.map vs) (fun i σ H1 => ∃ v4 v5 fo, σ = [some (.ref a), some (kint g), some (.ref o), v4, v5] ∧ H1 = upd H o (.lst (fo.map vs)) ∧ Fnd0 ps g i fo)
      ⟨none, none, [], rfl, rfl, Fnd0.start⟩ (fun i σ H1 _ ⟨_, _, fo, _, e, _⟩ => by rw [e]; exact SqT.of ((upd_ne nao).trans ha)) ?_ ?_⟩
    · rintro i x σ H1 hi ⟨v4, v5, fo, rfl, rfl, hf⟩
      obtain ⟨p, hp, rfl⟩ := map_get hi
      obtain ⟨l1, l2⟩ := pc.l p (List.mem_of_getElem? hp)
      refine ⟨_, rfl, p, rfl, sz (by omega), _, rfl, _, _, rfl, rfl, _, _, rfl, rfl, _, rfl, by omega, by omega, ?_⟩
      have en : ((p.length : Int) - (g : Int) + 1).toNat = p.length + 1 - g := by omega
      rw [en]
      refine for_range (lo := 0) (n := p.length + 1 - g) (fun j σ H1 => ∃ v5 fo, σ = [some (.ref a), some (kint g), some (.ref o), some (vs p), v5] ∧ H1 = upd H o (.lst (fo.map vs)) ∧ Fnd ps g i p j fo)
        ⟨v5, fo, rfl, rfl, Fnd.start hf⟩ ?_ ?_
      · rintro j σ H1 hj ⟨v5, fo, rfl, rfl, hf⟩
        have ej : V.int (0 + (j : Int)) = kint j := ki (by omega)
        rw [ej]
        have fw := hf.few pc hp (by omega)
        have ecut : cutL p (some (j : Int)) (some ((j : Int) + (g : Int))) = (p.drop j).take g := by
          have : (j : Int) + (g : Int) = ((j + g : Nat) : Int) := by omega
          rw [this, cut_mid]
          congr 1
          omega
        refine ⟨_, rfl, _, rfl, (j : Int), rfl, _, rfl, _, rfl, _, _, rfl, rfl, _, rfl, p, rfl, sz (by omega), ?_⟩
        rw [ecut]
        refine ⟨_, rfl, o, _, fo, rfl, rfl, .inl (SqL.of upd_same), _, rfl, ?_⟩
        by_cases hm : (p.drop j).take g ∈ fo
        · rw [decide_eq_true hm]
          exact iteF ⟨_, fo, rfl, rfl, hf.old hm⟩
        · rw [decide_eq_false hm]
          refine iteT ⟨_, rfl, .inl ⟨rfl, _, SqL.of upd_same⟩, _, rfl, _, rfl, (j : Int), rfl, _, rfl, _, rfl, _, _, rfl, rfl, _, rfl, p, rfl, sz (by omega), ?_⟩
          rw [ecut]
          refine ⟨o, _, _, rfl, rfl, upd_same, szl (by rw [List.length_map]; omega), _, fo ++ [(p.drop j).take g], rfl, ?_, hf.new hm⟩
          rw [upd_upd, List.map_append]
          rfl
      · rintro σ H1 ⟨v5, fo, rfl, rfl, hf⟩
        exact ⟨_, _, fo, rfl, rfl, hf.done hp (by omega)⟩
    · rintro σ H1 ⟨v4, v5, fo, rfl, rfl, hf⟩
      rw [List.length_map] at hf
      refine ⟨_, rfl, o, fo, rfl, SqL.of upd_same, fun _ _ => trivial, fun fo' p hperm np => ?_⟩
      have npo : o ≠ p := ne_of_none upd_same np
      have np0 : H p = none := by
        rw [upd_ne npo.symm] at np
        exact np
      refine q _ p fo' (fun b z e => ?_) np0 upd_same (fun x => by rw [hperm.mem_iff]; exact hf.all x) (hperm.nodup_iff.mpr hf.1)
      have nbo : b ≠ o := ne_of_none e no
      rw [upd_ne (ne_of_none e np0), upd_ne nbo]
      exact e

theorem ok_l_explains {f : Addr} {fd : FuncData} (F : Fun K "_law_explains" "_law_explains" s_l_explains f fd) (Tx : Txt mg) {f_l_windows : Addr} {fd_l_windows : FuncData} (h_l_windows : Gd P w K mg base 1 "_law_windows" ["_law_pieces", "_law_grain"] sp_l_windows f_l_windows fd_l_windows) :
    FnOk P w K mg base CX0 2 f fd ["_law_pieces", "_law_grain", "_law_text_here", "_law_shape"] sp_l_explains := by
  refine F.ok sc_l_explains (fun xs H Q E h => ?_) (fun cdv A outer sh H xs Q E hr h => ?_)
  · obtain ⟨a, ps, g, t, rfl, ha, pc, ht, q⟩ := h
    rfl
  · obtain ⟨a, ps, g, t, rfl, ha, pc, ht, q⟩ := h
    have hu := hu16 hr
    refine ⟨_, (pss_cons (ps_set (i := 4) sc_l_explains.nd rfl (Or.inr rfl) (pcall h_l_windows hr (by decide) (by rfl) (pa_cons (pv 0) (pa_cons (pv 1) pa_nil))))
      (pss_cons (ps_if (pt_cmpR op_eqT (pv 3) pe_str (nomark _)) pss_never pss_nil)
      (pss_cons (ps_if (pt_not (pt_val (pe_callB (cr_all rfl) (by rfl) Tx.m_all b_all (pa_cons (pe_lc (own := [("_law_p", 6)]) (g := gName 6) (tt := tYes) rfl sc_l_explains.nd (pi_range1 (by rfl) Tx.m_range (pa_cons (pe_op op_add (pe_op op_sub (pe_callB call_lenT (by rfl) Tx.m_len b_len (pa_cons (pv 2) pa_nil)) (pv 1)) pe_int) pa_nil)) (blkOk_by (N := ["_law_pieces", "_law_grain", "_law_text_here", "_law_shape", "_law_windows_here", "_law_piece", "_law_p"]) (sc := defScope s_l_explains) (by decide +kernel)) (fun _ _ _ _ _ => pg_name (i := 6) sc_l_explains.nd rfl (Or.inl rfl)) (fun _ _ _ _ _ => pts_nil) (fun _ _ _ _ _ => (pe_cmpR (op_inTK (K := K) rfl) (pe_slice sl_T (pv 2) (po_some (pv 6)) (po_some (pe_op op_add (pv 6) (pv 1)))) (pv 4) (by rfl)))) pa_nil)))) (pss_one (ps_ret pe_bl)) pss_nil)
      (pss_one (ps_ret (pe_callB (cr_all rfl) (by rfl) Tx.m_all b_all (pa_cons (pe_lc (own := [("_law_piece", 5)]) (g := gName 5) (tt := tYes) rfl sc_l_explains.nd (pi_tup (pv 0)) (blkOk_by (N := ["_law_pieces", "_law_grain", "_law_text_here", "_law_shape", "_law_windows_here", "_law_piece", "_law_p"]) (sc := defScope s_l_explains) (by decide +kernel)) (fun _ _ _ _ _ => pg_name (i := 5) sc_l_explains.nd rfl (Or.inl rfl)) (fun _ _ _ _ _ => pts_nil) (fun _ _ _ _ _ => (pe_cmpR op_subT (pv 5) (pv 2) (by rfl)))) pa_nil))))))), ?_⟩
    have e1 : decide (lst "line" = lst "circle") = false := by decide +kernel
    have g0 := pc.g0
    have g1 := pc.g1
    have hn6 := pc.n
    refine ⟨_, rfl, _, rfl, a, ps, g, rfl, ha, pc, fun H1 wl ws sm np hwl hm hnd => ?_⟩
    have hwl54 := pc.few hnd fun x hx => (hm x).mp hx
    refine ⟨_, rfl, lst "line", lst "circle", rfl, rfl, _, rfl, ?_⟩
    rw [e1]
    refine iteF ⟨_, rfl, t, rfl, sz (by omega), _, rfl, _, _, rfl, rfl, _, _, rfl, rfl, _, rfl, by omega, by omega, fun D hD => ?_⟩
    have nwD : wl ≠ D := ne_of_none hwl hD
    obtain ⟨n, hnn⟩ : ∃ n : Nat, ((t.length : Int) - (g : Int) + 1).toNat = n := ⟨_, rfl⟩
    rw [hnn]
    refine lc_range (lo := 0) (n := n) (fun i H2 => ∃ bs : List Bool, H2 = upd H1 D (.lst (bs.map V.bl)) ∧ bs.length = i ∧ (bs.all id = true ↔ ∀ p, p < i → Win ps g ((t.drop p).take g))) ⟨[], rfl, rfl, by simp⟩ ?_ ?_
    · rintro i H2 hi ⟨bs, rfl, hbl, hb⟩
      have ei : V.int (0 + (i : Int)) = kint i := ki (by omega)
      rw [ei]
      have ecut : cutL t (some (i : Int)) (some ((i : Int) + (g : Int))) = (t.drop i).take g := by
        have : (i : Int) + (g : Int) = ((i + g : Nat) : Int) := by omega
        rw [this, cut_mid]
        congr 1
        omega
      refine ⟨rfl, ?_⟩
      unfold tYes
      refine iteT ?_
      refine ⟨_, rfl, _, rfl, (i : Int), rfl, _, rfl, _, rfl, _, _, rfl, rfl, _, rfl, t, rfl, sz (by omega), ?_⟩
      rw [ecut]
      refine ⟨_, rfl, wl, _, ws, rfl, rfl, .inl (SqL.of ((upd_ne nwD).trans hwl)), _, upd_same, szl (by rw [List.length_map]; omega), bs ++ [decide ((t.drop i).take g ∈ ws)], ?_, by rw [List.length_append, hbl]; rfl, ?_⟩
      · rw [upd_upd, List.map_append]
        rfl
      · rw [List.all_append, Bool.and_eq_true, hb]
        have : ([decide ((t.drop i).take g ∈ ws)].all id) = decide ((t.drop i).take g ∈ ws) := by simp
        rw [this, decide_eq_true_eq, hm]
        constructor
        · rintro ⟨h1, h2⟩ p hp
          by_cases hpi : p = i
          · subst hpi
            exact h2
          · exact h1 p (by omega)
        · intro h
          exact ⟨fun p hp => h p (by omega), h i (by omega)⟩
    · rintro H2 ⟨bs, rfl, hbl, hb⟩
      have sm2 : Same H (upd H1 D (.lst (bs.map V.bl))) := sm.trans (same_upd hD)
      have hW : bs.all id = true ↔ WinOk ps g t := by
        rw [hb]
        constructor
        · intro h p hp
          exact h p (by omega)
        · intro h p hp
          exact h p (by omega)
      refine ⟨D, bs, rfl, SqL.of upd_same, _, rfl, ?_⟩
      cases hc : bs.all id with
      | false =>
        refine iteT (q _ false sm2 ?_)
        constructor
        · intro z
          cases z
        · intro z
          rw [hW.mpr z.1] at hc
          cases hc
      | true =>
        have hW := hW.mp hc
        generalize upd H1 D (.lst (bs.map V.bl)) = H2 at sm2
        refine iteF ⟨_, rfl, a, rfl, ⟨_, SqT.of (sm2 _ _ ha)⟩, fun D2 hD2 => ?_⟩
        have naD : a ≠ D2 := ne_of_none (sm2 _ _ ha) hD2
        refine lc_tup (K := K) (a := a) (xs := ps.map vs) (fun i H3 => ∃ bs : List Bool, H3 = upd H2 D2 (.lst (bs.map V.bl)) ∧ bs.length = i ∧ (bs.all id = true ↔ ∀ p ∈ ps.take i, p <:+: t)) ⟨[], rfl, rfl, by simp⟩
          (fun i H3 _ ⟨_, e, _⟩ => by rw [e]; exact SqT.of ((upd_ne naD).trans (sm2 _ _ ha))) ?_ ?_
        · rintro i x H3 hi ⟨bs, rfl, hbl, hb⟩
          obtain ⟨p, hp, rfl⟩ := map_get hi
          obtain ⟨hil, _⟩ := List.getElem?_eq_some_iff.mp hp
          refine ⟨rfl, ?_⟩
          unfold tYes
          refine iteT ?_
          refine ⟨_, rfl, _, rfl, p, t, rfl, rfl, fun k hk => ⟨_, upd_same, szl (by rw [List.length_map]; omega), bs ++ [k], ?_, by rw [List.length_append, hbl]; rfl, ?_⟩⟩
          · rw [upd_upd, List.map_append]
            rfl
          · rw [List.all_append, Bool.and_eq_true, hb]
            have : ([k].all id) = k := by simp
            rw [this, hk, List.take_add_one, hp]
            constructor
            · rintro ⟨h1, h2⟩ p' hp'
              rcases List.mem_append.mp hp' with z | z
              · exact h1 p' z
              · have : p' = p := by simpa using z
                rw [this]
                exact h2
            · intro h
              exact ⟨fun p' hp' => h p' (List.mem_append_left _ hp'), h p (List.mem_append_right _ (by simp))⟩
        · rintro H3 ⟨bs, rfl, hbl, hb⟩
          rw [List.length_map, List.take_length] at hb
          refine ⟨D2, bs, rfl, SqL.of upd_same, q _ _ (sm2.trans (same_upd hD2)) ?_⟩
          rw [hb]
          exact ⟨fun h => ⟨hW, h⟩, fun h => h.2⟩

theorem ok_l_cut {f : Addr} {fd : FuncData} (F : Fun K "_law_cut" "_law_cut" s_l_cut f fd) (Tx : Txt mg) {f_l_take : Addr} {fd_l_take : FuncData} (h_l_take : Gd P w K mg base 1 "_law_take" ["_law_d", "_law_many"] sp_l_take f_l_take fd_l_take) {f_l_round : Addr} {fd_l_round : FuncData} (h_l_round : Gd P w K mg base 1 "_law_round" ["_law_circle", "_law_start", "_law_count"] sp_l_round f_l_round fd_l_round) :
    FnOk P w K mg base CX0 2 f fd ["_law_d", "_law_text_here", "_law_grain", "_law_shape", "_law_many"] sp_l_cut := by
  refine F.ok sc_l_cut (fun xs H Q E h => ?_) (fun cdv A outer sh H xs Q E hr h => ?_)
  · obtain ⟨d, t, g, rfl, hd, g0, g1, hgt, ht9, q⟩ := h
    rfl
  · obtain ⟨d, t, g, rfl, hd, g0, g1, hgt, ht9, q⟩ := h
    have hu := hu16 hr
    refine ⟨_, (pss_cons (ps_set (i := 5) sc_l_cut.nd rfl (Or.inl rfl) (pe_lst pa_nil))
      (pss_cons (ps_if (pt_cmpR op_eqT (pv 3) pe_str (nomark _)) pss_never (pss_cons (ps_set (i := 7) sc_l_cut.nd rfl (Or.inl rfl) pe_int)
        (pss_one (ps_while PassesOwn.never (PW.pt (pw_and (pt_cmpR op_le (pe_op op_add (pv 7) (pv 2)) (pe_callB call_lenT (by rfl) Tx.m_len b_len (pa_cons (pv 1) pa_nil)) (nomark _)) (pw_and1 (pt_cmpR op_lt (pe_callB call_len_seq (by rfl) Tx.m_len b_len (pa_cons (pv 5) pa_nil)) pe_int (nomark _))))) (pss_cons (ps_set (i := 8) sc_l_cut.nd rfl (Or.inl rfl) (pe_op op_add (pv 2) (pcall h_l_take hr (by decide) (by rfl) (pa_cons (pv 0) (pa_cons pe_int pa_nil)))))
          (pss_cons (ps_if (pt_cmpR op_eq (pe_callB call_len_seq (by rfl) Tx.m_len b_len (pa_cons (pv 5) pa_nil)) pe_int (nomark _)) (pss_one (ps_set (i := 8) sc_l_cut.nd rfl (Or.inl rfl) (pe_op op_sub (pe_callB call_lenT (by rfl) Tx.m_len b_len (pa_cons (pv 1) pa_nil)) (pv 7)))) pss_nil)
          (pss_cons (ps_expr (pe_bm PySem.F.plainAttrs_list PySem.F.slot_list_append PySem.F.type_list_append mt_append (pv 5) (pa_cons (pe_slice sl_T (pv 1) (po_some (pv 7)) (po_some (pe_op op_add (pv 7) (pv 8)))) pa_nil)))
          (pss_one (ps_set (i := 7) sc_l_cut.nd rfl (Or.inl rfl) (pe_op op_add (pv 7) (pe_callB (call_max2 rfl) (by rfl) Tx.m_max b_max (pa_cons pe_int (pa_cons (pe_op op_add (pe_op op_sub (pe_callB call_lenT (by rfl) Tx.m_len b_len (pa_cons (pe_ix ix_list (pv 5) (pe_un un_neg pe_int) (fun _ _ => rfl)) pa_nil)) (pv 2)) pe_int) pa_nil)))))))))))))
      (pss_cons (ps_if (pt_cmpR op_eq (pe_callB call_len_seq (by rfl) Tx.m_len b_len (pa_cons (pv 5) pa_nil)) pe_int (nomark _)) (pss_one (ps_expr (pe_bm PySem.F.plainAttrs_list PySem.F.slot_list_append PySem.F.type_list_append mt_append (pv 5) (pa_cons (pcall h_l_round hr (by decide) (by rfl) (pa_cons (pv 1) (pa_cons pe_int (pa_cons (pv 2) pa_nil)))) pa_nil)))) pss_nil)
      (pss_cons (ps_set (i := 9) sc_l_cut.nd rfl (Or.inl rfl) (pcall h_l_take hr (by decide) (by rfl) (pa_cons (pv 0) (pa_cons (pe_callB call_len_seq (by rfl) Tx.m_len b_len (pa_cons (pv 5) pa_nil)) pa_nil))))
      (pss_one (ps_ret (pe_callTy call_tuple_of (by rfl) Tx.m_tuple b_tuple (pa_cons (pe_slice sl_list (pe_op op_cat (pe_slice sl_list (pv 5) (po_some (pv 9)) po_none) (pe_slice sl_list (pv 5) po_none (po_some (pv 9)))) po_none (po_some (pv 4))) pa_nil)))))))), ?_⟩
    have e1 : decide (lst "line" = lst "circle") = false := by decide +kernel
    refine ⟨Nat.zero_le _, fun o no => ?_⟩
    have nod := hd.ne no
    refine ⟨_, rfl, lst "line", lst "circle", rfl, rfl, _, rfl, ?_⟩
    rw [e1]
    refine iteF ?_
    refine while_by (fun σ H1 => ∃ (qs : List T) (k : Nat) (v8 v9 : Option V), σ = [some (.ref d), some (vs t), some (kint g), some (vs (lst "line")), some (kint 8), some (.ref o), none, some (kint k), v8, none] ∧ DD d H H1 ∧ H1 o = some (.lst (qs.map vs)) ∧ qs.length ≤ 5 ∧ ∀ q ∈ qs, g ≤ q.length ∧ q.length ≤ 9)
      (fun _ H1 => 6 - lenAt H1 o) ⟨[], 0, none, none, rfl, (DD.refl hd).put hd no, upd_same, by simp, fun q hq => (nomatch hq)⟩ ?_ ?_
    · rintro σ H1 ⟨qs, k, v8, v9, rfl, d1, ho, hq5, hqs⟩
      -- the end of the walk: what stands behind the loop
      refine ⟨_, rfl, _, rfl, _, _, rfl, rfl, _, rfl, t, rfl, sz (by omega), _, _, rfl, rfl, _, rfl, ?_⟩
      refine ite2 (fun e => ?_) (fun e => ?_)
      · have hk : k + g ≤ t.length := by
          have := of_decide_eq_true e
          omega
        refine ⟨_, rfl, o, _, rfl, .inl (SqL.of ho), _, _, rfl, rfl, _, rfl, ?_⟩
        rw [List.length_map]
        refine ite2 (fun e2 => ?_) (fun e2 => ?_)
        · have hq4 : qs.length < 5 := by
            have := of_decide_eq_true e2
            omega
          refine ⟨_, rfl, _, rfl, d, 4, rfl, d1.dr, by decide, by decide, fun H2 r dd2 hr4 => ⟨_, _, rfl, rfl, ?_⟩⟩
          have d2 := d1.trans dd2
          have ho2 := dd2.fr _ _ nod ho
          refine ⟨_, rfl, o, _, rfl, .inl (SqL.of ho2), rfl, _, rfl, ?_⟩
          refine ite2 (fun _ => ?_) (fun _ => ?_)
          · refine ⟨_, rfl, t, rfl, sz (by omega), _, rfl, _, _, rfl, rfl, ?_⟩
            obtain ⟨sz0, hsz, hsz2⟩ : ∃ sz0 : Nat, (t.length : Int) - (k : Int) = (sz0 : Int) ∧ g ≤ sz0 := ⟨t.length - k, by omega, by omega⟩
            show gName 8 (V.int ((t.length : Int) - (k : Int))) _ _ _
            rw [hsz]
            -- the piece
            refine ⟨_, rfl, .inl ⟨rfl, _, SqL.of ho2⟩, _, rfl, _, rfl, (k : Int), rfl, _, rfl, _, rfl, _, _, rfl, rfl, _, rfl, t, rfl, sz (by omega), ?_⟩
            have ecut : cutL t (some (k : Int)) (some ((k : Int) + (sz0 : Int))) = (t.drop k).take sz0 := by
              have : (k : Int) + (sz0 : Int) = ((k + sz0 : Nat) : Int) := by omega
              rw [this, cut_mid]
              congr 1
              omega
            rw [ecut]
            have hpl : ((t.drop k).take sz0).length = min sz0 (t.length - k) := by rw [List.length_take, List.length_drop]
            generalize (t.drop k).take sz0 = pc at hpl
            refine ⟨o, _, _, rfl, rfl, ho2, szl (by rw [List.length_map]; omega), ?_⟩
            have ho3 : (upd H2 o (.lst (qs.map vs ++ [vs pc]))) o = some (.lst (qs.map vs ++ [vs pc])) := upd_same
            refine ⟨_, rfl, _, rfl, 1, rfl, o, _, -1, vs pc, rfl, rfl, SqL.of ho3, atI_last _ _, pc, rfl, sz (by omega), _, rfl, _, _, rfl, rfl, _, _, rfl, rfl, _, _, rfl, _, _, rfl, rfl, ?_⟩
            have ek : V.int ((k : Int) + (if (pc.length : Int) - (g : Int) + 1 > 1 then (pc.length : Int) - (g : Int) + 1 else 1)) = kint (k + max 1 (pc.length - g + 1)) := ki (by
              split <;> omega)
            refine ⟨⟨qs ++ [pc], k + max 1 (pc.length - g + 1), _, none, congrArg (fun z => [some (V.ref d), some (vs t), some (kint g), some (vs (lst "line")), some (kint 8), some (V.ref o), none, some z, some (kint sz0), none]) ek, d2.put hd no, ?_, ?_, fun q' hq' => ?_⟩, ?_⟩
            · rw [upd_same, List.map_append]
              rfl
            · rw [List.length_append, List.length_singleton]
              omega
            · rcases List.mem_append.mp hq' with z | z
              · exact hqs q' z
              · have : q' = pc := by simpa using z
                subst this
                omega
            · show 6 - lenAt _ o < 6 - lenAt _ o
              rw [lenAt_of ho3, lenAt_of ho, List.length_append, List.length_map, List.length_singleton]
              omega
          · obtain ⟨sz0, hsz, hsz2⟩ : ∃ sz0 : Nat, (g : Int) + (r : Int) = (sz0 : Int) ∧ g ≤ sz0 := ⟨g + r, by omega, by omega⟩
            show tNext _ ([some (V.ref d), some (vs t), some (kint g), some (vs (lst "line")), some (kint 8), some (V.ref o), none, some (kint k), some (V.int ((g : Int) + (r : Int))), none] : L2.St) _
            rw [hsz]
            -- the piece
            refine ⟨_, rfl, .inl ⟨rfl, _, SqL.of ho2⟩, _, rfl, _, rfl, (k : Int), rfl, _, rfl, _, rfl, _, _, rfl, rfl, _, rfl, t, rfl, sz (by omega), ?_⟩
            have ecut : cutL t (some (k : Int)) (some ((k : Int) + (sz0 : Int))) = (t.drop k).take sz0 := by
              have : (k : Int) + (sz0 : Int) = ((k + sz0 : Nat) : Int) := by omega
              rw [this, cut_mid]
              congr 1
              omega
            rw [ecut]
            have hpl : ((t.drop k).take sz0).length = min sz0 (t.length - k) := by rw [List.length_take, List.length_drop]
            generalize (t.drop k).take sz0 = pc at hpl
            refine ⟨o, _, _, rfl, rfl, ho2, szl (by rw [List.length_map]; omega), ?_⟩
            have ho3 : (upd H2 o (.lst (qs.map vs ++ [vs pc]))) o = some (.lst (qs.map vs ++ [vs pc])) := upd_same
            refine ⟨_, rfl, _, rfl, 1, rfl, o, _, -1, vs pc, rfl, rfl, SqL.of ho3, atI_last _ _, pc, rfl, sz (by omega), _, rfl, _, _, rfl, rfl, _, _, rfl, rfl, _, _, rfl, _, _, rfl, rfl, ?_⟩
            have ek : V.int ((k : Int) + (if (pc.length : Int) - (g : Int) + 1 > 1 then (pc.length : Int) - (g : Int) + 1 else 1)) = kint (k + max 1 (pc.length - g + 1)) := ki (by
              split <;> omega)
            refine ⟨⟨qs ++ [pc], k + max 1 (pc.length - g + 1), _, none, congrArg (fun z => [some (V.ref d), some (vs t), some (kint g), some (vs (lst "line")), some (kint 8), some (V.ref o), none, some z, some (kint sz0), none]) ek, d2.put hd no, ?_, ?_, fun q' hq' => ?_⟩, ?_⟩
            · rw [upd_same, List.map_append]
              rfl
            · rw [List.length_append, List.length_singleton]
              omega
            · rcases List.mem_append.mp hq' with z | z
              · exact hqs q' z
              · have : q' = pc := by simpa using z
                subst this
                omega
            · show 6 - lenAt _ o < 6 - lenAt _ o
              rw [lenAt_of ho3, lenAt_of ho, List.length_append, List.length_map, List.length_singleton]
              omega
        · -- five pieces
          refine ⟨_, rfl, o, _, rfl, .inl (SqL.of ho), rfl, _, rfl, ?_⟩
          rw [List.length_map]
          refine ite2 (fun ez => ?_) (fun ez => ?_)
          · have hq0 : qs = [] := by
              have := V.int.inj (of_decide_eq_true ez)
              have : (qs.length : Int) = 0 := this
              exact List.length_eq_zero_iff.mp (by omega)
            subst hq0
            refine ⟨_, rfl, .inl ⟨rfl, _, SqL.of ho⟩, _, rfl, _, rfl, t, 0, g, rfl, fun z => ?_, by omega, by omega, fun H2 u sm2 hu2 => ?_⟩
            · rw [z] at hgt
              simp at hgt
              omega
            have ho2 := sm2 _ _ ho
            refine ⟨o, _, _, rfl, rfl, ho2, by decide, ?_⟩
            obtain ⟨rs, hers, hrs0, hrs5, hrs⟩ : ∃ rs : List T, ([] : List T).map vs ++ [vs u] = rs.map vs ∧ rs ≠ [] ∧ rs.length ≤ 5 ∧ ∀ q ∈ rs, g ≤ q.length ∧ q.length ≤ 9 := ⟨[u], rfl, by simp, by simp, fun q' hq' => by
              have : q' = u := by simpa using hq'
              subst this
              omega⟩
            have dr1 : DD d H (upd H2 o (.lst (([] : List T).map vs ++ [vs u]))) := (d1.to sm2).put hd no
            have hr1 : (upd H2 o (.lst (([] : List T).map vs ++ [vs u]))) o = some (.lst (rs.map vs)) := by
              rw [upd_same, hers]
            generalize upd H2 o (.lst (([] : List T).map vs ++ [vs u])) = H2 at dr1 hr1
            have hp0 : 0 < rs.length := List.length_pos_iff.mpr hrs0
            refine ⟨_, rfl, _, rfl, o, _, rfl, .inl (SqL.of hr1), d, rs.length, by rw [List.length_map]; rfl, dr1.dr, hp0, by omega, fun H3 r3 dd3 hr3 => ?_⟩
            have ho3 := dd3.fr _ _ nod hr1
            have d3 := dr1.trans dd3
            refine ⟨_, rfl, _, rfl, (r3 : Int), rfl, o, _, rfl, SqL.of ho3, fun x1 nx1 => ?_⟩
            rw [cutV_from]
            have no1 : o ≠ x1 := ne_of_none ho3 nx1
            refine ⟨_, rfl, _, rfl, (r3 : Int), rfl, o, _, rfl, SqL.of ((upd_ne no1).trans ho3), fun x2 nx2 => ?_⟩
            rw [cutV_to]
            have n12 : x1 ≠ x2 := ne_of_none upd_same nx2
            have hlv : (rs.map vs).length = rs.length := List.length_map _
            refine ⟨x1, x2, _, _, rfl, rfl, (upd_ne n12).trans upd_same, upd_same, sz (by rw [List.length_drop, List.length_take, hlv]; omega), fun x3 nx3 => ?_⟩
            have e8 : (8 : Int) = ((8 : Nat) : Int) := rfl
            refine ⟨_, rfl, 8, rfl, x3, _, rfl, SqL.of upd_same, fun x4 nx4 => ?_⟩
            rw [e8, cutV_to]
            refine ⟨x4, _, rfl, .inl ⟨SqL.of upd_same, fun x5 nx5 => ?_⟩⟩
            have em : ((rs.map vs).drop r3 ++ (rs.map vs).take r3).take 8 = (rs.drop r3 ++ rs.take r3).map vs := by
              rw [List.take_of_length_le (by rw [List.length_append, List.length_drop, List.length_take, hlv]; omega), List.map_append, List.map_drop, List.map_take]
            rw [em]
            have dd5 := ((((d3.lay (o := .lst ((rs.map vs).drop r3)) nx1).lay (o := .lst ((rs.map vs).take r3)) nx2).lay (o := .lst ((rs.map vs).drop r3 ++ (rs.map vs).take r3)) nx3).lay (o := .lst ((rs.drop r3 ++ rs.take r3).map vs)) nx4)
            refine q _ x5 (rs.drop r3 ++ rs.take r3) (dd5.lay (by rw [em] at nx5; exact nx5)) upd_same (fun z => ?_) ?_ (fun y hy => ?_)
            · have := congrArg List.length z
              rw [List.length_append, List.length_drop, List.length_take, List.length_nil] at this
              omega
            · rw [List.length_append, List.length_drop, List.length_take]
              omega
            · rcases List.mem_append.mp hy with z | z
              · exact hrs y (List.mem_of_mem_drop z)
              · exact hrs y (List.mem_of_mem_take z)
          · have hrs0 : qs ≠ [] := fun z => ez (by rw [z]; rfl)
            have hrs5 := hq5
            have hrs := hqs
            generalize qs = rs at hrs0 hrs5 hrs ho
            have dr1 := d1
            have hr1 := ho
            have hp0 : 0 < rs.length := List.length_pos_iff.mpr hrs0
            refine ⟨_, rfl, _, rfl, o, _, rfl, .inl (SqL.of hr1), d, rs.length, by rw [List.length_map]; rfl, dr1.dr, hp0, by omega, fun H3 r3 dd3 hr3 => ?_⟩
            have ho3 := dd3.fr _ _ nod hr1
            have d3 := dr1.trans dd3
            refine ⟨_, rfl, _, rfl, (r3 : Int), rfl, o, _, rfl, SqL.of ho3, fun x1 nx1 => ?_⟩
            rw [cutV_from]
            have no1 : o ≠ x1 := ne_of_none ho3 nx1
            refine ⟨_, rfl, _, rfl, (r3 : Int), rfl, o, _, rfl, SqL.of ((upd_ne no1).trans ho3), fun x2 nx2 => ?_⟩
            rw [cutV_to]
            have n12 : x1 ≠ x2 := ne_of_none upd_same nx2
            have hlv : (rs.map vs).length = rs.length := List.length_map _
            refine ⟨x1, x2, _, _, rfl, rfl, (upd_ne n12).trans upd_same, upd_same, sz (by rw [List.length_drop, List.length_take, hlv]; omega), fun x3 nx3 => ?_⟩
            have e8 : (8 : Int) = ((8 : Nat) : Int) := rfl
            refine ⟨_, rfl, 8, rfl, x3, _, rfl, SqL.of upd_same, fun x4 nx4 => ?_⟩
            rw [e8, cutV_to]
            refine ⟨x4, _, rfl, .inl ⟨SqL.of upd_same, fun x5 nx5 => ?_⟩⟩
            have em : ((rs.map vs).drop r3 ++ (rs.map vs).take r3).take 8 = (rs.drop r3 ++ rs.take r3).map vs := by
              rw [List.take_of_length_le (by rw [List.length_append, List.length_drop, List.length_take, hlv]; omega), List.map_append, List.map_drop, List.map_take]
            rw [em]
            have dd5 := ((((d3.lay (o := .lst ((rs.map vs).drop r3)) nx1).lay (o := .lst ((rs.map vs).take r3)) nx2).lay (o := .lst ((rs.map vs).drop r3 ++ (rs.map vs).take r3)) nx3).lay (o := .lst ((rs.drop r3 ++ rs.take r3).map vs)) nx4)
            refine q _ x5 (rs.drop r3 ++ rs.take r3) (dd5.lay (by rw [em] at nx5; exact nx5)) upd_same (fun z => ?_) ?_ (fun y hy => ?_)
            · have := congrArg List.length z
              rw [List.length_append, List.length_drop, List.length_take, List.length_nil] at this
              omega
            · rw [List.length_append, List.length_drop, List.length_take]
              omega
            · rcases List.mem_append.mp hy with z | z
              · exact hrs y (List.mem_of_mem_drop z)
              · exact hrs y (List.mem_of_mem_take z)
      · -- the text's end
        refine ⟨_, rfl, o, _, rfl, .inl (SqL.of ho), rfl, _, rfl, ?_⟩
        rw [List.length_map]
        refine ite2 (fun ez => ?_) (fun ez => ?_)
        · have hq0 : qs = [] := by
            have := V.int.inj (of_decide_eq_true ez)
            have : (qs.length : Int) = 0 := this
            exact List.length_eq_zero_iff.mp (by omega)
          subst hq0
          refine ⟨_, rfl, .inl ⟨rfl, _, SqL.of ho⟩, _, rfl, _, rfl, t, 0, g, rfl, fun z => ?_, by omega, by omega, fun H2 u sm2 hu2 => ?_⟩
          · rw [z] at hgt
            simp at hgt
            omega
          have ho2 := sm2 _ _ ho
          refine ⟨o, _, _, rfl, rfl, ho2, by decide, ?_⟩
          obtain ⟨rs, hers, hrs0, hrs5, hrs⟩ : ∃ rs : List T, ([] : List T).map vs ++ [vs u] = rs.map vs ∧ rs ≠ [] ∧ rs.length ≤ 5 ∧ ∀ q ∈ rs, g ≤ q.length ∧ q.length ≤ 9 := ⟨[u], rfl, by simp, by simp, fun q' hq' => by
            have : q' = u := by simpa using hq'
            subst this
            omega⟩
          have dr1 : DD d H (upd H2 o (.lst (([] : List T).map vs ++ [vs u]))) := (d1.to sm2).put hd no
          have hr1 : (upd H2 o (.lst (([] : List T).map vs ++ [vs u]))) o = some (.lst (rs.map vs)) := by
            rw [upd_same, hers]
          generalize upd H2 o (.lst (([] : List T).map vs ++ [vs u])) = H2 at dr1 hr1
          have hp0 : 0 < rs.length := List.length_pos_iff.mpr hrs0
          refine ⟨_, rfl, _, rfl, o, _, rfl, .inl (SqL.of hr1), d, rs.length, by rw [List.length_map]; rfl, dr1.dr, hp0, by omega, fun H3 r3 dd3 hr3 => ?_⟩
          have ho3 := dd3.fr _ _ nod hr1
          have d3 := dr1.trans dd3
          refine ⟨_, rfl, _, rfl, (r3 : Int), rfl, o, _, rfl, SqL.of ho3, fun x1 nx1 => ?_⟩
          rw [cutV_from]
          have no1 : o ≠ x1 := ne_of_none ho3 nx1
          refine ⟨_, rfl, _, rfl, (r3 : Int), rfl, o, _, rfl, SqL.of ((upd_ne no1).trans ho3), fun x2 nx2 => ?_⟩
          rw [cutV_to]
          have n12 : x1 ≠ x2 := ne_of_none upd_same nx2
          have hlv : (rs.map vs).length = rs.length := List.length_map _
          refine ⟨x1, x2, _, _, rfl, rfl, (upd_ne n12).trans upd_same, upd_same, sz (by rw [List.length_drop, List.length_take, hlv]; omega), fun x3 nx3 => ?_⟩
          have e8 : (8 : Int) = ((8 : Nat) : Int) := rfl
          refine ⟨_, rfl, 8, rfl, x3, _, rfl, SqL.of upd_same, fun x4 nx4 => ?_⟩
          rw [e8, cutV_to]
          refine ⟨x4, _, rfl, .inl ⟨SqL.of upd_same, fun x5 nx5 => ?_⟩⟩
          have em : ((rs.map vs).drop r3 ++ (rs.map vs).take r3).take 8 = (rs.drop r3 ++ rs.take r3).map vs := by
            rw [List.take_of_length_le (by rw [List.length_append, List.length_drop, List.length_take, hlv]; omega), List.map_append, List.map_drop, List.map_take]
          rw [em]
          have dd5 := ((((d3.lay (o := .lst ((rs.map vs).drop r3)) nx1).lay (o := .lst ((rs.map vs).take r3)) nx2).lay (o := .lst ((rs.map vs).drop r3 ++ (rs.map vs).take r3)) nx3).lay (o := .lst ((rs.drop r3 ++ rs.take r3).map vs)) nx4)
          refine q _ x5 (rs.drop r3 ++ rs.take r3) (dd5.lay (by rw [em] at nx5; exact nx5)) upd_same (fun z => ?_) ?_ (fun y hy => ?_)
          · have := congrArg List.length z
            rw [List.length_append, List.length_drop, List.length_take, List.length_nil] at this
            omega
          · rw [List.length_append, List.length_drop, List.length_take]
            omega
          · rcases List.mem_append.mp hy with z | z
            · exact hrs y (List.mem_of_mem_drop z)
            · exact hrs y (List.mem_of_mem_take z)
        · have hrs0 : qs ≠ [] := fun z => ez (by rw [z]; rfl)
          have hrs5 := hq5
          have hrs := hqs
          generalize qs = rs at hrs0 hrs5 hrs ho
          have dr1 := d1
          have hr1 := ho
          have hp0 : 0 < rs.length := List.length_pos_iff.mpr hrs0
          refine ⟨_, rfl, _, rfl, o, _, rfl, .inl (SqL.of hr1), d, rs.length, by rw [List.length_map]; rfl, dr1.dr, hp0, by omega, fun H3 r3 dd3 hr3 => ?_⟩
          have ho3 := dd3.fr _ _ nod hr1
          have d3 := dr1.trans dd3
          refine ⟨_, rfl, _, rfl, (r3 : Int), rfl, o, _, rfl, SqL.of ho3, fun x1 nx1 => ?_⟩
          rw [cutV_from]
          have no1 : o ≠ x1 := ne_of_none ho3 nx1
          refine ⟨_, rfl, _, rfl, (r3 : Int), rfl, o, _, rfl, SqL.of ((upd_ne no1).trans ho3), fun x2 nx2 => ?_⟩
          rw [cutV_to]
          have n12 : x1 ≠ x2 := ne_of_none upd_same nx2
          have hlv : (rs.map vs).length = rs.length := List.length_map _
          refine ⟨x1, x2, _, _, rfl, rfl, (upd_ne n12).trans upd_same, upd_same, sz (by rw [List.length_drop, List.length_take, hlv]; omega), fun x3 nx3 => ?_⟩
          have e8 : (8 : Int) = ((8 : Nat) : Int) := rfl
          refine ⟨_, rfl, 8, rfl, x3, _, rfl, SqL.of upd_same, fun x4 nx4 => ?_⟩
          rw [e8, cutV_to]
          refine ⟨x4, _, rfl, .inl ⟨SqL.of upd_same, fun x5 nx5 => ?_⟩⟩
          have em : ((rs.map vs).drop r3 ++ (rs.map vs).take r3).take 8 = (rs.drop r3 ++ rs.take r3).map vs := by
            rw [List.take_of_length_le (by rw [List.length_append, List.length_drop, List.length_take, hlv]; omega), List.map_append, List.map_drop, List.map_take]
          rw [em]
          have dd5 := ((((d3.lay (o := .lst ((rs.map vs).drop r3)) nx1).lay (o := .lst ((rs.map vs).take r3)) nx2).lay (o := .lst ((rs.map vs).drop r3 ++ (rs.map vs).take r3)) nx3).lay (o := .lst ((rs.drop r3 ++ rs.take r3).map vs)) nx4)
          refine q _ x5 (rs.drop r3 ++ rs.take r3) (dd5.lay (by rw [em] at nx5; exact nx5)) upd_same (fun z => ?_) ?_ (fun y hy => ?_)
          · have := congrArg List.length z
            rw [List.length_append, List.length_drop, List.length_take, List.length_nil] at this
            omega
          · rw [List.length_append, List.length_drop, List.length_take]
            omega
          · rcases List.mem_append.mp hy with z | z
            · exact hrs y (List.mem_of_mem_drop z)
            · exact hrs y (List.mem_of_mem_take z)
    · rintro σ H Q Q' hq h
      obtain ⟨v, e1, v2, e2, i1, j1, e3, e4, v3, e5, l, e6, hl, i2, j2, e7, e8, k, e9, r⟩ := h
      refine ⟨v, e1, v2, e2, i1, j1, e3, e4, v3, e5, l, e6, hl, i2, j2, e7, e8, k, e9, ?_⟩
      cases k with
      | false => exact hq _ _ r
      | true =>
        obtain ⟨v4, f1, p, ys, f2, f3, i3, j3, f4, f5, k2, f6, r2⟩ := r
        exact ⟨v4, f1, p, ys, f2, f3, i3, j3, f4, f5, k2, f6, hq _ _ r2⟩

theorem ok_l_shards {f : Addr} {fd : FuncData} (F : Fun K "_law_shards" "_law_shards" s_l_shards f fd) (Tx : Txt mg) {f_l_signs : Addr} {fd_l_signs : FuncData} (h_l_signs : Gd P w K mg base 2 "_law_signs" ["_law_d"] sp_l_signs f_l_signs fd_l_signs) {f_l_take : Addr} {fd_l_take : FuncData} (h_l_take : Gd P w K mg base 1 "_law_take" ["_law_d", "_law_many"] sp_l_take f_l_take fd_l_take) {f_l_rich : Addr} {fd_l_rich : FuncData} (h_l_rich : Gd P w K mg base 3 "_law_rich" ["_law_d", "_law_signs_here", "_law_size"] sp_l_rich f_l_rich fd_l_rich) {f_l_cut : Addr} {fd_l_cut : FuncData} (h_l_cut : Gd P w K mg base 2 "_law_cut" ["_law_d", "_law_text_here", "_law_grain", "_law_shape", "_law_many"] sp_l_cut f_l_cut fd_l_cut) {f_l_text : Addr} {fd_l_text : FuncData} (h_l_text : Gd P w K mg base 2 "_law_text" ["_law_d", "_law_signs_here", "_law_size"] sp_l_text f_l_text fd_l_text) :
    FnOk P w K mg base CX0 4 f fd ["_law_d", "_law_shape"] sp_l_shards := by
  refine F.ok sc_l_shards (fun xs H Q E h => ?_) (fun cdv A outer sh H xs Q E hr h => ?_)
  · obtain ⟨d, rfl, hd, q⟩ := h
    rfl
  · obtain ⟨d, rfl, hd, q⟩ := h
    have hu := hu16 hr
    refine ⟨_, (pss_cons (ps_set (i := 2) sc_l_shards.nd rfl (Or.inl rfl) (pcall h_l_signs hr (by decide) (by rfl) (pa_cons (pv 0) pa_nil)))
      (pss_cons (ps_set (i := 3) sc_l_shards.nd rfl (Or.inl rfl) (pe_op op_add pe_int (pcall h_l_take hr (by decide) (by rfl) (pa_cons (pv 0) (pa_cons pe_int pa_nil)))))
      (pss_cons (ps_set (i := 4) sc_l_shards.nd rfl (Or.inl rfl) (pcall h_l_rich hr (by decide) (by rfl) (pa_cons (pv 0) (pa_cons (pv 2) (pa_cons (pe_op op_add (pv 3) (pcall h_l_take hr (by decide) (by rfl) (pa_cons (pv 0) (pa_cons pe_int pa_nil)))) pa_nil)))))
      (pss_cons (ps_set (i := 5) sc_l_shards.nd rfl (Or.inl rfl) (pcall h_l_cut hr (by decide) (by rfl) (pa_cons (pv 0) (pa_cons (pv 4) (pa_cons (pv 3) (pa_cons (pv 1) (pa_cons pe_int pa_nil)))))))
      (pss_cons (ps_if (pt_cmpR op_eq (pcall h_l_take hr (by decide) (by rfl) (pa_cons (pv 0) (pa_cons pe_int pa_nil))) pe_int (nomark _)) (pss_one (ps_set (i := 5) sc_l_shards.nd rfl (Or.inl rfl) (pe_op op_catT (pv 5) (pe_tup (pa_cons (pcall h_l_text hr (by decide) (by rfl) (pa_cons (pv 0) (pa_cons (pv 2) (pa_cons (pe_op op_add (pv 3) (pcall h_l_take hr (by decide) (by rfl) (pa_cons (pv 0) (pa_cons pe_int pa_nil)))) pa_nil)))) pa_nil))))) pss_nil)
      (pss_one (ps_ret (pe_tup (pa_cons (pe_slice sl_tupA (pv 5) po_none (po_some pe_int)) (pa_cons (pv 3) (pa_cons (pv 4) (pa_cons (pv 2) pa_nil)))))))))))), ?_⟩
    refine ⟨_, rfl, d, rfl, hd, fun H1 l d1 hl0 hl1 => ?_⟩
    refine ⟨_, rfl, d, 3, rfl, d1.dr, by decide, by decide, fun H2 r1 dd2 hr1 => ⟨_, _, rfl, rfl, ?_⟩⟩
    have d2 := d1.trans dd2
    have eg : V.int (1 + (r1 : Int)) = kint (1 + r1) := ki (by omega)
    refine ⟨_, rfl, _, rfl, _, rfl, _, rfl, d, 7, rfl, d2.dr, by decide, by decide, fun H3 r2 dd3 hr2 => ⟨_, _, rfl, rfl, ?_⟩⟩
    have d3 := d2.trans dd3
    have eg2 : V.int (1 + (r1 : Int) + (r2 : Int)) = kint (1 + r1 + r2) := ki (by omega)
    refine ⟨d, l, 1 + r1 + r2, congrArg (fun z => [V.ref d, vs l, z]) eg2, d3.dr, hl0, hl1, by omega, by omega, fun H4 t dd4 htl => ?_⟩
    have d4 := d3.trans dd4
    refine ⟨_, rfl, _, rfl, _, rfl, _, rfl, d, t, 1 + r1, congrArg (fun z => [V.ref d, vs t, z, vs (lst "line"), kint 8]) eg, d4.dr, by omega, by omega, by omega, by omega, fun H5 a ps dd5 ha hps0 hps5 hps => ?_⟩
    have d5 := d4.trans dd5
    refine ⟨_, rfl, d, 4, rfl, d5.dr, by decide, by decide, fun H6 r6 dd6 hr6 => ⟨rfl, _, rfl, ?_⟩⟩
    have d6 := d5.trans dd6
    have ha6 := dd6.tup d5.dr ha
    refine ite2 (fun _ => ?_) (fun _ => ?_)
    · refine ⟨_, rfl, _, rfl, _, rfl, _, rfl, _, rfl, d, 3, rfl, d6.dr, by decide, by decide, fun H7 r7 dd7 hr7 => ⟨_, _, rfl, rfl, ?_⟩⟩
      have d7 := d6.trans dd7
      have ha7 := dd7.tup d6.dr ha6
      have eg3 : V.int (1 + (r1 : Int) + (r7 : Int)) = kint (1 + r1 + r7) := ki (by omega)
      refine ⟨d, l, 1 + r1 + r7, congrArg (fun z => [V.ref d, vs l, z]) eg3, d7.dr, hl0, hl1, by omega, fun H8 u dd8 hul => ⟨by show 1 ≤ sizeLine; decide, fun b nb => ?_⟩⟩
      have d8 := d7.trans dd8
      have ha8 := dd8.tup d7.dr ha7
      have nab : a ≠ b := ne_of_none ha8 nb
      have hps0' : ps.map vs ≠ [] := fun z => hps0 (List.map_eq_nil_iff.mp z)
      refine ⟨a, b, _, _, rfl, rfl, SqT.of ((upd_ne nab).trans ha8), SqT.of upd_same, hps0', sz (by rw [List.length_map, List.length_singleton]; omega), fun z => (nomatch z), fun _ c nc => ?_⟩
      obtain ⟨rs, ers, hrs0, hrs6, hrs⟩ : ∃ rs : List T, ps.map vs ++ [vs u] = rs.map vs ∧ rs ≠ [] ∧ rs.length ≤ 6 ∧ ∀ p ∈ rs, 1 + r1 ≤ p.length ∧ p.length ≤ 9 := ⟨ps ++ [u], by rw [List.map_append]; rfl, by simp, by rw [List.length_append, List.length_singleton]; omega, fun p hp => by
        rcases List.mem_append.mp hp with z | z
        · exact hps p z
        · have : p = u := by simpa using z
          subst this
          omega⟩
      have dr := (d8.lay (o := .tup [vs u]) nb).lay (o := .tup (ps.map vs ++ [vs u])) nc
      have ha : (upd (upd H8 b (.tup [vs u])) c (.tup (ps.map vs ++ [vs u]))) c = some (.tup (rs.map vs)) := by
        rw [upd_same, ers]
      generalize upd (upd H8 b (.tup [vs u])) c (.tup (ps.map vs ++ [vs u])) = H9 at dr ha
      clear ha6 ha7 ha8 nab
      generalize c = a at ha
      have hw : HT.sIx (rs.map vs).length 0 Option.none = 0 ∧ HT.sIx (rs.map vs).length (rs.map vs).length (some 8) = (rs.map vs).length := ⟨rfl, by
        have e8 : (8 : Int) = ((8 : Nat) : Int) := rfl
        rw [e8, HT.sIx_nat, List.length_map]
        omega⟩
      refine ⟨_, rfl, 8, rfl, a, _, rfl, SqT.of ha, fun _ => ⟨_, rfl, _, rfl, _, rfl, by show 4 ≤ sizeLine; decide, fun p np => ?_⟩, fun z => absurd hw z⟩
      have npa : a ≠ p := ne_of_none ha np
      exact q _ p a rs (1 + r1) t l (dr.lay np) (by rw [upd_same]; exact congrArg (fun z => some (HO.tup [V.ref a, z, vs t, vs l])) eg) ((upd_ne npa).trans ha) ⟨hrs0, hrs6, hrs, by omega, by omega⟩ (fun z => by rw [z, List.length_nil] at htl; omega) (by omega) hl0 hl1
    · obtain ⟨rs, ers, hrs0, hrs6, hrs⟩ : ∃ rs : List T, rs = ps ∧ rs ≠ [] ∧ rs.length ≤ 6 ∧ ∀ p ∈ rs, 1 + r1 ≤ p.length ∧ p.length ≤ 9 := ⟨ps, rfl, hps0, by omega, hps⟩
      have dr := d6
      have ha : H6 a = some (.tup (rs.map vs)) := by
        rw [ers]
        exact ha6
      have hw : HT.sIx (rs.map vs).length 0 Option.none = 0 ∧ HT.sIx (rs.map vs).length (rs.map vs).length (some 8) = (rs.map vs).length := ⟨rfl, by
        have e8 : (8 : Int) = ((8 : Nat) : Int) := rfl
        rw [e8, HT.sIx_nat, List.length_map]
        omega⟩
      refine ⟨_, rfl, 8, rfl, a, _, rfl, SqT.of ha, fun _ => ⟨_, rfl, _, rfl, _, rfl, by show 4 ≤ sizeLine; decide, fun p np => ?_⟩, fun z => absurd hw z⟩
      have npa : a ≠ p := ne_of_none ha np
      exact q _ p a rs (1 + r1) t l (dr.lay np) (by rw [upd_same]; exact congrArg (fun z => some (HO.tup [V.ref a, z, vs t, vs l])) eg) ((upd_ne npa).trans ha) ⟨hrs0, hrs6, hrs, by omega, by omega⟩ (fun z => by rw [z, List.length_nil] at htl; omega) (by omega) hl0 hl1

theorem ok_l_word {f : Addr} {fd : FuncData} (F : Fun K "_law_word" "_law_word" s_l_word f fd) (Tx : Txt mg) {f_l_take : Addr} {fd_l_take : FuncData} (h_l_take : Gd P w K mg base 1 "_law_take" ["_law_d", "_law_many"] sp_l_take f_l_take fd_l_take) {f_l_text : Addr} {fd_l_text : FuncData} (h_l_text : Gd P w K mg base 2 "_law_text" ["_law_d", "_law_signs_here", "_law_size"] sp_l_text f_l_text fd_l_text) {f_l_round : Addr} {fd_l_round : FuncData} (h_l_round : Gd P w K mg base 1 "_law_round" ["_law_circle", "_law_start", "_law_count"] sp_l_round f_l_round fd_l_round) :
    FnOk P w K mg base CX0 3 f fd ["_law_d", "_law_pieces", "_law_text_here", "_law_signs_here", "_law_most"] sp_l_word := by
  refine F.ok sc_l_word (fun xs H Q E h => ?_) (fun cdv A outer sh H xs Q E hr h => ?_)
  · obtain ⟨d, a, ps, t, l, rfl, hd, ha, hps0, hps6, hps, ht0, ht9, hl0, hl1, q⟩ := h
    rfl
  · obtain ⟨d, a, ps, t, l, rfl, hd, ha, hps0, hps6, hps, ht0, ht9, hl0, hl1, q⟩ := h
    have hu := hu16 hr
    refine ⟨_, (pss_cons (ps_set (i := 5) sc_l_word.nd rfl (Or.inl rfl) (pcall h_l_take hr (by decide) (by rfl) (pa_cons (pv 0) (pa_cons pe_int pa_nil))))
      (pss_cons (ps_set (i := 6) sc_l_word.nd rfl (Or.inl rfl) (pe_op op_add pe_int (pcall h_l_take hr (by decide) (by rfl) (pa_cons (pv 0) (pa_cons (pv 4) pa_nil)))))
      (pss_cons (ps_if (pt_cmpR op_eq (pv 5) pe_int (nomark _)) (pss_one (ps_ret (pcall h_l_text hr (by decide) (by rfl) (pa_cons (pv 0) (pa_cons (pv 3) (pa_cons (pv 6) pa_nil)))))) pss_nil)
      (pss_cons (ps_if (pt_cmpR op_eq (pv 5) pe_int (nomark _)) (pss_cons (ps_set (i := 7) sc_l_word.nd rfl (Or.inl rfl) (pe_ix ix_tup (pv 1) (pcall h_l_take hr (by decide) (by rfl) (pa_cons (pv 0) (pa_cons (pe_callB call_len_seq (by rfl) Tx.m_len b_len (pa_cons (pv 1) pa_nil)) pa_nil))) (fun _ _ => rfl)))
        (pss_cons (ps_set (i := 8) sc_l_word.nd rfl (Or.inl rfl) (pcall h_l_take hr (by decide) (by rfl) (pa_cons (pv 0) (pa_cons (pe_callB call_lenT (by rfl) Tx.m_len b_len (pa_cons (pv 7) pa_nil)) pa_nil))))
        (pss_one (ps_ret (pe_slice sl_T (pv 7) (po_some (pv 8)) (po_some (pe_op op_add (pv 8) (pv 6)))))))) pss_nil)
      (pss_cons (ps_if (pt_cmpR op_eq (pv 5) pe_int (nomark _)) (pss_one (ps_ret (pe_op op_addT (pcall h_l_round hr (by decide) (by rfl) (pa_cons (pv 2) (pa_cons (pcall h_l_take hr (by decide) (by rfl) (pa_cons (pv 0) (pa_cons (pe_callB call_lenT (by rfl) Tx.m_len b_len (pa_cons (pv 2) pa_nil)) pa_nil))) (pa_cons (pv 6) pa_nil)))) (pcall h_l_text hr (by decide) (by rfl) (pa_cons (pv 0) (pa_cons (pv 3) (pa_cons pe_int pa_nil))))))) pss_nil)
      (pss_one (ps_ret (pcall h_l_round hr (by decide) (by rfl) (pa_cons (pv 2) (pa_cons (pcall h_l_take hr (by decide) (by rfl) (pa_cons (pv 0) (pa_cons (pe_callB call_lenT (by rfl) Tx.m_len b_len (pa_cons (pv 2) pa_nil)) pa_nil))) (pa_cons (pv 6) pa_nil))))))))))), ?_⟩
    have htp : 0 < t.length := List.length_pos_iff.mpr ht0
    have hpp : 0 < ps.length := List.length_pos_iff.mpr hps0
    refine ⟨_, rfl, d, 5, rfl, hd, by decide, by decide, fun H1 m d1 hm => ?_⟩
    have ha1 := d1.tup hd ha
    refine ⟨_, rfl, _, rfl, d, 7, rfl, d1.dr, by decide, by decide, fun H2 r dd2 hr => ⟨_, _, rfl, rfl, ?_⟩⟩
    have d2 := d1.trans dd2
    have ha2 := dd2.tup d1.dr ha1
    have es : V.int (1 + (r : Int)) = kint (1 + r) := ki (by omega)
    refine ⟨_, rfl, rfl, _, rfl, ?_⟩
    refine ite2 (fun _ => ?_) (fun _ => ?_)
    · refine ⟨_, rfl, _, rfl, _, rfl, d, l, 1 + r, congrArg (fun z => [V.ref d, vs l, z]) es, d2.dr, hl0, hl1, by omega, fun H3 u dd3 hu3 => ?_⟩
      exact q _ _ (d2.trans dd3) (fun z => by rw [z, List.length_nil] at hu3; omega) (by omega)
    · refine ⟨_, rfl, rfl, _, rfl, ?_⟩
      refine ite2 (fun _ => ?_) (fun _ => ?_)
      · refine ⟨_, rfl, _, rfl, _, rfl, a, _, rfl, .inr (SqT.of ha2), d, ps.length, by rw [List.length_map]; rfl, d2.dr, hpp, by omega, fun H3 k dd3 hk => ?_⟩
        have d3 := d2.trans dd3
        have ha3 := dd3.tup d2.dr ha2
        have hx : ps[k]? = some ps[k] := List.getElem?_eq_getElem hk
        generalize ps[k] = p at hx
        obtain ⟨hp0, hp9⟩ := hps p (List.mem_of_getElem? hx)
        refine ⟨a, _, (k : Int), _, rfl, rfl, SqT.of ha3, at_nat rfl (map_at hx), ?_⟩
        refine ⟨_, rfl, _, rfl, p, rfl, sz (by omega), d, p.length, rfl, d3.dr, hp0, by omega, fun H4 at' dd4 hat => ?_⟩
        have d4 := d3.trans dd4
        have ee : (at' : Int) + (1 + (r : Int)) = ((at' + (1 + r) : Nat) : Int) := by omega
        refine ⟨_, rfl, _, rfl, (at' : Int), rfl, _, rfl, _, rfl, _, _, rfl, rfl, _, rfl, p, rfl, sz (by omega), ?_⟩
        rw [ee, cut_mid]
        refine q _ _ d4 (fun z => ?_) ?_
        · have := congrArg List.length z
          rw [List.length_take, List.length_drop, List.length_nil] at this
          omega
        · rw [List.length_take, List.length_drop]
          omega
      · refine ⟨_, rfl, rfl, _, rfl, ?_⟩
        refine ite2 (fun _ => ?_) (fun _ => ?_)
        · refine ⟨_, rfl, _, rfl, _, rfl, t, rfl, sz (by omega), d, t.length, rfl, d2.dr, htp, by omega, fun H3 k dd3 hk => ?_⟩
          have d3 := d2.trans dd3
          refine ⟨_, rfl, t, k, 1 + r, congrArg (fun z => [vs t, kint k, z]) es, ht0, by omega, by omega, fun H4 u sm4 hu4 => ?_⟩
          have d4 := d3.to sm4
          refine ⟨_, rfl, _, rfl, d, l, 1, rfl, d4.dr, hl0, hl1, by omega, fun H5 x dd5 hx5 => ?_⟩
          refine ⟨u, x, rfl, rfl, sz (by omega), q _ _ (d4.trans dd5) (fun z => ?_) ?_⟩
          · have := congrArg List.length z
            rw [List.length_append, List.length_nil] at this
            omega
          · rw [List.length_append]
            omega
        · refine ⟨_, rfl, _, rfl, _, rfl, t, rfl, sz (by omega), d, t.length, rfl, d2.dr, htp, by omega, fun H3 k dd3 hk => ?_⟩
          have d3 := d2.trans dd3
          refine ⟨_, rfl, t, k, 1 + r, congrArg (fun z => [vs t, kint k, z]) es, ht0, by omega, by omega, fun H4 u sm4 hu4 => ?_⟩
          exact q _ _ (d3.to sm4) (fun z => by rw [z, List.length_nil] at hu4; omega) (by omega)

theorem ok_l_walk {f : Addr} {fd : FuncData} (F : Fun K "_law_walk" "_law_walk" s_l_walk f fd) (Tx : Txt mg) {f_l_windows : Addr} {fd_l_windows : FuncData} (h_l_windows : Gd P w K mg base 1 "_law_windows" ["_law_pieces", "_law_grain"] sp_l_windows f_l_windows fd_l_windows) {f_l_take : Addr} {fd_l_take : FuncData} (h_l_take : Gd P w K mg base 1 "_law_take" ["_law_d", "_law_many"] sp_l_take f_l_take fd_l_take) :
    FnOk P w K mg base CX0 2 f fd ["_law_d", "_law_pieces", "_law_grain", "_law_start", "_law_size"] sp_l_walk := by
  refine F.ok sc_l_walk (fun xs H Q E h => ?_) (fun cdv A outer sh H xs Q E hr h => ?_)
  · obtain ⟨d, a, ps, g, s, n, rfl, hd, ha, pc, hs, hn, q⟩ := h
    rfl
  · obtain ⟨d, a, ps, g, s, n, rfl, hd, ha, pc, hs, hn, q⟩ := h
    have hu := hu16 hr
    refine ⟨_, (pss_cons (ps_set (i := 5) sc_l_walk.nd rfl (Or.inl rfl) (pcall h_l_windows hr (by decide) (by rfl) (pa_cons (pv 1) (pa_cons (pv 2) pa_nil))))
      (pss_cons (ps_set (i := 6) sc_l_walk.nd rfl (Or.inl rfl) (pv 3))
      (pss_cons (ps_for PassesOwn.never rfl (pi_range1 (by rfl) Tx.m_range (pa_cons (pv 4) pa_nil)) (pg_name (i := 7) sc_l_walk.nd rfl (Or.inl rfl)) (pss_cons (ps_set (i := 8) sc_l_walk.nd rfl (Or.inr rfl) (pe_ifExp (pt_cmpR op_gt (pv 2) pe_int (nomark _)) (pe_slice sl_T (pv 6) (po_some (pe_op op_add (pe_op op_sub (pe_callB call_lenT (by rfl) Tx.m_len b_len (pa_cons (pv 6) pa_nil)) (pv 2)) pe_int)) po_none) pe_str))
        (pss_cons (ps_setLc (i := 9) (own := [("_law_window", 10)]) (g := gName 10) rfl sc_l_walk.nd rfl rfl (sw_true rfl rfl rfl (by decide +kernel)) (pi_list (pv 5)) (blkOk_by (N := ["_law_d", "_law_pieces", "_law_grain", "_law_start", "_law_size", "_law_windows_here", "_law_text_here", "_law_k", "_law_gram", "_law_signs_here", "_law_window"]) (sc := defScope s_l_walk) (by decide +kernel)) (fun _ _ _ _ _ => pg_name (i := 10) sc_l_walk.nd rfl (Or.inl rfl)) (fun _ _ _ _ _ => (pts_one (pt_cmpR op_eqT (pe_slice sl_T (pv 10) po_none (po_some (pe_un un_neg pe_int))) (pv 8) (nomark _)))) (fun _ _ _ _ _ => (pe_ix ix_T (pv 10) (pe_un un_neg pe_int) (fun _ _ => rfl))))
        (pss_one (ps_if (pt_cmpR op_gt (pe_callB call_len_seq (by rfl) Tx.m_len b_len (pa_cons (pv 9) pa_nil)) pe_int (nomark _)) (pss_one (ps_set (i := 6) sc_l_walk.nd rfl (Or.inl rfl) (pe_op op_addT (pv 6) (pe_ix ix_list (pv 9) (pcall h_l_take hr (by decide) (by rfl) (pa_cons (pv 0) (pa_cons (pe_callB call_len_seq (by rfl) Tx.m_len b_len (pa_cons (pv 9) pa_nil)) pa_nil))) (fun _ _ => rfl))))) pss_nil)))))
      (pss_one (ps_ret (pv 6)))))), ?_⟩
    have g0 := pc.g0
    have g1 := pc.g1
    refine ⟨_, rfl, _, rfl, a, ps, g, rfl, ha, pc, fun H1 wl ws sm1 nwl hwl hm hnd => ?_⟩
    have hws := pc.few hnd fun x hx => (hm x).mp hx
    have nwd := hd.ne nwl
    refine ⟨_, rfl, _, rfl, _, rfl, by omega, by omega, ?_⟩
    rw [Int.toNat_natCast]
    refine for_range (lo := 0) (n := n) (fun i σ H2 => ∃ (t : T) (v7 v8 v9 : Option V), σ = [some (.ref d), some (.ref a), some (kint g), some (vs s), some (kint n), some (.ref wl), some (vs t), v7, v8, v9, none] ∧ DD d H H2 ∧ H2 wl = some (.lst (ws.map vs)) ∧ t.length ≤ s.length + i)
      ⟨s, none, none, none, rfl, DD.same hd sm1, hwl, Nat.le_refl _⟩ ?_ ?_
    · rintro i σ H2 hi ⟨t, v7, v8, v9, rfl, d2, hw2, htl⟩
      -- the gram
      refine ⟨_, rfl, _, _, rfl, rfl, _, rfl, ?_⟩
      refine ite2 (fun _ => ?_) (fun _ => ?_)
      · refine ⟨_, rfl, _, rfl, t, rfl, sz (by omega), _, rfl, _, _, rfl, rfl, _, _, rfl, rfl, (t.length : Int) - (g : Int) + 1, rfl, t, rfl, sz (by omega), ?_⟩
        generalize cutL t (some ((t.length : Int) - (g : Int) + 1)) none = y
        -- signs = [window[-1] for window in windows if window[:-1] == gram]
        refine ⟨_, rfl, wl, rfl, ⟨_, SqL.of hw2⟩, fun D hD => ?_⟩
        have nwD : wl ≠ D := ne_of_none hw2 hD
        have nDd := d2.dr.ne hD
        refine lc_list (K := K) (a := wl) (xs := ws.map vs) (fun i H3 => H3 = upd H2 D (.lst ((one (foll y (ws.take i))).map vs))) rfl (fun i H3 _ e => by rw [e]; exact SqL.of ((upd_ne nwD).trans hw2)) ?_ ?_
        · rintro i x H3 hi rfl
          obtain ⟨x, hx, rfl⟩ := map_get hi
          have hxl : x.length = g := ((hm x).mp (List.mem_of_getElem? hx)).len
          have hne : x ≠ [] := fun z => by
            rw [z, List.length_nil] at hxl
            omega
          have ec : cutL x none (some (-1)) = x.dropLast := cut_neg x
          refine ⟨rfl, _, rfl, 1, rfl, _, rfl, x, rfl, sz (by omega), ?_⟩
          rw [ec]
          refine ⟨_, rfl, _, _, rfl, rfl, _, rfl, ?_⟩
          by_cases e : x.dropLast = y
          · rw [decide_eq_true e]
            refine iteT ⟨_, rfl, 1, rfl, x, -1, x.getLast hne, rfl, rfl, sz (by omega), at_end (List.getLast?_eq_getLast hne), _, upd_same, szl ?_, ?_⟩
            · rw [List.length_map]
              unfold one
              rw [List.length_map]
              have := foll_le y (ws.take i)
              rw [List.length_take] at this
              omega
            · rw [upd_upd, foll_succ hx hne, if_pos e, one_snoc]
          · rw [decide_eq_false e]
            refine iteF ?_
            rw [foll_succ hx hne, if_neg e, List.append_nil]
        · rintro H3 rfl
          rw [List.length_map, List.take_length]
          have hfl := foll_le y ws
          generalize foll y ws = ls at hfl
          have hol : ((one ls).map vs).length = ls.length := by
            unfold one
            rw [List.length_map, List.length_map]
          refine ⟨_, rfl, D, _, rfl, .inl (SqL.of upd_same), _, _, rfl, rfl, _, rfl, ?_⟩
          rw [hol]
          have d3 : DD d H (upd H2 D (.lst ((one ls).map vs))) := d2.lay hD
          have hD3 : (upd H2 D (.lst ((one ls).map vs))) D = some (.lst ((one ls).map vs)) := upd_same
          have hw3 : (upd H2 D (.lst ((one ls).map vs))) wl = some (.lst (ws.map vs)) := (upd_ne nwD).trans hw2
          generalize upd H2 D (.lst ((one ls).map vs)) = H3 at d3 hD3 hw3
          refine ite2 (fun e => ?_) (fun e => ?_)
          · have hlp : 0 < ls.length := by
              have := of_decide_eq_true e
              omega
            refine ⟨_, rfl, _, rfl, _, rfl, _, rfl, D, _, rfl, .inl (SqL.of hD3), d, ls.length, by rw [hol]; rfl, d3.dr, hlp, by omega, fun H4 r dd4 hr4 => ?_⟩
            have hc : ls[r]? = some ls[r] := List.getElem?_eq_getElem hr4
            generalize ls[r] = c at hc
            have hcv : ((one ls).map vs)[r]? = some (vs [c]) := by
              unfold one
              rw [List.map_map, List.getElem?_map, hc]
              rfl
            refine ⟨D, _, (r : Int), _, rfl, rfl, SqL.of (dd4.fr _ _ nDd hD3), at_nat rfl hcv, t, [c], rfl, rfl, sz (by rw [List.length_singleton]; omega), t ++ [c], _, _, _, rfl, d3.trans dd4, dd4.fr _ _ nwd hw3, by rw [List.length_append, List.length_singleton]; omega⟩
          · exact ⟨t, _, _, _, rfl, d3, hw3, by omega⟩
      · show gName 8 (V.str (Str.ofString "")) _ _ _
        rw [s_nil]
        -- signs = [window[-1] for window in windows if window[:-1] == gram]
        refine ⟨_, rfl, wl, rfl, ⟨_, SqL.of hw2⟩, fun D hD => ?_⟩
        have nwD : wl ≠ D := ne_of_none hw2 hD
        have nDd := d2.dr.ne hD
        refine lc_list (K := K) (a := wl) (xs := ws.map vs) (fun i H3 => H3 = upd H2 D (.lst ((one (foll ([] : T) (ws.take i))).map vs))) rfl (fun i H3 _ e => by rw [e]; exact SqL.of ((upd_ne nwD).trans hw2)) ?_ ?_
        · rintro i x H3 hi rfl
          obtain ⟨x, hx, rfl⟩ := map_get hi
          have hxl : x.length = g := ((hm x).mp (List.mem_of_getElem? hx)).len
          have hne : x ≠ [] := fun z => by
            rw [z, List.length_nil] at hxl
            omega
          have ec : cutL x none (some (-1)) = x.dropLast := cut_neg x
          refine ⟨rfl, _, rfl, 1, rfl, _, rfl, x, rfl, sz (by omega), ?_⟩
          rw [ec]
          refine ⟨_, rfl, _, _, rfl, rfl, _, rfl, ?_⟩
          by_cases e : x.dropLast = ([] : T)
          · rw [decide_eq_true e]
            refine iteT ⟨_, rfl, 1, rfl, x, -1, x.getLast hne, rfl, rfl, sz (by omega), at_end (List.getLast?_eq_getLast hne), _, upd_same, szl ?_, ?_⟩
            · rw [List.length_map]
              unfold one
              rw [List.length_map]
              have := foll_le ([] : T) (ws.take i)
              rw [List.length_take] at this
              omega
            · rw [upd_upd, foll_succ hx hne, if_pos e, one_snoc]
          · rw [decide_eq_false e]
            refine iteF ?_
            rw [foll_succ hx hne, if_neg e, List.append_nil]
        · rintro H3 rfl
          rw [List.length_map, List.take_length]
          have hfl := foll_le ([] : T) ws
          generalize foll ([] : T) ws = ls at hfl
          have hol : ((one ls).map vs).length = ls.length := by
            unfold one
            rw [List.length_map, List.length_map]
          refine ⟨_, rfl, D, _, rfl, .inl (SqL.of upd_same), _, _, rfl, rfl, _, rfl, ?_⟩
          rw [hol]
          have d3 : DD d H (upd H2 D (.lst ((one ls).map vs))) := d2.lay hD
          have hD3 : (upd H2 D (.lst ((one ls).map vs))) D = some (.lst ((one ls).map vs)) := upd_same
          have hw3 : (upd H2 D (.lst ((one ls).map vs))) wl = some (.lst (ws.map vs)) := (upd_ne nwD).trans hw2
          generalize upd H2 D (.lst ((one ls).map vs)) = H3 at d3 hD3 hw3
          refine ite2 (fun e => ?_) (fun e => ?_)
          · have hlp : 0 < ls.length := by
              have := of_decide_eq_true e
              omega
            refine ⟨_, rfl, _, rfl, _, rfl, _, rfl, D, _, rfl, .inl (SqL.of hD3), d, ls.length, by rw [hol]; rfl, d3.dr, hlp, by omega, fun H4 r dd4 hr4 => ?_⟩
            have hc : ls[r]? = some ls[r] := List.getElem?_eq_getElem hr4
            generalize ls[r] = c at hc
            have hcv : ((one ls).map vs)[r]? = some (vs [c]) := by
              unfold one
              rw [List.map_map, List.getElem?_map, hc]
              rfl
            refine ⟨D, _, (r : Int), _, rfl, rfl, SqL.of (dd4.fr _ _ nDd hD3), at_nat rfl hcv, t, [c], rfl, rfl, sz (by rw [List.length_singleton]; omega), t ++ [c], _, _, _, rfl, d3.trans dd4, dd4.fr _ _ nwd hw3, by rw [List.length_append, List.length_singleton]; omega⟩
          · exact ⟨t, _, _, _, rfl, d3, hw3, by omega⟩
    · rintro σ H2 ⟨t, v7, v8, v9, rfl, d2, hw2, htl⟩
      exact ⟨_, rfl, q _ _ d2 htl⟩

theorem ok_l_joined {f : Addr} {fd : FuncData} (F : Fun K "_law_joined" "_law_joined" s_l_joined f fd) (Tx : Txt mg) {f_l_take : Addr} {fd_l_take : FuncData} (h_l_take : Gd P w K mg base 1 "_law_take" ["_law_d", "_law_many"] sp_l_take f_l_take fd_l_take) {f_l_walk : Addr} {fd_l_walk : FuncData} (h_l_walk : Gd P w K mg base 2 "_law_walk" ["_law_d", "_law_pieces", "_law_grain", "_law_start", "_law_size"] sp_l_walk f_l_walk fd_l_walk) :
    FnOk P w K mg base CX0 3 f fd ["_law_d", "_law_pieces", "_law_grain"] sp_l_joined := by
  refine F.ok sc_l_joined (fun xs H Q E h => ?_) (fun cdv A outer sh H xs Q E hr h => ?_)
  · obtain ⟨d, a, ps, g, rfl, hd, ha, pc, q⟩ := h
    rfl
  · obtain ⟨d, a, ps, g, rfl, hd, ha, pc, q⟩ := h
    have hu := hu16 hr
    refine ⟨_, (pss_cons (ps_set (i := 3) sc_l_joined.nd rfl (Or.inl rfl) (pe_lst pa_nil))
      (pss_cons (ps_set (i := 4) sc_l_joined.nd rfl (Or.inl rfl) (pe_callTy call_list_of (by rfl) Tx.m_list b_list (pa_cons (pv 1) pa_nil)))
      (pss_cons (ps_for PassesOwn.never rfl (pi_range1 (by rfl) Tx.m_range (pa_cons (pe_callB call_len_seq (by rfl) Tx.m_len b_len (pa_cons (pv 1) pa_nil)) pa_nil)) (pg_name (i := 5) sc_l_joined.nd rfl (Or.inl rfl)) (pss_cons (ps_set (i := 6) sc_l_joined.nd rfl (Or.inl rfl) (pcall h_l_take hr (by decide) (by rfl) (pa_cons (pv 0) (pa_cons (pe_callB call_len_seq (by rfl) Tx.m_len b_len (pa_cons (pv 4) pa_nil)) pa_nil))))
        (pss_cons (ps_expr (pe_bm PySem.F.plainAttrs_list PySem.F.slot_list_append PySem.F.type_list_append mt_append (pv 3) (pa_cons (pe_ix ix_list (pv 4) (pv 6) (fun _ _ => rfl)) pa_nil)))
        (pss_one (ps_set (i := 4) sc_l_joined.nd rfl (Or.inl rfl) (pe_op op_cat (pe_slice sl_list (pv 4) po_none (po_some (pv 6))) (pe_slice sl_list (pv 4) (po_some (pe_op op_add (pv 6) pe_int)) po_none)))))))
      (pss_cons (ps_set (i := 7) sc_l_joined.nd rfl (Or.inr rfl) (pe_ix ix_list (pv 3) pe_int (fun _ _ => rfl)))
      (pss_cons (ps_for PassesOwn.never rfl (pi_list (pe_slice sl_list (pv 3) (po_some pe_int) po_none)) (pg_name (i := 8) sc_l_joined.nd rfl (Or.inr rfl)) (pss_cons (ps_set (i := 7) sc_l_joined.nd rfl (Or.inr rfl) (pcall h_l_walk hr (by decide) (by rfl) (pa_cons (pv 0) (pa_cons (pv 1) (pa_cons (pv 2) (pa_cons (pv 7) (pa_cons (pcall h_l_take hr (by decide) (by rfl) (pa_cons (pv 0) (pa_cons pe_int pa_nil))) pa_nil)))))))
        (pss_cons (ps_set (i := 9) sc_l_joined.nd rfl (Or.inl rfl) (pe_callB (call_min2 rfl) (by rfl) Tx.m_min b_min (pa_cons (pe_callB call_lenT (by rfl) Tx.m_len b_len (pa_cons (pv 7) pa_nil)) (pa_cons (pe_op op_sub (pe_callB call_lenT (by rfl) Tx.m_len b_len (pa_cons (pv 8) pa_nil)) pe_int) pa_nil))))
        (pss_cons (ps_setLc (i := 10) (own := [("_law_k", 5)]) (g := gName 5) rfl sc_l_joined.nd rfl rfl (sw_true rfl rfl rfl (by decide +kernel)) (pi_range1 (by rfl) Tx.m_range (pa_cons (pe_op op_add (pv 9) pe_int) pa_nil)) (blkOk_by (N := ["_law_d", "_law_pieces", "_law_grain", "_law_order", "_law_left", "_law_k", "_law_at", "_law_text_here", "_law_piece", "_law_n", "_law_found"]) (sc := defScope s_l_joined) (by decide +kernel)) (fun _ _ _ _ _ => pg_name (i := 5) sc_l_joined.nd rfl (Or.inl rfl)) (fun _ _ _ _ _ => (pts_one (pt_cmpR op_eqT (pe_slice sl_T (pv 7) (po_some (pe_op op_sub (pe_callB call_lenT (by rfl) Tx.m_len b_len (pa_cons (pv 7) pa_nil)) (pv 5))) po_none) (pe_slice sl_T (pv 8) po_none (po_some (pv 5))) (nomark _)))) (fun _ _ _ _ _ => (pv 5)))
        (pss_one (ps_set (i := 7) sc_l_joined.nd rfl (Or.inr rfl) (pe_op op_addT (pv 7) (pe_slice sl_T (pv 8) (po_some (pe_ix ix_list (pv 10) (pe_un un_neg pe_int) (fun _ _ => rfl))) po_none))))))))
      (pss_one (ps_ret (pv 7)))))))), ?_⟩
    have g0 := pc.g0
    have g1 := pc.g1
    have hn6 := pc.n
    have hpp : 0 < ps.length := List.length_pos_iff.mpr pc.ne
    refine ⟨Nat.zero_le _, fun o no => ?_⟩
    have nod := hd.ne no
    have sm1 : Same H (upd H o (.lst [])) := same_upd no
    refine ⟨_, rfl, a, _, rfl, .inr (SqT.of (sm1 _ _ ha)), fun L nL => ?_⟩
    have noL : o ≠ L := ne_of_none upd_same nL
    have nLd : L ≠ d := (hd.same sm1).ne nL
    have d1 : DD d H (upd (upd H o (.lst [])) L (.lst (ps.map vs))) := DD.same hd (sm1.trans (same_upd nL))
    have ha1 := d1.tup hd ha
    refine ⟨_, rfl, a, _, rfl, .inr (SqT.of ha1), _, rfl, by rw [List.length_map]; omega, by rw [List.length_map]; omega, ?_⟩
    rw [List.length_map, Int.toNat_natCast]
    refine for_range (lo := 0) (n := ps.length) (fun i σ H1 => ∃ (os ls : List T) (L : Addr) (v5 v6 : Option V), σ = [some (.ref d), some (.ref a), some (kint g), some (.ref o), some (.ref L), v5, v6, none, none, none, none] ∧ DD d H H1 ∧ H1 o = some (.lst (os.map vs)) ∧ H1 L = some (.lst (ls.map vs)) ∧ o ≠ L ∧ L ≠ d ∧
        os.length = i ∧ ls.length = ps.length - i ∧ (∀ p ∈ os, p ∈ ps) ∧ (∀ p ∈ ls, p ∈ ps))
      ⟨[], ps, L, none, none, rfl, d1, (upd_ne noL).trans upd_same, upd_same, noL, nLd, rfl, rfl, fun p hp => (nomatch hp), fun p hp => hp⟩ ?_ ?_
    · rintro i σ H1 hi ⟨os, ls, L, v5, v6, rfl, d1, ho1, hL1, noL, nLd, hosl, hlsl, hos, hls⟩
      have hlp : 0 < ls.length := by omega
      refine ⟨_, rfl, _, rfl, L, _, rfl, .inl (SqL.of hL1), d, ls.length, by rw [List.length_map]; rfl, d1.dr, hlp, by omega, fun H2 k dd2 hk => ?_⟩
      have d2 := d1.trans dd2
      have ho2 := dd2.fr _ _ nod ho1
      have hL2 := dd2.fr _ _ nLd hL1
      have hx : ls[k]? = some ls[k] := List.getElem?_eq_getElem hk
      generalize ls[k] = p at hx
      have hpm := hls p (List.mem_of_getElem? hx)
      refine ⟨_, rfl, .inl ⟨rfl, _, SqL.of ho2⟩, _, rfl, _, rfl, L, _, (k : Int), _, rfl, rfl, SqL.of hL2, at_nat rfl (map_at hx), o, _, _, rfl, rfl, ho2, szl (by rw [List.length_map]; omega), ?_⟩
      have d3 : DD d H (upd H2 o (.lst (os.map vs ++ [vs p]))) := d2.put hd no
      have ho3 : (upd H2 o (.lst (os.map vs ++ [vs p]))) o = some (.lst ((os ++ [p]).map vs)) := by
        rw [upd_same, List.map_append]
        rfl
      have hL3 : (upd H2 o (.lst (os.map vs ++ [vs p]))) L = some (.lst (ls.map vs)) := (upd_ne noL.symm).trans hL2
      generalize upd H2 o (.lst (os.map vs ++ [vs p])) = H3 at d3 ho3 hL3
      have e1 : (k : Int) + 1 = ((k + 1 : Nat) : Int) := by omega
      refine ⟨_, rfl, _, rfl, (k : Int), rfl, L, _, rfl, SqL.of hL3, fun x1 nx1 => ?_⟩
      rw [cutV_to]
      have nL1 : L ≠ x1 := ne_of_none hL3 nx1
      refine ⟨_, rfl, _, rfl, _, _, rfl, rfl, (k : Int) + 1, rfl, L, _, rfl, SqL.of ((upd_ne nL1).trans hL3), fun x2 nx2 => ?_⟩
      rw [e1, cutV_from]
      have n12 : x1 ≠ x2 := ne_of_none upd_same nx2
      refine ⟨x1, x2, _, _, rfl, rfl, (upd_ne n12).trans upd_same, upd_same, sz (by rw [List.length_take, List.length_drop, List.length_map]; omega), fun x3 nx3 => ?_⟩
      have no1 : o ≠ x1 := ne_of_none ho3 nx1
      have ho4 : (upd H3 x1 (.lst ((ls.map vs).take k))) o = some (.lst ((os ++ [p]).map vs)) := (upd_ne no1).trans ho3
      have no2 : o ≠ x2 := ne_of_none ho4 nx2
      have ho5 : (upd (upd H3 x1 (.lst ((ls.map vs).take k))) x2 (.lst ((ls.map vs).drop (k + 1)))) o = some (.lst ((os ++ [p]).map vs)) := (upd_ne no2).trans ho4
      have no3 : o ≠ x3 := ne_of_none ho5 nx3
      have d5 := ((d3.lay (o := .lst ((ls.map vs).take k)) nx1).lay (o := .lst ((ls.map vs).drop (k + 1))) nx2)
      refine ⟨os ++ [p], ls.take k ++ ls.drop (k + 1), x3, _, _, rfl, d5.lay nx3, (upd_ne no3).trans ho5, ?_, no3, d5.dr.ne nx3, by rw [List.length_append, hosl]; rfl, by rw [List.length_append, List.length_take, List.length_drop]; omega, fun y hy => ?_, fun y hy => ?_⟩
      · rw [upd_same, List.map_append, List.map_take, List.map_drop]
      · rcases List.mem_append.mp hy with z | z
        · exact hos y z
        · have : y = p := by simpa using z
          rw [this]
          exact hpm
      · rcases List.mem_append.mp hy with z | z
        · exact hls y (List.mem_of_mem_take z)
        · exact hls y (List.mem_of_mem_drop z)
    · rintro σ H1 ⟨os, ls, L, v5, v6, rfl, d1, ho1, hL1, noL, nLd, hosl, hlsl, hos, hls⟩
      have h0 : os[0]? = some os[0] := List.getElem?_eq_getElem (by omega)
      generalize os[0] = p0 at h0
      have hp0 := pc.l p0 (hos p0 (List.mem_of_getElem? h0))
      refine ⟨_, rfl, o, _, 0, _, rfl, rfl, SqL.of ho1, at_nat (j := 0) rfl (map_at h0), ?_⟩
      refine ⟨_, rfl, 1, rfl, o, _, rfl, SqL.of ho1, fun O nO => ?_⟩
      have ec1 : cutV (os.map vs) (some 1) none = (os.map vs).drop 1 := cutV_from _ 1
      rw [ec1]
      have nOd := d1.dr.ne nO
      have d2 := d1.lay (o := .lst ((os.map vs).drop 1)) nO
      have hO : (upd H1 O (.lst ((os.map vs).drop 1))) O = some (.lst ((os.drop 1).map vs)) := by
        rw [upd_same, List.map_drop]
      generalize upd H1 O (.lst ((os.map vs).drop 1)) = H2 at d2 hO
      refine ⟨O, rfl, ⟨_, SqL.of hO⟩, for_list (K := K) (a := O) (xs := (os.drop 1).map vs) (fun i σ H3 => ∃ (t : T) (v8 v9 v10 : Option V), σ = [some (.ref d), some (.ref a), some (kint g), some (.ref o), some (.ref L), v5, v6, some (vs t), v8, v9, v10] ∧ DD d H H3 ∧ H3 O = some (.lst ((os.drop 1).map vs)) ∧ t.length ≤ 9 + 12 * i)
        ⟨p0, none, none, none, rfl, d2, hO, by omega⟩ (fun i σ H3 _ ⟨_, _, _, _, _, _, e, _⟩ => SqL.of e) ?_ ?_⟩
      · rintro i x σ H3 hi ⟨t, v8, v9, v10, rfl, d3, hO3, htl⟩
        obtain ⟨p, hp, rfl⟩ := map_get hi
        have hi6 : i < 6 := by
          have := (List.getElem?_eq_some_iff.mp hp).1
          rw [List.length_drop] at this
          omega
        have hpl := pc.l p (hos p (List.mem_of_mem_drop (List.mem_of_getElem? hp)))
        have ha3 := d3.tup hd ha
        refine ⟨_, rfl, _, rfl, _, rfl, _, rfl, _, rfl, d, 4, rfl, d3.dr, by decide, by decide, fun H4 r dd4 hr4 => ?_⟩
        have ha4 := dd4.tup d3.dr ha3
        refine ⟨d, a, ps, g, t, r, rfl, dd4.dr, ha4, pc, by omega, by omega, fun H5 u dd5 hul => ?_⟩
        have d5 := (d3.trans dd4).trans dd5
        have hO5 := dd5.fr _ _ nOd (dd4.fr _ _ nOd hO3)
        -- n = min(len(text), len(piece) - 1)
        refine ⟨_, rfl, u, rfl, sz (by omega), _, rfl, p, rfl, sz (by omega), _, _, rfl, rfl, _, _, rfl, ?_⟩
        obtain ⟨m, em, hm1, hm2⟩ : ∃ m : Nat, (if (p.length : Int) - 1 < (u.length : Int) then (p.length : Int) - 1 else (u.length : Int)) = (m : Int) ∧ m ≤ u.length ∧ m + 1 ≤ p.length := by
          by_cases h : (p.length : Int) - 1 < (u.length : Int)
          · rw [if_pos h]
            exact ⟨p.length - 1, by omega, by omega, by omega⟩
          · rw [if_neg h]
            exact ⟨u.length, rfl, Nat.le_refl _, by omega⟩
        show gName 9 (V.int (if (p.length : Int) - 1 < (u.length : Int) then (p.length : Int) - 1 else (u.length : Int))) _ _ _
        rw [em]
        refine ⟨_, rfl, _, _, rfl, rfl, _, rfl, by omega, by omega, fun D hD => ?_⟩
        have e2 : ((m : Int) + 1).toNat = m + 1 := by omega
        rw [e2]
        have nOD : O ≠ D := ne_of_none hO5 hD
        refine lc_range (lo := 0) (n := m + 1) (fun i H6 => ∃ fs : List Nat, H6 = upd H5 D (.lst (fs.map kint)) ∧ fs.length ≤ i ∧ (0 < i → fs ≠ [])) ⟨[], rfl, Nat.le_refl _, fun z => absurd z (Nat.lt_irrefl _)⟩ ?_ ?_
        · rintro i H6 hi ⟨fs, rfl, hfl, hf0⟩
          have ei : V.int (0 + (i : Int)) = kint i := ki (by omega)
          rw [ei]
          have ec : cutL u (some ((u.length : Int) - (i : Int))) none = u.drop (u.length - i) := by
            have : (u.length : Int) - (i : Int) = ((u.length - i : Nat) : Int) := by omega
            rw [this, cut_from]
          refine ⟨rfl, _, rfl, _, rfl, u, rfl, sz (by omega), _, rfl, _, _, rfl, rfl, (u.length : Int) - (i : Int), rfl, u, rfl, sz (by omega), ?_⟩
          rw [ec]
          refine ⟨_, rfl, _, rfl, (i : Int), rfl, p, rfl, sz (by omega), ?_⟩
          rw [cut_to]
          refine ⟨_, _, rfl, rfl, _, rfl, ?_⟩
          by_cases e : u.drop (u.length - i) = p.take i
          · rw [decide_eq_true e]
            refine iteT ⟨_, rfl, _, upd_same, szl (by rw [List.length_map]; omega), fs ++ [i], ?_, by rw [List.length_append, List.length_singleton]; omega, fun _ => by simp⟩
            rw [upd_upd, List.map_append]
            rfl
          · rw [decide_eq_false e]
            refine iteF ⟨fs, rfl, by omega, fun _ => ?_⟩
            by_cases hi0 : i = 0
            · subst hi0
              exact absurd (by simp) e
            · exact hf0 (by omega)
        · rintro H6 ⟨fs, rfl, hfl, hf0⟩
          have hfn := hf0 (by omega)
          have hlast : (fs.map kint).getLast? = some (kint (fs.getLast hfn)) := by
            rw [List.getLast?_map, List.getLast?_eq_getLast hfn]
            rfl
          generalize fs.getLast hfn = f0 at hlast
          refine ⟨_, rfl, _, rfl, _, rfl, 1, rfl, D, _, -1, _, rfl, rfl, SqL.of upd_same, at_end hlast, (f0 : Int), rfl, p, rfl, sz (by omega), ?_⟩
          rw [cut_from]
          have hdl : (p.drop f0).length ≤ p.length := by
            rw [List.length_drop]
            omega
          refine ⟨u, p.drop f0, rfl, rfl, sz (by omega), u ++ p.drop f0, _, _, _, rfl, d5.lay hD, (upd_ne nOD).trans hO5, by rw [List.length_append]; omega⟩
      · rintro σ H3 ⟨t, v8, v9, v10, rfl, d3, hO3, htl⟩
        rw [List.length_map, List.length_drop] at htl
        exact ⟨_, rfl, q _ _ d3 (by omega)⟩

theorem ok_law {f : Addr} {fd : FuncData} (F : Fun K "law" "law" s_law f fd) (Tx : Txt mg) {f_l_begin : Addr} {fd_l_begin : FuncData} (h_l_begin : Gd P w K mg base 1 "_law_begin" ["_law_script"] (sp_l_begin K) f_l_begin fd_l_begin) {f_l_shards : Addr} {fd_l_shards : FuncData} (h_l_shards : Gd P w K mg base 4 "_law_shards" ["_law_d", "_law_shape"] sp_l_shards f_l_shards fd_l_shards) {f_l_word : Addr} {fd_l_word : FuncData} (h_l_word : Gd P w K mg base 3 "_law_word" ["_law_d", "_law_pieces", "_law_text_here", "_law_signs_here", "_law_most"] sp_l_word f_l_word fd_l_word) {f_decide : Addr} {fd_decide : FuncData} (h_decide : Gd P w K mg base 6 "decide" ["pieces", "grain", "word", "shape"] sp_decide f_decide fd_decide) {f_l_explains : Addr} {fd_l_explains : FuncData} (h_l_explains : Gd P w K mg base 2 "_law_explains" ["_law_pieces", "_law_grain", "_law_text_here", "_law_shape"] sp_l_explains f_l_explains fd_l_explains) {f_l_text : Addr} {fd_l_text : FuncData} (h_l_text : Gd P w K mg base 2 "_law_text" ["_law_d", "_law_signs_here", "_law_size"] sp_l_text f_l_text fd_l_text) {f_l_take : Addr} {fd_l_take : FuncData} (h_l_take : Gd P w K mg base 1 "_law_take" ["_law_d", "_law_many"] sp_l_take f_l_take fd_l_take) {f_l_walk : Addr} {fd_l_walk : FuncData} (h_l_walk : Gd P w K mg base 2 "_law_walk" ["_law_d", "_law_pieces", "_law_grain", "_law_start", "_law_size"] sp_l_walk f_l_walk fd_l_walk) {f_l_joined : Addr} {fd_l_joined : FuncData} (h_l_joined : Gd P w K mg base 3 "_law_joined" ["_law_d", "_law_pieces", "_law_grain"] sp_l_joined f_l_joined fd_l_joined) {f_example : Addr} {fd_example : FuncData} (h_example : Gd P w K mg base 6 "example" ["pieces", "grain", "shape"] sp_example f_example fd_example) :
    FnOk P w K mg base CX0 7 f fd ["_law_script"] (sp_law K) := by
  refine F.ok sc_law (fun xs H Q E h => ?_) (fun cdv A outer sh H xs Q E hr h => ?_)
  · obtain ⟨a, ns, rfl, hS, h63, q⟩ := h
    rfl
  · obtain ⟨a, ns, rfl, hS, h63, q⟩ := h
    have hu := hu16 hr
    refine ⟨_, (pss_cons (ps_set (i := 1) sc_law.nd rfl (Or.inl rfl) (pcall h_l_begin hr (by decide) (by rfl) (pa_cons (pv 0) pa_nil)))
      (pss_cons (ps_asg (pcall h_l_shards hr (by decide) (by rfl) (pa_cons (pv 1) (pa_cons pe_str pa_nil))) (pg_tup (by rfl) (pgs_cons (pg_name (i := 2) sc_law.nd rfl (Or.inl rfl)) (pgs_cons (pg_name (i := 3) sc_law.nd rfl (Or.inl rfl)) (pgs_cons (pg_name (i := 4) sc_law.nd rfl (Or.inl rfl)) (pgs_cons (pg_name (i := 5) sc_law.nd rfl (Or.inl rfl)) pgs_nil))))))
      (pss_cons (ps_set (i := 6) sc_law.nd rfl (Or.inl rfl) (pcall h_l_word hr (by decide) (by rfl) (pa_cons (pv 1) (pa_cons (pv 2) (pa_cons (pv 4) (pa_cons (pv 5) (pa_cons pe_int pa_nil)))))))
      (pss_cons (ps_asg (pcall h_decide hr (by decide) (by rfl) (pa_cons (pv 2) (pa_cons (pv 3) (pa_cons (pv 6) (pa_cons pe_str pa_nil))))) (pg_tup (by rfl) (pgs_cons (pg_name (i := 7) sc_law.nd rfl (Or.inl rfl)) (pgs_cons (pg_name (i := 8) sc_law.nd rfl (Or.inl rfl)) pgs_nil))))
      (pss_cons (ps_if (pt_cmpR op_eqT (pv 7) pe_str (nomark _)) (pss_one (ps_ret (pe_and (pcall h_l_explains hr (by decide) (by rfl) (pa_cons (pv 2) (pa_cons (pv 3) (pa_cons (pv 8) (pa_cons pe_str pa_nil))))) (pe_one (pe_cmpR op_notSubT (pv 6) (pv 8) (by rfl)))))) pss_nil)
      (pss_cons (ps_if (pt_cmpR op_neT (pv 7) pe_str (nomark _)) (pss_one (ps_ret pe_bl)) pss_nil)
      (pss_cons (ps_set (i := 9) sc_law.nd rfl (Or.inl rfl) (pe_lst (pa_cons (pv 4) (pa_cons (pcall h_l_text hr (by decide) (by rfl) (pa_cons (pv 1) (pa_cons (pv 5) (pa_cons (pe_op op_add pe_int (pcall h_l_take hr (by decide) (by rfl) (pa_cons (pv 1) (pa_cons pe_int pa_nil)))) pa_nil)))) (pa_cons (pcall h_l_walk hr (by decide) (by rfl) (pa_cons (pv 1) (pa_cons (pv 2) (pa_cons (pv 3) (pa_cons (pv 4) (pa_cons pe_int pa_nil)))))) pa_nil)))))
      (pss_cons (ps_for PassesOwn.never rfl (pi_range1 (by rfl) Tx.m_range (pa_cons pe_int pa_nil)) (pg_name (i := 10) sc_law.nd rfl (Or.inl rfl)) (pss_cons (ps_set (i := 11) sc_law.nd rfl (Or.inl rfl) (pcall h_l_joined hr (by decide) (by rfl) (pa_cons (pv 1) (pa_cons (pv 2) (pa_cons (pv 3) pa_nil)))))
        (pss_one (ps_set (i := 9) sc_law.nd rfl (Or.inl rfl) (pe_op op_cat (pv 9) (pe_lst (pa_cons (pv 11) (pa_cons (pcall h_l_walk hr (by decide) (by rfl) (pa_cons (pv 1) (pa_cons (pv 2) (pa_cons (pv 3) (pa_cons (pv 11) (pa_cons (pcall h_l_take hr (by decide) (by rfl) (pa_cons (pv 1) (pa_cons pe_int pa_nil))) pa_nil)))))) pa_nil))))))))
      (pss_cons (ps_for PassesOwn.never rfl (pi_range1 (by rfl) Tx.m_range (pa_cons pe_int pa_nil)) (pg_name (i := 10) sc_law.nd rfl (Or.inl rfl)) (pss_cons (ps_set (i := 12) sc_law.nd rfl (Or.inl rfl) (pcall h_l_walk hr (by decide) (by rfl) (pa_cons (pv 1) (pa_cons (pv 2) (pa_cons (pv 3) (pa_cons (pe_ix ix_tup (pv 2) (pcall h_l_take hr (by decide) (by rfl) (pa_cons (pv 1) (pa_cons (pe_callB call_len_seq (by rfl) Tx.m_len b_len (pa_cons (pv 2) pa_nil)) pa_nil))) (fun _ _ => rfl)) (pa_cons (pcall h_l_take hr (by decide) (by rfl) (pa_cons (pv 1) (pa_cons pe_int pa_nil))) pa_nil)))))))
        (pss_one (ps_expr (pe_bm PySem.F.plainAttrs_list PySem.F.slot_list_append PySem.F.type_list_append mt_append (pv 9) (pa_cons (pcall h_l_walk hr (by decide) (by rfl) (pa_cons (pv 1) (pa_cons (pv 2) (pa_cons (pv 3) (pa_cons (pv 12) (pa_cons pe_int pa_nil)))))) pa_nil))))))
      (pss_cons (ps_set (i := 13) sc_law.nd rfl (Or.inl rfl) (pcall h_example hr (by decide) (by rfl) (pa_cons (pv 2) (pa_cons (pv 3) (pa_cons pe_str pa_nil)))))
      (pss_cons (ps_if (pt_cmpR op_notN (pv 13) pe_non (nomark _)) (pss_one (ps_expr (pe_bm PySem.F.plainAttrs_list PySem.F.slot_list_append PySem.F.type_list_append mt_append (pv 9) (pa_cons (pv 13) pa_nil)))) pss_nil)
      (pss_cons (ps_for PassesOwn.never rfl (pi_list (pv 9)) (pg_name (i := 14) sc_law.nd rfl (Or.inl rfl)) (pss_one (ps_if (PW.pt (pw_and (pt_val (pcall h_l_explains hr (by decide) (by rfl) (pa_cons (pv 2) (pa_cons (pv 3) (pa_cons (pv 14) (pa_cons pe_str pa_nil)))))) (pw_and1 (pt_cmpR op_notSubT (pv 6) (pv 14) (by rfl))))) (pss_one (ps_ret pe_bl)) pss_nil)))
      (pss_one (ps_ret pe_bl)))))))))))))), ?_⟩
    have e1 : decide (lst "always" = lst "lacking") = false := by decide +kernel
    refine ⟨_, rfl, a, ns, rfl, hS, h63, fun H1 d sm1 hd0 hd => ?_⟩
    refine ⟨_, rfl, d, rfl, hd, fun H2 p pa ps g t l d2 hp hpa pc ht0 ht9 hl0 hl1 => ⟨p, _, rfl, SqT.of hp, rfl, _, _, rfl, _, _, rfl, _, _, rfl, _, _, rfl, rfl, ?_⟩⟩
    have g0 := pc.g0
    have hn6 := pc.n
    have hpp : 0 < ps.length := List.length_pos_iff.mpr pc.ne
    refine ⟨_, rfl, _, rfl, _, rfl, _, rfl, d, pa, ps, t, l, rfl, d2.dr, hpa, pc.ne, hn6, fun y hy => ⟨by have := (pc.l y hy).1; omega, (pc.l y hy).2⟩, ht0, ht9, hl0, hl1, fun H3 wd dd3 hw0 hw8 => ?_⟩
    have d3 := d2.trans dd3
    have hpa3 := dd3.tup d2.dr hpa
    refine ⟨_, rfl, _, rfl, _, rfl, pa, ps, g, wd, rfl, hpa3, pc, hw0, hw8, fun H4 r sm4 hdec => ?_⟩
    have d4 := d3.to sm4
    have hpa4 := sm4 _ _ hpa3
    rcases hdec with ⟨u, hr, hex, hnw, hul⟩ | ⟨v, hr, hal⟩
    · -- lacking
      refine ⟨r, _, rfl, SqT.of hr, rfl, _, _, rfl, _, _, rfl, rfl, ?_⟩
      refine ⟨_, rfl, lst "lacking", lst "lacking", rfl, rfl, _, rfl, ?_⟩
      rw [decide_eq_true rfl]
      refine iteT ⟨_, rfl, _, rfl, _, rfl, pa, ps, g, u, rfl, hpa4, pc, by omega, fun H5 k sm5 hk => ⟨k, rfl, ?_⟩⟩
      rw [hk.mpr hex]
      refine iteT ⟨_, rfl, _, rfl, wd, u, rfl, rfl, fun k2 hk2 => ?_⟩
      rw [hk2.mpr hnw]
      exact q H5
    · -- always
      refine ⟨r, _, rfl, SqT.of hr, rfl, _, _, rfl, _, _, rfl, rfl, ?_⟩
      refine ⟨_, rfl, lst "always", lst "lacking", rfl, rfl, _, rfl, ?_⟩
      rw [e1]
      refine iteF ⟨_, rfl, lst "always", lst "always", rfl, rfl, _, rfl, ?_⟩
      rw [decide_eq_true rfl]
      refine iteF ?_
      -- the lines
      refine ⟨_, rfl, _, rfl, _, rfl, _, rfl, d, 8, rfl, d4.dr, by decide, by decide, fun H5 r5 dd5 hr5 => ⟨_, _, rfl, rfl, ?_⟩⟩
      have d5 := d4.trans dd5
      have hpa5 := dd5.tup d4.dr hpa4
      have e5 : V.int (1 + (r5 : Int)) = kint (1 + r5) := ki (by omega)
      refine ⟨d, l, 1 + r5, congrArg (fun z => [V.ref d, vs l, z]) e5, d5.dr, hl0, hl1, by omega, fun H6 u6 dd6 hu6 => ?_⟩
      have d6 := d5.trans dd6
      have hpa6 := dd6.tup d5.dr hpa5
      refine ⟨_, rfl, _, rfl, _, rfl, _, rfl, d, pa, ps, g, t, 5, rfl, d6.dr, hpa6, pc, by omega, by decide, fun H7 u7 dd7 hu7 => ⟨by show 3 ≤ sizeLine; decide, fun x nx => ?_⟩⟩
      have d7 := d6.trans dd7
      have hpa7 := dd7.tup d6.dr hpa6
      have L0 : Lns H1 (upd H7 x (.lst [vs t, vs u6, vs u7])) d x pa ps 3 [t, u6, u7] := ⟨d7.lay nx, d7.none nx, d7.dr.ne nx, upd_same, (upd_ne (ne_of_none hpa7 nx)).trans hpa7, Nat.le_refl 3, fun y hy => by
        rcases List.mem_cons.mp hy with rfl | hy
        · omega
        · rcases List.mem_cons.mp hy with rfl | hy
          · omega
          · have : y = u7 := by simpa using hy
            rw [this]
            omega⟩
      generalize upd H7 x (.lst [vs t, vs u6, vs u7]) = H8 at L0
      refine ⟨5, rfl, by decide, by decide, ?_⟩
      refine for_range (lo := 0) (n := 5) (fun i σ H9 => ∃ (x : Addr) (ls : List T) (v10 v11 : Option V), σ = [some (.ref a), some (.ref d), some (.ref pa), some (kint g), some (vs t), some (vs l), some (vs wd), some (vs (lst "always")), some v, some (.ref x), v10, v11, none, none, none] ∧ Lns H1 H9 d x pa ps (3 + 2 * i) ls)
        ⟨x, [t, u6, u7], none, none, rfl, L0⟩ ?_ ?_
      · rintro i σ H9 hi ⟨x, ls, v10, v11, rfl, L⟩
        refine ⟨_, rfl, _, rfl, _, rfl, d, pa, ps, g, rfl, L.dd.dr, L.pa, pc, fun H10 u10 dd10 hu10 => ?_⟩
        have L10 := L.go dd10
        refine ⟨_, rfl, _, rfl, _, rfl, _, rfl, _, rfl, _, rfl, _, rfl, d, 6, rfl, L10.dd.dr, by decide, by decide, fun H11 r11 dd11 hr11 => ?_⟩
        have L11 := L10.go dd11
        refine ⟨d, pa, ps, g, u10, r11, rfl, L11.dd.dr, L11.pa, pc, by omega, by omega, fun H12 u12 dd12 hu12 => ⟨by show 2 ≤ sizeLine; decide, fun y ny => ?_⟩⟩
        have L12 := L11.go dd12
        have nxy : x ≠ y := ne_of_none L12.at' ny
        have hf := L12.few
        refine ⟨x, y, _, _, rfl, rfl, (upd_ne nxy).trans L12.at', upd_same, sz (by rw [List.length_map]; show ls.length + 2 ≤ _; omega), fun z nz => ?_⟩
        have dz := (L12.dd.lay (o := .lst [vs u10, vs u12]) ny)
        have hpz : (upd H12 y (.lst [vs u10, vs u12])) pa = some (.tup (ps.map vs)) := (upd_ne (ne_of_none L12.pa ny)).trans L12.pa
        refine ⟨z, ls ++ [u10, u12], _, _, rfl, dz.lay nz, dz.none nz, dz.dr.ne nz, ?_, (upd_ne (ne_of_none hpz nz)).trans hpz, by rw [List.length_append]; show ls.length + 2 ≤ _; omega, fun y' hy' => ?_⟩
        · rw [upd_same, List.map_append]
          rfl
        · rcases List.mem_append.mp hy' with e | e
          · exact L12.len y' e
          · rcases List.mem_cons.mp e with rfl | e
            · omega
            · have : y' = u12 := by simpa using e
              rw [this]
              omega
      · rintro σ H9 ⟨x, ls, v10, v11, rfl, L⟩
        refine ⟨3, rfl, by decide, by decide, ?_⟩
        refine for_range (lo := 0) (n := 3) (fun i σ H9 => ∃ (ls : List T) (v10 v12 : Option V), σ = [some (.ref a), some (.ref d), some (.ref pa), some (kint g), some (vs t), some (vs l), some (vs wd), some (vs (lst "always")), some v, some (.ref x), v10, v11, v12, none, none] ∧ Lns H1 H9 d x pa ps (13 + i) ls)
          ⟨ls, v10, none, rfl, L⟩ ?_ ?_
        · rintro i σ H9 hi ⟨ls, v10, v12, rfl, L⟩
          refine ⟨_, rfl, _, rfl, _, rfl, _, rfl, _, rfl, _, rfl, pa, _, rfl, .inr (SqT.of L.pa), d, ps.length, by rw [List.length_map]; rfl, L.dd.dr, hpp, by omega, fun H10 k dd10 hk => ?_⟩
          have L10 := L.go dd10
          have hx : ps[k]? = some ps[k] := List.getElem?_eq_getElem hk
          generalize ps[k] = p1 at hx
          have hpl := pc.l p1 (List.mem_of_getElem? hx)
          refine ⟨pa, _, (k : Int), _, rfl, rfl, SqT.of L10.pa, at_nat rfl (map_at hx), _, rfl, d, 8, rfl, L10.dd.dr, by decide, by decide, fun H11 r11 dd11 hr11 => ?_⟩
          have L11 := L10.go dd11
          refine ⟨d, pa, ps, g, p1, r11, rfl, L11.dd.dr, L11.pa, pc, by omega, by omega, fun H12 u12 dd12 hu12 => ?_⟩
          have L12 := L11.go dd12
          refine ⟨_, rfl, .inl ⟨rfl, _, SqL.of L12.at'⟩, _, rfl, _, rfl, _, rfl, _, rfl, d, pa, ps, g, u12, 20, rfl, L12.dd.dr, L12.pa, pc, by omega, by decide, fun H13 u13 dd13 hu13 => ?_⟩
          have L13 := L12.go dd13
          have hf := L13.few
          refine ⟨x, _, _, rfl, rfl, L13.at', szl (by rw [List.length_map]; omega), ls ++ [u13], _, _, rfl, ?_⟩
          have := L13.add hd (y := u13) (by omega)
          exact ⟨this.dd, this.x0, this.nx, this.at', this.pa, by have := this.few; omega, this.len⟩
        · rintro σ H9 ⟨ls, v10, v12, rfl, L⟩
          refine ⟨_, rfl, _, rfl, pa, ps, g, rfl, L.pa, pc, fun H10 ex sm10 hex => ?_⟩
          have L10 := L.to sm10
          have hf := L10.few
          rcases hex with rfl | ⟨t2, rfl, ht2⟩
          · refine ⟨_, rfl, rfl, _, rfl, ?_⟩
            rw [decide_eq_true rfl]
            refine iteF ?_
            have L11 : Lns H1 H10 d x pa ps 17 ls := ⟨L10.dd, L10.x0, L10.nx, L10.at', L10.pa, by omega, L10.len⟩
            generalize V.non = ex
            -- for line in lines
            refine ⟨_, rfl, x, rfl, ⟨_, SqL.of L11.at'⟩, for_list (K := K) (a := x) (xs := ls.map vs) (fun i σ H12 => ∃ v14 : Option V, σ = [some (.ref a), some (.ref d), some (.ref pa), some (kint g), some (vs t), some (vs l), some (vs wd), some (vs (lst "always")), some v, some (.ref x), v10, v11, v12, some ex, v14] ∧ Lns H1 H12 d x pa ps 17 ls)
              ⟨none, rfl, L11⟩ (fun i σ H12 _ ⟨_, _, L⟩ => SqL.of L.at') ?_ ?_⟩
            · rintro i y σ H12 hi ⟨v14, rfl, L⟩
              obtain ⟨y, hy, rfl⟩ := map_get hi
              have hyl := L.len y (List.mem_of_getElem? hy)
              refine ⟨_, rfl, _, rfl, _, rfl, pa, ps, g, y, rfl, L.pa, pc, by omega, fun H13 k sm13 hk => ⟨k, rfl, ?_⟩⟩
              have L13 := L.to sm13
              cases k with
              | false => exact iteF (iteF ⟨_, rfl, L13⟩)
              | true =>
                refine iteT ⟨_, rfl, _, rfl, wd, y, rfl, rfl, fun k2 hk2 => ⟨k2, rfl, ?_⟩⟩
                have hw := hal y (hk.mp rfl)
                cases k2 with
                | false => exact iteF ⟨_, rfl, L13⟩
                | true => exact absurd hw (hk2.mp rfl)
            · rintro σ H12 ⟨v14, rfl, L⟩
              exact q H12
          · refine ⟨_, rfl, rfl, _, rfl, ?_⟩
            rw [decide_eq_false (fun z => V.noConfusion z)]
            refine iteT ⟨_, rfl, .inl ⟨rfl, _, SqL.of L10.at'⟩, _, rfl, x, _, _, rfl, rfl, L10.at', szl (by rw [List.length_map]; omega), ?_⟩
            have L11 : Lns H1 (upd H10 x (.lst (ls.map vs ++ [vs t2]))) d x pa ps 17 (ls ++ [t2]) := L10.add hd ht2
            generalize upd H10 x (.lst (ls.map vs ++ [vs t2])) = H11 at L11
            generalize ls ++ [t2] = ls at L11
            obtain ⟨ex, hex⟩ : ∃ ex : V, ex = vs t2 := ⟨_, rfl⟩
            rw [← hex]
            -- for line in lines
            refine ⟨_, rfl, x, rfl, ⟨_, SqL.of L11.at'⟩, for_list (K := K) (a := x) (xs := ls.map vs) (fun i σ H12 => ∃ v14 : Option V, σ = [some (.ref a), some (.ref d), some (.ref pa), some (kint g), some (vs t), some (vs l), some (vs wd), some (vs (lst "always")), some v, some (.ref x), v10, v11, v12, some ex, v14] ∧ Lns H1 H12 d x pa ps 17 ls)
              ⟨none, rfl, L11⟩ (fun i σ H12 _ ⟨_, _, L⟩ => SqL.of L.at') ?_ ?_⟩
            · rintro i y σ H12 hi ⟨v14, rfl, L⟩
              obtain ⟨y, hy, rfl⟩ := map_get hi
              have hyl := L.len y (List.mem_of_getElem? hy)
              refine ⟨_, rfl, _, rfl, _, rfl, pa, ps, g, y, rfl, L.pa, pc, by omega, fun H13 k sm13 hk => ⟨k, rfl, ?_⟩⟩
              have L13 := L.to sm13
              cases k with
              | false => exact iteF (iteF ⟨_, rfl, L13⟩)
              | true =>
                refine iteT ⟨_, rfl, _, rfl, wd, y, rfl, rfl, fun k2 hk2 => ⟨k2, rfl, ?_⟩⟩
                have hw := hal y (hk.mp rfl)
                cases k2 with
                | false => exact iteF ⟨_, rfl, L13⟩
                | true => exact absurd hw (hk2.mp rfl)
            · rintro σ H12 ⟨v14, rfl, L⟩
              exact q H12

end
end TX

namespace TX
open PySem PySem.Spec PyProof.Rows L2
/-! ### the end: what the top has left -/
/-- a def stands at f -/
def DefAt (K : PySem.W.Frag) (x : Str) (qual : Str) (st : Stmt) (f : Addr) : Prop := ∃ (oc : Value) (od an : Option Addr) (sl : Array (Option Value)) (kV dc pm cd ct : Value),
  PySem.W.nsIn K mainGlobals x = some (some (.ref f)) ∧ K.lookup f = some ⟨oc, od, .func (PySem.W.fnOf x qual (defArgs st) (defBody st) (defScope st) .none kV dc pm an cd ct), sl⟩ ∧ PySem.W.codeIn K cd qual = true ∧ PySem.W.keepIn K (.ref f) = true
theorem defAt {K : PySem.W.Frag} {x qual : Str} {st : Stmt} {f : Addr} {oc : Value} {od an : Option Addr} {sl : Array (Option Value)} {kV dc pm cd ct : Value}
    (a : PySem.W.nsIn K mainGlobals x = some (some (.ref f))) (l : K.lookup f = some ⟨oc, od, .func (PySem.W.fnOf x qual (defArgs st) (defBody st) (defScope st) .none kV dc pm an cd ct), sl⟩) (c : PySem.W.codeIn K cd qual = true) (k : PySem.W.keepIn K (.ref f) = true) : DefAt K x qual st f :=
  ⟨oc, od, an, sl, kV, dc, pm, cd, ct, a, l, c, k⟩
theorem DefAt.fun' {K : PySem.W.Frag} {x qual : Str} {st : Stmt} {f : Addr} (h : DefAt K x qual st f) : ∃ fd, Fun K x qual st f fd := by
  obtain ⟨oc, od, an, sl, kV, dc, pm, cd, ct, a, l, c, k⟩ := h
  exact ⟨_, fun_mk l c k⟩
theorem DefAt.ns {K : PySem.W.Frag} {x qual : Str} {st : Stmt} {f : Addr} (h : DefAt K x qual st f) : PySem.W.nsIn K mainGlobals x = some (some (.ref f)) := by
  obtain ⟨oc, od, an, sl, kV, dc, pm, cd, ct, a, l, c, k⟩ := h
  exact a
theorem gd_mk {P : Program} {w : World} {K : PySem.W.Frag} {mg : Str → Option Value} {base : Heap} {h : Heap} {k : Nat} {x : Str} {ps : List Str} {sp : Sp} {f : Addr} {fd : FuncData} {st : Stmt} (X : K.In h) (G : h.Ns mainGlobals mg) (d : DefAt K x x st f) (F : Fun K x x st f fd) (ok : FnOk P w K mg base CX0 k f fd ps sp)
    (b : Binds K fd ps []) : Gd P w K mg base k x ps sp f fd := ⟨ok, PySem.W.mg_of X G d.ns, F.kp, b⟩
theorem all_mk {l : PySem.W.OpenLaw} {w : World} {K : PySem.W.Frag} {h : Heap} {mg : Str → Option Value} {fa f0 f1 f2 f3 f4 f5 f6 f7 f8 f9 f10 f11 f12 f13 f14 f15 f16 f17 f18 f19 f20 f21 f22 f23 f24 f25 f26 f27 f28 f29 f30 f31 : Addr} {t_GRAIN_LIMIT t_PIECE_LIMIT t_LETTER_LIMIT t_WORD_LIMIT t_LINE_LIMIT t_NOWHERE : Tok} (X : K.In h) (G : h.Ns mainGlobals mg) (hfa : mg "law" = some (.ref fa))
    (d0 : DefAt K "check_shards" "check_shards" s_check_shards f0)
    (d1 : DefAt K "check_shape" "check_shape" s_check_shape f1)
    (d2 : DefAt K "window_list" "window_list" s_window_list f2)
    (d3 : DefAt K "gram_list" "gram_list" s_gram_list f3)
    (d4 : DefAt K "following" "following" s_following f4)
    (d5 : DefAt K "advance" "advance" s_advance f5)
    (d6 : DefAt K "check_word" "check_word" s_check_word f6)
    (d7 : DefAt K "check_line" "check_line" s_check_line f7)
    (d8 : DefAt K "tail_after" "tail_after" s_tail_after f8)
    (d9 : DefAt K "state_after" "state_after" s_state_after f9)
    (d10 : DefAt K "first_list" "first_list" s_first_list f10)
    (d11 : DefAt K "line_way_of" "line_way_of" s_line_way_of f11)
    (d12 : DefAt K "line_decision" "line_decision" s_line_decision f12)
    (d13 : DefAt K "decided" "decided" s_decided f13)
    (d14 : DefAt K "check_question" "check_question" s_check_question f14)
    (d15 : DefAt K "decide" "decide" s_decide f15)
    (d16 : DefAt K "example" "example" s_example f16)
    (d17 : DefAt K "_law_begin" "_law_begin" s_l_begin f17)
    (d18 : DefAt K "_law_take" "_law_take" s_l_take f18)
    (d19 : DefAt K "_law_letters" "_law_letters" s_l_letters f19)
    (d20 : DefAt K "_law_signs" "_law_signs" s_l_signs f20)
    (d21 : DefAt K "_law_text" "_law_text" s_l_text f21)
    (d22 : DefAt K "_law_rich" "_law_rich" s_l_rich f22)
    (d23 : DefAt K "_law_round" "_law_round" s_l_round f23)
    (d24 : DefAt K "_law_windows" "_law_windows" s_l_windows f24)
    (d25 : DefAt K "_law_explains" "_law_explains" s_l_explains f25)
    (d26 : DefAt K "_law_cut" "_law_cut" s_l_cut f26)
    (d27 : DefAt K "_law_shards" "_law_shards" s_l_shards f27)
    (d28 : DefAt K "_law_word" "_law_word" s_l_word f28)
    (d29 : DefAt K "_law_walk" "_law_walk" s_l_walk f29)
    (d30 : DefAt K "_law_joined" "_law_joined" s_l_joined f30)
    (d31 : DefAt K "law" "law" s_law f31)
    (z_len : PySem.W.nsIn K mainGlobals "len" = some none) (z_abs : PySem.W.nsIn K mainGlobals "abs" = some none) (z_min : PySem.W.nsIn K mainGlobals "min" = some none) (z_max : PySem.W.nsIn K mainGlobals "max" = some none) (z_all : PySem.W.nsIn K mainGlobals "all" = some none) (z_sorted : PySem.W.nsIn K mainGlobals "sorted" = some none) (z_int : PySem.W.nsIn K mainGlobals "int" = some none) (z_list : PySem.W.nsIn K mainGlobals "list" = some none) (z_tuple : PySem.W.nsIn K mainGlobals "tuple" = some none) (z_range : PySem.W.nsIn K mainGlobals "range" = some none)
    (y_GRAIN_LIMIT : PySem.W.nsIn K mainGlobals "GRAIN_LIMIT" = some (some (.int 12 t_GRAIN_LIMIT))) (y_PIECE_LIMIT : PySem.W.nsIn K mainGlobals "PIECE_LIMIT" = some (some (.int 40 t_PIECE_LIMIT))) (y_LETTER_LIMIT : PySem.W.nsIn K mainGlobals "LETTER_LIMIT" = some (some (.int 60 t_LETTER_LIMIT))) (y_WORD_LIMIT : PySem.W.nsIn K mainGlobals "WORD_LIMIT" = some (some (.int 60 t_WORD_LIMIT))) (y_LINE_LIMIT : PySem.W.nsIn K mainGlobals "LINE_LIMIT" = some (some (.int 8 t_LINE_LIMIT))) (y_NOWHERE : PySem.W.nsIn K mainGlobals "NOWHERE" = some (some (.str (Str.ofString " ") t_NOWHERE))) :
    ∃ fd : FuncData, (∀ (s : Shared) (v : Value), BindsTo s fd ⟨[v], []⟩ [("_law_script", v)]) ∧ ∀ base : Heap, K.In base → base.Ns mainGlobals mg → FnOk l.prog w K mg base CX0 7 fa fd ["_law_script"] (sp_law K) := by
  have e := hfa.symm.trans (PySem.W.mg_of X G d31.ns)
  cases e
  have Tx : Txt mg := ⟨PySem.W.mg_none_of X G z_len, PySem.W.mg_none_of X G z_abs, PySem.W.mg_none_of X G z_min, PySem.W.mg_none_of X G z_max, PySem.W.mg_none_of X G z_all, PySem.W.mg_none_of X G z_sorted, PySem.W.mg_none_of X G z_int, PySem.W.mg_none_of X G z_list, PySem.W.mg_none_of X G z_tuple, PySem.W.mg_none_of X G z_range, ⟨t_GRAIN_LIMIT, PySem.W.mg_of X G y_GRAIN_LIMIT⟩, ⟨t_PIECE_LIMIT, PySem.W.mg_of X G y_PIECE_LIMIT⟩, ⟨t_LETTER_LIMIT, PySem.W.mg_of X G y_LETTER_LIMIT⟩, ⟨t_WORD_LIMIT, PySem.W.mg_of X G y_WORD_LIMIT⟩, ⟨t_LINE_LIMIT, PySem.W.mg_of X G y_LINE_LIMIT⟩, ⟨t_NOWHERE, (PySem.W.mg_of X G y_NOWHERE).trans (by rw [show (Str.ofString " ") = S [32] by decide +kernel])⟩⟩
  obtain ⟨fd0, F0⟩ := d0.fun'
  have b0 := F0.binds (ps := ["pieces", "grain"]) fun _ _ _ _ _ _ us hl => match us, hl with | [_, _], _ => rfl
  obtain ⟨fd1, F1⟩ := d1.fun'
  have b1 := F1.binds (ps := ["shape"]) fun _ _ _ _ _ _ us hl => match us, hl with | [_], _ => rfl
  obtain ⟨fd2, F2⟩ := d2.fun'
  have b2 := F2.binds (ps := ["pieces", "grain"]) fun _ _ _ _ _ _ us hl => match us, hl with | [_, _], _ => rfl
  obtain ⟨fd3, F3⟩ := d3.fun'
  have b3 := F3.binds (ps := ["windows"]) fun _ _ _ _ _ _ us hl => match us, hl with | [_], _ => rfl
  obtain ⟨fd4, F4⟩ := d4.fun'
  have b4 := F4.binds (ps := ["windows", "gram"]) fun _ _ _ _ _ _ us hl => match us, hl with | [_, _], _ => rfl
  obtain ⟨fd5, F5⟩ := d5.fun'
  have b5 := F5.binds (ps := ["word", "matched", "letter"]) fun _ _ _ _ _ _ us hl => match us, hl with | [_, _, _], _ => rfl
  obtain ⟨fd6, F6⟩ := d6.fun'
  have b6 := F6.binds (ps := ["word"]) fun _ _ _ _ _ _ us hl => match us, hl with | [_], _ => rfl
  obtain ⟨fd7, F7⟩ := d7.fun'
  have b7 := F7.binds (ps := ["pieces"]) fun _ _ _ _ _ _ us hl => match us, hl with | [_], _ => rfl
  obtain ⟨fd8, F8⟩ := d8.fun'
  have b8 := F8.binds (ps := ["pieces", "tail", "letter"]) fun _ _ _ _ _ _ us hl => match us, hl with | [_, _, _], _ => rfl
  obtain ⟨fd9, F9⟩ := d9.fun'
  have b9 := F9.binds (ps := ["pieces", "word", "state", "letter"]) fun _ _ _ _ _ _ us hl => match us, hl with | [_, _, _, _], _ => rfl
  obtain ⟨fd10, F10⟩ := d10.fun'
  have b10 := F10.binds (ps := ["pieces", "windows", "word"]) fun _ _ _ _ _ _ us hl => match us, hl with | [_, _, _], _ => rfl
  obtain ⟨fd11, F11⟩ := d11.fun'
  have b11 := F11.binds (ps := ["pieces", "windows", "word", "state", "letter"]) fun _ _ _ _ _ _ us hl => match us, hl with | [_, _, _, _, _], _ => rfl
  obtain ⟨fd12, F12⟩ := d12.fun'
  have b12 := F12.binds (ps := ["pieces", "windows", "word"]) fun _ _ _ _ _ _ us hl => match us, hl with | [_, _, _], _ => rfl
  obtain ⟨fd13, F13⟩ := d13.fun'
  have b13 := F13.binds (ps := ["pieces", "grain", "word", "shape"]) fun _ _ _ _ _ _ us hl => match us, hl with | [_, _, _, _], _ => rfl
  obtain ⟨fd14, F14⟩ := d14.fun'
  have b14 := F14.binds (ps := ["pieces", "grain", "shape"]) fun _ _ _ _ _ _ us hl => match us, hl with | [_, _, _], _ => rfl
  obtain ⟨fd15, F15⟩ := d15.fun'
  have b15 := F15.binds (ps := ["pieces", "grain", "word", "shape"]) fun _ _ _ _ _ _ us hl => match us, hl with | [_, _, _, _], _ => rfl
  obtain ⟨fd16, F16⟩ := d16.fun'
  have b16 := F16.binds (ps := ["pieces", "grain", "shape"]) fun _ _ _ _ _ _ us hl => match us, hl with | [_, _, _], _ => rfl
  obtain ⟨fd17, F17⟩ := d17.fun'
  have b17 := F17.binds (ps := ["_law_script"]) fun _ _ _ _ _ _ us hl => match us, hl with | [_], _ => rfl
  obtain ⟨fd18, F18⟩ := d18.fun'
  have b18 := F18.binds (ps := ["_law_d", "_law_many"]) fun _ _ _ _ _ _ us hl => match us, hl with | [_, _], _ => rfl
  obtain ⟨fd19, F19⟩ := d19.fun'
  have b19 := F19.binds (ps := []) fun _ _ _ _ _ _ us hl => match us, hl with | [], _ => rfl
  obtain ⟨fd20, F20⟩ := d20.fun'
  have b20 := F20.binds (ps := ["_law_d"]) fun _ _ _ _ _ _ us hl => match us, hl with | [_], _ => rfl
  obtain ⟨fd21, F21⟩ := d21.fun'
  have b21 := F21.binds (ps := ["_law_d", "_law_signs_here", "_law_size"]) fun _ _ _ _ _ _ us hl => match us, hl with | [_, _, _], _ => rfl
  obtain ⟨fd22, F22⟩ := d22.fun'
  have b22 := F22.binds (ps := ["_law_d", "_law_signs_here", "_law_size"]) fun _ _ _ _ _ _ us hl => match us, hl with | [_, _, _], _ => rfl
  obtain ⟨fd23, F23⟩ := d23.fun'
  have b23 := F23.binds (ps := ["_law_circle", "_law_start", "_law_count"]) fun _ _ _ _ _ _ us hl => match us, hl with | [_, _, _], _ => rfl
  obtain ⟨fd24, F24⟩ := d24.fun'
  have b24 := F24.binds (ps := ["_law_pieces", "_law_grain"]) fun _ _ _ _ _ _ us hl => match us, hl with | [_, _], _ => rfl
  obtain ⟨fd25, F25⟩ := d25.fun'
  have b25 := F25.binds (ps := ["_law_pieces", "_law_grain", "_law_text_here", "_law_shape"]) fun _ _ _ _ _ _ us hl => match us, hl with | [_, _, _, _], _ => rfl
  obtain ⟨fd26, F26⟩ := d26.fun'
  have b26 := F26.binds (ps := ["_law_d", "_law_text_here", "_law_grain", "_law_shape", "_law_many"]) fun _ _ _ _ _ _ us hl => match us, hl with | [_, _, _, _, _], _ => rfl
  obtain ⟨fd27, F27⟩ := d27.fun'
  have b27 := F27.binds (ps := ["_law_d", "_law_shape"]) fun _ _ _ _ _ _ us hl => match us, hl with | [_, _], _ => rfl
  obtain ⟨fd28, F28⟩ := d28.fun'
  have b28 := F28.binds (ps := ["_law_d", "_law_pieces", "_law_text_here", "_law_signs_here", "_law_most"]) fun _ _ _ _ _ _ us hl => match us, hl with | [_, _, _, _, _], _ => rfl
  obtain ⟨fd29, F29⟩ := d29.fun'
  have b29 := F29.binds (ps := ["_law_d", "_law_pieces", "_law_grain", "_law_start", "_law_size"]) fun _ _ _ _ _ _ us hl => match us, hl with | [_, _, _, _, _], _ => rfl
  obtain ⟨fd30, F30⟩ := d30.fun'
  have b30 := F30.binds (ps := ["_law_d", "_law_pieces", "_law_grain"]) fun _ _ _ _ _ _ us hl => match us, hl with | [_, _, _], _ => rfl
  obtain ⟨oc, od, an, sl, kV, dc, pm, cd, ct, _, la, ca, ka⟩ := d31
  refine ⟨PySem.W.fnOf "law" "law" (defArgs s_law) (defBody s_law) (defScope s_law) .none kV dc pm an cd ct, fun s v => .of_eq rfl, fun base _ _ => ?_⟩
  have h_check_shards : Gd l.prog w K mg base 1 "check_shards" ["pieces", "grain"] sp_check_shards f0 fd0 := gd_mk X G d0 F0 (ok_check_shards F0 Tx ) b0
  have h_check_shape : Gd l.prog w K mg base 1 "check_shape" ["shape"] sp_check_shape f1 fd1 := gd_mk X G d1 F1 (ok_check_shape F1 Tx ) b1
  have h_window_list : Gd l.prog w K mg base 1 "window_list" ["pieces", "grain"] sp_window_list f2 fd2 := gd_mk X G d2 F2 (ok_window_list F2 Tx ) b2
  have h_gram_list : Gd l.prog w K mg base 1 "gram_list" ["windows"] sp_gram_list f3 fd3 := gd_mk X G d3 F3 (ok_gram_list F3 Tx ) b3
  have h_following : Gd l.prog w K mg base 1 "following" ["windows", "gram"] sp_following f4 fd4 := gd_mk X G d4 F4 (ok_following F4 Tx ) b4
  have h_advance : Gd l.prog w K mg base 1 "advance" ["word", "matched", "letter"] sp_advance f5 fd5 := gd_mk X G d5 F5 (ok_advance F5 Tx ) b5
  have h_check_word : Gd l.prog w K mg base 1 "check_word" ["word"] sp_check_word f6 fd6 := gd_mk X G d6 F6 (ok_check_word F6 Tx ) b6
  have h_check_line : Gd l.prog w K mg base 1 "check_line" ["pieces"] sp_check_line f7 fd7 := gd_mk X G d7 F7 (ok_check_line F7 Tx ) b7
  have h_tail_after : Gd l.prog w K mg base 1 "tail_after" ["pieces", "tail", "letter"] sp_tail_after f8 fd8 := gd_mk X G d8 F8 (ok_tail_after F8 Tx ) b8
  have h_state_after : Gd l.prog w K mg base 2 "state_after" ["pieces", "word", "state", "letter"] sp_state_after f9 fd9 := gd_mk X G d9 F9 (ok_state_after F9 Tx h_advance h_tail_after) b9
  have h_first_list : Gd l.prog w K mg base 3 "first_list" ["pieces", "windows", "word"] sp_first_list f10 fd10 := gd_mk X G d10 F10 (ok_first_list F10 Tx h_gram_list h_state_after) b10
  have h_line_way_of : Gd l.prog w K mg base 3 "line_way_of" ["pieces", "windows", "word", "state", "letter"] sp_line_way_of f11 fd11 := gd_mk X G d11 F11 (ok_line_way_of F11 Tx h_following h_state_after) b11
  have h_line_decision : Gd l.prog w K mg base 4 "line_decision" ["pieces", "windows", "word"] sp_line_decision f12 fd12 := gd_mk X G d12 F12 (ok_line_decision F12 Tx h_first_list h_following h_line_way_of) b12
  have h_decided : Gd l.prog w K mg base 5 "decided" ["pieces", "grain", "word", "shape"] sp_decided f13 fd13 := gd_mk X G d13 F13 (ok_decided F13 Tx h_window_list h_line_decision) b13
  have h_check_question : Gd l.prog w K mg base 2 "check_question" ["pieces", "grain", "shape"] sp_check_question f14 fd14 := gd_mk X G d14 F14 (ok_check_question F14 Tx h_check_shards h_check_shape) b14
  have h_decide : Gd l.prog w K mg base 6 "decide" ["pieces", "grain", "word", "shape"] sp_decide f15 fd15 := gd_mk X G d15 F15 (ok_decide F15 Tx h_check_question h_check_word h_check_line h_decided) b15
  have h_example : Gd l.prog w K mg base 6 "example" ["pieces", "grain", "shape"] sp_example f16 fd16 := gd_mk X G d16 F16 (ok_example F16 Tx h_check_question h_check_line h_decided) b16
  have h_l_begin : Gd l.prog w K mg base 1 "_law_begin" ["_law_script"] (sp_l_begin K) f17 fd17 := gd_mk X G d17 F17 (ok_l_begin F17 Tx ) b17
  have h_l_take : Gd l.prog w K mg base 1 "_law_take" ["_law_d", "_law_many"] sp_l_take f18 fd18 := gd_mk X G d18 F18 (ok_l_take F18 Tx ) b18
  have h_l_letters : Gd l.prog w K mg base 1 "_law_letters" [] sp_l_letters f19 fd19 := gd_mk X G d19 F19 (ok_l_letters F19 Tx ) b19
  have h_l_signs : Gd l.prog w K mg base 2 "_law_signs" ["_law_d"] sp_l_signs f20 fd20 := gd_mk X G d20 F20 (ok_l_signs F20 Tx h_l_take h_l_letters) b20
  have h_l_text : Gd l.prog w K mg base 2 "_law_text" ["_law_d", "_law_signs_here", "_law_size"] sp_l_text f21 fd21 := gd_mk X G d21 F21 (ok_l_text F21 Tx h_l_take) b21
  have h_l_rich : Gd l.prog w K mg base 3 "_law_rich" ["_law_d", "_law_signs_here", "_law_size"] sp_l_rich f22 fd22 := gd_mk X G d22 F22 (ok_l_rich F22 Tx h_l_text h_l_take) b22
  have h_l_round : Gd l.prog w K mg base 1 "_law_round" ["_law_circle", "_law_start", "_law_count"] sp_l_round f23 fd23 := gd_mk X G d23 F23 (ok_l_round F23 Tx ) b23
  have h_l_windows : Gd l.prog w K mg base 1 "_law_windows" ["_law_pieces", "_law_grain"] sp_l_windows f24 fd24 := gd_mk X G d24 F24 (ok_l_windows F24 Tx ) b24
  have h_l_explains : Gd l.prog w K mg base 2 "_law_explains" ["_law_pieces", "_law_grain", "_law_text_here", "_law_shape"] sp_l_explains f25 fd25 := gd_mk X G d25 F25 (ok_l_explains F25 Tx h_l_windows) b25
  have h_l_cut : Gd l.prog w K mg base 2 "_law_cut" ["_law_d", "_law_text_here", "_law_grain", "_law_shape", "_law_many"] sp_l_cut f26 fd26 := gd_mk X G d26 F26 (ok_l_cut F26 Tx h_l_take h_l_round) b26
  have h_l_shards : Gd l.prog w K mg base 4 "_law_shards" ["_law_d", "_law_shape"] sp_l_shards f27 fd27 := gd_mk X G d27 F27 (ok_l_shards F27 Tx h_l_signs h_l_take h_l_rich h_l_cut h_l_text) b27
  have h_l_word : Gd l.prog w K mg base 3 "_law_word" ["_law_d", "_law_pieces", "_law_text_here", "_law_signs_here", "_law_most"] sp_l_word f28 fd28 := gd_mk X G d28 F28 (ok_l_word F28 Tx h_l_take h_l_text h_l_round) b28
  have h_l_walk : Gd l.prog w K mg base 2 "_law_walk" ["_law_d", "_law_pieces", "_law_grain", "_law_start", "_law_size"] sp_l_walk f29 fd29 := gd_mk X G d29 F29 (ok_l_walk F29 Tx h_l_windows h_l_take) b29
  have h_l_joined : Gd l.prog w K mg base 3 "_law_joined" ["_law_d", "_law_pieces", "_law_grain"] sp_l_joined f30 fd30 := gd_mk X G d30 F30 (ok_l_joined F30 Tx h_l_take h_l_walk) b30
  exact ok_law (fun_mk (st := s_law) la ca ka) Tx h_l_begin h_l_shards h_l_word h_decide h_l_explains h_l_text h_l_take h_l_walk h_l_joined h_example
end TX
open PySem PySem.W PyProof.Rows
set_option maxRecDepth 100000 in
set_option maxHeartbeats 0 in
theorem PySem.Challenge.cw_textshards_k24_whole_certain_on_every_li_holds : PySem.Challenge.rw_textshards_k24_whole_certain_on_every_li.Holds := by
  w_on; o_law; k_head; (case hw => w_witness2)
  k_fill
  refine L2.walk_of (l := PySem.Challenge.rw_textshards_k24_whole_certain_on_every_li) (n := 63) (k := 7) (x := "_law_script") (CX := fun _ => L2.CX0) (sp := fun w => TX.sp_law _) rfl (by decide) rfl ⟨rfl, by decide, by decide⟩ (fun w h Y => PySem.W.kIn_of Y) ?F (fun _ _ a ns hl _ hS => ⟨a, ns, rfl, hS, hl, fun _ => rfl⟩) (fun _ _ _ _ _ h => h)
  case F =>
    intro w mg fa h KX G hmg
    refine' TX.all_mk KX G hmg (TX.defAt ?a0 ?l0 ?c0 ?k0) (TX.defAt ?a1 ?l1 ?c1 ?k1) (TX.defAt ?a2 ?l2 ?c2 ?k2) (TX.defAt ?a3 ?l3 ?c3 ?k3) (TX.defAt ?a4 ?l4 ?c4 ?k4) (TX.defAt ?a5 ?l5 ?c5 ?k5) (TX.defAt ?a6 ?l6 ?c6 ?k6) (TX.defAt ?a7 ?l7 ?c7 ?k7) (TX.defAt ?a8 ?l8 ?c8 ?k8) (TX.defAt ?a9 ?l9 ?c9 ?k9) (TX.defAt ?a10 ?l10 ?c10 ?k10) (TX.defAt ?a11 ?l11 ?c11 ?k11) (TX.defAt ?a12 ?l12 ?c12 ?k12) (TX.defAt ?a13 ?l13 ?c13 ?k13) (TX.defAt ?a14 ?l14 ?c14 ?k14) (TX.defAt ?a15 ?l15 ?c15 ?k15) (TX.defAt ?a16 ?l16 ?c16 ?k16) (TX.defAt ?a17 ?l17 ?c17 ?k17) (TX.defAt ?a18 ?l18 ?c18 ?k18) (TX.defAt ?a19 ?l19 ?c19 ?k19) (TX.defAt ?a20 ?l20 ?c20 ?k20) (TX.defAt ?a21 ?l21 ?c21 ?k21) (TX.defAt ?a22 ?l22 ?c22 ?k22) (TX.defAt ?a23 ?l23 ?c23 ?k23) (TX.defAt ?a24 ?l24 ?c24 ?k24) (TX.defAt ?a25 ?l25 ?c25 ?k25) (TX.defAt ?a26 ?l26 ?c26 ?k26) (TX.defAt ?a27 ?l27 ?c27 ?k27) (TX.defAt ?a28 ?l28 ?c28 ?k28) (TX.defAt ?a29 ?l29 ?c29 ?k29) (TX.defAt ?a30 ?l30 ?c30 ?k30) (TX.defAt ?a31 ?l31 ?c31 ?k31) ?z_len ?z_abs ?z_min ?z_max ?z_all ?z_sorted ?z_int ?z_list ?z_tuple ?z_range ?y_GRAIN_LIMIT ?y_PIECE_LIMIT ?y_LETTER_LIMIT ?y_WORD_LIMIT ?y_LINE_LIMIT ?y_NOWHERE
    (case a0 => k_is)
    (case l0 => k_is)
    (case c0 => k_is)
    (case k0 => k_is)
    (case a1 => k_is)
    (case l1 => k_is)
    (case c1 => k_is)
    (case k1 => k_is)
    (case a2 => k_is)
    (case l2 => k_is)
    (case c2 => k_is)
    (case k2 => k_is)
    (case a3 => k_is)
    (case l3 => k_is)
    (case c3 => k_is)
    (case k3 => k_is)
    (case a4 => k_is)
    (case l4 => k_is)
    (case c4 => k_is)
    (case k4 => k_is)
    (case a5 => k_is)
    (case l5 => k_is)
    (case c5 => k_is)
    (case k5 => k_is)
    (case a6 => k_is)
    (case l6 => k_is)
    (case c6 => k_is)
    (case k6 => k_is)
    (case a7 => k_is)
    (case l7 => k_is)
    (case c7 => k_is)
    (case k7 => k_is)
    (case a8 => k_is)
    (case l8 => k_is)
    (case c8 => k_is)
    (case k8 => k_is)
    (case a9 => k_is)
    (case l9 => k_is)
    (case c9 => k_is)
    (case k9 => k_is)
    (case a10 => k_is)
    (case l10 => k_is)
    (case c10 => k_is)
    (case k10 => k_is)
    (case a11 => k_is)
    (case l11 => k_is)
    (case c11 => k_is)
    (case k11 => k_is)
    (case a12 => k_is)
    (case l12 => k_is)
    (case c12 => k_is)
    (case k12 => k_is)
    (case a13 => k_is)
    (case l13 => k_is)
    (case c13 => k_is)
    (case k13 => k_is)
    (case a14 => k_is)
    (case l14 => k_is)
    (case c14 => k_is)
    (case k14 => k_is)
    (case a15 => k_is)
    (case l15 => k_is)
    (case c15 => k_is)
    (case k15 => k_is)
    (case a16 => k_is)
    (case l16 => k_is)
    (case c16 => k_is)
    (case k16 => k_is)
    (case a17 => k_is)
    (case l17 => k_is)
    (case c17 => k_is)
    (case k17 => k_is)
    (case a18 => k_is)
    (case l18 => k_is)
    (case c18 => k_is)
    (case k18 => k_is)
    (case a19 => k_is)
    (case l19 => k_is)
    (case c19 => k_is)
    (case k19 => k_is)
    (case a20 => k_is)
    (case l20 => k_is)
    (case c20 => k_is)
    (case k20 => k_is)
    (case a21 => k_is)
    (case l21 => k_is)
    (case c21 => k_is)
    (case k21 => k_is)
    (case a22 => k_is)
    (case l22 => k_is)
    (case c22 => k_is)
    (case k22 => k_is)
    (case a23 => k_is)
    (case l23 => k_is)
    (case c23 => k_is)
    (case k23 => k_is)
    (case a24 => k_is)
    (case l24 => k_is)
    (case c24 => k_is)
    (case k24 => k_is)
    (case a25 => k_is)
    (case l25 => k_is)
    (case c25 => k_is)
    (case k25 => k_is)
    (case a26 => k_is)
    (case l26 => k_is)
    (case c26 => k_is)
    (case k26 => k_is)
    (case a27 => k_is)
    (case l27 => k_is)
    (case c27 => k_is)
    (case k27 => k_is)
    (case a28 => k_is)
    (case l28 => k_is)
    (case c28 => k_is)
    (case k28 => k_is)
    (case a29 => k_is)
    (case l29 => k_is)
    (case c29 => k_is)
    (case k29 => k_is)
    (case a30 => k_is)
    (case l30 => k_is)
    (case c30 => k_is)
    (case k30 => k_is)
    (case a31 => k_is)
    (case l31 => k_is)
    (case c31 => k_is)
    (case k31 => k_is)
    (case z_len => k_is)
    (case z_abs => k_is)
    (case z_min => k_is)
    (case z_max => k_is)
    (case z_all => k_is)
    (case z_sorted => k_is)
    (case z_int => k_is)
    (case z_list => k_is)
    (case z_tuple => k_is)
    (case z_range => k_is)
    (case y_GRAIN_LIMIT => k_is)
    (case y_PIECE_LIMIT => k_is)
    (case y_LETTER_LIMIT => k_is)
    (case y_WORD_LIMIT => k_is)
    (case y_LINE_LIMIT => k_is)
    (case y_NOWHERE => k_is)

