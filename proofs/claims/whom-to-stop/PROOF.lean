import PyProof.Rows.All
import Wide.All
import OpenK.AllK
import Wide.FinOn
import HandS.ForMost
import HandS.ForExc
import HandS.ExcInit
import HandS.ExcField
import HandS.TryMany
import HandS.Lambda
import HandS.EndTab
import HandS.DictComp
import HandS.ListItems
import HandS.TupAny
import HandS.IsInst
import HandS.Conv
import HandS.More
import HandS.Style
import HandS.NoneIn
import HandS.Zip
import HandS.SortOrd
import HandS.CallSlots
import HandS.Wide
import HandS.Walk
import KE.SortData
import KE.SortKeyHeap
import PySem.Challenge.RW_farfolder_k79_whole_whom_to_stop
import KE.GoesMore
import KE.GoesComp
import HandS.Keys
import PyProof.Draws
import PyProof.EnumMake
import PyProof.Rows.TupDisplay
/-! Lists in strict order, choices, least sets. Plain Lean. -/
namespace WM
set_option linter.all false
/-- a strict total order as a test -/
structure LO {α : Type} (lt : α → α → Bool) : Prop where
  irr : ∀ a, lt a a = false
  tr : ∀ a b c, lt a b = true → lt b c = true → lt a c = true
  tot : ∀ a b, lt a b = false → lt b a = false → a = b
theorem LO.asym {α : Type} {lt : α → α → Bool} (o : LO lt) {a b : α} (h : lt a b = true) : lt b a = false := by
  cases e : lt b a with
  | false => rfl
  | true => exact absurd (o.tr _ _ _ h e) (by rw [o.irr]; decide)
theorem LO.ne {α : Type} {lt : α → α → Bool} (o : LO lt) {a b : α} (h : lt a b = true) : a ≠ b := by
  intro e
  subst e
  rw [o.irr] at h
  cases h
/-- ascending -/
abbrev Asc {α : Type} (lt : α → α → Bool) (l : List α) : Prop := l.Pairwise (fun a b => lt a b = true)
section
variable {α : Type} {lt : α → α → Bool}
theorem Asc.nodup (o : LO lt) {l : List α} (h : Asc lt l) : l.Nodup :=
  List.Pairwise.imp (fun z => o.ne z) h
/-- two ascending lists of the same things are one -/
theorem Asc.ext (o : LO lt) : ∀ {l m : List α}, Asc lt l → Asc lt m → (∀ x, x ∈ l ↔ x ∈ m) → l = m
  | [], [], _, _, _ => rfl
  | [], y :: m, _, _, h => absurd ((h y).2 List.mem_cons_self) (by simp)
  | x :: l, [], _, _, h => absurd ((h x).1 List.mem_cons_self) (by simp)
  | x :: l, y :: m, hl, hm, h => by
    replace hl := List.pairwise_cons.1 hl
    replace hm := List.pairwise_cons.1 hm
    have e : x = y := by
      have h1 := (h x).1 List.mem_cons_self
      have h2 := (h y).2 List.mem_cons_self
      rw [List.mem_cons] at h1 h2
      rcases h1 with h1 | h1
      · exact h1
      · rcases h2 with h2 | h2
        · exact h2.symm
        · exact absurd (o.tr _ _ _ (hl.1 y h2) (hm.1 x h1)) (by rw [o.irr]; decide)
    subst e
    have hx : x ∉ l := fun z => absurd (hl.1 x z) (by rw [o.irr]; decide)
    have hy : x ∉ m := fun z => absurd (hm.1 x z) (by rw [o.irr]; decide)
    have e2 : l = m := Asc.ext o hl.2 hm.2 fun z => by
      have := h z
      rw [List.mem_cons, List.mem_cons] at this
      constructor
      · intro hz
        rcases this.1 (.inr hz) with q | q
        · exact absurd (q ▸ hz) hx
        · exact q
      · intro hz
        rcases this.2 (.inr hz) with q | q
        · exact absurd (q ▸ hz) hy
        · exact q
    rw [e2]
theorem Asc.filter {l : List α} (h : Asc lt l) (p : α → Bool) : Asc lt (l.filter p) := List.Pairwise.filter p h
theorem Asc.perm_eq (o : LO lt) {l m : List α} (h : Asc lt l) (h' : Asc lt m) (p : l.Perm m) : l = m :=
  Asc.ext o h h' fun _ => p.mem_iff
/-- a set within another of the same size -/
theorem nodup_len [DecidableEq α] : ∀ {l m : List α}, l.Nodup → (∀ x ∈ l, x ∈ m) → l.length ≤ m.length
  | [], _, _, _ => Nat.zero_le _
  | x :: l, m, h, s => by
    rw [List.nodup_cons] at h
    have hx : x ∈ m := s x List.mem_cons_self
    have := nodup_len (l := l) (m := m.erase x) h.2 fun y hy => by
      have hy' : y ∈ m := s y (List.mem_cons_of_mem _ hy)
      exact (List.mem_erase_of_ne (fun (e : y = x) => h.1 (e ▸ hy))).2 hy'
    rw [List.length_erase_of_mem hx] at this
    have : 0 < m.length := List.length_pos_of_mem hx
    simp only [List.length_cons]
    omega
theorem nodup_eq_len [DecidableEq α] {l m : List α} (h : l.Nodup) (s : ∀ x ∈ l, x ∈ m) (e : m.length ≤ l.length) : ∀ x ∈ m, x ∈ l := by
  intro x hx
  apply Classical.byContradiction
  intro hn
  have := nodup_len (l := x :: l) (m := m) (List.nodup_cons.2 ⟨hn, h⟩) fun y hy => by
    rcases List.mem_cons.1 hy with rfl | q
    · exact hx
    · exact s y q
  simp only [List.length_cons] at this
  omega
end
/-! ### the order of choices -/
section
variable {α : Type} [DecidableEq α] (lt : α → α → Bool)
def lexB : List α → List α → Bool
  | [], [] => false
  | [], _ :: _ => true
  | _ :: _, [] => false
  | x :: xs, y :: ys => if x = y then lexB xs ys else lt x y
def clt (s t : List α) : Bool := decide (s.length < t.length) || (decide (s.length = t.length) && lexB lt s t)
variable {lt}
theorem lexB_lo (o : LO lt) : LO (lexB lt) where
  irr := by
    intro a
    induction a with
    | nil => rfl
    | cons x xs ih => simp only [lexB, if_true, ih]
  tr := by
    intro a
    induction a with
    | nil =>
      intro b c h1 h2
      cases b with
      | nil => simp [lexB] at h1
      | cons y ys =>
        cases c with
        | nil => simp [lexB] at h2
        | cons z zs => rfl
    | cons x xs ih =>
      intro b c h1 h2
      cases b with
      | nil => simp [lexB] at h1
      | cons y ys =>
        cases c with
        | nil => simp [lexB] at h2
        | cons z zs =>
          simp only [lexB] at h1 h2 ⊢
          by_cases e1 : x = y
          · subst e1
            rw [if_pos rfl] at h1
            by_cases e2 : x = z
            · subst e2
              rw [if_pos rfl] at h2 ⊢
              exact ih _ _ h1 h2
            · rw [if_neg e2] at h2 ⊢
              exact h2
          · rw [if_neg e1] at h1
            by_cases e2 : y = z
            · subst e2
              rw [if_neg e1]
              exact h1
            · rw [if_neg e2] at h2
              have := o.tr _ _ _ h1 h2
              rw [if_neg (o.ne this)]
              exact this
  tot := by
    intro a
    induction a with
    | nil =>
      intro b h1 h2
      cases b with
      | nil => rfl
      | cons y ys => simp [lexB] at h1
    | cons x xs ih =>
      intro b h1 h2
      cases b with
      | nil => simp [lexB] at h2
      | cons y ys =>
        simp only [lexB] at h1 h2
        by_cases e : x = y
        · subst e
          rw [if_pos rfl] at h1 h2
          rw [ih _ h1 h2]
        · rw [if_neg e] at h1
          rw [if_neg (fun z => e z.symm)] at h2
          exact absurd (o.tot _ _ h1 h2) e
theorem clt_lo (o : LO lt) : LO (clt lt) where
  irr := by
    intro a
    simp [clt, (lexB_lo o).irr]
  tr := by
    intro a b c h1 h2
    simp only [clt, Bool.or_eq_true, Bool.and_eq_true, decide_eq_true_eq] at h1 h2 ⊢
    rcases h1 with h1 | ⟨h1, h1'⟩ <;> rcases h2 with h2 | ⟨h2, h2'⟩
    · left; omega
    · left; omega
    · left; omega
    · right; exact ⟨by omega, (lexB_lo o).tr _ _ _ h1' h2'⟩
  tot := by
    intro a b h1 h2
    simp only [clt, Bool.or_eq_false_iff, Bool.and_eq_false_iff, decide_eq_false_iff_not] at h1 h2
    obtain ⟨h1, h1'⟩ := h1
    obtain ⟨h2, h2'⟩ := h2
    have e : a.length = b.length := by omega
    refine (lexB_lo o).tot a b ?_ ?_
    · rcases h1' with q | q
      · exact absurd e q
      · exact q
    · rcases h2' with q | q
      · exact absurd e.symm q
      · exact q
/-- a proper part stands ahead -/
theorem clt_part (o : LO lt) {s t : List α} (hs : Asc lt s) (ht : Asc lt t) (h : ∀ x ∈ s, x ∈ t) (hn : s ≠ t) : clt lt s t = true := by
  have h1 := nodup_len (hs.nodup o) h
  have h2 : ¬ t.length ≤ s.length := fun z => hn (Asc.ext o hs ht fun x => ⟨h x, nodup_eq_len (hs.nodup o) h z x⟩)
  simp only [clt, Bool.or_eq_true, decide_eq_true_eq]
  left
  omega
end
/-! ### least ones -/
theorem snocInd {β : Type} {P : List β → Prop} (h0 : P []) (h1 : ∀ l x, P l → P (l ++ [x])) (l : List β) : P l := by
  have : ∀ n (l : List β), l.length = n → P l := by
    intro n
    induction n with
    | zero => intro l e; rw [List.length_eq_zero_iff.1 e]; exact h0
    | succ n ih =>
      intro l e
      have hne : l ≠ [] := fun z => by subst z; simp at e
      rw [← List.dropLast_concat_getLast hne]
      exact h1 _ _ (ih _ (by rw [List.length_dropLast]; omega))
  exact this _ l rfl
section
variable {α : Type} [DecidableEq α] {lt : α → α → Bool}
def isPart (s t : List α) : Bool := s.all fun x => decide (x ∈ t)
theorem isPart_iff {s t : List α} : isPart s t = true ↔ ∀ x ∈ s, x ∈ t := by
  simp [isPart, List.all_eq_true]
def leastStep (f : List (List α)) (s : List α) : List (List α) := if (f.any fun e => isPart e s) = true then f else f ++ [s]
def leastOf (L : List (List α)) : List (List α) := L.foldl leastStep []
/-- least in L -/
def Least (P : List α → Prop) (s : List α) : Prop := P s ∧ ∀ t, P t → (∀ x ∈ t, x ∈ s) → t = s
theorem leastOf_snoc (L : List (List α)) (s : List α) : leastOf (L ++ [s]) = leastStep (leastOf L) s := by
  unfold leastOf
  rw [List.foldl_append]
  rfl
theorem asc_snoc {β : Type} {r : β → β → Bool} {l : List β} {x : β} : Asc r (l ++ [x]) ↔ Asc r l ∧ ∀ y ∈ l, r y x = true := by
  unfold Asc
  rw [List.pairwise_append]
  constructor
  · rintro ⟨h, _, k⟩
    exact ⟨h, fun y hy => k y hy x (by simp)⟩
  · rintro ⟨h, k⟩
    refine ⟨h, by simp, fun y hy z hz => ?_⟩
    rw [List.mem_singleton] at hz
    subst hz
    exact k y hy
theorem leastOf_ok (o : LO lt) : ∀ (L : List (List α)), Asc (clt lt) L → (∀ s ∈ L, Asc lt s) →
    (∀ s, s ∈ leastOf L ↔ Least (· ∈ L) s) ∧ (∀ s ∈ L, ∃ r ∈ leastOf L, ∀ x ∈ r, x ∈ s) ∧ Asc (clt lt) (leastOf L) := by
  intro L
  induction L using snocInd with
  | h0 => intro _ _; exact ⟨fun s => by simp [leastOf, Least], by simp, by simp [leastOf]⟩
  | h1 L s ih =>
    intro hL hA
    rw [asc_snoc] at hL
    obtain ⟨hL, hs⟩ := hL
    obtain ⟨i1, i2, i3⟩ := ih hL fun t ht => hA t (by simp [ht])
    have as : Asc lt s := hA s (by simp)
    have co := clt_lo o
    have sub : ∀ t, t ∈ leastOf L → t ∈ L := fun t ht => ((i1 t).1 ht).1
    -- what was least is least still
    have old : ∀ t, t ∈ leastOf L ↔ (t ∈ L ∧ Least (· ∈ L ++ [s]) t) := by
      intro t
      rw [i1]
      constructor
      · rintro ⟨h1, h2⟩
        refine ⟨h1, by simp [h1], fun u hu hut => ?_⟩
        rcases List.mem_append.1 hu with q | q
        · exact h2 u q hut
        · rw [List.mem_singleton] at q
          subst q
          apply Classical.byContradiction
          intro hne
          have c1 := clt_part o as (hA t (by simp [h1])) hut hne
          have c2 := hs t h1
          rw [co.asym c1] at c2
          cases c2
      · rintro ⟨h1, _, h2⟩
        exact ⟨h1, fun u hu hut => h2 u (by simp [hu]) hut⟩
    have ns : s ∉ L := fun z => by
      have := hs s z
      rw [co.irr] at this
      cases this
    rw [leastOf_snoc]
    unfold leastStep
    by_cases c : ((leastOf L).any fun e => isPart e s) = true
    · rw [if_pos c]
      rw [List.any_eq_true] at c
      obtain ⟨r, hr, hrs⟩ := c
      rw [isPart_iff] at hrs
      refine ⟨fun t => ?_, fun t ht => ?_, i3⟩
      · rw [old]
        constructor
        · exact fun h => h.2
        · rintro ⟨h1, h2⟩
          refine ⟨?_, h1, h2⟩
          rcases List.mem_append.1 h1 with q | q
          · exact q
          · rw [List.mem_singleton] at q
            subst q
            have := h2 r (by simp [sub r hr]) hrs
            exact this ▸ sub r hr
      · rcases List.mem_append.1 ht with q | q
        · exact i2 t q
        · rw [List.mem_singleton] at q
          subst q
          exact ⟨r, hr, hrs⟩
    · rw [if_neg c]
      have c' : ∀ r ∈ leastOf L, ¬ ∀ x ∈ r, x ∈ s := fun r hr h => c (List.any_eq_true.2 ⟨r, hr, isPart_iff.2 h⟩)
      refine ⟨fun t => ?_, fun t ht => ?_, asc_snoc.2 ⟨i3, fun y hy => hs y (sub y hy)⟩⟩
      · rw [List.mem_append, List.mem_singleton, old]
        constructor
        · rintro (h | rfl)
          · exact h.2
          · refine ⟨by simp, fun u hu hut => ?_⟩
            rcases List.mem_append.1 hu with q | q
            · obtain ⟨r, hr, hru⟩ := i2 u q
              exact absurd (fun x hx => hut x (hru x hx)) (c' r hr)
            · exact List.mem_singleton.1 q
        · intro h
          rcases List.mem_append.1 h.1 with q | q
          · exact .inl ⟨q, h⟩
          · exact .inr (List.mem_singleton.1 q)
      · rcases List.mem_append.1 ht with q | q
        · obtain ⟨r, hr, hru⟩ := i2 t q
          exact ⟨r, by simp [hr], hru⟩
        · rw [List.mem_singleton] at q
          subst q
          exact ⟨t, by simp, fun _ h => h⟩
end
end WM
/-! All sets in the order of choices; rings; least hitting sets. -/
namespace WM
set_option linter.all false
section
variable {α : Type} [DecidableEq α] {lt : α → α → Bool}
/-! ### all sets -/
def okAft (lt : α → α → Bool) (one : List α) (n : α) : Bool := match one.getLast? with
  | none => true
  | some z => lt z n
def nextL (lt : α → α → Bool) (names : List α) (lvl : List (List α)) : List (List α) := lvl.flatMap fun one => (names.filter (okAft lt one)).map fun n => one ++ [n]
def lvlN (lt : α → α → Bool) (names : List α) : Nat → List (List α)
  | 0 => [[]]
  | k + 1 => nextL lt names (lvlN lt names k)
def setsTo (lt : α → α → Bool) (names : List α) (k : Nat) : List (List α) := (List.range (k + 1)).flatMap (lvlN lt names)
def allSets (lt : α → α → Bool) (names : List α) : List (List α) := setsTo lt names names.length
theorem setsTo_succ (names : List α) (k : Nat) : setsTo lt names (k + 1) = setsTo lt names k ++ lvlN lt names (k + 1) := by
  unfold setsTo
  rw [List.range_succ (n := k + 1), List.flatMap_append]
  simp
theorem setsTo_zero (names : List α) : setsTo lt names 0 = [[]] := rfl
theorem asc_snoc_last (o : LO lt) {one : List α} {n : α} : Asc lt (one ++ [n]) ↔ Asc lt one ∧ okAft lt one n = true := by
  rw [asc_snoc]
  constructor
  · rintro ⟨h, k⟩
    refine ⟨h, ?_⟩
    unfold okAft
    cases e : one.getLast? with
    | none => rfl
    | some z => exact k z (List.mem_of_getLast? e)
  · rintro ⟨h, k⟩
    refine ⟨h, fun y hy => ?_⟩
    unfold okAft at k
    cases e : one.getLast? with
    | none =>
      rw [List.getLast?_eq_none_iff] at e
      subst e
      cases hy
    | some z =>
      rw [e] at k
      obtain ⟨r, hr⟩ := List.getLast?_eq_some_iff.1 e
      subst hr
      rw [asc_snoc] at h
      rcases List.mem_append.1 hy with q | q
      · exact o.tr _ _ _ (h.2 y q) k
      · rw [List.mem_singleton] at q
        subst q
        exact k
theorem mem_lvl (o : LO lt) {names : List α} : ∀ {k : Nat} {s : List α}, s ∈ lvlN lt names k ↔ s.length = k ∧ Asc lt s ∧ ∀ x ∈ s, x ∈ names
  | 0, s => by
    show s ∈ [[]] ↔ _
    rw [List.mem_singleton]
    constructor
    · rintro rfl; exact ⟨rfl, List.Pairwise.nil, by simp⟩
    · rintro ⟨h, _⟩; exact List.length_eq_zero_iff.1 h
  | k + 1, s => by
    show s ∈ nextL lt names (lvlN lt names k) ↔ _
    unfold nextL
    rw [List.mem_flatMap]
    constructor
    · rintro ⟨one, h1, h2⟩
      rw [List.mem_map] at h2
      obtain ⟨n, hn, rfl⟩ := h2
      rw [List.mem_filter] at hn
      obtain ⟨a, b, c⟩ := (mem_lvl o).1 h1
      refine ⟨by simp [a], (asc_snoc_last o).2 ⟨b, hn.2⟩, fun x hx => ?_⟩
      rcases List.mem_append.1 hx with q | q
      · exact c x q
      · rw [List.mem_singleton] at q
        subst q
        exact hn.1
    · rintro ⟨a, b, c⟩
      have hne : s ≠ [] := fun z => by subst z; simp at a
      have e := List.dropLast_concat_getLast hne
      rw [← e] at a b c
      obtain ⟨b1, b2⟩ := (asc_snoc_last o).1 b
      refine ⟨s.dropLast, (mem_lvl o).2 ⟨by simpa using a, b1, fun x hx => c x (by simp [hx])⟩, ?_⟩
      rw [List.mem_map]
      exact ⟨s.getLast hne, List.mem_filter.2 ⟨c _ (by simp), b2⟩, e⟩
theorem lexB_snoc (o : LO lt) : ∀ {s t : List α} {x y : α}, s.length = t.length → lexB lt s t = true → lexB lt (s ++ [x]) (t ++ [y]) = true
  | [], [], _, _, _, h => by simp [lexB] at h
  | [], _ :: _, _, _, e, _ => by simp at e
  | _ :: _, [], _, _, e, _ => by simp at e
  | a :: s, b :: t, x, y, e, h => by
    simp only [List.length_cons, Nat.add_right_cancel_iff] at e
    simp only [lexB, List.cons_append] at h ⊢
    by_cases c : a = b
    · rw [if_pos c] at h ⊢
      exact lexB_snoc o e h
    · rw [if_neg c] at h ⊢
      exact h
theorem lexB_same : ∀ {s : List α} {x y : α}, x ≠ y → lexB lt (s ++ [x]) (s ++ [y]) = lt x y
  | [], x, y, h => by simp [lexB, h]
  | a :: s, x, y, h => by
    simp only [lexB, List.cons_append, if_true]
    exact lexB_same h
theorem asc_lvl (o : LO lt) {names : List α} (hn : Asc lt names) : ∀ k, Asc (clt lt) (lvlN lt names k)
  | 0 => by simp [lvlN]
  | k + 1 => by
    show Asc (clt lt) (nextL lt names (lvlN lt names k))
    unfold nextL Asc
    rw [List.pairwise_flatMap]
    refine ⟨fun one _ => ?_, ?_⟩
    · rw [List.pairwise_map]
      refine List.Pairwise.imp ?_ (List.Pairwise.filter (okAft lt one) hn)
      intro a b h
      simp only [clt, Bool.or_eq_true, Bool.and_eq_true, decide_eq_true_eq]
      right
      refine ⟨by simp, ?_⟩
      rw [lexB_same (o.ne h)]
      exact h
    · have ih : Asc (clt lt) (lvlN lt names k) := asc_lvl o hn k
      refine List.Pairwise.imp_of_mem ?_ ih
      intro s t hs ht h x hx y hy
      rw [List.mem_map] at hx hy
      obtain ⟨a, _, rfl⟩ := hx
      obtain ⟨b, _, rfl⟩ := hy
      have ls := ((mem_lvl o).1 hs).1
      have lt' := ((mem_lvl o).1 ht).1
      simp only [clt, Bool.or_eq_true, Bool.and_eq_true, decide_eq_true_eq] at h ⊢
      right
      refine ⟨by simp [ls, lt'], ?_⟩
      rcases h with h | h
      · omega
      · exact lexB_snoc o h.1 h.2
theorem mem_allSets (o : LO lt) {names s : List α} (hn : Asc lt names) : s ∈ allSets lt names ↔ Asc lt s ∧ ∀ x ∈ s, x ∈ names := by
  unfold allSets setsTo
  rw [List.mem_flatMap]
  constructor
  · rintro ⟨k, _, h⟩
    exact ((mem_lvl o).1 h).2
  · rintro ⟨h1, h2⟩
    refine ⟨s.length, ?_, (mem_lvl o).2 ⟨rfl, h1, h2⟩⟩
    rw [List.mem_range]
    have := nodup_len (h1.nodup o) h2
    omega
theorem asc_allSets (o : LO lt) {names : List α} (hn : Asc lt names) : Asc (clt lt) (allSets lt names) := by
  unfold allSets setsTo Asc
  rw [List.pairwise_flatMap]
  refine ⟨fun k _ => asc_lvl o hn k, ?_⟩
  refine List.Pairwise.imp ?_ (List.pairwise_lt_range (n := names.length + 1))
  intro i j h s hs t ht
  have ls := ((mem_lvl o).1 hs).1
  have lt' := ((mem_lvl o).1 ht).1
  simp only [clt, Bool.or_eq_true, decide_eq_true_eq]
  left
  omega
/-! ### the least of the sets that have a property -/
def leastSets (lt : α → α → Bool) (P : List α → Bool) (names : List α) : List (List α) := leastOf ((allSets lt names).filter P)
theorem mem_leastSets (o : LO lt) {P : List α → Bool} {names s : List α} (hn : Asc lt names) :
    s ∈ leastSets lt P names ↔ Least (fun t => Asc lt t ∧ (∀ x ∈ t, x ∈ names) ∧ P t = true) s := by
  unfold leastSets
  have h := (leastOf_ok o ((allSets lt names).filter P) ((asc_allSets o hn).filter P) fun t ht => ((mem_allSets o hn).1 (List.mem_filter.1 ht).1).1).1 s
  rw [h]
  have e : ∀ t, t ∈ (allSets lt names).filter P ↔ (Asc lt t ∧ (∀ x ∈ t, x ∈ names) ∧ P t = true) := fun t => by
    rw [List.mem_filter, mem_allSets o hn, and_assoc]
  show (s ∈ (allSets lt names).filter P ∧ _) ↔ _
  rw [e]
  constructor
  · rintro ⟨a, b⟩
    exact ⟨a, fun t ht => b t ((e t).2 ht)⟩
  · rintro ⟨a, b⟩
    exact ⟨a, fun t ht => b t ((e t).1 ht)⟩
theorem asc_leastSets (o : LO lt) {P : List α → Bool} {names : List α} (hn : Asc lt names) : Asc (clt lt) (leastSets lt P names) :=
  (leastOf_ok o ((allSets lt names).filter P) ((asc_allSets o hn).filter P) fun t ht => ((mem_allSets o hn).1 (List.mem_filter.1 ht).1).1).2.2
/-- below each set that has the property there is a least one -/
theorem leastSets_below (o : LO lt) {P : List α → Bool} {names s : List α} (hn : Asc lt names) (h1 : Asc lt s) (h2 : ∀ x ∈ s, x ∈ names) (h3 : P s = true) :
    ∃ r ∈ leastSets lt P names, ∀ x ∈ r, x ∈ s :=
  (leastOf_ok o ((allSets lt names).filter P) ((asc_allSets o hn).filter P) fun t ht => ((mem_allSets o hn).1 (List.mem_filter.1 ht).1).1).2.1 s
    (List.mem_filter.2 ⟨(mem_allSets o hn).2 ⟨h1, h2⟩, h3⟩)
/-! ### rings -/
/-- each of T waits for one of T -/
def Closed (w : α → List α) (T : List α) : Prop := T ≠ [] ∧ ∀ x ∈ T, ∃ y ∈ w x, y ∈ T
def HasRing (w : α → List α) (S : List α) : Prop := ∃ T, (∀ x ∈ T, x ∈ S) ∧ Closed w T
theorem HasRing.mono {w w' : α → List α} {S S' : List α} (h : HasRing w S) (hs : ∀ x ∈ S, x ∈ S') (hw : ∀ x ∈ S, ∀ y ∈ w x, y ∈ w' x) : HasRing w' S' := by
  obtain ⟨T, h1, h2, h3⟩ := h
  refine ⟨T, fun x hx => hs x (h1 x hx), h2, fun x hx => ?_⟩
  obtain ⟨y, hy, ht⟩ := h3 x hx
  exact ⟨y, hw x (h1 x hx) y hy, ht⟩
/-- those who wait for one of S -/
def elimS (w : α → List α) (S : List α) : List α := S.filter fun x => (w x).any fun y => decide (y ∈ S)
def elimN (w : α → List α) : Nat → List α → List α
  | 0, S => S
  | k + 1, S => elimN w k (elimS w S)
theorem elimN_succ (w : α → List α) : ∀ (k : Nat) (S : List α), elimN w (k + 1) S = elimS w (elimN w k S)
  | 0, _ => rfl
  | k + 1, S => elimN_succ w k (elimS w S)
theorem closed_elim {w : α → List α} {T S : List α} (hT : Closed w T) (h : ∀ x ∈ T, x ∈ S) : ∀ x ∈ T, x ∈ elimS w S := fun x hx => by
  obtain ⟨y, hy, ht⟩ := hT.2 x hx
  exact List.mem_filter.2 ⟨h x hx, List.any_eq_true.2 ⟨y, hy, decide_eq_true (h y ht)⟩⟩
theorem closed_elimN {w : α → List α} {T : List α} (hT : Closed w T) : ∀ (k : Nat) {S : List α}, (∀ x ∈ T, x ∈ S) → ∀ x ∈ T, x ∈ elimN w k S
  | 0, _, h => h
  | k + 1, _, h => closed_elimN hT k (closed_elim hT h)
theorem elimN_sub (w : α → List α) : ∀ (k : Nat) (S : List α), ∀ x ∈ elimN w k S, x ∈ S
  | 0, _, _, h => h
  | k + 1, S, x, h => (List.mem_filter.1 (elimN_sub w k (elimS w S) x h)).1
theorem elimN_nil (w : α → List α) : ∀ k, elimN w k [] = []
  | 0 => rfl
  | k + 1 => elimN_nil w k
theorem elim_ring (w : α → List α) : ∀ (k : Nat) (S : List α), S.length ≤ k → elimN w k S ≠ [] → HasRing w S
  | 0, S, h, hne => absurd (List.length_eq_zero_iff.1 (Nat.le_zero.1 h)) hne
  | k + 1, S, h, hne => by
    by_cases e : (elimS w S).length < S.length
    · exact (elim_ring w k (elimS w S) (by omega) hne).mono (fun x hx => (List.mem_filter.1 hx).1) fun _ _ _ hy => hy
    · have el : (elimS w S) = S := by
        unfold elimS at e ⊢
        exact (List.filter_sublist (l := S)).eq_of_length_le (Nat.not_lt.1 e)
      refine ⟨S, fun _ h => h, ?_, fun x hx => ?_⟩
      · intro z
        subst z
        exact hne (elimN_nil w (k + 1))
      · rw [← el] at hx
        obtain ⟨y, hy, hs⟩ := List.any_eq_true.1 (List.mem_filter.1 hx).2
        exact ⟨y, hy, of_decide_eq_true hs⟩
theorem elim_iff (w : α → List α) (S : List α) : elimN w S.length S ≠ [] ↔ HasRing w S := by
  constructor
  · exact elim_ring w _ S (Nat.le_refl _)
  · rintro ⟨T, h1, h2⟩ z
    have h3 := closed_elimN h2 S.length h1
    rw [z] at h3
    obtain ⟨x, hx⟩ := List.exists_mem_of_ne_nil _ h2.1
    exact absurd (h3 x hx) (by simp)
/-- no ring through o: a list that is closed, from which none leads to o -/
def NoWay (g : α → List α) (o : α) : Prop := ∃ V : List α, o ∈ V ∧ ∀ x ∈ V, ∀ y ∈ g x, y ∈ V ∧ y ≠ o
theorem noWay_all {g : α → List α} {S : List α} (hg : ∀ x ∈ S, NoWay g x) : ∀ (n : Nat) (W T : List α), W.length ≤ n → (∀ x ∈ W, ∀ y ∈ g x, y ∈ W) → (∀ x ∈ T, x ∈ S) → (∀ x ∈ T, ∃ y ∈ g x, y ∈ T) → ∀ x ∈ T, x ∉ W
  | 0, W, T, hn, _, _, _, x, _, hx => by
    rw [List.length_eq_zero_iff.1 (Nat.le_zero.1 hn)] at hx
    cases hx
  | n + 1, W, T, hn, hW, hS, hT, x, hxT, hxW => by
    obtain ⟨V, hV, hc⟩ := hg x (hS x hxT)
    obtain ⟨y, hy, hyT⟩ := hT x hxT
    have hlen : (W.filter fun z => decide (z ∈ V) && decide (z ≠ x)).length < W.length := by
      refine List.length_filter_lt_length_iff_exists.2 ⟨x, hxW, by simp⟩
    refine noWay_all hg n (W.filter fun z => decide (z ∈ V) && decide (z ≠ x)) T (by omega) ?_ hS hT y hyT ?_
    · intro a ha b hb
      rw [List.mem_filter] at ha ⊢
      simp only [Bool.and_eq_true, decide_eq_true_eq] at ha ⊢
      exact ⟨hW a ha.1 b hb, (hc a ha.2.1 b hb).1, (hc a ha.2.1 b hb).2⟩
    · rw [List.mem_filter]
      simp only [Bool.and_eq_true, decide_eq_true_eq]
      exact ⟨hW x hxW y hy, (hc x hV y hy).1, (hc x hV y hy).2⟩
theorem noWay_noRing {g : α → List α} {S : List α} (hg : ∀ x ∈ S, NoWay g x) : ¬ HasRing g S := by
  rintro ⟨T, h1, h2, h3⟩
  obtain ⟨x, hx⟩ := List.exists_mem_of_ne_nil _ h2
  obtain ⟨V, hV, hc⟩ := hg x (h1 x hx)
  exact noWay_all hg V.length V T (Nat.le_refl _) (fun a ha b hb => (hc a ha b hb).1) h1 h3 x hx hV
/-- a way along which each waits for the next -/
inductive Way (g : α → List α) : α → α → List α → Prop
  | one (a : α) : Way g a a [a]
  | snoc {a b c : α} {p : List α} : Way g a b p → c ∈ g b → Way g a c (p ++ [c])
theorem Way.last_mem {g : α → List α} {a b : α} {p : List α} (h : Way g a b p) : b ∈ p := by
  cases h <;> simp
theorem Way.first_mem {g : α → List α} {a b : α} {p : List α} (h : Way g a b p) : a ∈ p := by
  induction h with
  | one => simp
  | snoc _ _ ih => simp [ih]
theorem Way.step {g : α → List α} {a b : α} {p : List α} (h : Way g a b p) : ∀ x ∈ p, x = b ∨ ∃ y ∈ g x, y ∈ p := by
  induction h with
  | one => intro x hx; exact .inl (List.mem_singleton.1 hx)
  | @snoc b c p hp hc ih =>
    intro x hx
    rcases List.mem_append.1 hx with q | q
    · rcases ih x q with rfl | ⟨y, hy, hyp⟩
      · exact .inr ⟨c, hc, by simp⟩
      · exact .inr ⟨y, hy, by simp [hyp]⟩
    · exact .inl (List.mem_singleton.1 q)
theorem Way.closed {g : α → List α} {a b : α} {p : List α} (h : Way g a b p) (hb : a ∈ g b) : Closed g p := by
  refine ⟨fun z => ?_, fun x hx => ?_⟩
  · subst z
    exact absurd h.last_mem (by simp)
  · rcases h.step x hx with rfl | q
    · exact ⟨a, hb, h.first_mem⟩
    · exact q
end
end WM
/-! Least hitting sets, and what a table of waits gives. -/
namespace WM
set_option linter.all false
section
variable {α : Type} [DecidableEq α] {lt : α → α → Bool}
theorem leastSets_congr {P Q : List α → Bool} {names : List α} (o : LO lt) (hn : Asc lt names) (h : ∀ s, Asc lt s → (∀ x ∈ s, x ∈ names) → P s = Q s) : leastSets lt P names = leastSets lt Q names := by
  unfold leastSets
  rw [List.filter_congr fun s hs => h s ((mem_allSets o hn).1 hs).1 ((mem_allSets o hn).1 hs).2]
theorem leastSets_mem (o : LO lt) {P : List α → Bool} {names s : List α} (hn : Asc lt names) (h : s ∈ leastSets lt P names) : Asc lt s ∧ (∀ x ∈ s, x ∈ names) ∧ P s = true :=
  ((mem_leastSets o hn).1 h).1
/-! ### hitting -/
def hitsB (lots : List (List α)) (s : List α) : Bool := lots.all fun l => l.any fun x => decide (x ∈ s)
theorem hitsB_iff {lots : List (List α)} {s : List α} : hitsB lots s = true ↔ ∀ l ∈ lots, ∃ x ∈ l, x ∈ s := by
  unfold hitsB
  rw [List.all_eq_true]
  constructor
  · intro h l hl
    obtain ⟨x, hx, hs⟩ := List.any_eq_true.1 (h l hl)
    exact ⟨x, hx, of_decide_eq_true hs⟩
  · intro h l hl
    obtain ⟨x, hx, hs⟩ := h l hl
    exact List.any_eq_true.2 ⟨x, hx, decide_eq_true hs⟩
def hitting (lt : α → α → Bool) (lots : List (List α)) (names : List α) : List (List α) := leastSets lt (hitsB lots) names
theorem hitting_nil (o : LO lt) {names : List α} (hn : Asc lt names) : hitting lt [] names = [[]] := by
  refine Asc.ext (clt_lo o) (asc_leastSets o hn) (by simp) fun s => ?_
  show s ∈ leastSets lt _ names ↔ _
  rw [mem_leastSets o hn, List.mem_singleton]
  constructor
  · rintro ⟨_, h⟩
    exact (h [] ⟨List.Pairwise.nil, by simp, rfl⟩ (by simp)).symm
  · rintro rfl
    exact ⟨⟨List.Pairwise.nil, by simp, rfl⟩, fun t _ ht => List.eq_nil_iff_forall_not_mem.2 fun x hx => absurd (ht x hx) (by simp)⟩
/-- what stands behind a further lot, ahead of taking the least ones -/
def Longer (lt : α → α → Bool) (found : List (List α)) (lot : List α) (s : List α) : Prop :=
  (s ∈ found ∧ ∃ x ∈ s, x ∈ lot) ∨ ∃ one ∈ found, (¬ ∃ x ∈ one, x ∈ lot) ∧ ∃ t ∈ lot, Asc lt s ∧ ∀ x, x ∈ s ↔ x ∈ one ∨ x = t
theorem hitting_step (o : LO lt) {names lot : List α} {L R : List (List α)} (hn : Asc lt names) (hl : ∀ x ∈ lot, x ∈ names) (hR : Asc (clt lt) R) (hm : ∀ s, s ∈ R ↔ Longer lt (hitting lt L names) lot s) :
    leastOf R = hitting lt (L ++ [lot]) names := by
  have inF : ∀ s, s ∈ hitting lt L names → Asc lt s ∧ (∀ x ∈ s, x ∈ names) ∧ ∀ l ∈ L, ∃ x ∈ l, x ∈ s := fun s hs => by
    obtain ⟨a, b, c⟩ := leastSets_mem o hn hs
    exact ⟨a, b, hitsB_iff.1 c⟩
  have good : ∀ s ∈ R, Asc lt s ∧ (∀ x ∈ s, x ∈ names) ∧ hitsB (L ++ [lot]) s = true := by
    intro s hs
    rcases (hm s).1 hs with ⟨h, x, hx, hxl⟩ | ⟨one, h, _, t, ht, h1, h2⟩
    · obtain ⟨a, b, c⟩ := inF s h
      refine ⟨a, b, hitsB_iff.2 fun l hl => ?_⟩
      rcases List.mem_append.1 hl with q | q
      · exact c l q
      · rw [List.mem_singleton] at q
        subst q
        exact ⟨x, hxl, hx⟩
    · obtain ⟨a, b, c⟩ := inF one h
      refine ⟨h1, fun x hx => ?_, hitsB_iff.2 fun l hl' => ?_⟩
      · rcases (h2 x).1 hx with q | q
        · exact b x q
        · exact q ▸ hl t ht
      · rcases List.mem_append.1 hl' with q | q
        · obtain ⟨x, hx, hxo⟩ := c l q
          exact ⟨x, hx, (h2 x).2 (.inl hxo)⟩
        · rw [List.mem_singleton] at q
          subst q
          exact ⟨t, ht, (h2 t).2 (.inr rfl)⟩
  have below : ∀ u, Asc lt u → (∀ x ∈ u, x ∈ names) → hitsB (L ++ [lot]) u = true → ∃ r ∈ R, ∀ x ∈ r, x ∈ u := by
    intro u h1 h2 h3
    rw [hitsB_iff] at h3
    obtain ⟨s, hs, hsu⟩ := leastSets_below o (P := hitsB L) hn h1 h2 (hitsB_iff.2 fun l hl => h3 l (by simp [hl]))
    obtain ⟨t, ht, htu⟩ := h3 lot (by simp)
    by_cases c : ∃ x ∈ s, x ∈ lot
    · exact ⟨s, (hm s).2 (.inl ⟨hs, c⟩), hsu⟩
    · refine ⟨u.filter fun x => decide (x ∈ s ∨ x = t), (hm _).2 (.inr ⟨s, hs, c, t, ht, h1.filter _, fun x => ?_⟩), fun x hx => (List.mem_filter.1 hx).1⟩
      rw [List.mem_filter, decide_eq_true_eq]
      constructor
      · exact fun h => h.2
      · intro h
        refine ⟨?_, h⟩
        rcases h with q | q
        · exact hsu x q
        · exact q ▸ htu
  obtain ⟨e1, e2, e3⟩ := leastOf_ok o R hR fun s hs => (good s hs).1
  refine Asc.ext (clt_lo o) e3 (asc_leastSets o hn) fun s => ?_
  rw [e1, show (s ∈ hitting lt (L ++ [lot]) names ↔ _) from mem_leastSets o hn]
  constructor
  · rintro ⟨h1, h2⟩
    refine ⟨good s h1, fun t ht hts => ?_⟩
    obtain ⟨r, hr, hrt⟩ := below t ht.1 ht.2.1 ht.2.2
    have := h2 r hr fun x hx => hts x (hrt x hx)
    subst this
    exact Asc.ext o ht.1 (good r hr).1 fun x => ⟨hts x, hrt x⟩
  · rintro ⟨h1, h2⟩
    obtain ⟨r, hr, hrs⟩ := below s h1.1 h1.2.1 h1.2.2
    have := h2 r (good r hr) hrs
    subst this
    exact ⟨hr, fun t ht => h2 t (good t ht)⟩
/-! ### rings and stops -/
def ringB (w : α → List α) (S : List α) : Bool := decide (elimN w S.length S ≠ [])
theorem ringB_iff {w : α → List α} {S : List α} : ringB w S = true ↔ HasRing w S := by
  unfold ringB
  rw [decide_eq_true_eq]
  exact elim_iff w S
theorem ringB_not {w : α → List α} {S : List α} : ringB w S = false ↔ ¬ HasRing w S := by
  rw [← ringB_iff]
  cases ringB w S <;> simp
def rings (lt : α → α → Bool) (w : α → List α) (names : List α) : List (List α) := leastSets lt (ringB w) names
theorem ring_keys {w : α → List α} {keys S T : List α} (hk : ∀ x, x ∉ keys → w x = []) (h : ∀ x ∈ T, x ∈ S) (c : Closed w T) : ∀ x ∈ T, x ∈ keys := fun x hx => by
  apply Classical.byContradiction
  intro hn
  obtain ⟨y, hy, _⟩ := c.2 x hx
  rw [hk x hn] at hy
  cases hy
theorem rings_keys (o : LO lt) {w : α → List α} {names keys : List α} (hn : Asc lt names) (hk : Asc lt keys) (hs : ∀ x ∈ keys, x ∈ names) (hw : ∀ x, x ∉ keys → w x = []) : rings lt w keys = rings lt w names := by
  refine Asc.ext (clt_lo o) (asc_leastSets o hk) (asc_leastSets o hn) fun s => ?_
  rw [show (s ∈ rings lt w keys ↔ _) from mem_leastSets o hk, show (s ∈ rings lt w names ↔ _) from mem_leastSets o hn]
  constructor
  · rintro ⟨⟨a, b, c⟩, h⟩
    exact ⟨⟨a, fun x hx => hs x (b x hx), c⟩, fun t ht hts => h t ⟨ht.1, fun x hx => b x (hts x hx), ht.2.2⟩ hts⟩
  · rintro ⟨⟨a, b, c⟩, h⟩
    obtain ⟨T, hT, hc⟩ := ringB_iff.1 c
    have e := h (s.filter fun x => decide (x ∈ keys)) ⟨a.filter _, fun x hx => b x (List.mem_filter.1 hx).1,
      ringB_iff.2 ⟨T, fun x hx => List.mem_filter.2 ⟨hT x hx, decide_eq_true (ring_keys hw hT hc x hx)⟩, hc⟩⟩ fun x hx => (List.mem_filter.1 hx).1
    have b' : ∀ x ∈ s, x ∈ keys := fun x hx => by
      rw [← e] at hx
      exact of_decide_eq_true (List.mem_filter.1 hx).2
    exact ⟨⟨a, b', c⟩, fun t ht => h t ⟨ht.1, fun x hx => hs x (ht.2.1 x hx), ht.2.2⟩⟩
def stops (lt : α → α → Bool) (w : α → List α) (names : List α) : List (List α) := leastSets lt (fun s => !ringB w (names.filter fun x => !decide (x ∈ s))) names
theorem hits_stops (o : LO lt) {w : α → List α} {names s : List α} (hn : Asc lt names) : hitsB (rings lt w names) s = (!ringB w (names.filter fun x => !decide (x ∈ s))) := by
  rw [Bool.eq_iff_iff, hitsB_iff, Bool.not_eq_true', ringB_not]
  constructor
  · intro h hr
    obtain ⟨r, hr1, hr2⟩ := leastSets_below o (P := ringB w) hn (hn.filter fun x => !decide (x ∈ s)) (fun x hx => (List.mem_filter.1 hx).1) (ringB_iff.2 hr)
    obtain ⟨x, hx, hxs⟩ := h r hr1
    have := (List.mem_filter.1 (hr2 x hx)).2
    simp [hxs] at this
  · intro h r hr
    apply Classical.byContradiction
    intro hno
    obtain ⟨a, b, c⟩ := leastSets_mem o hn hr
    refine h ((ringB_iff.1 c).mono (fun x hx => List.mem_filter.2 ⟨b x hx, ?_⟩) fun _ _ _ hy => hy)
    have : x ∉ s := fun z => hno ⟨x, hx, z⟩
    simp [this]
theorem stops_hitting (o : LO lt) {w : α → List α} {names : List α} (hn : Asc lt names) : hitting lt (rings lt w names) names = stops lt w names :=
  leastSets_congr o hn fun s _ _ => hits_stops o hn
theorem cross (o : LO lt) {w : α → List α} {names r s : List α} (hn : Asc lt names) (hr : r ∈ rings lt w names) (hs : s ∈ stops lt w names) : ∃ x ∈ r, x ∈ s := by
  rw [← stops_hitting o hn] at hs
  exact hitsB_iff.1 (leastSets_mem o hn hs).2.2 r hr
theorem stop_free (o : LO lt) {w : α → List α} {names s : List α} (hn : Asc lt names) (hs : s ∈ stops lt w names) : ¬ HasRing w (names.filter fun x => !decide (x ∈ s)) := by
  have := (leastSets_mem o hn hs).2.2
  rw [Bool.not_eq_true', ringB_not] at this
  exact this
/-- rings are not empty sets -/
theorem ring_ne (o : LO lt) {w : α → List α} {names r : List α} (hn : Asc lt names) (hr : r ∈ rings lt w names) : r ≠ [] := by
  intro z
  subst z
  obtain ⟨T, h1, h2, _⟩ := ringB_iff.1 (leastSets_mem o hn hr).2.2
  exact h2 (List.eq_nil_iff_forall_not_mem.2 fun x hx => absurd (h1 x hx) (by simp))
/-- there is a set of stops -/
theorem stops_ne (o : LO lt) {w : α → List α} {names : List α} (hn : Asc lt names) : stops lt w names ≠ [] := by
  obtain ⟨r, hr, _⟩ := leastSets_below o (P := fun s => !ringB w (names.filter fun x => !decide (x ∈ s))) hn hn (fun _ h => h) (by
    rw [Bool.not_eq_true', ringB_not]
    rintro ⟨T, h1, h2, _⟩
    obtain ⟨x, hx⟩ := List.exists_mem_of_ne_nil _ h2
    have := List.mem_filter.1 (h1 x hx)
    simp [this.1] at this)
  intro z
  unfold stops at z
  rw [z] at hr
  cases hr
/-- a want more makes no ring without its owner -/
theorem rings_fewer (o : LO lt) {w w' : α → List α} {keys keys' : List α} {x : α} (hk : Asc lt keys) (hk' : Asc lt keys') (he : ∀ y, y ∈ keys' ↔ (y ∈ keys ∧ y ≠ x)) (hw : ∀ y, y ≠ x → w' y = w y) :
    (rings lt w keys).filter (fun s => !decide (x ∈ s)) = (rings lt w' keys').filter fun s => !decide (x ∈ s) := by
  have same : ∀ t : List α, x ∉ t → ringB w t = ringB w' t := fun t hx => by
    rw [Bool.eq_iff_iff, ringB_iff, ringB_iff]
    constructor
    · exact fun h => h.mono (fun _ h => h) fun y hy z hz => by rw [hw y fun e => hx (e ▸ hy)]; exact hz
    · exact fun h => h.mono (fun _ h => h) fun y hy z hz => by rw [← hw y fun e => hx (e ▸ hy)]; exact hz
  refine Asc.ext (clt_lo o) ((asc_leastSets o hk).filter _) ((asc_leastSets o hk').filter _) fun s => ?_
  rw [List.mem_filter, List.mem_filter, show (s ∈ rings lt w keys ↔ _) from mem_leastSets o hk, show (s ∈ rings lt w' keys' ↔ _) from mem_leastSets o hk']
  constructor
  · rintro ⟨⟨⟨a, b, c⟩, h⟩, hx⟩
    have hx' : x ∉ s := by simpa using hx
    refine ⟨⟨⟨a, fun y hy => (he y).2 ⟨b y hy, fun e => hx' (e ▸ hy)⟩, by rw [← same s hx']; exact c⟩, fun t ht hts => ?_⟩, hx⟩
    exact h t ⟨ht.1, fun y hy => ((he y).1 (ht.2.1 y hy)).1, by rw [same t fun z => hx' (hts x z)]; exact ht.2.2⟩ hts
  · rintro ⟨⟨⟨a, b, c⟩, h⟩, hx⟩
    have hx' : x ∉ s := by simpa using hx
    refine ⟨⟨⟨a, fun y hy => ((he y).1 (b y hy)).1, by rw [same s hx']; exact c⟩, fun t ht hts => ?_⟩, hx⟩
    exact h t ⟨ht.1, fun y hy => (he y).2 ⟨ht.2.1 y hy, fun e => hx' (hts x (e ▸ hy))⟩, by rw [← same t fun z => hx' (hts x z)]; exact ht.2.2⟩ hts
/-- without a ring somebody can end -/
theorem can_end {w : α → List α} {all left found : List α} (hr : ¬ HasRing w all) (hl : ∀ x ∈ left, x ∈ all) (hw : ∀ x ∈ left, ∀ y ∈ w x, y ∈ left ∨ y ∈ found) (hne : left ≠ []) :
    (left.filter fun x => isPart (w x) found) ≠ [] := by
  intro z
  refine hr ⟨left, hl, hne, fun x hx => ?_⟩
  have h1 : ¬ isPart (w x) found = true := fun c => absurd (List.mem_filter.2 ⟨hx, c⟩ : x ∈ left.filter fun x => isPart (w x) found) (by rw [z]; simp)
  rw [isPart_iff] at h1
  apply Classical.byContradiction
  intro hno
  refine h1 fun y hy => ?_
  rcases hw x hx y hy with q | q
  · exact absurd ⟨y, hy, q⟩ hno
  · exact q
end
end WM
/-! Ranges, locks, tables, place by place. -/
namespace WM
set_option linter.all false
/-- a place in a range -/
def inR (b : Int) (e : Option Int) (p : Int) : Prop := b ≤ p ∧ ∀ z, e = some z → p < z
instance (b : Int) (e : Option Int) (p : Int) : Decidable (inR b e p) := by
  unfold inR
  cases e with
  | none => exact decidable_of_iff (b ≤ p) ⟨fun h => ⟨h, fun z q => nomatch q⟩, fun h => h.1⟩
  | some y => exact decidable_of_iff (b ≤ p ∧ p < y) ⟨fun h => ⟨h.1, fun z q => by injection q with q; omega⟩, fun h => ⟨h.1, h.2 y rfl⟩⟩
theorem inR_none {b p : Int} : inR b none p ↔ b ≤ p := ⟨fun h => h.1, fun h => ⟨h, fun _ q => nomatch q⟩⟩
theorem inR_some {b p z : Int} : inR b (some z) p ↔ b ≤ p ∧ p < z := ⟨fun h => ⟨h.1, h.2 z rfl⟩, fun h => ⟨h.1, fun y q => by injection q with q; omega⟩⟩
/-- a row: begin, end, write -/
abbrev Row := Int × Option Int × Bool
def wfR (b : Int) (e : Option Int) : Prop := 0 ≤ b ∧ ∀ z, e = some z → b < z
theorem wfR_none {b : Int} : wfR b none ↔ 0 ≤ b := ⟨fun h => h.1, fun h => ⟨h, fun _ q => nomatch q⟩⟩
theorem wfR_some {b z : Int} : wfR b (some z) ↔ 0 ≤ b ∧ b < z := ⟨fun h => ⟨h.1, h.2 z rfl⟩, fun h => ⟨h.1, fun y q => by injection q with q; omega⟩⟩
def wfRow (r : Row) : Prop := wfR r.1 r.2.1
def covR (r : Row) (p : Int) (k : Bool) : Prop := inR r.1 r.2.1 p ∧ r.2.2 = k
def cov (rows : List Row) (p : Int) (k : Bool) : Prop := ∃ r ∈ rows, covR r p k
theorem cov_nil {p : Int} {k : Bool} : ¬ cov [] p k := fun ⟨_, h, _⟩ => by cases h
theorem cov_append {a b : List Row} {p : Int} {k : Bool} : cov (a ++ b) p k ↔ cov a p k ∨ cov b p k := by
  unfold cov
  constructor
  · rintro ⟨r, hr, h⟩
    rcases List.mem_append.1 hr with q | q
    · exact .inl ⟨r, q, h⟩
    · exact .inr ⟨r, q, h⟩
  · rintro (⟨r, hr, h⟩ | ⟨r, hr, h⟩)
    · exact ⟨r, by simp [hr], h⟩
    · exact ⟨r, by simp [hr], h⟩
theorem cov_one {r : Row} {p : Int} {k : Bool} : cov [r] p k ↔ covR r p k := by
  unfold cov
  simp
/-- whether two ranges have a place in common -/
def meetB (b : Int) (e : Option Int) (b' : Int) (e' : Option Int) : Bool :=
  (match e' with | none => true | some z => decide (b < z)) && (match e with | none => true | some z => decide (b' < z))
theorem meetB_iff {b : Int} {e : Option Int} {b' : Int} {e' : Option Int} (h : wfR b e) (h' : wfR b' e') : meetB b e b' e' = true ↔ ∃ p, inR b e p ∧ inR b' e' p := by
  unfold meetB
  cases e with
  | none =>
    cases e' with
    | none =>
      simp only [Bool.and_true, true_iff]
      exact ⟨max b b', inR_none.2 (by omega), inR_none.2 (by omega)⟩
    | some z' =>
      rw [wfR_some] at h'
      simp only [Bool.and_true, decide_eq_true_eq]
      constructor
      · intro q
        exact ⟨max b b', inR_none.2 (by omega), inR_some.2 (by omega)⟩
      · rintro ⟨p, q, q'⟩
        rw [inR_none] at q
        rw [inR_some] at q'
        omega
  | some z =>
    rw [wfR_some] at h
    cases e' with
    | none =>
      simp only [Bool.true_and, decide_eq_true_eq]
      constructor
      · intro q
        exact ⟨max b b', inR_some.2 (by omega), inR_none.2 (by omega)⟩
      · rintro ⟨p, q, q'⟩
        rw [inR_none] at q'
        rw [inR_some] at q
        omega
    | some z' =>
      rw [wfR_some] at h'
      simp only [Bool.and_eq_true, decide_eq_true_eq]
      constructor
      · intro q
        exact ⟨max b b', inR_some.2 (by omega), inR_some.2 (by omega)⟩
      · rintro ⟨p, q, q'⟩
        rw [inR_some] at q q'
        omega
/-- .. asked at the last begin -/
theorem last_iff {b : Int} {e : Option Int} {b' : Int} {e' : Option Int} : (inR b e (max b b') ∧ inR b' e' (max b b')) ↔ ∃ p, inR b e p ∧ inR b' e' p := by
  constructor
  · rintro h
    exact ⟨_, h⟩
  · rintro ⟨p, q, q'⟩
    refine ⟨⟨by omega, fun z hz => ?_⟩, ⟨by omega, fun z hz => ?_⟩⟩
    · have h1 := q.1
      have h2 := q'.1
      have h3 := q.2 z hz
      omega
    · have h1 := q.1
      have h2 := q'.1
      have h3 := q'.2 z hz
      omega
/-! ### what is left of rows -/
def cutEnd (l : Option Int) (b : Int) : Int := match l with
  | none => b
  | some z => if z < b then z else b
def pastEnd (l : Option Int) (z : Int) : Bool := match l with
  | none => true
  | some y => decide (z < y)
def leftOne (b : Int) (e : Option Int) (r : Row) : List Row :=
  (if r.1 < b then [(r.1, some (cutEnd r.2.1 b), r.2.2)] else []) ++ (match e with
    | none => []
    | some z => if pastEnd r.2.1 z = true then [(max r.1 z, r.2.1, r.2.2)] else [])
def leftRows (rows : List Row) (b : Int) (e : Option Int) : List Row := rows.flatMap (leftOne b e)
theorem leftOne_wf {b : Int} {e : Option Int} {r : Row} (h : wfRow r) (hb : 0 ≤ b) : ∀ s ∈ leftOne b e r, wfRow s := by
  obtain ⟨f, l, k⟩ := r
  intro s hs
  unfold leftOne at hs
  have h : wfR f l := h
  rcases List.mem_append.1 hs with q | q
  · simp only at q
    by_cases c : f < b
    · rw [if_pos c, List.mem_singleton] at q
      subst q
      show wfR f (some (cutEnd l b))
      rw [wfR_some]
      unfold cutEnd
      cases l with
      | none =>
        rw [wfR_none] at h
        simp only
        omega
      | some z =>
        rw [wfR_some] at h
        simp only
        split <;> omega
    · rw [if_neg c] at q
      cases q
  · cases e with
    | none => cases q
    | some z =>
      simp only at q
      by_cases c : pastEnd l z = true
      · rw [if_pos c, List.mem_singleton] at q
        subst q
        show wfR (max f z) l
        unfold pastEnd at c
        cases l with
        | none =>
          rw [wfR_none] at h ⊢
          omega
        | some y =>
          rw [wfR_some] at h ⊢
          have c := of_decide_eq_true c
          omega
      · rw [if_neg c] at q
        cases q
theorem leftOne_cov {b : Int} {e : Option Int} {r : Row} (h : wfRow r) (hb : wfR b e) (p : Int) (k : Bool) : cov (leftOne b e r) p k ↔ covR r p k ∧ ¬ inR b e p := by
  obtain ⟨f, l, m⟩ := r
  have h : wfR f l := h
  unfold leftOne
  rw [cov_append]
  by_cases km : m = k
  case neg =>
    constructor
    · intro z
      exfalso
      rcases z with ⟨r, hr, _, hk⟩ | ⟨r, hr, _, hk⟩
      · simp only at hr
        split at hr
        · rw [List.mem_singleton] at hr
          subst hr
          exact km hk
        · cases hr
      · cases e with
        | none => cases hr
        | some z =>
          simp only at hr
          split at hr
          · rw [List.mem_singleton] at hr
            subst hr
            exact km hk
          · cases hr
    · rintro ⟨⟨_, hk⟩, _⟩
      exact absurd hk km
  subst km
  have e1 : cov (if f < b then [((f, some (cutEnd l b), m) : Row)] else []) p m ↔ f < b ∧ f ≤ p ∧ p < cutEnd l b := by
    by_cases c : f < b
    · rw [if_pos c, cov_one]
      unfold covR
      rw [inR_some]
      simp [c]
    · rw [if_neg c]
      simp only [cov_nil, c, false_and]
  have e3 : covR (f, l, m) p m ↔ inR f l p := by
    unfold covR
    simp
  rw [e1, e3]
  cases e with
  | none =>
    simp only [cov_nil, or_false]
    rw [wfR_none] at hb
    rw [inR_none]
    unfold cutEnd
    cases l with
    | none =>
      rw [inR_none]
      simp only
      omega
    | some z =>
      rw [wfR_some] at h
      rw [inR_some]
      simp only
      split <;> omega
  | some z =>
    rw [wfR_some] at hb
    have e2 : cov (if pastEnd l z = true then [((max f z, l, m) : Row)] else []) p m ↔ pastEnd l z = true ∧ inR (max f z) l p := by
      by_cases c : pastEnd l z = true
      · rw [if_pos c, cov_one]
        unfold covR
        simp [c]
      · rw [if_neg c]
        simp only [cov_nil, c, false_and]
        simp
    simp only
    rw [e2, inR_some]
    unfold cutEnd pastEnd
    cases l with
    | none =>
      rw [inR_none, inR_none]
      simp only [true_and]
      omega
    | some y =>
      rw [wfR_some] at h
      rw [inR_some, inR_some]
      simp only [decide_eq_true_eq]
      split <;> omega
theorem leftRows_wf {rows : List Row} {b : Int} {e : Option Int} (h : ∀ r ∈ rows, wfRow r) (hb : 0 ≤ b) : ∀ s ∈ leftRows rows b e, wfRow s := fun s hs => by
  obtain ⟨r, hr, q⟩ := List.mem_flatMap.1 hs
  exact leftOne_wf (h r hr) hb s q
theorem leftRows_cov {rows : List Row} {b : Int} {e : Option Int} (h : ∀ r ∈ rows, wfRow r) (hb : wfR b e) (p : Int) (k : Bool) : cov (leftRows rows b e) p k ↔ cov rows p k ∧ ¬ inR b e p := by
  constructor
  · rintro ⟨s, hs, hc⟩
    obtain ⟨r, hr, q⟩ := List.mem_flatMap.1 hs
    have := (leftOne_cov (h r hr) hb p k).1 ⟨s, q, hc⟩
    exact ⟨⟨r, hr, this.1⟩, this.2⟩
  · rintro ⟨⟨r, hr, hc⟩, hn⟩
    obtain ⟨s, hs, q⟩ := (leftOne_cov (h r hr) hb p k).2 ⟨hc, hn⟩
    exact ⟨s, List.mem_flatMap.2 ⟨r, hr, hs⟩, q⟩
/-! ### rows joined -/
def joinStep (found : List Row) (r : Row) : List Row := match found.getLast? with
  | none => found ++ [r]
  | some z => if z.2.1 = some r.1 ∧ z.2.2 = r.2.2 then found.dropLast ++ [(z.1, r.2.1, r.2.2)] else found ++ [r]
theorem joinStep_ok {found : List Row} {r : Row} (h : ∀ s ∈ found, wfRow s) (hr : wfRow r) :
    (∀ s ∈ joinStep found r, wfRow s) ∧ ∀ p k, cov (joinStep found r) p k ↔ cov found p k ∨ covR r p k := by
  have plain : (∀ s ∈ found ++ [r], wfRow s) ∧ ∀ p k, cov (found ++ [r]) p k ↔ cov found p k ∨ covR r p k := by
    refine ⟨fun s hs => ?_, fun p k => by rw [cov_append, cov_one]⟩
    rcases List.mem_append.1 hs with q | q
    · exact h s q
    · rw [List.mem_singleton] at q
      exact q ▸ hr
  unfold joinStep
  cases e : found.getLast? with
  | none => exact plain
  | some z =>
    simp only
    by_cases c : z.2.1 = some r.1 ∧ z.2.2 = r.2.2
    · rw [if_pos c]
      obtain ⟨m, hm⟩ := List.getLast?_eq_some_iff.1 e
      subst hm
      rw [List.dropLast_concat]
      have hz : wfRow z := h z (by simp)
      obtain ⟨zf, zl, zk⟩ := z
      obtain ⟨f, l, k⟩ := r
      obtain ⟨c1, c2⟩ := c
      simp only at c1 c2
      subst c1 c2
      have hz : wfR zf (some f) := hz
      rw [wfR_some] at hz
      have hr : wfR f l := hr
      refine ⟨fun s hs => ?_, fun p k => ?_⟩
      · rcases List.mem_append.1 hs with q | q
        · exact h s (by simp [q])
        · rw [List.mem_singleton] at q
          subst q
          show wfR zf l
          cases l with
          | none => rw [wfR_none]; omega
          | some y => rw [wfR_some] at hr ⊢; omega
      · rw [cov_append, cov_append, cov_one, cov_one, or_assoc]
        have : covR (zf, l, zk) p k ↔ covR (zf, some f, zk) p k ∨ covR (f, l, zk) p k := by
          unfold covR
          simp only
          rw [inR_some]
          cases l with
          | none =>
            rw [inR_none, inR_none]
            constructor
            · rintro ⟨a, b⟩
              by_cases q : p < f
              · exact .inl ⟨⟨a, q⟩, b⟩
              · exact .inr ⟨by omega, b⟩
            · rintro (⟨⟨a, _⟩, b⟩ | ⟨a, b⟩)
              · exact ⟨a, b⟩
              · exact ⟨by omega, b⟩
          | some y =>
            rw [wfR_some] at hr
            rw [inR_some, inR_some]
            constructor
            · rintro ⟨a, b⟩
              by_cases q : p < f
              · exact .inl ⟨⟨a.1, q⟩, b⟩
              · exact .inr ⟨⟨by omega, a.2⟩, b⟩
            · rintro (⟨⟨a, _⟩, b⟩ | ⟨a, b⟩)
              · exact ⟨⟨a, by omega⟩, b⟩
              · exact ⟨⟨by omega, a.2⟩, b⟩
        rw [this]
    · rw [if_neg c]
      exact plain
def joinRows (rows : List Row) : List Row := rows.foldl joinStep []
theorem joinRows_snoc (rows : List Row) (r : Row) : joinRows (rows ++ [r]) = joinStep (joinRows rows) r := by
  unfold joinRows
  rw [List.foldl_append]
  rfl
theorem joinRows_ok : ∀ {rows : List Row}, (∀ s ∈ rows, wfRow s) → (∀ s ∈ joinRows rows, wfRow s) ∧ ∀ p k, cov (joinRows rows) p k ↔ cov rows p k := by
  intro rows
  induction rows using snocInd with
  | h0 => intro _; exact ⟨by simp [joinRows], fun p k => Iff.rfl⟩
  | h1 rows r ih =>
    intro h
    obtain ⟨i1, i2⟩ := ih fun s hs => h s (by simp [hs])
    obtain ⟨j1, j2⟩ := joinStep_ok i1 (h r (by simp))
    rw [joinRows_snoc]
    refine ⟨j1, fun p k => ?_⟩
    rw [j2, i2, cov_append, cov_one]
/-! ### locks put one behind another -/
section
variable {α : Type} [DecidableEq α]
/-- owner, row -/
abbrev Lk (α : Type) := α × Row
def lastCov (ls : List (Lk α)) (o : α) (p : Int) : Option Bool := ls.foldl (fun acc l => if l.1 = o ∧ inR l.2.1 l.2.2.1 p then some l.2.2.2 else acc) none
theorem lastCov_snoc (ls : List (Lk α)) (l : Lk α) (o : α) (p : Int) : lastCov (ls ++ [l]) o p = if l.1 = o ∧ inR l.2.1 l.2.2.1 p then some l.2.2.2 else lastCov ls o p := by
  unfold lastCov
  rw [List.foldl_append]
  rfl
theorem lastCov_mem : ∀ {ls : List (Lk α)} {o : α} {p : Int} {k : Bool}, lastCov ls o p = some k → ∃ l ∈ ls, l.1 = o ∧ covR l.2 p k := by
  intro ls
  induction ls using snocInd with
  | h0 => intro o p k h; cases h
  | h1 ls l ih =>
    intro o p k h
    rw [lastCov_snoc] at h
    by_cases c : l.1 = o ∧ inR l.2.1 l.2.2.1 p
    · rw [if_pos c] at h
      injection h with h
      exact ⟨l, by simp, c.1, c.2, h⟩
    · rw [if_neg c] at h
      obtain ⟨m, hm, q⟩ := ih h
      exact ⟨m, by simp [hm], q⟩
theorem lastCov_some : ∀ {ls : List (Lk α)} {l : Lk α} {p : Int}, l ∈ ls → inR l.2.1 l.2.2.1 p → ∃ k, lastCov ls l.1 p = some k := by
  intro ls
  induction ls using snocInd with
  | h0 => intro l p h; cases h
  | h1 ls m ih =>
    intro l p h hp
    rw [lastCov_snoc]
    by_cases c : m.1 = l.1 ∧ inR m.2.1 m.2.2.1 p
    · exact ⟨_, if_pos c⟩
    · rw [if_neg c]
      rcases List.mem_append.1 h with q | q
      · exact ih q hp
      · rw [List.mem_singleton] at q
        subst q
        exact absurd ⟨rfl, hp⟩ c
/-- where all locks of one owner at a place say the same -/
theorem lastCov_fun {ls : List (Lk α)} (hf : ∀ l ∈ ls, ∀ m ∈ ls, l.1 = m.1 → ∀ p, inR l.2.1 l.2.2.1 p → inR m.2.1 m.2.2.1 p → l.2.2.2 = m.2.2.2) (o : α) (p : Int) (k : Bool) :
    lastCov ls o p = some k ↔ ∃ l ∈ ls, l.1 = o ∧ covR l.2 p k := by
  constructor
  · exact lastCov_mem
  · rintro ⟨l, hl, ho, hc, hk⟩
    obtain ⟨j, hj⟩ := lastCov_some hl hc
    obtain ⟨m, hm, ho', hc', hk'⟩ := lastCov_mem hj
    rw [ho] at hj
    rw [hj, ← hk', ← hk, hf m hm l hl ho' p hc' hc]
/-- a lock that clashes with nothing that stands -/
def okNext (ls : List (Lk α)) (l : Lk α) : Prop := ∀ o p k, o ≠ l.1 → inR l.2.1 l.2.2.1 p → lastCov ls o p = some k → k = false ∧ l.2.2.2 = false
def AllOk (ls : List (Lk α)) : Prop := ∀ pre l suf, ls = pre ++ l :: suf → okNext pre l
theorem allOk_nil : AllOk ([] : List (Lk α)) := fun pre l suf h => by
  have := congrArg List.length h
  simp at this
theorem allOk_snoc {ls : List (Lk α)} {l : Lk α} : AllOk (ls ++ [l]) ↔ AllOk ls ∧ okNext ls l := by
  constructor
  · intro h
    refine ⟨fun pre m suf e => h pre m (suf ++ [l]) (by rw [e]; simp), h ls l [] rfl⟩
  · rintro ⟨h1, h2⟩ pre m suf e
    rcases List.eq_nil_or_concat suf with rfl | ⟨s2, z, rfl⟩
    · have e' : ls ++ [l] = pre ++ [m] := e
      obtain ⟨a, b⟩ := List.append_inj' e' rfl
      injection b with b
      subst a b
      exact h2
    · have e' : ls ++ [l] = (pre ++ m :: s2) ++ [z] := by rw [e]; simp
      obtain ⟨a, b⟩ := List.append_inj' e' rfl
      exact h1 pre m s2 a
def PairOk (ls : List (Lk α)) : Prop := ∀ l ∈ ls, ∀ m ∈ ls, l.1 ≠ m.1 → ∀ p, inR l.2.1 l.2.2.1 p → inR m.2.1 m.2.2.1 p → l.2.2.2 = false ∧ m.2.2.2 = false
theorem pairOk_allOk {ls : List (Lk α)} (h : PairOk ls) : AllOk ls := fun pre l suf e o p k ho hp hk => by
  obtain ⟨m, hm, h1, h2, h3⟩ := lastCov_mem hk
  have hm' : m ∈ ls := by rw [e]; simp [hm]
  have hl' : l ∈ ls := by rw [e]; simp
  have := h m hm' l hl' (by rw [h1]; exact ho) p h2 hp
  rw [← h3]
  exact this
/-- unlike owners never write where another one is -/
theorem allOk_compat : ∀ {ls : List (Lk α)}, AllOk ls → ∀ o o' p k k', o ≠ o' → lastCov ls o p = some k → lastCov ls o' p = some k' → k = false ∧ k' = false := by
  intro ls
  induction ls using snocInd with
  | h0 => intro _ o o' p k k' _ h; cases h
  | h1 ls l ih =>
    intro h o o' p k k' hne h1 h2
    rw [allOk_snoc] at h
    rw [lastCov_snoc] at h1 h2
    by_cases c : l.1 = o ∧ inR l.2.1 l.2.2.1 p
    · rw [if_pos c] at h1
      rw [if_neg fun z => hne (c.1.symm.trans z.1)] at h2
      injection h1 with h1
      have := h.2 o' p k' (fun z => hne (c.1.symm.trans z.symm)) c.2 h2
      exact ⟨h1 ▸ this.2, this.1⟩
    · rw [if_neg c] at h1
      by_cases c' : l.1 = o' ∧ inR l.2.1 l.2.2.1 p
      · rw [if_pos c'] at h2
        injection h2 with h2
        have := h.2 o p k (fun z => hne (z.trans c'.1)) c'.2 h1
        exact ⟨this.1, h2 ▸ this.2⟩
      · rw [if_neg c'] at h2
        exact ih h.1 o o' p k k' hne h1 h2
/-- o's locks stand in the way of the want -/
def Wt (ls : List (Lk α)) (w : Lk α) (o : α) : Prop := o ≠ w.1 ∧ ∃ p k, inR w.2.1 w.2.2.1 p ∧ lastCov ls o p = some k ∧ (k = true ∨ w.2.2.2 = true)
theorem Wt.owner {ls : List (Lk α)} {w : Lk α} {o : α} (h : Wt ls w o) : o ∈ ls.map (·.1) := by
  obtain ⟨_, p, k, _, hk, _⟩ := h
  obtain ⟨l, hl, e, _⟩ := lastCov_mem hk
  exact List.mem_map.2 ⟨l, hl, e⟩
/-! ### places multiplied -/
def farL (s : Int) (l : Lk α) : Lk α := (l.1, l.2.1 * s, l.2.2.1.map (· * s), l.2.2.2)
theorem inR_far {s : Int} (hs : 0 < s) {b : Int} {e : Option Int} {p : Int} : inR (b * s) (e.map (· * s)) p ↔ inR b e (p / s) := by
  have h1 : ∀ b : Int, b * s ≤ p ↔ b ≤ p / s := fun b => (Int.le_ediv_iff_mul_le hs).symm
  have h2 : ∀ z : Int, p < z * s ↔ p / s < z := fun z => (Int.ediv_lt_iff_lt_mul hs).symm
  cases e with
  | none =>
    show inR (b * s) none p ↔ _
    rw [inR_none, inR_none, h1]
  | some z =>
    show inR (b * s) (some (z * s)) p ↔ _
    rw [inR_some, inR_some, h1, h2]
theorem lastCov_far {s : Int} (hs : 0 < s) : ∀ (ls : List (Lk α)) (o : α) (p : Int), lastCov (ls.map (farL s)) o p = lastCov ls o (p / s) := by
  intro ls
  induction ls using snocInd with
  | h0 => intro o p; rfl
  | h1 ls l ih =>
    intro o p
    rw [List.map_append, List.map_singleton, lastCov_snoc, lastCov_snoc, ih]
    have : ((farL s l).1 = o ∧ inR (farL s l).2.1 (farL s l).2.2.1 p) ↔ (l.1 = o ∧ inR l.2.1 l.2.2.1 (p / s)) := by
      show (l.1 = o ∧ inR (l.2.1 * s) (l.2.2.1.map (· * s)) p) ↔ _
      rw [inR_far hs]
    by_cases c : l.1 = o ∧ inR l.2.1 l.2.2.1 (p / s)
    · rw [if_pos c, if_pos (this.2 c)]
      rfl
    · rw [if_neg c, if_neg fun z => c (this.1 z)]
theorem mul_div {s : Int} (hs : 0 < s) (p : Int) : p * s / s = p := Int.mul_ediv_cancel p (by omega)
theorem Wt_far {s : Int} (hs : 0 < s) {ls : List (Lk α)} {w : Lk α} {o : α} : Wt (ls.map (farL s)) (farL s w) o ↔ Wt ls w o := by
  unfold Wt
  constructor
  · rintro ⟨h1, p, k, h2, h3, h4⟩
    refine ⟨h1, p / s, k, (inR_far hs).1 h2, ?_, h4⟩
    rw [← lastCov_far hs]
    exact h3
  · rintro ⟨h1, p, k, h2, h3, h4⟩
    refine ⟨h1, p * s, k, (inR_far hs).2 ?_, ?_, h4⟩
    · rw [mul_div hs]; exact h2
    · rw [lastCov_far hs, mul_div hs]; exact h3
theorem okNext_far {s : Int} (hs : 0 < s) {ls : List (Lk α)} {l : Lk α} (h : okNext ls l) : okNext (ls.map (farL s)) (farL s l) := fun o p k ho hp hk =>
  h o (p / s) k ho ((inR_far hs).1 hp) (by rw [← lastCov_far hs]; exact hk)
theorem allOk_far {s : Int} (hs : 0 < s) : ∀ {ls : List (Lk α)}, AllOk ls → AllOk (ls.map (farL s)) := by
  intro ls
  induction ls using snocInd with
  | h0 => intro _; exact allOk_nil
  | h1 ls l ih =>
    intro h
    rw [allOk_snoc] at h
    rw [List.map_append, List.map_singleton, allOk_snoc]
    exact ⟨ih h.1, okNext_far hs h.2⟩
end
end WM
/-! Tables of rows; the fewest locks by all places. -/
namespace WM
set_option linter.all false
section
variable {α : Type} [DecidableEq α]
abbrev Tb (α : Type) := List (α × List Row)
def getT (tb : Tb α) (o : α) : List Row := ((tb.find? fun e => decide (e.1 = o)).map (·.2)).getD []
def putT (tb : Tb α) (o : α) (rows : List Row) : Tb α := if (tb.any fun e => decide (e.1 = o)) = true then tb.map (fun e => if e.1 = o then (e.1, rows) else e) else tb ++ [(o, rows)]
/-- what stands in the table -/
def Stands (tb : Tb α) (o : α) (r : Row) : Prop := ∃ rows, (o, rows) ∈ tb ∧ r ∈ rows
structure TblOk (tb : Tb α) (ls : List (Lk α)) : Prop where
  nd : (tb.map (·.1)).Nodup
  keys : ∀ o, o ∈ tb.map (·.1) ↔ o ∈ ls.map (·.1)
  wf : ∀ o r, Stands tb o r → wfRow r
  cv : ∀ o p k, (∃ r, Stands tb o r ∧ covR r p k) ↔ lastCov ls o p = some k
theorem tblOk_nil : TblOk ([] : Tb α) [] where
  nd := List.nodup_nil
  keys := fun o => Iff.rfl
  wf := fun o r ⟨_, h, _⟩ => (by cases h)
  cv := fun o p k => ⟨fun ⟨r, ⟨_, h, _⟩, _⟩ => (by cases h), fun h => (by cases h)⟩
theorem mem_getT : ∀ {tb : Tb α}, (tb.map (·.1)).Nodup → ∀ {o : α} {r : Row}, r ∈ getT tb o ↔ Stands tb o r
  | [], _, o, r => ⟨fun h => (by cases h), fun ⟨_, h, _⟩ => (by cases h)⟩
  | (k, rows) :: tb, hn, o, r => by
    rw [List.map_cons, List.nodup_cons] at hn
    unfold getT
    rw [List.find?_cons]
    by_cases c : k = o
    · subst c
      simp only [decide_true, Option.map_some, Option.getD_some]
      constructor
      · exact fun h => ⟨rows, by simp, h⟩
      · rintro ⟨rs, h, hr⟩
        rcases List.mem_cons.1 h with q | q
        · injection q with _ q
          exact q ▸ hr
        · exact absurd (List.mem_map.2 ⟨_, q, rfl⟩) hn.1
    · simp only [c, decide_false]
      have := mem_getT hn.2 (o := o) (r := r)
      unfold getT at this
      rw [this]
      constructor
      · rintro ⟨rs, h, hr⟩
        exact ⟨rs, by simp [h], hr⟩
      · rintro ⟨rs, h, hr⟩
        rcases List.mem_cons.1 h with q | q
        · injection q with q _
          exact absurd q.symm c
        · exact ⟨rs, q, hr⟩
theorem keys_putT (tb : Tb α) (o : α) (rows : List Row) : (putT tb o rows).map (·.1) = if o ∈ tb.map (·.1) then tb.map (·.1) else tb.map (·.1) ++ [o] := by
  unfold putT
  by_cases c : o ∈ tb.map (·.1)
  · have h : (tb.any fun e => decide (e.1 = o)) = true := by
      obtain ⟨e, he, q⟩ := List.mem_map.1 c
      exact List.any_eq_true.2 ⟨e, he, decide_eq_true q⟩
    rw [if_pos h, if_pos c, List.map_map]
    refine List.map_congr_left fun e _ => ?_
    simp only [Function.comp]
    split <;> rfl
  · have h : ¬ (tb.any fun e => decide (e.1 = o)) = true := fun z => by
      obtain ⟨e, he, q⟩ := List.any_eq_true.1 z
      exact c (List.mem_map.2 ⟨e, he, of_decide_eq_true q⟩)
    rw [if_neg h, if_neg c]
    simp
theorem stands_putT {tb : Tb α} (hn : (tb.map (·.1)).Nodup) {o : α} {rows : List Row} {o' : α} {r : Row} : Stands (putT tb o rows) o' r ↔ if o' = o then r ∈ rows else Stands tb o' r := by
  unfold putT Stands
  by_cases c : (tb.any fun e => decide (e.1 = o)) = true
  · rw [if_pos c]
    constructor
    · rintro ⟨rs, h, hr⟩
      obtain ⟨e, he, q⟩ := List.mem_map.1 h
      by_cases ce : e.1 = o
      · rw [if_pos ce] at q
        injection q with q1 q2
        rw [if_pos (q1.symm.trans ce)]
        exact q2 ▸ hr
      · rw [if_neg ce] at q
        subst q
        rw [if_neg ce]
        exact ⟨rs, he, hr⟩
    · intro h
      by_cases ce : o' = o
      · rw [if_pos ce] at h
        subst ce
        obtain ⟨e, he, q⟩ := List.any_eq_true.1 c
        have q := of_decide_eq_true q
        exact ⟨rows, List.mem_map.2 ⟨e, he, by rw [if_pos q, q]⟩, h⟩
      · rw [if_neg ce] at h
        obtain ⟨rs, hrs, hr⟩ := h
        exact ⟨rs, List.mem_map.2 ⟨(o', rs), hrs, if_neg ce⟩, hr⟩
  · rw [if_neg c]
    have hno : ∀ rs, (o, rs) ∉ tb := fun rs z => c (List.any_eq_true.2 ⟨_, z, decide_eq_true rfl⟩)
    constructor
    · rintro ⟨rs, h, hr⟩
      rcases List.mem_append.1 h with q | q
      · rw [if_neg fun (e : o' = o) => hno rs (e ▸ q)]
        exact ⟨rs, q, hr⟩
      · rw [List.mem_singleton] at q
        injection q with q1 q2
        rw [if_pos q1]
        exact q2 ▸ hr
    · intro h
      by_cases ce : o' = o
      · rw [if_pos ce] at h
        exact ⟨rows, by simp [ce], h⟩
      · rw [if_neg ce] at h
        obtain ⟨rs, hrs, hr⟩ := h
        exact ⟨rs, by simp [hrs], hr⟩
theorem tblOk_put {tb : Tb α} {ls : List (Lk α)} (T : TblOk tb ls) {l : Lk α} {rows : List Row} (hw : ∀ r ∈ rows, wfRow r)
    (hc : ∀ p k, cov rows p k ↔ (cov (getT tb l.1) p k ∧ ¬ inR l.2.1 l.2.2.1 p) ∨ covR l.2 p k) : TblOk (putT tb l.1 rows) (ls ++ [l]) where
  nd := by
    rw [keys_putT]
    split
    · exact T.nd
    · rename_i c
      rw [List.nodup_append]
      refine ⟨T.nd, by simp, fun x hx y hy => ?_⟩
      rw [List.mem_singleton] at hy
      subst hy
      exact fun (e : x = l.1) => c (e ▸ hx)
  keys := by
    intro o
    rw [keys_putT]
    have h := T.keys o
    have h2 := T.keys l.1
    split
    · rename_i c
      rw [h, List.map_append, List.mem_append]
      constructor
      · exact fun q => .inl q
      · rintro (q | q)
        · exact q
        · rw [List.map_singleton, List.mem_singleton] at q
          subst q
          exact h2.1 c
    · rw [List.map_append, List.mem_append, List.mem_append, h]
      rfl
  wf := by
    intro o r h
    rw [stands_putT T.nd] at h
    split at h
    · exact hw r h
    · exact T.wf o r h
  cv := by
    intro o p k
    rw [lastCov_snoc]
    have e1 : (∃ r, Stands (putT tb l.1 rows) o r ∧ covR r p k) ↔ if o = l.1 then cov rows p k else ∃ r, Stands tb o r ∧ covR r p k := by
      constructor
      · rintro ⟨r, h, q⟩
        rw [stands_putT T.nd] at h
        split
        · rename_i c
          rw [if_pos c] at h
          exact ⟨r, h, q⟩
        · rename_i c
          rw [if_neg c] at h
          exact ⟨r, h, q⟩
      · intro h
        by_cases c : o = l.1
        · rw [if_pos c] at h
          obtain ⟨r, hr, q⟩ := h
          exact ⟨r, (stands_putT T.nd).2 (by rw [if_pos c]; exact hr), q⟩
        · rw [if_neg c] at h
          obtain ⟨r, hr, q⟩ := h
          exact ⟨r, (stands_putT T.nd).2 (by rw [if_neg c]; exact hr), q⟩
    rw [e1]
    by_cases c : o = l.1
    · rw [if_pos c, hc]
      have e2 : cov (getT tb l.1) p k ↔ lastCov ls o p = some k := by
        rw [← T.cv, c]
        constructor
        · rintro ⟨r, hr, q⟩
          exact ⟨r, (mem_getT T.nd).1 hr, q⟩
        · rintro ⟨r, hr, q⟩
          exact ⟨r, (mem_getT T.nd).2 hr, q⟩
      rw [e2]
      by_cases cp : inR l.2.1 l.2.2.1 p
      · rw [if_pos ⟨c.symm, cp⟩]
        unfold covR
        simp [cp]
      · rw [if_neg fun z => cp z.2]
        unfold covR
        simp [cp]
    · rw [if_neg c, T.cv, if_neg fun z => c z.1.symm]
/-- whether two locks clash -/
def clashB (a b : Lk α) : Bool := decide (a.1 ≠ b.1) && (a.2.2.2 || b.2.2.2) && meetB a.2.1 a.2.2.1 b.2.1 b.2.2.1
theorem clashB_iff {a b : Lk α} (ha : wfRow a.2) (hb : wfRow b.2) : clashB a b = true ↔ a.1 ≠ b.1 ∧ (a.2.2.2 = true ∨ b.2.2.2 = true) ∧ ∃ p, inR a.2.1 a.2.2.1 p ∧ inR b.2.1 b.2.2.1 p := by
  unfold clashB
  rw [Bool.and_eq_true, Bool.and_eq_true, decide_eq_true_eq, Bool.or_eq_true, meetB_iff ha hb, and_assoc]
theorem no_clash {tb : Tb α} {ls : List (Lk α)} (T : TblOk tb ls) {l : Lk α} (hl : wfRow l.2) (h : okNext ls l) {o : α} {r : Row} (hs : Stands tb o r) : clashB (o, r) l = false := by
  cases e : clashB (o, r) l with
  | false => rfl
  | true =>
    obtain ⟨h1, h2, p, h3, h4⟩ := (clashB_iff (T.wf o r hs) hl).1 e
    have := h o p r.2.2 h1 h4 ((T.cv o p r.2.2).1 ⟨r, hs, h3, rfl⟩)
    rw [this.2] at h2
    simp only at h2
    rw [this.1] at h2
    simp at h2
theorem clash_waits {tb : Tb α} {ls : List (Lk α)} (T : TblOk tb ls) {w : Lk α} (hw : wfRow w.2) {o : α} : (∃ r, Stands tb o r ∧ clashB (o, r) w = true) ↔ Wt ls w o := by
  constructor
  · rintro ⟨r, hs, hc⟩
    obtain ⟨h1, h2, p, h3, h4⟩ := (clashB_iff (T.wf o r hs) hw).1 hc
    exact ⟨h1, p, r.2.2, h4, (T.cv o p r.2.2).1 ⟨r, hs, h3, rfl⟩, h2⟩
  · rintro ⟨h1, p, k, h2, h3, h4⟩
    obtain ⟨r, hs, hc, hk⟩ := (T.cv o p k).2 h3
    exact ⟨r, hs, (clashB_iff (T.wf o r hs) hw).2 ⟨h1, by rw [hk]; exact h4, p, hc, h2⟩⟩
/-- the locks of a table without an owner's make a table -/
theorem lift_ok {tb : Tb α} {ls tl : List (Lk α)} (T : TblOk tb ls) (A : AllOk ls) (hm : ∀ l, l ∈ tl ↔ Stands tb l.1 l.2) (x : α) :
    AllOk (tl.filter fun l => decide (l.1 ≠ x)) ∧ (∀ l ∈ tl.filter fun l => decide (l.1 ≠ x), wfRow l.2) ∧
      ∀ o p, lastCov (tl.filter fun l => decide (l.1 ≠ x)) o p = if o = x then none else lastCov ls o p := by
  have at_ : ∀ l ∈ tl, ∀ p, inR l.2.1 l.2.2.1 p → lastCov ls l.1 p = some l.2.2.2 := fun l hl p hp => (T.cv l.1 p l.2.2.2).1 ⟨l.2, (hm l).1 hl, hp, rfl⟩
  refine ⟨pairOk_allOk fun l hl m hm' hne p hp hq => ?_, fun l hl => T.wf _ _ ((hm l).1 (List.mem_filter.1 hl).1), fun o p => ?_⟩
  · exact allOk_compat A l.1 m.1 p _ _ hne (at_ l (List.mem_filter.1 hl).1 p hp) (at_ m (List.mem_filter.1 hm').1 p hq)
  · have hf : ∀ l ∈ tl.filter (fun l => decide (l.1 ≠ x)), ∀ m ∈ tl.filter (fun l => decide (l.1 ≠ x)), l.1 = m.1 → ∀ p, inR l.2.1 l.2.2.1 p → inR m.2.1 m.2.2.1 p → l.2.2.2 = m.2.2.2 := by
      intro l hl m hm' e p hp hq
      have a := at_ l (List.mem_filter.1 hl).1 p hp
      have b := at_ m (List.mem_filter.1 hm').1 p hq
      rw [e, b] at a
      injection a with a
      exact a.symm
    apply Option.ext
    intro k
    rw [lastCov_fun hf]
    by_cases c : o = x
    · rw [if_pos c]
      constructor
      · rintro ⟨l, hl, ho, _⟩
        have := (List.mem_filter.1 hl).2
        rw [ho, c] at this
        simp at this
      · intro h; cases h
    · rw [if_neg c, ← T.cv]
      constructor
      · rintro ⟨l, hl, ho, hc⟩
        exact ⟨l.2, ho ▸ (hm l).1 (List.mem_filter.1 hl).1, hc⟩
      · rintro ⟨r, hs, hc⟩
        exact ⟨(o, r), List.mem_filter.2 ⟨(hm (o, r)).2 hs, by simpa using c⟩, rfl, hc⟩
/-! ### the fewest locks by all places -/
abbrev NSt := List Row × Option (Int × Bool)
def nStep (most : Nat) (lc : Int → Option Bool) (st : NSt) (i : Nat) : NSt :=
  let st1 : NSt := match st.2 with
    | some bk => if i > most ∨ lc i ≠ some bk.2 then (st.1 ++ [(bk.1, if i > most then none else some (i : Int), bk.2)], none) else st
    | none => st
  match st1.2 with
  | some _ => st1
  | none => match lc i with
    | some k => if i ≤ most then (st1.1, some ((i : Int), k)) else st1
    | none => st1
def nRun (most : Nat) (lc : Int → Option Bool) (n : Nat) : NSt := (List.range n).foldl (nStep most lc) ([], none)
theorem nRun_succ (most : Nat) (lc : Int → Option Bool) (n : Nat) : nRun most lc (n + 1) = nStep most lc (nRun most lc n) n := by
  unfold nRun
  rw [List.range_succ, List.foldl_append]
  rfl
/-- in the midst: the places ahead of i are told -/
structure NJ (lc : Int → Option Bool) (i : Nat) (st : NSt) : Prop where
  told : ∀ p : Int, p < i → ∀ k, lc p = some k ↔ cov st.1 p k ∨ ∃ b, st.2 = some (b, k) ∧ b ≤ p
  past : ∀ p : Int, (i : Int) - 1 ≤ p → ∀ k, ¬ cov st.1 p k
  wf : ∀ r ∈ st.1, wfRow r
  beg : ∀ b k, st.2 = some (b, k) → 0 ≤ b ∧ b < i
theorem nj_zero {lc : Int → Option Bool} (h0 : ∀ p : Int, p < 0 → lc p = none) : NJ lc 0 ([], none) where
  told := fun p hp k => by
    rw [h0 p (by omega)]
    constructor
    · intro h; cases h
    · rintro (h | ⟨b, h, _⟩)
      · exact absurd h cov_nil
      · cases h
  past := fun p _ k h => cov_nil h
  wf := fun r h => by cases h
  beg := fun b k h => by cases h
theorem nj_keep {lc : Int → Option Bool} {i : Nat} {f : List Row} {b : Int} {k : Bool} (J : NJ lc i (f, some (b, k))) (hk : lc i = some k) : NJ lc (i + 1) (f, some (b, k)) where
  told := fun p hp j => by
    by_cases c : p < i
    · exact J.told p c j
    · have e : p = i := by omega
      subst e
      rw [hk]
      have := J.beg b k rfl
      constructor
      · intro q
        injection q with q
        subst q
        exact .inr ⟨b, rfl, by omega⟩
      · rintro (q | ⟨_, q, _⟩)
        · exact absurd q (J.past i (by omega) j)
        · injection q with q
          injection q with _ q
          rw [q]
  past := fun p hp j => J.past p (by omega) j
  wf := J.wf
  beg := fun b' k' h => by
    have := J.beg b' k' h
    omega
/-- a stretch ends ahead of i -/
theorem nj_end {lc : Int → Option Bool} {i : Nat} {f : List Row} {b : Int} {k : Bool} (J : NJ lc i (f, some (b, k))) : NJ lc i (f ++ [(b, some (i : Int), k)], none) ∨ True := .inr trivial
theorem nj_none {lc : Int → Option Bool} {i : Nat} {f : List Row} (h1 : ∀ p : Int, p < i → ∀ k, lc p = some k ↔ cov f p k) (h2 : ∀ p : Int, (i : Int) ≤ p → ∀ k, ¬ cov f p k) (hw : ∀ r ∈ f, wfRow r) (hk : lc i = none) : NJ lc (i + 1) (f, none) where
  told := fun p hp j => by
    by_cases c : p < i
    · rw [h1 p c]
      constructor
      · exact fun q => .inl q
      · rintro (q | ⟨_, q, _⟩)
        · exact q
        · cases q
    · have e : p = i := by omega
      subst e
      rw [hk]
      constructor
      · intro q; cases q
      · rintro (q | ⟨_, q, _⟩)
        · exact absurd q (h2 i (by omega) j)
        · cases q
  past := fun p hp j => h2 p (by omega) j
  wf := hw
  beg := fun b' k' h => by cases h
theorem nj_begin {lc : Int → Option Bool} {i : Nat} {f : List Row} {k : Bool} (h1 : ∀ p : Int, p < i → ∀ k, lc p = some k ↔ cov f p k) (h2 : ∀ p : Int, (i : Int) ≤ p → ∀ k, ¬ cov f p k) (hw : ∀ r ∈ f, wfRow r) (hk : lc i = some k) : NJ lc (i + 1) (f, some ((i : Int), k)) where
  told := fun p hp j => by
    by_cases c : p < i
    · rw [h1 p c]
      constructor
      · exact fun q => .inl q
      · rintro (q | ⟨b, q, hb⟩)
        · exact q
        · injection q with q
          injection q with q _
          omega
    · have e : p = i := by omega
      subst e
      rw [hk]
      constructor
      · intro q
        injection q with q
        subst q
        exact .inr ⟨i, rfl, by omega⟩
      · rintro (q | ⟨_, q, _⟩)
        · exact absurd q (h2 i (by omega) j)
        · injection q with q
          injection q with _ q
          rw [q]
  past := fun p hp j => h2 p (by omega) j
  wf := hw
  beg := fun b' k' h => by
    injection h with h
    injection h with h _
    omega
/-- the told places, once what has begun is ended at i -/
theorem nj_closed {lc : Int → Option Bool} {i : Nat} {f : List Row} {b : Int} {k : Bool} (J : NJ lc i (f, some (b, k))) :
    (∀ p : Int, p < i → ∀ j, lc p = some j ↔ cov (f ++ [(b, some (i : Int), k)]) p j) ∧ (∀ p : Int, (i : Int) ≤ p → ∀ j, ¬ cov (f ++ [(b, some (i : Int), k)]) p j) ∧ ∀ r ∈ f ++ [(b, some (i : Int), k)], wfRow r := by
  have hb := J.beg b k rfl
  refine ⟨fun p hp j => ?_, fun p hp j h => ?_, fun r hr => ?_⟩
  · rw [J.told p hp, cov_append, cov_one]
    unfold covR
    rw [inR_some]
    constructor
    · rintro (q | ⟨b', q, q'⟩)
      · exact .inl q
      · injection q with q
        injection q with q1 q2
        subst q1 q2
        exact .inr ⟨⟨q', hp⟩, rfl⟩
    · rintro (q | ⟨⟨q, _⟩, q'⟩)
      · exact .inl q
      · simp only at q'
        subst q'
        exact .inr ⟨b, rfl, q⟩
  · rw [cov_append, cov_one] at h
    rcases h with q | ⟨q, _⟩
    · exact J.past p (by omega) j q
    · have := (inR_some.1 q).2
      omega
  · rcases List.mem_append.1 hr with q | q
    · exact J.wf r q
    · rw [List.mem_singleton] at q
      subst q
      exact wfR_some.2 hb
theorem nj_open {lc : Int → Option Bool} {i : Nat} {f : List Row} (J : NJ lc i (f, none)) :
    (∀ p : Int, p < i → ∀ j, lc p = some j ↔ cov f p j) ∧ (∀ p : Int, (i : Int) ≤ p → ∀ j, ¬ cov f p j) ∧ ∀ r ∈ f, wfRow r :=
  ⟨fun p hp j => by
    rw [J.told p hp]
    constructor
    · rintro (q | ⟨_, q, _⟩)
      · exact q
      · cases q
    · exact fun q => .inl q, fun p hp j => J.past p (by omega) j, J.wf⟩
theorem nj_step {most : Nat} {lc : Int → Option Bool} {i : Nat} {st : NSt} (hi : i ≤ most) (J : NJ lc i st) : NJ lc (i + 1) (nStep most lc st i) := by
  obtain ⟨f, g⟩ := st
  have hm : ¬ i > most := by omega
  unfold nStep
  cases g with
  | none =>
    obtain ⟨a, b, c⟩ := nj_open J
    simp only
    cases e : lc i with
    | none => exact nj_none a b c e
    | some k =>
      simp only [if_pos hi]
      exact nj_begin a b c e
  | some bk =>
    obtain ⟨b, k⟩ := bk
    simp only [hm, false_or, if_false]
    by_cases c : lc i = some k
    · simp only [c, ne_eq, not_true_eq_false, if_false]
      exact nj_keep J c
    · simp only [ne_eq, c, not_false_eq_true, if_true]
      obtain ⟨a, b', c'⟩ := nj_closed J
      cases e : lc i with
      | none => exact nj_none a b' c' e
      | some k =>
        simp only [if_pos hi]
        exact nj_begin a b' c' e
theorem nj_run {most : Nat} {lc : Int → Option Bool} (h0 : ∀ p : Int, p < 0 → lc p = none) : ∀ n, n ≤ most + 1 → NJ lc n (nRun most lc n)
  | 0, _ => nj_zero h0
  | n + 1, h => by
    rw [nRun_succ]
    exact nj_step (by omega) (nj_run h0 n (by omega))
def normRows (most : Nat) (lc : Int → Option Bool) : List Row := (nRun most lc (most + 2)).1
/-- behind the last place all is as at it -/
theorem normRows_ok {most : Nat} {lc : Int → Option Bool} (h0 : ∀ p : Int, p < 0 → lc p = none) (h1 : ∀ p : Int, (most : Int) < p → lc p = lc most) :
    (∀ r ∈ normRows most lc, wfRow r) ∧ ∀ p k, cov (normRows most lc) p k ↔ lc p = some k := by
  have J := nj_run (most := most) h0 (most + 1) (Nat.le_refl _)
  unfold normRows
  rw [nRun_succ]
  generalize nRun most lc (most + 1) = st at J
  obtain ⟨f, g⟩ := st
  have hm : most + 1 > most := by omega
  have hm' : ¬ most + 1 ≤ most := by omega
  unfold nStep
  cases g with
  | none =>
    obtain ⟨a, b, c⟩ := nj_open J
    have hlc : lc most = none := by
      cases e : lc most with
      | none => rfl
      | some k => exact absurd ((a most (by omega) k).1 e) (J.past most (by omega) k)
    have res : (∀ r ∈ f, wfRow r) ∧ ∀ p k, cov f p k ↔ lc p = some k := by
      refine ⟨c, fun p k => ?_⟩
      by_cases q : p < ((most + 1 : Nat) : Int)
      · exact (a p q k).symm
      · rw [h1 p (by omega), hlc]
        constructor
        · exact fun z => absurd z (b p (by omega) k)
        · intro z; cases z
    simp only [hm']
    cases lc ((most + 1 : Nat) : Int) <;> exact res
  | some bk =>
    obtain ⟨b, k⟩ := bk
    have hb := J.beg b k rfl
    have hlc : lc most = some k := (J.told most (by omega) k).2 (.inr ⟨b, rfl, by omega⟩)
    have res : (∀ r ∈ f ++ [((b, none, k) : Row)], wfRow r) ∧ ∀ p j, cov (f ++ [((b, none, k) : Row)]) p j ↔ lc p = some j := by
      refine ⟨fun r hr => ?_, fun p j => ?_⟩
      · rcases List.mem_append.1 hr with q | q
        · exact J.wf r q
        · rw [List.mem_singleton] at q
          subst q
          exact wfR_none.2 hb.1
      · rw [cov_append, cov_one]
        unfold covR
        rw [inR_none]
        by_cases q : p < ((most + 1 : Nat) : Int)
        · rw [J.told p q j]
          constructor
          · rintro (z | ⟨z, z'⟩)
            · exact .inl z
            · simp only at z'
              subst z'
              exact .inr ⟨b, rfl, z⟩
          · rintro (z | ⟨b', z, z'⟩)
            · exact .inl z
            · injection z with z
              injection z with z1 z2
              subst z1 z2
              exact .inr ⟨z', rfl⟩
        · rw [h1 p (by omega), hlc]
          constructor
          · rintro (z | ⟨_, z⟩)
            · exact absurd z (J.past p (by omega) j)
            · simp only at z
              rw [z]
          · intro z
            injection z with z
            exact .inr ⟨by simp only; omega, z⟩
    simp only [hm, true_or, if_true, hm']
    cases lc ((most + 1 : Nat) : Int) <;> exact res
/-- the locks of a list lie between 0 and the last place -/
def Near (most : Nat) (l : Lk α) : Prop := wfRow l.2 ∧ l.2.1 ≤ most ∧ ∀ z, l.2.2.1 = some z → z ≤ most
theorem lastCov_near {most : Nat} {o : α} : ∀ {ls : List (Lk α)}, (∀ l ∈ ls, Near most l) → (∀ p : Int, p < 0 → lastCov ls o p = none) ∧ ∀ p : Int, (most : Int) < p → lastCov ls o p = lastCov ls o most := by
  intro ls
  induction ls using snocInd with
  | h0 => intro _; exact ⟨fun _ _ => rfl, fun _ _ => rfl⟩
  | h1 ls l ih =>
    intro h
    obtain ⟨i1, i2⟩ := ih fun m hm => h m (by simp [hm])
    obtain ⟨n1, n2, n3⟩ := h l (by simp)
    refine ⟨fun p hp => ?_, fun p hp => ?_⟩
    · rw [lastCov_snoc, if_neg, i1 p hp]
      rintro ⟨_, q, _⟩
      have := n1.1
      omega
    · rw [lastCov_snoc, lastCov_snoc, i2 p hp]
      have : (l.1 = o ∧ inR l.2.1 l.2.2.1 p) ↔ (l.1 = o ∧ inR l.2.1 l.2.2.1 (most : Int)) := by
        refine and_congr_right fun _ => ?_
        cases e : l.2.2.1 with
        | none =>
          rw [inR_none, inR_none]
          omega
        | some z =>
          have := n3 z e
          rw [inR_some, inR_some]
          omega
      by_cases c : l.1 = o ∧ inR l.2.1 l.2.2.1 p
      · rw [if_pos c, if_pos (this.1 c)]
      · rw [if_neg c, if_neg fun z => c (this.2 z)]
/-- the fewest locks, owner by owner -/
def normal (most : Nat) (owners : List α) (ls : List (Lk α)) : List (Lk α) := owners.flatMap fun o => (normRows most (lastCov ls o)).map fun r => (o, r)
theorem normal_ok {most : Nat} {owners : List α} {ls : List (Lk α)} (hn : ∀ l ∈ ls, Near most l) (ho : ∀ o, o ∈ owners ↔ o ∈ ls.map (·.1)) :
    (∀ l ∈ normal most owners ls, wfRow l.2) ∧ ∀ o p k, (∃ r, (o, r) ∈ normal most owners ls ∧ covR r p k) ↔ lastCov ls o p = some k := by
  have key : ∀ o, (∀ r ∈ normRows most (lastCov ls o), wfRow r) ∧ ∀ p k, cov (normRows most (lastCov ls o)) p k ↔ lastCov ls o p = some k := fun o =>
    normRows_ok (lastCov_near hn).1 (lastCov_near hn).2
  refine ⟨fun l hl => ?_, fun o p k => ?_⟩
  · obtain ⟨o, _, h⟩ := List.mem_flatMap.1 hl
    obtain ⟨r, hr, rfl⟩ := List.mem_map.1 h
    exact (key o).1 r hr
  · constructor
    · rintro ⟨r, hr, hc⟩
      obtain ⟨o', _, h⟩ := List.mem_flatMap.1 hr
      obtain ⟨r', hr', e⟩ := List.mem_map.1 h
      injection e with e1 e2
      subst e1 e2
      exact ((key o').2 p k).1 ⟨r', hr', hc⟩
    · intro h
      obtain ⟨r, hr, hc⟩ := ((key o).2 p k).2 h
      obtain ⟨l, hl, e, _⟩ := lastCov_mem h
      exact ⟨r, List.mem_flatMap.2 ⟨o, (ho o).2 (List.mem_map.2 ⟨l, hl, e⟩), List.mem_map.2 ⟨r, hr, rfl⟩⟩, hc⟩
/-- clash, asked at the last begin -/
def hasB (r : Row) (p : Int) : Bool := decide (r.1 ≤ p) && (match r.2.1 with | none => true | some z => decide (p < z))
theorem hasB_iff {r : Row} {p : Int} : hasB r p = true ↔ inR r.1 r.2.1 p := by
  unfold hasB
  obtain ⟨b, e, k⟩ := r
  cases e with
  | none => rw [inR_none]; simp
  | some z => rw [inR_some]; simp
def lawClash (a b : Lk α) : Bool := decide (a.1 ≠ b.1) && (a.2.2.2 || b.2.2.2) && (hasB a.2 (max a.2.1 b.2.1) && hasB b.2 (max a.2.1 b.2.1))
theorem lawClash_iff {a b : Lk α} : lawClash a b = true ↔ a.1 ≠ b.1 ∧ (a.2.2.2 = true ∨ b.2.2.2 = true) ∧ ∃ p, inR a.2.1 a.2.2.1 p ∧ inR b.2.1 b.2.2.1 p := by
  unfold lawClash
  rw [Bool.and_eq_true, Bool.and_eq_true, Bool.and_eq_true, decide_eq_true_eq, Bool.or_eq_true, hasB_iff, hasB_iff, last_iff, and_assoc]
theorem law_waits {most : Nat} {owners : List α} {ls : List (Lk α)} (hn : ∀ l ∈ ls, Near most l) (ho : ∀ o, o ∈ owners ↔ o ∈ ls.map (·.1)) {w : Lk α} {o : α} :
    (∃ r, (o, r) ∈ normal most owners ls ∧ lawClash (o, r) w = true) ↔ Wt ls w o := by
  obtain ⟨_, h⟩ := normal_ok hn ho
  constructor
  · rintro ⟨r, hr, hc⟩
    obtain ⟨h1, h2, p, h3, h4⟩ := lawClash_iff.1 hc
    exact ⟨h1, p, r.2.2, h4, (h o p r.2.2).1 ⟨r, hr, h3, rfl⟩, h2⟩
  · rintro ⟨h1, p, k, h2, h3, h4⟩
    obtain ⟨r, hr, hc, hk⟩ := (h o p k).2 h3
    exact ⟨r, hr, lawClash_iff.2 ⟨h1, by rw [hk]; exact h4, p, hc, h2⟩⟩
theorem law_next {most : Nat} {owners : List α} {ls : List (Lk α)} (hn : ∀ l ∈ ls, Near most l) (ho : ∀ o, o ∈ owners ↔ o ∈ ls.map (·.1)) {l : Lk α}
    (hc : ∀ s ∈ normal most owners ls, lawClash s l = false) : okNext ls l := by
  obtain ⟨_, h⟩ := normal_ok hn ho
  intro o p k h1 h2 h3
  obtain ⟨r, hr, hcv, hk⟩ := (h o p k).2 h3
  have := hc (o, r) hr
  have hne : ¬ lawClash (o, r) l = true := by rw [this]; decide
  rw [lawClash_iff] at hne
  rw [← hk]
  cases e1 : r.2.2 with
  | true => exact absurd ⟨h1, .inl e1, p, hcv, h2⟩ hne
  | false =>
    cases e2 : l.2.2.2 with
    | true => exact absurd ⟨h1, .inr e2, p, hcv, h2⟩ hne
    | false => exact ⟨rfl, rfl⟩
end
end WM
/-! Rows without a place in common; how many there are. Plain Lean. -/
namespace WM
set_option linter.all false
def Dj (r s : Row) : Prop := ∀ p, ¬ (inR r.1 r.2.1 p ∧ inR s.1 s.2.1 p)
theorem Dj.symm {r s : Row} (h : Dj r s) : Dj s r := fun p ⟨a, b⟩ => h p ⟨b, a⟩
theorem leftOne_in {b : Int} {e : Option Int} {r s : Row} (h : wfRow r) (hb : wfR b e) (hs : s ∈ leftOne b e r) {p : Int} (hp : inR s.1 s.2.1 p) : inR r.1 r.2.1 p ∧ ¬ inR b e p := by
  have := (leftOne_cov h hb p s.2.2).1 ⟨s, hs, hp, rfl⟩
  exact ⟨this.1.1, this.2⟩
theorem leftRows_in {b : Int} {e : Option Int} {rows : List Row} {s : Row} (h : ∀ r ∈ rows, wfRow r) (hb : wfR b e) (hs : s ∈ leftRows rows b e) {p : Int} (hp : inR s.1 s.2.1 p) : (∃ r ∈ rows, inR r.1 r.2.1 p) ∧ ¬ inR b e p := by
  obtain ⟨r, hr, q⟩ := List.mem_flatMap.1 hs
  have := leftOne_in (h r hr) hb q hp
  exact ⟨⟨r, hr, this.1⟩, this.2⟩
theorem leftOne_dj {b : Int} {e : Option Int} {r : Row} (hb : wfR b e) : (leftOne b e r).Pairwise Dj := by
  obtain ⟨f, l, k⟩ := r
  unfold leftOne
  cases e with
  | none => split <;> simp
  | some z =>
    have hz := (wfR_some.1 hb).2
    by_cases c1 : f < b
    · by_cases c2 : pastEnd l z = true
      · simp only [c1, c2, if_true, List.singleton_append]
        refine List.pairwise_cons.2 ⟨fun s hs => ?_, by simp⟩
        rw [List.mem_singleton] at hs
        subst hs
        rintro p ⟨h1, h2⟩
        have h3 : p < cutEnd l b := h1.2 _ rfl
        have h4 : max f z ≤ p := h2.1
        have h5 : cutEnd l b ≤ b := by
          unfold cutEnd
          split
          · omega
          · split <;> omega
        omega
      · simp [c1, c2]
    · by_cases c2 : pastEnd l z = true
      · simp [c1, c2]
      · simp [c1, c2]
theorem leftRows_dj {b : Int} {e : Option Int} {rows : List Row} (h : ∀ r ∈ rows, wfRow r) (hb : wfR b e) (hd : rows.Pairwise Dj) : (leftRows rows b e).Pairwise Dj := by
  unfold leftRows
  rw [List.pairwise_flatMap]
  refine ⟨fun r _ => leftOne_dj hb, List.Pairwise.imp_of_mem ?_ hd⟩
  intro r s hr hs hrs x hx y hy p ⟨h1, h2⟩
  exact hrs p ⟨(leftOne_in (h r hr) hb hx h1).1, (leftOne_in (h s hs) hb hy h2).1⟩
theorem leftOne_len {b : Int} {e : Option Int} {r : Row} : (leftOne b e r).length ≤ 2 := by
  unfold leftOne
  rw [List.length_append]
  have h1 : (if r.1 < b then [(r.1, some (cutEnd r.2.1 b), r.2.2)] else []).length ≤ 1 := by split <;> simp
  cases e with
  | none => simp only [List.length_nil]; omega
  | some z =>
    have h2 : (if pastEnd r.2.1 z = true then [(max r.1 z, r.2.1, r.2.2)] else []).length ≤ 1 := by split <;> simp
    simp only
    omega
theorem leftOne_len1 {b : Int} {e : Option Int} {r : Row} (hb : wfR b e) (hn : ¬ inR r.1 r.2.1 b) : (leftOne b e r).length ≤ 1 := by
  obtain ⟨f, l, k⟩ := r
  unfold leftOne
  rw [List.length_append]
  cases e with
  | none => split <;> simp
  | some z =>
    have hz := (wfR_some.1 hb).2
    by_cases c1 : f < b
    · by_cases c2 : pastEnd l z = true
      · refine absurd ⟨by show f ≤ b; omega, fun y hy => ?_⟩ hn
        have hy : l = some y := hy
        rw [hy] at c2
        have := of_decide_eq_true (show decide (z < y) = true from c2)
        omega
      · simp [c1, c2]
    · by_cases c2 : pastEnd l z = true
      · simp [c1, c2]
      · simp [c1, c2]
theorem leftRows_len0 {b : Int} {e : Option Int} (hb : wfR b e) : ∀ {rows : List Row}, (∀ r ∈ rows, ¬ inR r.1 r.2.1 b) → (leftRows rows b e).length ≤ rows.length
  | [], _ => Nat.le_refl _
  | r :: rows, h => by
    have h1 := leftRows_len0 hb (rows := rows) fun s hs => h s (List.mem_cons_of_mem _ hs)
    have h2 := leftOne_len1 hb (h r List.mem_cons_self)
    unfold leftRows at h1 ⊢
    rw [List.flatMap_cons, List.length_append, List.length_cons]
    omega
theorem leftRows_len {b : Int} {e : Option Int} (hb : wfR b e) : ∀ {rows : List Row}, rows.Pairwise Dj → (leftRows rows b e).length ≤ rows.length + 1
  | [], _ => Nat.zero_le _
  | r :: rows, h => by
    rw [List.pairwise_cons] at h
    by_cases c : inR r.1 r.2.1 b
    · have h1 := leftRows_len0 hb (rows := rows) fun s hs z => h.1 s hs b ⟨c, z⟩
      have h2 := leftOne_len (b := b) (e := e) (r := r)
      unfold leftRows at h1 ⊢
      rw [List.flatMap_cons, List.length_append, List.length_cons]
      omega
    · have h1 := leftRows_len hb h.2
      have h2 := leftOne_len1 hb c
      unfold leftRows at h1 ⊢
      rw [List.flatMap_cons, List.length_append, List.length_cons]
      omega
theorem joinStep_len (found : List Row) (r : Row) : (joinStep found r).length ≤ found.length + 1 := by
  unfold joinStep
  split
  · simp
  · split
    · simp only [List.length_append, List.length_dropLast, List.length_singleton]; omega
    · simp
theorem joinRows_len (rows : List Row) : (joinRows rows).length ≤ rows.length := by
  induction rows using snocInd with
  | h0 => exact Nat.le_refl _
  | h1 rows r ih =>
    rw [joinRows_snoc, List.length_append, List.length_singleton]
    have := joinStep_len (joinRows rows) r
    omega
theorem dj_snoc {l : List Row} {r : Row} (h : l.Pairwise Dj) (hr : ∀ s ∈ l, Dj s r) : (l ++ [r]).Pairwise Dj := by
  rw [List.pairwise_append]
  refine ⟨h, by simp, fun s hs t ht => ?_⟩
  rw [List.mem_singleton] at ht
  exact ht ▸ hr s hs
theorem joinRows_dj : ∀ {rows : List Row}, (∀ r ∈ rows, wfRow r) → rows.Pairwise Dj → (joinRows rows).Pairwise Dj := by
  intro rows
  induction rows using snocInd with
  | h0 => intro _ _; simp [joinRows]
  | h1 rows r ih =>
    intro hw hd
    have hw' : ∀ s ∈ rows, wfRow s := fun s hs => hw s (by simp [hs])
    have hwr : wfRow r := hw r (by simp)
    rw [List.pairwise_append] at hd
    have hi := ih hw' hd.1
    have hsr : ∀ s ∈ joinRows rows, Dj s r := fun s hs p ⟨h1, h2⟩ => by
      obtain ⟨t, ht, h3, _⟩ := ((joinRows_ok hw').2 p s.2.2).1 ⟨s, hs, h1, rfl⟩
      exact hd.2.2 t ht r (by simp) p ⟨h3, h2⟩
    rw [joinRows_snoc]
    unfold joinStep
    cases e : (joinRows rows).getLast? with
    | none => exact dj_snoc hi hsr
    | some z =>
      simp only
      by_cases c : z.2.1 = some r.1 ∧ z.2.2 = r.2.2
      · rw [if_pos c]
        have hne : joinRows rows ≠ [] := fun h => by rw [h] at e; cases e
        have hz : (joinRows rows).getLast hne = z := by
          rw [List.getLast?_eq_some_getLast hne] at e
          injection e
        have hdl := List.dropLast_concat_getLast hne
        rw [hz] at hdl
        have hp := hi
        rw [← hdl, List.pairwise_append] at hp
        refine dj_snoc hp.1 fun s hs p ⟨h1, h2⟩ => ?_
        by_cases cp : p < r.1
        · refine hp.2.2 s hs z (by simp) p ⟨h1, h2.1, fun y hy => ?_⟩
          rw [c.1] at hy
          injection hy with hy
          omega
        · exact hsr s (by rw [← hdl]; simp [hs]) p ⟨h1, by show r.1 ≤ p; omega, h2.2⟩
      · rw [if_neg c]
        exact dj_snoc hi hsr
/-! ### tables -/
section
variable {α : Type} [DecidableEq α]
def total (tb : Tb α) : Nat := (tb.map fun e => e.2.length).sum
theorem getT_cons (k o : α) (rows : List Row) (tb : Tb α) : getT ((k, rows) :: tb) o = if k = o then rows else getT tb o := by
  unfold getT
  rw [List.find?_cons]
  by_cases c : k = o
  · rw [if_pos c]; simp [c]
  · rw [if_neg c]; simp [c]
theorem getT_none : ∀ {tb : Tb α} {o : α}, o ∉ tb.map (·.1) → getT tb o = []
  | [], _, _ => rfl
  | (k, rows) :: tb, o, h => by
    rw [List.map_cons, List.mem_cons, not_or] at h
    rw [getT_cons, if_neg fun e => h.1 e.symm]
    exact getT_none h.2
theorem getT_at : ∀ {tb : Tb α}, (tb.map (·.1)).Nodup → ∀ {o : α} {rows : List Row}, (o, rows) ∈ tb → getT tb o = rows
  | (k, rs) :: tb, hn, o, rows, h => by
    rw [List.map_cons, List.nodup_cons] at hn
    rw [getT_cons]
    rcases List.mem_cons.1 h with e | h
    · injection e with e1 e2
      rw [if_pos e1.symm, e2]
    · rw [if_neg fun e => hn.1 (List.mem_map.2 ⟨_, h, e.symm⟩)]
      exact getT_at hn.2 h
theorem map_put_none : ∀ {tb : Tb α} {o : α} {rows : List Row}, o ∉ tb.map (·.1) → tb.map (fun e => if e.1 = o then (e.1, rows) else e) = tb
  | [], _, _, _ => rfl
  | (k, rs) :: tb, o, rows, h => by
    rw [List.map_cons, List.mem_cons, not_or] at h
    rw [List.map_cons, if_neg fun e => h.1 e.symm, map_put_none h.2]
theorem total_put {tb : Tb α} (hn : (tb.map (·.1)).Nodup) {o : α} {rows : List Row} : total (putT tb o rows) + (getT tb o).length = total tb + rows.length := by
  by_cases c : o ∈ tb.map (·.1)
  · have hc : (tb.any fun e => decide (e.1 = o)) = true := by
      obtain ⟨e, he, q⟩ := List.mem_map.1 c
      exact List.any_eq_true.2 ⟨e, he, decide_eq_true q⟩
    unfold putT
    rw [if_pos hc]
    clear hc
    induction tb with
    | nil => simp at c
    | cons e tb ih =>
      obtain ⟨k, rs⟩ := e
      rw [List.map_cons, List.nodup_cons] at hn
      rw [List.map_cons, getT_cons]
      by_cases e : k = o
      · subst e
        rw [if_pos rfl, if_pos rfl, map_put_none hn.1]
        unfold total
        simp only [List.map_cons, List.sum_cons]
        omega
      · rw [if_neg e, if_neg e]
        have := ih hn.2 (by
          rw [List.map_cons, List.mem_cons] at c
          exact c.resolve_left fun z => e z.symm)
        unfold total at this ⊢
        simp only [List.map_cons, List.sum_cons]
        omega
  · have hc : ¬ (tb.any fun e => decide (e.1 = o)) = true := fun z => by
      obtain ⟨e, he, q⟩ := List.any_eq_true.1 z
      exact c (List.mem_map.2 ⟨e, he, of_decide_eq_true q⟩)
    unfold putT
    rw [if_neg hc, getT_none c]
    unfold total
    simp
structure TbD (tb : Tb α) (n : Nat) : Prop where
  dj : ∀ o, (getT tb o).Pairwise Dj
  tot : total tb ≤ n
theorem tbD_nil : TbD ([] : Tb α) 0 := ⟨fun o => by simp [getT], Nat.le_refl _⟩
theorem getT_put (tb : Tb α) (o o' : α) (rows : List Row) : getT (putT tb o rows) o' = if o' = o then rows else getT tb o' := by
  by_cases c : o ∈ tb.map (·.1)
  · have hc : (tb.any fun e => decide (e.1 = o)) = true := by
      obtain ⟨e, he, q⟩ := List.mem_map.1 c
      exact List.any_eq_true.2 ⟨e, he, decide_eq_true q⟩
    unfold putT
    rw [if_pos hc]
    clear hc
    induction tb with
    | nil => simp at c
    | cons e tb ih =>
      obtain ⟨k, rs⟩ := e
      rw [List.map_cons]
      by_cases e : k = o
      · subst e
        rw [if_pos rfl, getT_cons, getT_cons]
        by_cases e2 : o' = k
        · rw [if_pos e2.symm, if_pos e2]
        · rw [if_neg fun z => e2 z.symm, if_neg e2, if_neg fun z => e2 z.symm]
          by_cases c3 : k ∈ tb.map (·.1)
          · rw [ih c3, if_neg e2]
          · rw [map_put_none c3]
      · rw [if_neg e, getT_cons, getT_cons]
        have := ih (by
          rw [List.map_cons, List.mem_cons] at c
          exact c.resolve_left fun z => e z.symm)
        by_cases e2 : o' = o
        · rw [if_pos e2, if_neg fun z => e (z.trans e2), this, if_pos e2]
        · rw [if_neg e2]
          by_cases e3 : k = o'
          · rw [if_pos e3, if_pos e3]
          · rw [if_neg e3, if_neg e3, this, if_neg e2]
  · have hc : ¬ (tb.any fun e => decide (e.1 = o)) = true := fun z => by
      obtain ⟨e, he, q⟩ := List.any_eq_true.1 z
      exact c (List.mem_map.2 ⟨e, he, of_decide_eq_true q⟩)
    unfold putT
    rw [if_neg hc]
    clear hc
    induction tb with
    | nil =>
      show getT [(o, rows)] o' = _
      rw [getT_cons]
      by_cases e2 : o' = o
      · rw [if_pos e2, if_pos e2.symm]
      · rw [if_neg e2, if_neg fun z => e2 z.symm]
    | cons e tb ih =>
      obtain ⟨k, rs⟩ := e
      rw [List.map_cons, List.mem_cons, not_or] at c
      rw [List.cons_append, getT_cons, getT_cons, ih c.2]
      by_cases e3 : k = o'
      · rw [if_pos e3, if_pos e3]
        rw [if_neg fun z => c.1 (z.symm.trans e3.symm)]
      · rw [if_neg e3, if_neg e3]
/-- one lock more: what was left of the owner's rows and the lock, in any order, joined -/
theorem table_next {tb : Tb α} {ls : List (Lk α)} {n : Nat} (T : TblOk tb ls) (D : TbD tb n) {l : Lk α} (hl : wfRow l.2) {rows : List Row} (hp : rows.Perm (leftRows (getT tb l.1) l.2.1 l.2.2.1 ++ [l.2])) :
    TblOk (putT tb l.1 (joinRows rows)) (ls ++ [l]) ∧ TbD (putT tb l.1 (joinRows rows)) (n + 2) := by
  have hwg : ∀ r ∈ getT tb l.1, wfRow r := fun r hr => T.wf _ _ ((mem_getT T.nd).1 hr)
  have hwl : ∀ r ∈ leftRows (getT tb l.1) l.2.1 l.2.2.1, wfRow r := leftRows_wf hwg hl.1
  have hwr : ∀ r ∈ rows, wfRow r := fun r hr => by
    rcases List.mem_append.1 (hp.mem_iff.1 hr) with q | q
    · exact hwl r q
    · rw [List.mem_singleton.1 q]; exact hl
  have hcv : ∀ p k, cov rows p k ↔ (cov (getT tb l.1) p k ∧ ¬ inR l.2.1 l.2.2.1 p) ∨ covR l.2 p k := fun p k => by
    have : cov rows p k ↔ cov (leftRows (getT tb l.1) l.2.1 l.2.2.1 ++ [l.2]) p k := by
      unfold cov
      exact ⟨fun ⟨r, h, q⟩ => ⟨r, hp.mem_iff.1 h, q⟩, fun ⟨r, h, q⟩ => ⟨r, hp.mem_iff.2 h, q⟩⟩
    rw [this, cov_append, cov_one, leftRows_cov hwg hl]
  have hd : rows.Pairwise Dj := by
    refine (hp.pairwise_iff fun h => h.symm).2 (dj_snoc (leftRows_dj hwg hl (D.dj _)) fun s hs p ⟨h1, h2⟩ => ?_)
    exact (leftRows_in hwg hl hs h1).2 h2
  obtain ⟨j1, j2⟩ := joinRows_ok hwr
  refine ⟨tblOk_put T j1 fun p k => by rw [j2, hcv], ⟨fun o => ?_, ?_⟩⟩
  · rw [getT_put]
    split
    · exact joinRows_dj hwr hd
    · exact D.dj o
  · have h1 := total_put T.nd (o := l.1) (rows := joinRows rows)
    have h2 := joinRows_len rows
    have h3 := hp.length_eq
    rw [List.length_append, List.length_singleton] at h3
    have h4 := leftRows_len hl (D.dj l.1) (b := l.2.1) (e := l.2.2.1)
    have h5 := D.tot
    omega
/-- the rows as locks, the owners in any order -/
def tlOf (tb : Tb α) (owners : List α) : List (Lk α) := owners.flatMap fun o => (getT tb o).map fun r => (o, r)
theorem mem_tlOf {tb : Tb α} (hn : (tb.map (·.1)).Nodup) {owners : List α} (ho : ∀ o, o ∈ owners ↔ o ∈ tb.map (·.1)) (l : Lk α) : l ∈ tlOf tb owners ↔ Stands tb l.1 l.2 := by
  unfold tlOf
  rw [List.mem_flatMap]
  constructor
  · rintro ⟨o, _, h⟩
    obtain ⟨r, hr, rfl⟩ := List.mem_map.1 h
    exact (mem_getT hn).1 hr
  · intro h
    refine ⟨l.1, ?_, List.mem_map.2 ⟨l.2, (mem_getT hn).2 h, rfl⟩⟩
    obtain ⟨rows, h1, _⟩ := h
    exact (ho _).2 (List.mem_map.2 ⟨_, h1, rfl⟩)
theorem len_tlOf {tb : Tb α} (hn : (tb.map (·.1)).Nodup) {owners : List α} (hp : owners.Perm (tb.map (·.1))) : (tlOf tb owners).length = total tb := by
  have h1 : (tlOf tb owners).length = (tlOf tb (tb.map (·.1))).length := by
    unfold tlOf
    exact (hp.flatMap_right _).length_eq
  rw [h1]
  clear h1 hp
  have gen : ∀ (tb' : Tb α), (∀ e ∈ tb', getT tb e.1 = e.2) → (tlOf tb (tb'.map (·.1))).length = total tb' := by
    intro tb'
    induction tb' with
    | nil => intro _; rfl
    | cons e tb' ih =>
      intro h
      unfold tlOf total at *
      rw [List.map_cons, List.flatMap_cons, List.length_append, List.length_map, ih fun x hx => h x (List.mem_cons_of_mem _ hx), h e List.mem_cons_self]
      simp
  exact gen tb fun e he => getT_at hn he
end
end WM
set_option Elab.async false
set_option linter.all false
set_option maxRecDepth 100000
set_option maxHeartbeats 2000000
namespace WH
open PySem PySem.Spec PyProof.Rows L2 WM
def topS (i : Nat) : Stmt := PySem.Challenge.pw_farfolder_k79_whole_whom_to_stop.main.body.getD i (.Pass ⟨0, 0, 0, 0⟩)
/-! ### texts in order -/
def sLt (a b : Str) : Bool := decide (a.cps.toList < b.cps.toList)
theorem natLt_lo : LO (fun (a b : List Nat) => decide (a < b)) where
  irr := fun a => decide_eq_false (List.lt_irrefl a)
  tr := fun a b c h1 h2 => decide_eq_true (List.lt_trans (of_decide_eq_true h1) (of_decide_eq_true h2))
  tot := fun a b h1 h2 => List.le_antisymm (List.not_lt.1 (of_decide_eq_false h2)) (List.not_lt.1 (of_decide_eq_false h1))
theorem sLo : LO sLt where
  irr := fun a => natLt_lo.irr _
  tr := fun a b c => natLt_lo.tr _ _ _
  tot := fun a b h1 h2 => ext_toList (natLt_lo.tot _ _ h1 h2)
theorem rising_asc : ∀ (p : Str) (l : List Str), risingS p l = true → (p :: l).Nodup → Asc sLt (p :: l)
  | p, [], _, _ => by simp
  | p, x :: r, h, hn => by
    have h' : (!ltCps x.cps.toList p.cps.toList && risingS x r) = true := h
    rw [Bool.and_eq_true, Bool.not_eq_true', ltCps_eq] at h'
    have hn2 : (x :: r).Nodup := (List.nodup_cons.1 hn).2
    have ih := rising_asc x r h'.2 hn2
    have px : sLt p x = true := by
      cases e : sLt p x with
      | true => rfl
      | false => exact absurd (sLo.tot p x e h'.1) fun z => (List.nodup_cons.1 hn).1 (by rw [z]; simp)
    refine List.pairwise_cons.2 ⟨fun y hy => ?_, ih⟩
    rcases List.mem_cons.1 hy with rfl | q
    · exact px
    · exact sLo.tr _ _ _ px ((List.pairwise_cons.1 ih).1 y q)
theorem sorted_asc {l : List Str} (h : sortedS l = true) (hn : l.Nodup) : Asc sLt l := by
  cases l with
  | nil => simp
  | cons p l => exact rising_asc p l h hn
/-! ### heaps: all but the opaque objects stay -/
def Gd : HO → Prop
  | .ext _ => False
  | .tbl _ => False
  | _ => True
def Kg (H H' : Hp) : Prop := ∀ b o, Gd o → H b = some o → H' b = some o
theorem Kg.refl (H : Hp) : Kg H H := fun _ _ _ e => e
theorem Kg.trans {H H1 H2 : Hp} (a : Kg H H1) (b : Kg H1 H2) : Kg H H2 := fun c o g e => b c o g (a c o g e)
theorem Kg.of {H H' : Hp} (s : Same H H') : Kg H H' := fun b o _ e => s b o e
theorem Kg.seq {K : PySem.W.Frag} {H H' : Hp} {a : Addr} {xs : List V} (k : Kg H H') (h : SqL K H a xs) : SqL K H' a xs := by
  rcases h with (h | ⟨o, h⟩) | h
  · exact .inl (.inl (k _ _ trivial h))
  · exact .inl (.inr ⟨o, k _ _ trivial h⟩)
  · exact .inr h
theorem Kg.tup {K : PySem.W.Frag} {H H' : Hp} {a : Addr} {xs : List V} (k : Kg H H') (h : SqT K H a xs) : SqT K H' a xs := by
  rcases h with (h | ⟨o, h⟩) | h
  · exact .inl (.inl (k _ _ trivial h))
  · exact .inl (.inr ⟨o, k _ _ trivial h⟩)
  · exact .inr h
theorem same_upd {H : Hp} {p : Addr} {o : HO} (h : H p = none) : Same H (upd H p o) := fun b x e => by
  rw [upd_ne (ne_of_none e h)]
  exact e
/-- an object of ours, made since, is changed -/
theorem Same.own {H0 H : Hp} {p : Addr} {o : HO} (s : Same H0 H) (h : H0 p = none) : Same H0 (upd H p o) := fun b x e => by
  rw [upd_ne (ne_of_none e h)]
  exact s b x e
theorem Kg.own {H0 H : Hp} {p : Addr} {o : HO} (s : Kg H0 H) (h : H0 p = none) : Kg H0 (upd H p o) := fun b x g e => by
  rw [upd_ne (ne_of_none e h)]
  exact s b x g e
theorem Same.none {H H' : Hp} (s : Same H H') {p : Addr} (h : H' p = none) : H p = none := by
  cases e : H p with
  | none => rfl
  | some o => exact absurd (s p o e) (by rw [h]; exact fun z => nomatch z)
theorem ne_new {H : Hp} {a p : Addr} {o : HO} (h : H a = some o) (hp : H p = none) : a ≠ p := fun e => by
  rw [e, hp] at h
  cases h
/-! ### lists of values that stand for data -/
theorem Paired.mem1 {α β : Type} {F : α → β → Prop} : ∀ {l₁ : List α} {l₂ : List β}, Paired F l₁ l₂ → ∀ {a : α}, a ∈ l₁ → ∃ b ∈ l₂, F a b
  | _, _, .cons h t, a, ha => by
    rcases List.mem_cons.1 ha with rfl | q
    · exact ⟨_, List.mem_cons_self, h⟩
    · obtain ⟨b, hb, f⟩ := Paired.mem1 t q
      exact ⟨b, List.mem_cons_of_mem _ hb, f⟩
theorem Paired.app {α β : Type} {F : α → β → Prop} : ∀ {l₁ m₁ : List α} {l₂ m₂ : List β}, Paired F l₁ l₂ → Paired F m₁ m₂ → Paired F (l₁ ++ m₁) (l₂ ++ m₂)
  | _, _, _, _, .nil, h => h
  | _, _, _, _, .cons a t, h => .cons a (Paired.app t h)
theorem Paired.eq_map {α β : Type} {g : β → α} : ∀ {l₁ : List α} {l₂ : List β}, Paired (fun a b => a = g b) l₁ l₂ → l₁ = l₂.map g
  | _, _, .nil => rfl
  | _, _, .cons h t => by rw [h, Paired.eq_map t]; rfl
theorem Paired.of_map {α β : Type} {F : α → β → Prop} (g : β → α) : ∀ {l : List β}, (∀ b ∈ l, F (g b) b) → Paired F (l.map g) l
  | [], _ => .nil
  | b :: l, h => .cons (h b List.mem_cons_self) (Paired.of_map g fun c hc => h c (List.mem_cons_of_mem _ hc))
theorem Paired.take {α β : Type} {F : α → β → Prop} : ∀ {l₁ : List α} {l₂ : List β} (n : Nat), Paired F l₁ l₂ → Paired F (l₁.take n) (l₂.take n)
  | _, _, 0, _ => by simp; exact .nil
  | _, _, n + 1, .nil => by simp; exact .nil
  | _, _, n + 1, .cons h t => .cons h (Paired.take n t)
theorem Paired.drop {α β : Type} {F : α → β → Prop} : ∀ {l₁ : List α} {l₂ : List β} (n : Nat), Paired F l₁ l₂ → Paired F (l₁.drop n) (l₂.drop n)
  | _, _, 0, h => h
  | _, _, n + 1, .nil => .nil
  | _, _, n + 1, .cons h t => Paired.drop n t
abbrev Rep (β : Type) := Hp → V → β → Prop
def Mono {β : Type} (R : Rep β) : Prop := ∀ (H H' : Hp) (v : V) (b : β), Kg H H' → R H v b → R H' v b
theorem Mono.all {β : Type} {R : Rep β} (m : Mono R) {H H' : Hp} (k : Kg H H') {xs : List V} {bs : List β} (h : Paired (R H) xs bs) : Paired (R H') xs bs := Paired.mapP h fun _ _ => m _ _ _ _ k
/-- a value as it is -/
def rV {β : Type} (g : β → V) : Rep β := fun _ v b => v = g b
theorem rV_mono {β : Type} {g : β → V} : Mono (rV g) := fun _ _ _ _ _ h => h
/-- a list of data, a tuple of data -/
def Ls {β : Type} (R : Rep β) : Rep (List β) := fun H v bs => ∃ a xs, v = .ref a ∧ H a = some (.lst xs) ∧ Paired (R H) xs bs
def Ts {β : Type} (R : Rep β) : Rep (List β) := fun H v bs => ∃ a xs, v = .ref a ∧ H a = some (.tup xs) ∧ Paired (R H) xs bs
theorem Ls_mono {β : Type} {R : Rep β} (m : Mono R) : Mono (Ls R) := fun _ _ _ _ k ⟨a, xs, e, h, p⟩ => ⟨a, xs, e, k _ _ trivial h, m.all k p⟩
theorem Ts_mono {β : Type} {R : Rep β} (m : Mono R) : Mono (Ts R) := fun _ _ _ _ k ⟨a, xs, e, h, p⟩ => ⟨a, xs, e, k _ _ trivial h, m.all k p⟩
/-- a text; a set of texts (a tuple) -/
abbrev rS : Rep Str := rV V.str
def rSet : Rep (List Str) := fun H v s => ∃ a, v = .ref a ∧ H a = some (.tup (s.map V.str))
theorem rSet_mono : Mono rSet := fun _ _ _ _ k ⟨a, e, h⟩ => ⟨a, e, k _ _ trivial h⟩
/-! ### a def that keeps a promise, as it is called -/
structure Dn (P : Program) (w : World) (K : PySem.W.Frag) (mg : Str → Option Value) (base : Heap) (CX : CXT) (k : Nat) (x : Str) (ps : List Str) (sp : Sp) : Prop where
  ex : ∃ (f : Addr) (fd : FuncData), FnOk P w K mg base CX k f fd ps sp ∧ mg x = some (.ref f) ∧ PySem.W.keepIn K (.ref f) = true ∧ Binds K fd ps []
/-- a def of the text as the top has left it -/
structure Df (K : PySem.W.Frag) (mg : Str → Option Value) (x : Str) (st : Stmt) (ps : List Str) (f : Addr) (fd : FuncData) : Prop where
  fn : Fun K x x st f fd
  gl : mg x = some (.ref f)
  bd : Binds K fd ps []
theorem Dn.of {P : Program} {w : World} {K : PySem.W.Frag} {mg : Str → Option Value} {base : Heap} {CX : CXT} {k : Nat} {x : Str} {ps : List Str} {sp : Sp} {st : Stmt} {f : Addr} {fd : FuncData} (D : Df K mg x st ps f fd)
    (h : FnOk P w K mg base CX k f fd ps sp) : Dn P w K mg base CX k x ps sp := ⟨f, fd, h, D.gl, D.fn.kp, D.bd⟩
section
variable {X : Cx} {x : Str} {k : Nat} {ps : List Str} {sp : Sp} {e : Expr} {es : List Expr} {t : TA} {p pos : Pos}
/-- f(e, ..), nothing is raised -/
theorem pe_cl (G : Dn X.prog X.w X.K X.mg X.base CX0 k x ps sp) (hr : Room k X.A) (ha : PA X (e :: es) t) (hg : Gl X x := by rfl) (hdb : (x == ("__debug__" : Str)) = false := by decide)
    (he : starEach (e :: es) X.env = (false, eval e X.env) :: starEach es X.env := by rfl) (hpl : (backTo pos (starEach es X.env)).any (·.1) = false := by rfl) : PE X (.Call (.Name x p) (e :: es) [] pos) (tCall sp [] E0 t) := by
  obtain ⟨f, fd, ok, gl, kp, bd⟩ := G.ex
  exact pe_call ok hr hg gl kp bd .nil pass0 ha hdb he hpl
/-- .. of a def that may raise, where it does not -/
theorem pe_cl0 (G : Dn X.prog X.w X.K X.mg X.base (L2.CX X.prog X.w) k x ps sp) (hr : Room k X.A) (ha : PA X (e :: es) t) (hg : Gl X x := by rfl) (hdb : (x == ("__debug__" : Str)) = false := by decide)
    (he : starEach (e :: es) X.env = (false, eval e X.env) :: starEach es X.env := by rfl) (hpl : (backTo pos (starEach es X.env)).any (·.1) = false := by rfl) : PE X (.Call (.Name x p) (e :: es) [] pos) (tCall sp [] E0 t) := by
  obtain ⟨f, fd, ok, gl, kp, bd⟩ := G.ex
  exact pe_call ok hr hg gl kp bd .nil passL ha hdb he hpl
/-- .. where it may -/
theorem pe_clX {W : WX} {E : XK} (G : Dn X.prog X.w X.K X.mg X.base (L2.CX X.prog X.w) k x ps sp) (hr : Room k X.A) (tk : Takes X W) (hW : ∀ cls d σ H, E cls d H → W cls d σ H) (ha : PA X (e :: es) t) (hg : Gl X x := by rfl) (hdb : (x == ("__debug__" : Str)) = false := by decide)
    (he : starEach (e :: es) X.env = (false, eval e X.env) :: starEach es X.env := by rfl) (hpl : (backTo pos (starEach es X.env)).any (·.1) = false := by rfl) : PE X (.Call (.Name x p) (e :: es) [] pos) (tCall sp [] E t) := by
  obtain ⟨f, fd, ok, gl, kp, bd⟩ := G.ex
  exact pe_call ok hr hg gl kp bd .nil (passes_call tk hW) ha hdb he hpl
/-! ### what is walked: a list or a tuple -/
def iSq (K : PySem.W.Frag) (tl : TE) : TI := fun σ H R => tl σ H fun x H1 => ∃ a, x = .ref a ∧ (((∃ xs, SqL K H1 a xs) ∧ R (Itl K a) H1) ∨ ((∃ xs, SqT K H1 a xs) ∧ R (Itt K a) H1))
theorem pi_sq {tg l : Expr} {tl : TE} (hl : PE X l tl) : PI X tg l (iSq X.K tl) := by
  refine ⟨fun pins s σ H R I h => ?_⟩
  refine thn (hl.run pins s σ H _ I h) fun v s1 ⟨y, H1, I1, r1, q1⟩ => ?_
  obtain ⟨a, e, q⟩ := q1
  subst e
  cases r1
  rcases q with ⟨⟨xs, hq⟩, q⟩ | ⟨⟨xs, hq⟩, q⟩
  · obtain ⟨its, rv, p, hz⟩ := I1.list hq
    refine wpAny_pyIter_list p.isList ?_
    refine ⟨s1.heap.objs.size, [s1.heap.objs.size], _, _, H1, rfl, I1.kept (t' := s1.toks) fun b o e => Heap.get?_push_of_some _ e, turn_list a _, ⟨_, Heap.get?_push_size _ rfl, rfl, rfl⟩, fun b hb => ?_, q⟩
    have e : b = s1.heap.objs.size := by simpa using hb
    subst e
    exact I1.fpOk (Nat.le_refl _) (I1.hok.fresh (Nat.le_refl _))
  · obtain ⟨its, rv, p, hz⟩ := I1.tuple hq
    refine wpAny_pyIter_tuple p ?_
    refine ⟨s1.heap.objs.size, [s1.heap.objs.size], _, _, H1, rfl, I1.kept (t' := s1.toks) fun b o e => Heap.get?_push_of_some _ e, turn_tuple a _, ⟨_, Heap.get?_push_size _ rfl, rfl, rfl⟩, fun b hb => ?_, q⟩
    have e : b = s1.heap.objs.size := by simpa using hb
    subst e
    exact I1.fpOk (Nat.le_refl _) (I1.hok.fresh (Nat.le_refl _))
end
/-- data that no list's contents matter for -/
def Fl {β : Type} (S : Rep β) : Prop := ∀ (H : Hp) (D : Addr) (xs ys : List V) (v : V) (c : β), H D = some (.lst xs) → S H v c → S (upd H D (.lst ys)) v c
theorem rV_fl {β : Type} {g : β → V} : Fl (rV g) := fun _ _ _ _ _ _ _ h => h
theorem rSet_fl : Fl rSet := fun _ _ _ _ _ _ hD ⟨a, e, h⟩ => ⟨a, e, by rw [upd_ne (ne_of h hD (fun z => nomatch z))]; exact h⟩
theorem Fl.all {β : Type} {S : Rep β} (m : Fl S) {H : Hp} {D : Addr} {xs ys : List V} (hD : H D = some (.lst xs)) {vs : List V} {bs : List β} (h : Paired (S H) vs bs) : Paired (S (upd H D (.lst ys))) vs bs := Paired.mapP h fun _ _ => m _ _ _ _ _ _ hD
theorem Ts_fl {β : Type} {R : Rep β} (m : Fl R) : Fl (Ts R) := fun _ _ _ _ _ _ hD ⟨a, xs, e, h, p⟩ => ⟨a, xs, e, by rw [upd_ne (ne_of h hD (fun z => nomatch z))]; exact h, m.all hD p⟩
/-! ### comprehensions over lists, tuples of data -/
section
variable {α β : Type} {K : PySem.W.Frag} {a : Addr} {xs : List V} {as : List α} {R : Rep α} {S : Rep β} {g : TG} {tt : TT} {te : TE} {vs : List Nat} {σ : L2.St} {H1 : Hp} {D : Addr} {Qd : Hp → Prop}
theorem filterMap_take_succ (f : α → Option β) {as : List α} {i : Nat} {x : α} (h : as[i]? = some x) : (as.take (i + 1)).filterMap f = (as.take i).filterMap f ++ (f x).toList := by
  rw [List.take_add_one, h, List.filterMap_append]
  congr 1
/-- data that stays, whatever lists change -/
structure Gr {β : Type} (S : Rep β) : Prop where
  mono : Mono S
  fl : Fl S
abbrev TurnOf (R : Rep α) (S : Rep β) (f : α → Option β) (g : TG) (tt : TT) (te : TE) (vs : List Nat) (σ : L2.St) (H1 : Hp) (x : V) (b : α) : Prop :=
  ∀ H, Same H1 H → R H x b → ∀ (N : V → Hp → Prop) (Z : Hp → Prop), (∀ y c H', Same H H' → f b = some c → S H' y c → N y H') → (∀ H', Same H H' → f b = none → Z H') →
    g x (wipe σ vs) H fun σ2 H2 => wipe σ2 vs = wipe σ vs ∧ tt σ2 H2 fun k H3 => if k = true then te σ2 H3 N else Z H3
/-- a comprehension over anything that is walked, its items told as data -/
theorem lc_W {J : It} {n : Nat} {G : Hp → Prop} {Y : Nat → Hp → V → Hp → Prop} (w : Walk J n G Y) (gS : Gr S) (f : α → Option β) (hD : H1 D = none) (hn : as.length = n) (hz : n ≤ 100000) (hG : ∀ H, Same H1 H → G H)
    (hY : ∀ (i : Nat) (H : Hp) (x : V) (H' : Hp) (b : α), Same H1 H → as[i]? = some b → Y i H x H' → Same H H' ∧ R H' x b)
    (hs : ∀ (i : Nat) (x : V) (b : α), as[i]? = some b → TurnOf R S f g tt te vs σ H1 x b) (hd : ∀ H' ys, Same H1 H' → H' D = some (.lst ys) → Paired (S H') ys (as.filterMap f) → Qd H') :
    ∃ W : Nat → Nat → Hp → Prop, (∃ m, W 0 m (upd H1 D (.lst []))) ∧ ∀ i m H, W i m H →
      (J.stop i H ∧ Qd H) ∨ (J.go i H ∧ ∃ Nx : Hp → Prop, (∀ H', Nx H' → ∃ m', m' < m ∧ W (i + 1) m' H') ∧ ∀ x H', J.yld i H x H' → g x (wipe σ vs) H' fun σ2 H2 => wipe σ2 vs = wipe σ vs ∧ tt σ2 H2 fun b H3 =>
        if b = true then te σ2 H3 fun y H4 => ∃ acc, H4 D = some (.lst acc) ∧ acc.length < sizeLine ∧ Nx (upd H4 D (.lst (acc ++ [y]))) else Nx H3) := by
  refine lc_it w (fun i H => Same H1 H ∧ ∃ ys, H D = some (.lst ys) ∧ ys.length ≤ i ∧ Paired (S H) ys ((as.take i).filterMap f))
    ⟨same_upd hD, [], upd_same, Nat.zero_le _, by simp; exact .nil⟩ (fun i H _ ⟨s, _⟩ => hG H s) ?_ ?_
  · rintro i x H H0 hi ⟨s, ys, hy, hl, hpy⟩ hYi
    obtain ⟨b, hb⟩ : ∃ b, as[i]? = some b := ⟨_, List.getElem?_eq_getElem (by omega)⟩
    obtain ⟨s0, hRb⟩ := hY i H x H0 b s hb hYi
    refine hs i x b hb H0 (s.trans s0) hRb _ _ (fun y c H' s' hf hS => ?_) fun H' s' hf => ?_
    · have hy' := s' _ _ (s0 _ _ hy)
      refine ⟨ys, hy', ?_, Same.own (s.trans (s0.trans s')) hD, ys ++ [y], upd_same, ?_, ?_⟩
      · rw [sizeLine_eq]; omega
      · rw [List.length_append]; simp; omega
      · rw [filterMap_take_succ f hb, hf]
        exact Paired.app (gS.fl.all hy' (gS.mono.all (Kg.of (s0.trans s')) hpy)) (.cons (gS.fl _ _ _ _ _ _ hy' hS) .nil)
    · refine ⟨s.trans (s0.trans s'), ys, s' _ _ (s0 _ _ hy), by omega, ?_⟩
      rw [filterMap_take_succ f hb, hf]
      simp only [Option.toList_none, List.append_nil]
      exact gS.mono.all (Kg.of (s0.trans s')) hpy
  · rintro H ⟨s, ys, hy, _, hpy⟩
    rw [List.take_of_length_le (by omega)] at hpy
    exact hd H ys s hy hpy
/-- [.. for .. in a list of data] -/
theorem lc_L (mR : Mono R) (gS : Gr S) (f : α → Option β) (hD : H1 D = none) (ha : SqL K H1 a xs) (hp : Paired (R H1) xs as) (hz : xs.length ≤ 100000)
    (hs : ∀ (i : Nat) (x : V) (b : α), as[i]? = some b → TurnOf R S f g tt te vs σ H1 x b) (hd : ∀ H' ys, Same H1 H' → H' D = some (.lst ys) → Paired (S H') ys (as.filterMap f) → Qd H') :
    ∃ W : Nat → Nat → Hp → Prop, (∃ m, W 0 m (upd H1 D (.lst []))) ∧ ∀ i m H, W i m H →
      ((Itl K a).stop i H ∧ Qd H) ∨ ((Itl K a).go i H ∧ ∃ Nx : Hp → Prop, (∀ H', Nx H' → ∃ m', m' < m ∧ W (i + 1) m' H') ∧ ∀ x H', (Itl K a).yld i H x H' → g x (wipe σ vs) H' fun σ2 H2 => wipe σ2 vs = wipe σ vs ∧ tt σ2 H2 fun b H3 =>
        if b = true then te σ2 H3 fun y H4 => ∃ acc, H4 D = some (.lst acc) ∧ acc.length < sizeLine ∧ Nx (upd H4 D (.lst (acc ++ [y]))) else Nx H3) :=
  lc_W walk_list gS f hD hp.length.symm hz (fun H s => (Kg.of s).seq ha) (fun i H x H' b s hb hY => by
    obtain ⟨rfl, hx⟩ := hY
    obtain ⟨c, hc, hR⟩ := paired_get hp hx
    rw [hb] at hc
    injection hc with hc
    exact ⟨Same.refl _, mR _ _ _ _ (Kg.of s) (hc ▸ hR)⟩) hs hd
/-- .. in a tuple -/
theorem lc_T (mR : Mono R) (gS : Gr S) (f : α → Option β) (hD : H1 D = none) (ha : SqT K H1 a xs) (hp : Paired (R H1) xs as) (hz : xs.length ≤ 100000)
    (hs : ∀ (i : Nat) (x : V) (b : α), as[i]? = some b → TurnOf R S f g tt te vs σ H1 x b) (hd : ∀ H' ys, Same H1 H' → H' D = some (.lst ys) → Paired (S H') ys (as.filterMap f) → Qd H') :
    ∃ W : Nat → Nat → Hp → Prop, (∃ m, W 0 m (upd H1 D (.lst []))) ∧ ∀ i m H, W i m H →
      ((Itt K a).stop i H ∧ Qd H) ∨ ((Itt K a).go i H ∧ ∃ Nx : Hp → Prop, (∀ H', Nx H' → ∃ m', m' < m ∧ W (i + 1) m' H') ∧ ∀ x H', (Itt K a).yld i H x H' → g x (wipe σ vs) H' fun σ2 H2 => wipe σ2 vs = wipe σ vs ∧ tt σ2 H2 fun b H3 =>
        if b = true then te σ2 H3 fun y H4 => ∃ acc, H4 D = some (.lst acc) ∧ acc.length < sizeLine ∧ Nx (upd H4 D (.lst (acc ++ [y]))) else Nx H3) :=
  lc_W walk_tup gS f hD hp.length.symm hz (fun H s => (Kg.of s).tup ha) (fun i H x H' b s hb hY => by
    obtain ⟨rfl, hx⟩ := hY
    obtain ⟨c, hc, hR⟩ := paired_get hp hx
    rw [hb] at hc
    injection hc with hc
    exact ⟨Same.refl _, mR _ _ _ _ (Kg.of s) (hc ▸ hR)⟩) hs hd
end
theorem rV_gr {β : Type} {g : β → V} : Gr (rV g) := ⟨rV_mono, rV_fl⟩
theorem rSet_gr : Gr rSet := ⟨rSet_mono, rSet_fl⟩
theorem Ts_gr {β : Type} {R : Rep β} (m : Gr R) : Gr (Ts R) := ⟨Ts_mono m.mono, Ts_fl m.fl⟩
theorem paired_rV {β : Type} {g : β → V} {H : Hp} {xs : List V} {bs : List β} (h : Paired (rV g H) xs bs) : xs = bs.map g := Paired.eq_map h
theorem rV_paired {β : Type} {g : β → V} {H : Hp} (bs : List β) : Paired (rV g H) (bs.map g) bs := Paired.of_map g fun _ _ => rfl
theorem filterMap_some {α β : Type} (f : α → β) (l : List α) : l.filterMap (fun x => some (f x)) = l.map f := by
  induction l with
  | nil => rfl
  | cons x l ih => simp [ih]
theorem ty {σ : L2.St} {H : Hp} {A B : Hp → Prop} (h : A H) : tYes σ H (fun k H3 => if k = true then A H3 else B H3) := h
/-! ### the rules, the written part named -/
section
variable {X : Cx} (K : PySem.W.Frag)
theorem inSq (h : X.K = K := by rfl) : OpR X (compareOp .In) (rIn K false) := h ▸ op_in_seq
theorem ninSq (h : X.K = K := by rfl) : OpR X (compareOp .NotIn) (rIn K true) := h ▸ op_notIn_seq
theorem ixL (h : X.K = K := by rfl) : IxR X (rIxL K) := h ▸ ix_list
theorem ixT (h : X.K = K := by rfl) : IxR X (rIxT K) := h ▸ ix_tup
theorem lenA (h : X.K = K := by rfl) : CallR X (.builtin "len") (fun xs H Q => ∃ p ys, xs = [.ref p] ∧ (SqL K H p ys ∨ SqT K H p ys) ∧ Q (.int ys.length) H) := h ▸ call_len_seq
theorem allK (hc : X.calm = true := by rfl) (h : X.K = K := by rfl) : CallR X (.builtin "all") (rAll K) := h ▸ cr_all hc
theorem anyK (hc : X.calm = true := by rfl) (h : X.K = K := by rfl) : CallR X (.builtin "any") (rAny K) := h ▸ cr_any hc
theorem sumK (hc : X.calm = true := by rfl) (h : X.K = K := by rfl) : CallR X (.builtin "sum") (rSum K) := h ▸ cr_sum hc
theorem minK (hc : X.calm = true := by rfl) (h : X.K = K := by rfl) : CallR X (.builtin "min") (rMin K) := h ▸ cr_min hc
theorem sortS (h : X.K = K := by rfl) : CallR X (.builtin "sorted") (rSortedS K) := h ▸ cr_sortedS
theorem listOf (h : X.K = K := by rfl) : CallR X (.type "list") (fun xs H Q => ∃ p ys, xs = [.ref p] ∧ (SqL K H p ys ∨ SqT K H p ys) ∧ ∀ l, H l = none → Q (.ref l) (upd H l (.lst ys))) := h ▸ call_list_of
theorem tupOf (h : X.K = K := by rfl) : CallR X (.type "tuple") (fun xs H Q => ∃ p ys, xs = [.ref p] ∧ ((SqL K H p ys ∧ ∀ l, H l = none → Q (.ref l) (upd H l (.tup ys))) ∨ (SqT K H p ys ∧ Q (.ref p) H))) := h ▸ call_tuple_of
theorem isiK (h : X.K = K := by rfl) : CallR X (.builtin "isinstance") (rIsi K) := h ▸ call_isi
theorem isiT (h : X.K = K := by rfl) : CallR X (.builtin "isinstance") (rIsiT K) := h ▸ call_isiT
theorem eqD (hu : X.A.units + 64 < cLine) (h : X.K = K := by rfl) : OpR X (compareOp .Eq) (rEqD K) := h ▸ op_eqD hu
theorem neD (hu : X.A.units + 64 < cLine) (h : X.K = K := by rfl) : OpR X (compareOp .NotEq) (rNeD K) := h ▸ op_neD hu
theorem catA (h : X.K = K := by rfl) : OpR X (binaryOp .Add) (rCatA K) := h ▸ op_catA
theorem slL (h : X.K = K := by rfl) : SlR X (rSlL K) := h ▸ sl_list
theorem slT (h : X.K = K := by rfl) : SlR X (rSlA K) := h ▸ sl_tupA
theorem pil {tg l : Expr} {tl : TE} (hl : PE X l tl) (h : X.K = K := by rfl) : PI X tg l (iList K tl) := h ▸ pi_list hl
theorem pit {tg l : Expr} {tl : TE} (hl : PE X l tl) (h : X.K = K := by rfl) : PI X tg l (iTup K tl) := h ▸ pi_tup hl
theorem pisq {tg l : Expr} {tl : TE} (hl : PE X l tl) (h : X.K = K := by rfl) : PI X tg l (iSq K tl) := h ▸ pi_sq hl
theorem fldK {e : Expr} {f : Str} {pos : Pos} {ta : TE} (he : PE X e ta) (hb : attributeBase e f X.env (eval e X.env) = eval e X.env := by rfl) (h : X.K = K := by rfl) : PE X (.Attribute e f pos) (tFld K ta f) := h ▸ pe_fld he hb
theorem tupG {es : List Expr} {k : Nat} {pos : Pos} {t : TGs} {n : Nat} (hc : X.calm = true) (hp : PGs X es t)
    (hn : (assignEach es X.env).length = n := by rfl) (hst : (assignEach es X.env).findIdx? (·.1) = none := by rfl) (h : X.K = K := by rfl) : PG X (.Tuple es k pos) (gTup K n t) := h ▸ pg_tup hc hp hn hst
theorem lstG {es : List Expr} {k : Nat} {pos : Pos} {t : TGs} {n : Nat} (hc : X.calm = true) (hp : PGs X es t)
    (hn : (assignEach es X.env).length = n := by rfl) (hst : (assignEach es X.env).findIdx? (·.1) = none := by rfl) (h : X.K = K := by rfl) : PG X (.Tuple es k pos) (gUnl K n t) := h ▸ pg_unl hc hp hn hst
theorem bmK {o e : Expr} {es : List Expr} {to : TE} {t : TA} {name : Str} {apos cpos : Pos} {T id : String} {r : V → List V → Hp → VK → Prop} (pa : PlainAttrs T) (slot : Slot T name id) (hty : typeOf (.builtin id) = pure (.type "method_descriptor")) (hm : MtR X id r) (ho : PE X o to) (ha : PA X (e :: es) t)
    (hbase : attributeBase o name X.env (eval o X.env) = eval o X.env := by rfl)
    (hfew : ((backTo cpos (starEach (e :: es) X.env)).all (fun x => !x.1) && (backToKw cpos (keywordEach [] X.env)).all (fun x => x.1.isSome)
      && decide ((e :: es).length + ([] : List Keyword).length + (if ([] : List Keyword).isEmpty then 0 else 1) < 30)) = true := by rfl)
    (hline : (apos.endLine == cpos.line) = true := by rfl) (hs : starEach (e :: es) X.env = (false, eval e X.env) :: starEach es X.env := by rfl) (hplain : (backTo cpos (starEach es X.env)).any (·.1) = false := by rfl) (h : X.K = K := by rfl) :
    PE X (.Call (.Attribute o name apos) (e :: es) [] cpos) (tBM K T r to t) := h ▸ pe_bm pa slot hty hm ho ha hbase hfew hline hs hplain
end
/-! ### names that the module leaves to the built-ins -/
structure Bl (mg : Str → Option Value) : Prop where
  b_all : mg "all" = none
  b_any : mg "any" = none
  b_bool : mg "bool" = none
  b_dict : mg "dict" = none
  b_enumerate : mg "enumerate" = none
  b_int : mg "int" = none
  b_isinstance : mg "isinstance" = none
  b_len : mg "len" = none
  b_list : mg "list" = none
  b_max : mg "max" = none
  b_min : mg "min" = none
  b_range : mg "range" = none
  b_sorted : mg "sorted" = none
  b_str : mg "str" = none
  b_sum : mg "sum" = none
  b_tuple : mg "tuple" = none
  b_zip : mg "zip" = none
end WH
set_option Elab.async false
set_option linter.all false
set_option maxRecDepth 100000
set_option maxHeartbeats 2000000
namespace WH
open PySem PySem.Spec PyProof.Rows L2 WM
theorem strs_flat (ys : List Str) : (ys.map V.str).all flatV = true := by
  rw [List.all_eq_true]
  intro v hv
  obtain ⟨x, _, rfl⟩ := List.mem_map.1 hv
  rfl
theorem inV_strs (x : Str) (ys : List Str) : inV (.str x) (ys.map V.str) = decide (x ∈ ys) := by
  unfold inV
  rw [List.any_map]
  induction ys with
  | nil => rfl
  | cons y ys ih =>
    rw [List.any_cons, ih]
    show (y == x || decide (x ∈ ys)) = _
    by_cases e : y = x
    · subst e
      simp
    · have e' : ¬ x = y := fun z => e z.symm
      have b : (y == x) = false := by simpa using e
      rw [b, Bool.false_or]
      simp [e']
def SqA (K : PySem.W.Frag) (H : Hp) (a : Addr) (xs : List V) : Prop := SqL K H a xs ∨ SqT K H a xs
/-! ### the text -/
abbrev s_is_list : Stmt := topS 10
theorem sc_is_list : FnScope ["thing"] ["thing"] (defScope s_is_list) := ⟨rfl, rfl, rfl, by decide +kernel, rfl, by decide +kernel, by decide +kernel⟩
abbrev s_is_integer : Stmt := topS 11
theorem sc_is_integer : FnScope ["thing"] ["thing"] (defScope s_is_integer) := ⟨rfl, rfl, rfl, by decide +kernel, rfl, by decide +kernel, by decide +kernel⟩
abbrev s_is_number : Stmt := topS 12
theorem sc_is_number : FnScope ["thing"] ["thing"] (defScope s_is_number) := ⟨rfl, rfl, rfl, by decide +kernel, rfl, by decide +kernel, by decide +kernel⟩
abbrev s_is_name : Stmt := topS 13
theorem sc_is_name : FnScope ["thing", "sign"] ["thing"] (defScope s_is_name) := ⟨rfl, rfl, rfl, by decide +kernel, rfl, by decide +kernel, by decide +kernel⟩
abbrev s_each_once : Stmt := topS 14
theorem sc_each_once : FnScope ["things", "found", "thing"] ["things"] (defScope s_each_once) := ⟨rfl, rfl, rfl, by decide +kernel, rfl, by decide +kernel, by decide +kernel⟩
abbrev s_is_part : Stmt := topS 16
theorem sc_is_part : FnScope ["one", "other", "thing"] ["one", "other"] (defScope s_is_part) := ⟨rfl, rfl, rfl, by decide +kernel, rfl, by decide +kernel, by decide +kernel⟩
section
variable {P : Program} {w : World} {K : PySem.W.Frag} {mg : Str → Option Value} {base : Heap}
/-! ### is_part -/
def sp_is_part (K : PySem.W.Frag) : Sp := fun vs H Q _ => ∃ (a b : Addr) (xs ys : List Str), vs = [.ref a, .ref b] ∧ SqA K H a (xs.map V.str) ∧ SqA K H b (ys.map V.str) ∧ xs.length ≤ 100000 ∧
  ∀ H', Same H H' → Q (.bl (isPart xs ys)) H'
theorem ok_is_part {f : Addr} {fd : FuncData} (D : Df K mg "is_part" s_is_part ["one", "other"] f fd) (T : Bl mg) : Dn P w K mg base CX0 1 "is_part" ["one", "other"] (sp_is_part K) := .of D (by
  refine D.fn.ok sc_is_part (fun vs H Q E h => ?_) (fun cdv A outer s H vs Q E hr h => ?_)
  · obtain ⟨a, b, xs, ys, rfl, _⟩ := h
    rfl
  · obtain ⟨a, b, xs, ys, rfl, ha, hb, hz, q⟩ := h
    refine ⟨_, (pss_one (ps_ret (pe_callB (allK K) (by rfl) T.b_all (by decide +kernel) (pa_cons (pe_lc (own := [("thing", 2)]) rfl sc_is_part.nd (pisq K (pv 0)) (blkOk_by (N := ["one", "other", "thing"]) (sc := defScope s_is_part) (by decide +kernel)) (fun _ _ _ _ _ => pg_name (i := 2) sc_is_part.nd rfl (Or.inl rfl)) (fun _ _ _ _ _ => pts_nil) (fun _ _ _ _ _ => pe_cmpR (inSq K) (pv 2) (pv 1) rfl)) pa_nil)))), ?_⟩
    have turn : ∀ (H1 : Hp) (i : Nat) (x : V) (c : Str), xs[i]? = some c → TurnOf rS (rV V.bl) (fun c => some (decide (c ∈ ys))) (gName 2) tYes (tOp (rIn K false) (tVar 2) (tVar 1)) [2] (start ["one", "other", "thing"] [V.ref a, V.ref b]) H x c := by
      intro H1 i x c hc H2 s2 hx N Z hN hZ
      refine ⟨rfl, ty ⟨x, rfl, .ref b, rfl, b, _, rfl, ?_, ?_, strs_flat ys, hN _ _ _ (Same.refl _) rfl ?_⟩⟩
      · rcases hb with h | h
        · exact .inl ((Kg.of s2).seq h)
        · exact .inr ((Kg.of s2).tup h)
      · rw [show x = V.str c from hx]; rfl
      · show V.bl (inV x _) = _
        rw [show x = V.str c from hx, inV_strs]
    have fin : ∀ (D : Addr) (H' : Hp) (zs : List V), Same H H' → H' D = some (.lst zs) → Paired (rV V.bl H') zs (xs.filterMap fun c => some (decide (c ∈ ys))) → rAll K [V.ref D] H' Q := by
      intro D H' zs s' hD hp
      refine ⟨D, _, rfl, SqL.of (by rw [hD, paired_rV hp]), ?_⟩
      rw [filterMap_some]
      have e : ((xs.map fun c => decide (c ∈ ys)).all id) = isPart xs ys := by
        unfold isPart
        rw [List.all_map]
        rfl
      rw [e]
      exact q H' s'
    refine ⟨_, rfl, a, rfl, ?_⟩
    rcases ha with ha | ha
    · exact .inl ⟨⟨_, ha⟩, fun D hD => lc_L (R := rS) rV_mono rV_gr _ hD ha (rV_paired xs) (by rw [List.length_map]; exact hz) (turn H) (fin D)⟩
    · exact .inr ⟨⟨_, ha⟩, fun D hD => lc_T (R := rS) rV_mono rV_gr _ hD ha (rV_paired xs) (by rw [List.length_map]; exact hz) (turn H) (fin D)⟩)

/-! ### is_list, is_integer, is_number -/
def kSeq (K : PySem.W.Frag) (n : String) : Option Bool := PySem.W.kitAny K (.type n) [.type "list", .type "tuple"]
theorem kSeq_yes {n : String} (h : kitB n "list" = some true ∨ (kitB n "list" = some false ∧ kitB n "tuple" = some true)) : kSeq K n = some true := by
  rcases h with h | ⟨h, h'⟩
  · exact kitAny_cons (kit_ty h) (fun z => nomatch z) (fun _ => rfl)
  · exact kitAny_cons (kit_ty h) (fun _ => kitAny_cons (kit_ty h') (fun z => nomatch z) (fun _ => rfl)) (fun z => nomatch z)
theorem kSeq_no {n : String} (h : kitB n "list" = some false) (h' : kitB n "tuple" = some false) : kSeq K n = some false :=
  kitAny_cons (kit_ty h) (fun _ => kitAny_cons (kit_ty h') (fun _ => kitAny_nil) (fun z => nomatch z)) (fun z => nomatch z)
def sp_is_list (K : PySem.W.Frag) : Sp := fun vs H Q _ => ∃ (x : V) (n : String) (b : Bool), vs = [x] ∧ TyX K H x (.type n) ∧ kSeq K n = some b ∧ ∀ H', Same H H' → Q (.bl b) H'
theorem TyX.same {H H' : Hp} (s : Same H H') {x : V} {n : String} (h : TyX K H x (.type n)) : TyX K H' x (.type n) := by
  cases h with
  | base h =>
    refine .base ?_
    cases h with
    | non => exact .non
    | bl x => exact .bl x
    | int i => exact .int i
    | str x => exact .str x
    | flt x => exact .flt x
    | lst e => exact .lst (s _ _ e)
    | frz e => exact .frz (s _ _ e)
    | tup e => exact .tup (s _ _ e)
    | dK e => exact .dK (s _ _ e)
    | dT e => exact .dT (s _ _ e)
  | byt b => exact .byt b
  | set e => exact .set (s _ _ e)
  | kList e c => exact .kList e c
  | kTuple e c => exact .kTuple e c
  | kDict e c => exact .kDict e c
  | fTuple e => exact .fTuple (s _ _ e)
  | fDict e => exact .fDict (s _ _ e)
theorem ok_is_list {f : Addr} {fd : FuncData} (D : Df K mg "is_list" s_is_list ["thing"] f fd) (T : Bl mg) : Dn P w K mg base CX0 1 "is_list" ["thing"] (sp_is_list K) := .of D (by
  refine D.fn.ok sc_is_list (fun vs H Q E h => ?_) (fun cdv A outer s H vs Q E hr h => ?_)
  · obtain ⟨x, n, b, rfl, _⟩ := h
    rfl
  · obtain ⟨x, n, b, rfl, ht, hk, q⟩ := h
    refine ⟨_, (pss_one (ps_ret (pe_callB (isiT K) (by rfl) T.b_isinstance (by decide +kernel) (pa_cons (pv 0) (pa_cons (pe_tup (pa_cons (pe_bltn (v := .ty "list") (by rfl) T.b_list (by decide +kernel) rfl) (pa_cons (pe_bltn (v := .ty "tuple") (by rfl) T.b_tuple (by decide +kernel) rfl) pa_nil))) pa_nil))))), ?_⟩
    refine ⟨_, rfl, by decide, fun p hp => ?_⟩
    exact ⟨x, p, _, _, _, b, rfl, upd_same, .cons (.ty _) (.cons (.ty _) .nil), TyX.same (same_upd hp) ht, hk, q _ (same_upd hp)⟩)
/-- whole numbers, not truths -/
def intTy (n : String) (b : Bool) : Prop := ∃ c, kitB n "int" = some c ∧ (c = false → b = false) ∧ (c = true → ∃ d, kitB n "bool" = some d ∧ b = !d)
def sp_is_integer (K : PySem.W.Frag) : Sp := fun vs H Q _ => ∃ (x : V) (n : String) (b : Bool), vs = [x] ∧ TyX K H x (.type n) ∧ intTy n b ∧ ∀ H', Same H H' → Q (.bl b) H'
theorem ok_is_integer {f : Addr} {fd : FuncData} (D : Df K mg "is_integer" s_is_integer ["thing"] f fd) (T : Bl mg) : Dn P w K mg base CX0 1 "is_integer" ["thing"] (sp_is_integer K) := .of D (by
  refine D.fn.ok sc_is_integer (fun vs H Q E h => ?_) (fun cdv A outer s H vs Q E hr h => ?_)
  · obtain ⟨x, n, b, rfl, _⟩ := h
    rfl
  · obtain ⟨x, n, b, rfl, ht, ⟨c, hc, h0, h1⟩, q⟩ := h
    refine ⟨_, (pss_one (ps_ret (pe_and (pe_callB (isiK K) (by rfl) T.b_isinstance (by decide +kernel) (pa_cons (pv 0) (pa_cons (pe_bltn (v := .ty "int") (by rfl) T.b_int (by decide +kernel) rfl) pa_nil))) (pe_one (pe_not (pe_callB (isiK K) (by rfl) T.b_isinstance (by decide +kernel) (pa_cons (pv 0) (pa_cons (pe_bltn (v := .ty "bool") (by rfl) T.b_bool (by decide +kernel) rfl) pa_nil)))))))), ?_⟩
    refine ⟨_, rfl, x, _, _, _, c, rfl, .ty _, ht, kit_ty hc, c, rfl, ?_⟩
    cases c with
    | false =>
      refine iteF ?_
      rw [h0 rfl] at q
      exact q H (Same.refl H)
    | true =>
      obtain ⟨d, hd, e⟩ := h1 rfl
      refine iteT ⟨_, rfl, x, _, _, _, d, rfl, .ty _, ht, kit_ty hd, d, rfl, ?_⟩
      rw [e] at q
      exact q H (Same.refl H))
/-- numbers from 0 on -/
def numOk (K : PySem.W.Frag) (H : Hp) (x : V) (b : Bool) : Prop := (∃ i, x = .int i ∧ b = decide (0 ≤ i)) ∨ (∃ n, TyX K H x (.type n) ∧ intTy n false ∧ b = false)
def sp_is_number (K : PySem.W.Frag) : Sp := fun vs H Q _ => ∃ (x : V) (b : Bool), vs = [x] ∧ numOk K H x b ∧ ∀ H', Same H H' → Q (.bl b) H'
theorem int_int : intTy "int" true := ⟨true, by decide +kernel, (fun z => nomatch z), fun _ => ⟨false, by decide +kernel, rfl⟩⟩
theorem ok_is_number {f : Addr} {fd : FuncData} (D : Df K mg "is_number" s_is_number ["thing"] f fd) (G_is_integer : Dn P w K mg base CX0 1 "is_integer" ["thing"] (sp_is_integer K)) : Dn P w K mg base CX0 2 "is_number" ["thing"] (sp_is_number K) := .of D (by
  refine D.fn.ok sc_is_number (fun vs H Q E h => ?_) (fun cdv A outer s H vs Q E hr h => ?_)
  · obtain ⟨x, b, rfl, _⟩ := h
    rfl
  · obtain ⟨x, b, rfl, hb, q⟩ := h
    refine ⟨_, (pss_one (ps_ret (pe_and (pe_cl G_is_integer (hr.mono (by decide)) (pa_cons (pv 0) pa_nil)) (pe_one (pe_cmpR op_ge (pv 0) (pe_int) (nomark _)))))), ?_⟩
    rcases hb with ⟨i, rfl, rfl⟩ | ⟨n, ht, hi, rfl⟩
    · exact ⟨_, rfl, _, "int", true, rfl, .base (.int i), int_int, fun H' s' => ⟨true, rfl, iteT ⟨_, rfl, _, _, rfl, rfl, q H' s'⟩⟩⟩
    · exact ⟨_, rfl, _, n, false, rfl, ht, hi, fun H' s' => ⟨false, rfl, iteF (q H' s')⟩⟩)
/-! ### is_name -/
def smallS : Str := "abcdefghijklmnopqrstuvwxyz"
def figS : Str := "0123456789"
structure Cn (mg : Str → Option Value) : Prop where
  c_SMALL : ∃ t, mg "SMALL" = some (.str smallS t)
  c_FIGURES : ∃ t, mg "FIGURES" = some (.str figS t)
theorem pe_SMALL {X : Cx} (C : Cn X.mg) {pos : Pos} (hg : Gl X "SMALL" := by rfl) : PE X (.Name "SMALL" pos) (tC (.str smallS)) := by
  obtain ⟨t, h⟩ := C.c_SMALL
  exact pe_glob hg h ⟨_, rfl⟩
theorem pe_FIGURES {X : Cx} (C : Cn X.mg) {pos : Pos} (hg : Gl X "FIGURES" := by rfl) : PE X (.Name "FIGURES" pos) (tC (.str figS)) := by
  obtain ⟨t, h⟩ := C.c_FIGURES
  exact pe_glob hg h ⟨_, rfl⟩
def signOk (c : Nat) : Bool := decide (c ∈ smallS.cps.toList) || decide (c ∈ figS.cps.toList)
def nameOk (x : Str) : Bool := decide (1 ≤ x.cps.toList.length ∧ x.cps.toList.length ≤ 12) && (match x.cps.toList with | [] => false | c :: _ => decide (c ∈ smallS.cps.toList)) && x.cps.toList.all signOk
def sp_is_name : Sp := fun vs H Q _ => ∃ (x : Str), vs = [.str x] ∧ nameOk x = true ∧ ∀ H', Same H H' → Q (.bl true) H'
theorem ok_is_name {f : Addr} {fd : FuncData} (D : Df K mg "is_name" s_is_name ["thing"] f fd) (T : Bl mg) (C : Cn mg) : Dn P w K mg base CX0 1 "is_name" ["thing"] sp_is_name := .of D (by
  refine D.fn.ok sc_is_name (fun vs H Q E h => ?_) (fun cdv A outer s H vs Q E hr h => ?_)
  · obtain ⟨x, rfl, _⟩ := h
    rfl
  · obtain ⟨x, rfl, hx, q⟩ := h
    refine ⟨_, (pss_cons (ps_if (PW.pt (pw_or (pt_not (pt_val (pe_callB (isiK K) (by rfl) T.b_isinstance (by decide +kernel) (pa_cons (pv 0) (pa_cons (pe_bltn (v := .ty "str") (by rfl) T.b_str (by decide +kernel) rfl) pa_nil))))) (pw_or (pt_not (pt_chain op_le op_le (pe_int) (pe_callB (call_len_str) (by rfl) T.b_len (by decide +kernel) (pa_cons (pv 0) pa_nil)) (pe_int))) (pw_or1 (pt_cmpR op_notIn_sign (pe_ix ix_str (pv 0) (pe_int) (fun _ _ => rfl)) (pe_SMALL C) rfl))))) (pss_one (ps_ret (pe_bl))) pss_nil)
      (pss_one (ps_ret (pe_callB (allK K) (by rfl) T.b_all (by decide +kernel) (pa_cons (pe_lc (own := [("sign", 1)]) rfl sc_is_name.nd (pi_str (pv 0)) (blkOk_by (N := ["thing", "sign"]) (sc := defScope s_is_name) (by decide +kernel)) (fun _ _ _ _ _ => pg_name (i := 1) sc_is_name.nd rfl (Or.inl rfl)) (fun _ _ _ _ _ => pts_nil) (fun _ _ _ _ _ => pe_or (pe_cmpR op_in_sign (pv 1) (pe_SMALL C) rfl) (pe_one (pe_cmpR op_in_sign (pv 1) (pe_FIGURES C) rfl)))) pa_nil))))), ?_⟩
    unfold nameOk at hx
    rw [Bool.and_eq_true, Bool.and_eq_true, decide_eq_true_eq] at hx
    obtain ⟨⟨⟨l1, l2⟩, hc⟩, hall⟩ := hx
    have hlen : x.length = x.cps.toList.length := rfl
    -- isinstance(thing, str), the length, the first sign
    refine ⟨_, rfl, _, _, _, _, true, rfl, .ty _, .base (.str x), kit_ty (by decide +kernel), true, rfl, ?_⟩
    refine iteF ?_
    refine ⟨_, rfl, x, rfl, ?_, ?_⟩
    · rw [sizeLine_eq]; omega
    refine ⟨_, _, rfl, rfl, _, rfl, ?_⟩
    have e1 : decide ((1 : Int) ≤ ((x.length : Nat) : Int)) = true := decide_eq_true (by omega)
    rw [e1]
    refine iteT ⟨_, _, rfl, rfl, _, rfl, ?_⟩
    have e2 : decide (((x.length : Nat) : Int) ≤ 12) = true := decide_eq_true (by omega)
    rw [e2]
    refine iteF ?_
    cases e : x.cps.toList with
    | nil => rw [e] at l1; simp at l1
    | cons c r =>
      rw [e] at hc
      have hc : decide (c ∈ smallS.cps.toList) = true := hc
      refine ⟨_, rfl, x, 0, c, rfl, rfl, ?_, ?_, ?_⟩
      · rw [sizeLine_eq]; omega
      · rw [e]; exact atI_nat (xs := c :: r) (j := 0) rfl
      refine ⟨c, smallS, rfl, rfl, _, rfl, ?_⟩
      rw [hc]
      refine iteF ?_
      -- all([..])
      refine ⟨_, rfl, x, rfl, fun D hD => ?_⟩
      refine lc_W (as := x.cps.toList) (R := rV fun c => V.str ⟨#[c]⟩) (S := rV V.bl) walk_str rV_gr (fun c => some (signOk c)) hD (by simp) (by rw [Array.length_toList] at l2; omega) (fun _ _ => trivial) (fun i H1 v H2 b _ hb hy => ?_) (fun i v b hb => ?_) (fun H' zs s' hz hp => ?_)
      · obtain ⟨rfl, c', h1, h2⟩ := hy
        have h1 : x.cps.toList[i]? = some c' := by rw [Array.getElem?_toList]; exact h1
        rw [hb] at h1
        injection h1 with h1
        exact ⟨Same.refl _, by rw [h2, h1]; rfl⟩
      · intro H1 s1 hv N Z hN hZ
        have hv : v = V.str ⟨#[b]⟩ := hv
        subst hv
        refine ⟨rfl, ty ⟨_, rfl, b, smallS, rfl, rfl, _, rfl, ?_⟩⟩
        by_cases c1 : decide (b ∈ smallS.cps.toList) = true
        · rw [c1]
          refine iteT (hN _ true _ (Same.refl _) ?_ rfl)
          show some (signOk b) = _
          unfold signOk
          rw [c1, Bool.true_or]
        · rw [Bool.not_eq_true] at c1
          rw [c1]
          refine iteF ⟨_, rfl, b, figS, rfl, rfl, hN _ _ _ (Same.refl _) rfl ?_⟩
          show V.bl _ = V.bl (signOk b)
          unfold signOk
          rw [c1, Bool.false_or]
      · refine ⟨D, _, rfl, SqL.of (by rw [hz, paired_rV hp]), ?_⟩
        rw [filterMap_some]
        have e : ((x.cps.toList.map signOk).all id) = true := by
          rw [List.all_map]
          exact hall
        rw [e]
        exact q H' s')
/-! ### each_once -/
def onceStep (f : List Str) (x : Str) : List Str := if x ∈ f then f else f ++ [x]
def onceL (xs : List Str) : List Str := xs.foldl onceStep []
theorem onceL_snoc (xs : List Str) (x : Str) : onceL (xs ++ [x]) = onceStep (onceL xs) x := by
  unfold onceL
  rw [List.foldl_append]
  rfl
theorem onceL_ok : ∀ xs : List Str, (onceL xs).Nodup ∧ ∀ x, x ∈ onceL xs ↔ x ∈ xs := by
  intro xs
  induction xs using WM.snocInd with
  | h0 => exact ⟨by simp [onceL], fun x => Iff.rfl⟩
  | h1 xs y ih =>
    obtain ⟨a, b⟩ := ih
    rw [onceL_snoc]
    unfold onceStep
    by_cases c : y ∈ onceL xs
    · rw [if_pos c]
      refine ⟨a, fun x => ?_⟩
      rw [b, List.mem_append, List.mem_singleton]
      exact ⟨.inl, fun h => h.elim id fun e => e ▸ (b y).1 c⟩
    · rw [if_neg c]
      refine ⟨?_, fun x => by rw [List.mem_append, List.mem_append, b]⟩
      rw [List.nodup_append]
      refine ⟨a, by simp, fun x hx z hz => ?_⟩
      rw [List.mem_singleton] at hz
      exact fun e => c (hz ▸ e ▸ hx)
theorem onceL_len (xs : List Str) : (onceL xs).length ≤ xs.length := nodup_len (onceL_ok xs).1 fun x h => ((onceL_ok xs).2 x).1 h
theorem keys_put {κ : Type} [DecidableEq κ] (kvs : List (κ × V)) (k : κ) (v : V) : (putK kvs k v).map (·.1) = if k ∈ kvs.map (·.1) then kvs.map (·.1) else kvs.map (·.1) ++ [k] := by
  unfold putK
  by_cases c : k ∈ kvs.map (·.1)
  · have h : (kvs.any fun kv => decide (kv.1 = k)) = true := by
      obtain ⟨e, he, q⟩ := List.mem_map.1 c
      exact List.any_eq_true.2 ⟨e, he, decide_eq_true q⟩
    rw [if_pos h, if_pos c, List.map_map]
    refine List.map_congr_left fun e _ => ?_
    simp only [Function.comp]
    split <;> rfl
  · have h : ¬ (kvs.any fun kv => decide (kv.1 = k)) = true := fun z => by
      obtain ⟨e, he, q⟩ := List.any_eq_true.1 z
      exact c (List.mem_map.2 ⟨e, he, of_decide_eq_true q⟩)
    rw [if_neg h, if_neg c]
    simp
theorem inr_mem {x : Str} {ks : List Str} : (Sum.inr x : Key) ∈ ks.map Sum.inr ↔ x ∈ ks := by
  rw [List.mem_map]
  exact ⟨fun ⟨y, hy, e⟩ => (Sum.inr.inj e) ▸ hy, fun h => ⟨x, h, rfl⟩⟩
def sp_each_once (K : PySem.W.Frag) : Sp := fun vs H Q _ => ∃ (a : Addr) (xs : List Str), vs = [.ref a] ∧ SqL K H a (xs.map V.str) ∧ xs.length ≤ 100000 ∧
  ∀ p H', H p = none → Same H H' → H' p = some (.lst ((onceL xs).map V.str)) → Q (.ref p) H'
theorem ok_each_once {f : Addr} {fd : FuncData} (D : Df K mg "each_once" s_each_once ["things"] f fd) (T : Bl mg) : Dn P w K mg base CX0 1 "each_once" ["things"] (sp_each_once K) := .of D (by
  refine D.fn.ok sc_each_once (fun vs H Q E h => ?_) (fun cdv A outer s H vs Q E hr h => ?_)
  · obtain ⟨a, xs, rfl, _⟩ := h
    rfl
  · obtain ⟨a, xs, rfl, ha, hz, q⟩ := h
    have hu := hu_of hr
    refine ⟨_, (pss_cons (ps_set (i := 1) sc_each_once.nd rfl (Or.inl rfl) (pe_dnewK))
      (pss_cons (ps_for PassesOwn.never rfl (pil K (pv 0)) (pg_name (i := 2) sc_each_once.nd rfl (Or.inl rfl))
        (pss_one (ps_dput hu (pv 1) (pv 2) (pe_bl) rfl)))
      (pss_one (ps_ret (pe_callTy (call_listD rfl) (by rfl) T.b_list (by decide +kernel) (pa_cons (pv 1) pa_nil)))))), ?_⟩
    intro d hd
    refine ⟨_, rfl, a, rfl, ⟨_, (Kg.of (same_upd hd)).seq ha⟩, for_list (K := K) (a := a) (xs := xs.map V.str) (fun i σ H2 => ∃ v, σ = [some (.ref a), some (.ref d), v] ∧ Same H H2 ∧ ∃ kvs, H2 d = some (.dK kvs) ∧ kvs.map (·.1) = (onceL (xs.take i)).map Sum.inr)
      ⟨none, rfl, same_upd hd, [], upd_same, rfl⟩ (fun i σ H2 _ ⟨_, _, s2, _⟩ => (Kg.of s2).seq ha) ?_ ?_⟩
    · rintro i y σ H2 hi ⟨v, rfl, s2, kvs, hk, hks⟩
      rw [List.getElem?_map] at hi
      cases e : xs[i]? with
      | none => rw [e] at hi; cases hi
      | some x =>
        rw [e] at hi
        injection hi with hi
        subst hi
        have hil : i < xs.length := (List.getElem?_eq_some_iff.mp e).1
        have hl : kvs.length ≤ 100000 := by
          have h1 := congrArg List.length hks
          rw [List.length_map, List.length_map] at h1
          have h2 := onceL_len (xs.take i)
          rw [List.length_take] at h2
          omega
        refine ⟨_, rfl, _, rfl, d, _, rfl, DPut.k (k := Sum.inr x) hk (by rw [sizeLine_eq]; omega), ?_⟩
        refine ⟨_, rfl, Same.own s2 hd, _, upd_same, ?_⟩
        rw [keys_put, hks, List.take_add_one, e, Option.toList_some, onceL_snoc]
        unfold onceStep
        by_cases c : x ∈ onceL (xs.take i)
        · rw [if_pos c, if_pos (inr_mem.2 c)]
        · rw [if_neg c, if_neg fun z => c (inr_mem.1 z), List.map_append]
          rfl
    · rintro σ H2 ⟨v, rfl, s2, kvs, hk, hks⟩
      rw [List.length_map, List.take_length] at hks
      refine ⟨_, rfl, d, kvs, rfl, .inl hk, fun p hp => q p _ (s2.free hp) (s2.trans (same_upd hp)) ?_⟩
      rw [upd_same]
      have e : (kvs.map fun kv => kV kv.1) = (onceL xs).map V.str := by
        have := congrArg (List.map kV) hks
        rw [List.map_map, List.map_map] at this
        exact this
      rw [e])
end
end WH
set_option Elab.async false
set_option linter.all false
set_option maxRecDepth 100000
set_option maxHeartbeats 4000000
/-! {x: True for x in a list of tuples}: a dict whose keys are these tuples. -/
namespace WH
open PySem PySem.Spec PyProof.Rows L2
/-- the keys' addresses, and what they stand for -/
def KeysAt (H : Hp) : List V → List (List Key) → Prop := Paired fun v k => ∃ a, v = .ref a ∧ H a = some (.tup (k.map kV))
def putAll (ks : List (List Key)) : List (List Key × V) := ks.foldl (fun acc k => putK acc k (.bl true)) []
theorem putAll_snoc (ks : List (List Key)) (k : List Key) : putAll (ks ++ [k]) = putK (putAll ks) k (.bl true) := by
  unfold putAll
  rw [List.foldl_append]
  rfl
theorem putAll_len (ks : List (List Key)) : (putAll ks).length ≤ ks.length := by
  induction ks using PyProof.Rows.snocInd with
  | nil => exact Nat.le_refl _
  | snoc l x ih =>
    rw [putAll_snoc, List.length_append]
    have := length_putK (putAll l) x (.bl true)
    simp only [List.length_singleton]
    omega
theorem far_of {b N C D : Nat} (hb : b < N ∨ b = C) (hC : N + 1 ≤ C) (hD : N + 1 ≤ D) (h : D ≠ C) : ¬ (b = N) := by omega
theorem far_ne {b N C : Nat} (hb : b < N + 1) (hC : N + 1 ≤ C) : b ≠ C := by omega
def tDcT (K : PySem.W.Frag) (te : TE) : TE := fun σ H Q => te σ H fun x H1 => ∃ (l : Addr) (xs : List V) (ks : List (List Key)), x = .ref l ∧ SqL K H1 l xs ∧ KeysAt H1 xs ks ∧ ks.length ≤ 100000 ∧ ∀ p, H1 p = none → Q (.ref p) (upd H1 p (.dT (putAll ks)))
theorem pe_dcT {X : Cx} {iter : Expr} {te : TE} {x : Str} {scope : Scope} {pk pv pt pos : Pos} {j : Nat} (hcalm : X.calm = true) (hu : X.A.units + 1 < cLine) (he : PE X iter te)
    (hcell : ∀ y ∈ scope.names, y.2 ≠ .cell ∧ y.2 ≠ .free) (hkind : scope.kind = .function) (hnames : ∀ y ∈ scope.names, y.2 = .local → scope.names.lookup y.1 = some .local) (hx : scope.names.lookup x = some .local)
    (hdb : (x == ("__debug__" : Str)) = false) (hs : ∀ v, foldedSetIterable iter X.env v = pure v) :
    PE X (.DictComp (.Name x pk) (.Constant (.bool true) j pv) [⟨.Name x pt, iter, [], 0⟩] scope pos) (tDcT X.K te) := by
  refine ⟨fun pins s σ H Q I h => ?_⟩
  refine DictComp_goes (closure_ok (env := X.env) (scope := scope) fun y hy e => absurd e (hcell y hy).2) (fun y hy => (hcell y hy).1) hkind hnames (thn (he.run pins s σ H _ I h) fun v s1 ⟨y, H1, I1, r1, q1⟩ => ?_) hs
  obtain ⟨l, xs, ks, e, hS, hK, hz, q⟩ := q1
  subst e
  cases r1
  obtain ⟨its, rv, pl, hzl⟩ := I1.list hS
  have hl := pl.isList
  have hlt : (l : Nat) < s1.heap.objs.size := by
    obtain ⟨o, ho, _⟩ := hl
    exact Heap.lt_size ho
  have hsz : its.toArray.size = ks.length := by
    rw [List.size_toArray, ← rv.length, hK.length]
  refine wpAny_pyIter_list hl ⟨_, _, _, _, _, _, rfl, Goes.list (I1.ok.hd hcalm) s1.heap.objs.size l (Nat.ne_of_lt hlt) its.toArray, ⟨⟨_, Heap.get?_push_size _ rfl, rfl, rfl⟩, hl.push _⟩, fun D C s₃ hB hD0 => ?_⟩
  obtain ⟨⟨h₃, tk₃, rfl⟩, old, nD, nC, hDC, hnm⟩ := hB
  have nC' : (s1.heap.objs.size + 1 : Nat) ≤ C := by
    have z : (s1.heap.push { cls := .type "list_iterator", data := .fields #[.ref l, .int 0 0] }).objs.size ≤ C := nC
    rw [Heap.size_push] at z
    exact z
  have nD' : (s1.heap.objs.size + 1 : Nat) ≤ D := by
    have z : (s1.heap.push { cls := .type "list_iterator", data := .fields #[.ref l, .int 0 0] }).objs.size ≤ D := nD
    rw [Heap.size_push] at z
    exact z
  have hDC' : (D : Nat) ≠ C := hDC
  have kx : (compEnvC scope (cloFrom X.env.cells scope.names []) C X.env).kindOf x = some .local := lookup_relabel_local hx
  have hp : ((compEnvC scope (cloFrom X.env.cells scope.names []) C X.env).scope.kind == .class || ((compEnvC scope (cloFrom X.env.cells scope.names []) C X.env).scope.kind == .module && (compEnvC scope (cloFrom X.env.cells scope.names []) C X.env).locals != (compEnvC scope (cloFrom X.env.cells scope.names []) C X.env).globals)) = false := by
    show (scope.kind == .class || (scope.kind == .module && _)) = false
    rw [hkind]; rfl
  have big := I1.big
  have dsys : (D == sysModules) = false := by
    have : sysModules < D := Nat.lt_of_lt_of_le big (Nat.le_trans (Nat.le_succ _) nD')
    simpa using (Nat.ne_of_gt this)
  -- what is known of the new dict
  let DOk : Nat → Heap → Prop := fun i h' => (∀ b o, s1.heap.get? b = some o → h'.get? b = some o) ∧ ∃ ms, KT H1 (putAll (ks.take i)) ms ∧ h'.DictOfH (tupleKind (mixKind X.prog X.w)) D ms
  have keeps : ∀ {i : Nat} {h' h'' : Heap}, DOk i h' → (∀ b o, (b < s1.heap.objs.size ∨ b = D) → h'.get? b = some o → h''.get? b = some o) → DOk i h'' := by
    rintro i h' h'' ⟨k1, ms, r, o, es, ep, g1, g2, g3, g4, g5, g6⟩ kk
    have k2 : ∀ b o, s1.heap.get? b = some o → h''.get? b = some o := fun b o e => kk b o (.inl (Heap.lt_size e)) (k1 b o e)
    refine ⟨k2, ms, r, o, es, ep, kk _ _ (.inr rfl) g1, g2, g3, g4, fun z hz => ?_, g6⟩
    obtain ⟨kv, e1, e2, _⟩ := Paired.right r z hz
    rw [← e1]
    exact key_of (I1.hok.kept k2) e2
  refine ⟨fun i s₁ => ∃ h' tk m, s₁ = { s1 with heap := h', toks := tk } ∧ h'.Ns C m ∧ DOk i h', ⟨h₃, tk₃, _, rfl, hnm, fun b o e => old b o (Heap.get?_push_of_some _ e), [], .nil, _, #[], 0, hD0, ?_, rfl, rfl, fun z hz => (by cases hz), List.nodup_nil⟩, ?_, ?_, ?_⟩
  · exact ⟨rfl, rfl, rfl⟩
  · rintro i s₁ h' tk ⟨h₄, tk₄, m, rfl, n₄, d₄⟩ hk' _
    have off : ∀ b : Addr, (b < s1.heap.objs.size ∨ b = C) → b ∉ [s1.heap.objs.size] := fun b hb hm => far_of hb nC' nD' hDC' (by simpa using hm)
    refine ⟨h', tk, m, rfl, n₄.at' fun o e => hk' _ o (off _ (.inr rfl)) e, keeps d₄ fun b o hb e => hk' b o ?_ e⟩
    rcases hb with hb | hb
    · exact off b (.inl hb)
    · intro hm
      rw [List.mem_singleton] at hm
      exact absurd (hb ▸ hm ▸ nD') (by omega)
  · rintro i v s₁ hi hv st ⟨h₄, tk₄, m, rfl, n₄, d₄⟩
    have hi' : i < ks.length := hsz ▸ hi
    have hvi : its[i]? = some v := by simpa using hv
    -- the item is a key's tuple
    obtain ⟨xv, hxv, rxv⟩ : ∃ xv, xs[i]? = some xv ∧ RelV xv v := by
      have hlx : i < xs.length := by rw [rv.length]; exact (List.getElem?_eq_some_iff.mp hvi).1
      obtain ⟨u, hu', ru⟩ := rv.get (List.getElem?_eq_getElem hlx)
      rw [hvi] at hu'
      injection hu' with hu'
      exact ⟨_, List.getElem?_eq_getElem hlx, hu' ▸ ru⟩
    obtain ⟨k, hk, a, ea, hka⟩ := L2.paired_get hK hxv
    subst ea
    cases (show v = Value.ref a from rxv)
    have offC : ∀ b : Addr, (b < s1.heap.objs.size + 1 ∨ b = D) → b ≠ C := fun b hb => by
      rcases hb with hb | hb
      · exact far_ne hb nC'
      · exact fun e => hDC' (hb ▸ e)
    refine wpAny_assign_Name (wpAny_storeName_local kx n₄ (fun h₅ n₅ s₅ => ?_) hp)
    refine wpAny_tests_nil ?_
    show wpAny _ _ _ _ _ _
    rw [eval_Name _ _ _ hdb]
    refine wpAny_bind (wpAny_standAt (wpAny_loadName_local hkind kx n₅ (v := .ref a) (if_pos rfl) ?_))
    show wpAny _ _ (eval (.Constant (.bool true) j pv) _) _ _ _
    refine wpAny_Constant_bool ?_
    have d₅ : DOk i h₅ := keeps d₄ fun b o hb e => s₅.extBut b o (offC b (hb.elim (fun z => .inl (Nat.lt_succ_of_lt z)) .inr)) e
    obtain ⟨k₅, ms, r, dd⟩ := d₅
    have hml : ms.length ≤ sizeLine := by
      have h1 := r.length
      have h2 := putAll_len (ks.take i)
      rw [List.length_take] at h2
      rw [sizeLine_eq]
      omega
    have hkey : (tupleKind (mixKind X.prog X.w)).is h₅ k a := key_of (I1.hok.kept k₅) hka
    refine wpAny_dictSet_heap (hsz := hml) (show X.A.units < cLine from Nat.lt_of_succ_lt hu) hkey dd fun h₆ dd' s₆ => ?_
    have notD : ∀ b : Addr, b < s1.heap.objs.size + 1 → b ≠ D := fun b hb => far_ne hb nD'
    have up₆ : ∀ b o, b ≠ D → h₅.get? b = some o → h₆.get? b = some o := fun b o hb e => s₆.extBut b o hb e
    have old₅ : ∀ b o, b < s1.heap.objs.size + 1 → h₄.get? b = some o → h₆.get? b = some o := fun b o hb e => up₆ b o (notD b hb) (s₅.extBut b o (offC b (.inl hb)) e)
    refine ⟨⟨h₆, _, _, rfl, n₅.at' fun o e => up₆ _ o (Ne.symm hDC) e, fun b o e => up₆ b o (notD b (Nat.lt_succ_of_lt (Heap.lt_size e))) (k₅ b o e), _, ?_, dd'⟩, ?_, ?_⟩
    · have et : ks.take (i + 1) = ks.take i ++ [k] := by rw [List.take_add_one, hk]; rfl
      rw [et, putAll_snoc]
      exact r.put k hka (rfl : RelV (.bl true) (.bool true))
    · exact st.1.at fun o e => old₅ _ o (Nat.lt_succ_self _) e
    · exact st.2.at fun o e => old₅ _ o (Nat.lt_succ_of_lt hlt) e
  · rintro s₁ ⟨h₄, tk₄, m, rfl, n₄, k₄, ms, r, dd⟩
    refine ⟨m, n₄, fun h' hs' => ?_⟩
    have hDn : H1 D = none := I1.hok.fresh (Nat.le_trans (Nat.le_succ _) nD')
    have k' : ∀ b o, s1.heap.get? b = some o → h'.get? b = some o := fun b o e => hs'.extBut b o (far_ne (Nat.lt_succ_of_lt (Heap.lt_size e)) nC') (k₄ b o e)
    rw [hsz, List.take_length] at r
    obtain ⟨o, es, ep, g1, g2, g3, g4, _, g6⟩ := dd
    refine ⟨.ref D, _, I1.laid (a := D) (o := .dT (putAll ks)) (t' := tk₄) k' (Nat.le_trans (Nat.le_succ _) nD') ⟨?_, dsys, ms, r.keeps fun b ys e => ?_, o, es, ep, hs'.extBut _ _ hDC g1, g2, g3, g4, g6⟩, rfl, q D hDn⟩
    · have := putAll_len ks
      rw [sizeLine_eq]
      omega
    · rw [upd_ne (ne_of_none e hDn)]
      exact e
end WH
set_option Elab.async false
set_option linter.all false
set_option maxRecDepth 100000
set_option maxHeartbeats 4000000
/-! sorted of pairs (how many, a set); sorted of rows that begin with unlike texts. -/
namespace WH
open PySem PySem.Spec PyProof.Rows L2 WM PySem.W
/-! ### the order of pairs (how many, a set) -/
def setD (s : List Str) : PyData := .tuple (s.map PyData.str)
def pairD (s : List Str) : PyData := .tuple [.int s.length, setD s]
theorem alike_strs : ∀ xs ys : List Str, alikeAll (xs.map PyData.str) (ys.map PyData.str) = true
  | [], [] => rfl
  | [], _ :: _ => rfl
  | _ :: _, [] => rfl
  | x :: xs, y :: ys => by
    show (true && alikeAll (xs.map PyData.str) (ys.map PyData.str)) = true
    rw [alike_strs xs ys]
    rfl
theorem alike_set (s t : List Str) : alike (setD s) (setD t) = true := alike_strs s t
theorem alike_pair (s t : List Str) : alike (pairD s) (pairD t) = true := by
  show (true && (alike (setD s) (setD t) && true)) = true
  rw [alike_set]
  rfl
theorem eqv_str (x y : Str) : PyData.eqv (.str x) (.str y) = decide (x = y) := by
  simp only [PyData.eqv]
  by_cases h : x = y <;> simp [h]
theorem eqv_int (x y : Int) : PyData.eqv (.int x) (.int y) = decide (x = y) := by
  simp only [PyData.eqv]
  by_cases h : x = y <;> simp [h]
theorem eqv_strs : ∀ xs ys : List Str, PyData.eqvAll (xs.map PyData.str) (ys.map PyData.str) = decide (xs = ys)
  | [], [] => rfl
  | [], _ :: _ => by simp [PyData.eqvAll]
  | _ :: _, [] => by simp [PyData.eqvAll]
  | x :: xs, y :: ys => by
    rw [List.map_cons, List.map_cons]
    simp only [PyData.eqvAll, eqv_str, eqv_strs xs ys]
    by_cases h : x = y <;> by_cases h' : xs = ys <;> simp [h, h']
theorem eqv_set (s t : List Str) : PyData.eqv (setD s) (setD t) = decide (s = t) := by
  unfold setD
  simp only [PyData.eqv]
  exact eqv_strs s t
theorem row_strs : ∀ xs ys : List Str, xs.length = ys.length → PyProof.Rows.lexLt itemOrd (keyToksAll (xs.map PyData.str)) (keyToksAll (ys.map PyData.str)) = lexB sLt xs ys
  | [], [], _ => lex_irrefl _
  | [], _ :: _, h => by simp at h
  | _ :: _, [], h => by simp at h
  | x :: xs, y :: ys, h => by
    rw [List.map_cons, List.map_cons, dataLt_cons (by rfl), row_strs xs ys (by simpa using h), eqv_str, dataLt_str]
    simp only [lexB, decide_eq_true_eq]
    rfl
theorem pair_lt (s t : List Str) : dataLt (pairD s) (pairD t) = clt sLt s t := by
  unfold pairD
  rw [dataLt_pair (by rfl) (alike_set s t), eqv_int, eqv_set, dataLt_int]
  unfold clt
  by_cases h : s.length = t.length
  · have h1 : ((s.length : Int) = (t.length : Int)) := by omega
    rw [if_pos (decide_eq_true h1)]
    have h2 : ¬ s.length < t.length := by omega
    simp only [h, h2, decide_true, decide_false, Bool.false_or, Bool.true_and, Nat.lt_irrefl]
    by_cases e : s = t
    · subst e
      rw [if_pos (decide_eq_true rfl), (lexB_lo sLo).irr]
    · rw [if_neg (by simpa using e)]
      unfold setD
      rw [dataLt_tuple, row_strs s t h]
  · have h1 : ¬ ((s.length : Int) = (t.length : Int)) := by omega
    rw [if_neg (by simpa using h1)]
    simp only [h, decide_false, Bool.false_and, Bool.or_false]
    by_cases c : s.length < t.length
    · have c' : (s.length : Int) < (t.length : Int) := by omega
      simp [c, c']
    · have c' : ¬ (s.length : Int) < (t.length : Int) := by omega
      simp [c, c']
theorem pair_le : dataLe false (fun z : Addr × List Str => pairD z.2) = fun a b => !clt sLt b.2 a.2 := by
  rw [dataLe_eq]
  funext a b
  show (!dataLt (pairD b.2) (pairD a.2)) = _
  rw [pair_lt]
theorem set_depth (s : List Str) : (pairD s).depth ≤ 8 := by
  have h : ∀ xs : List Str, PyData.depthAll (xs.map PyData.str) ≤ 1 := by
    intro xs
    induction xs with
    | nil => simp [PyData.depthAll]
    | cons x xs ih =>
      rw [List.map_cons]
      simp only [PyData.depthAll, PyData.depth]
      omega
  have := h s
  unfold pairD setD
  simp only [PyData.depth, PyData.depthAll]
  omega
/-- t holds the pair of a set's size and the set -/
def PrAt (H : Hp) (t : Addr) (s : List Str) : Prop := ∃ q, H t = some (.tup [.int s.length, .ref q]) ∧ H q = some (.tup (s.map V.str))
def rSortPr (K : PySem.W.Frag) : List V → Hp → VK → Prop := fun vs H Q => ∃ (a : Addr) (zs : List (Addr × List Str)), vs = [.ref a] ∧ SqL K H a (zs.map fun z => V.ref z.1) ∧ (∀ z ∈ zs, PrAt H z.1 z.2) ∧ zs.length ≤ 100000 ∧
  ∀ p (ys : List (Addr × List Str)), ys.Perm zs → ys.Pairwise (fun x y => clt sLt y.2 x.2 = false) → H p = none → Q (.ref p) (upd H p (.lst (ys.map fun z => V.ref z.1)))
theorem each_map {α β γ : Type} {R : α → β → Prop} (f : γ → α) (g : γ → β) : ∀ {l : List γ}, (∀ x ∈ l, R (f x) (g x)) → EachIs R (l.map f) (l.map g)
  | [], _ => .nil
  | x :: l, h => .cons (h x List.mem_cons_self) (each_map f g fun y hy => h y (List.mem_cons_of_mem _ hy))
theorem each_eq {α β : Type} (g : β → α) : ∀ {l : List α} {m : List β}, EachIs (fun v x => v = g x) l m → l = m.map g
  | _, _, .nil => rfl
  | _, _, .cons h t => by rw [h, each_eq g t]; rfl
theorem refs_eq {zs : List (Addr × List Str)} : ∀ {us : List Value}, Vals (zs.map fun z => V.ref z.1) us → us = zs.map fun z => Value.ref z.1 := by
  induction zs with
  | nil => intro us h; cases h; rfl
  | cons z zs ih =>
    intro us h
    cases h with
    | cons a b =>
      rw [show _ = Value.ref z.1 from a, ih b]
      rfl
theorem dp_set {K : PySem.W.Frag} {H : Hp} {q : Addr} {s : List Str} (h : H q = some (.tup (s.map V.str))) : Dp K H (.ref q) (setD s) := by
  refine .tup (SqT.of h) ?_
  clear h
  induction s with
  | nil => exact .nil
  | cons x s ih => exact .cons (.str x) ih
theorem cr_sortPr {X : Cx} (hu : X.A.units + 64 < cLine) : CallR X (.builtin "sorted") (rSortPr X.K) := by
  intro pins s σ H vs us Q I r h
  obtain ⟨a, zs, rfl, hs, hz, hl, q⟩ := h
  obtain ⟨its, rv, hpl, _⟩ := I.list hs
  obtain ⟨u, rfl, ru⟩ := vals1 r
  obtain rfl : u = Value.ref a := ru
  have eits := refs_eq rv
  have er : EachIs (fun (v : Value) (b : Addr × List Str) => ∃ as, Reads s.heap v (pairD b.2) as) its zs := by
    have := each_map (R := fun (v : Value) (b : Addr × List Str) => ∃ as, Reads s.heap v (pairD b.2) as) (fun z => Value.ref z.1) id (l := zs) fun z hzm => by
      obtain ⟨t, h1, h2⟩ := hz z hzm
      exact Dp.reads I (pairD z.2) (.ref z.1) (.ref z.1) (.tup (SqT.of h1) (.cons (.int _) (.cons (dp_set h2) .nil))) rfl
    rw [List.map_id] at this
    rw [eits]
    exact this
  have e : EachIs (fun (v : Value) (b : Addr × List Str) => v = Value.ref b.1) its zs := by
    have := each_map (R := fun (v : Value) (b : Addr × List Str) => v = Value.ref b.1) (fun z => Value.ref z.1) id (l := zs) fun z _ => rfl
    rw [List.map_id] at this
    rw [eits]
    exact this
  refine PySem.W.sorted_data hpl.isList e er (AllAlike.of fun b b' => alike_pair b.2 b'.2) (Sortable.tuples fun b => ⟨_, _, rfl⟩) (by rw [sizeLine_eq]; omega) (fun b _ => ?_) fun out ho he => ?_
  · have := set_depth b.2
    omega
  · have eo := each_eq (fun b : Addr × List Str => Value.ref b.1) he
    obtain ⟨ep, hat⟩ := sortedAll_at s.heap its out.toArray
    have hperm : (zs.mergeSort (dataLe false fun z : Addr × List Str => pairD z.2)).Perm zs := List.mergeSort_perm _ _
    have hsort : (zs.mergeSort (dataLe false fun z : Addr × List Str => pairD z.2)).Pairwise (fun x y => clt sLt y.2 x.2 = false) := by
      have co := clt_lo sLo
      have h := List.pairwise_mergeSort (le := dataLe false fun z : Addr × List Str => pairD z.2) (fun x y z h1 h2 => ?_) (fun x y => ?_) zs
      · refine List.Pairwise.imp ?_ h
        intro x y hxy
        rw [pair_le] at hxy
        simpa using hxy
      · rw [pair_le] at h1 h2 ⊢
        have h1 : clt sLt y.2 x.2 = false := by simpa using h1
        have h2 : clt sLt z.2 y.2 = false := by simpa using h2
        show (!clt sLt z.2 x.2) = true
        cases h3 : clt sLt z.2 x.2 with
        | false => rfl
        | true =>
          cases h4 : clt sLt x.2 y.2 with
          | true =>
            have := co.tr _ _ _ h3 h4
            rw [h2] at this
            cases this
          | false =>
            have := co.tot _ _ h4 h1
            rw [← this, h3] at h2
            cases h2
      · rw [pair_le]
        show (!clt sLt y.2 x.2 || !clt sLt x.2 y.2) = true
        cases h3 : clt sLt y.2 x.2 with
        | false => rfl
        | true => rw [co.asym h3]; rfl
    refine ⟨.ref (s.heap.objs.size + 1), _, I.laid (a := s.heap.objs.size + 1) (o := .lst ((zs.mergeSort (dataLe false fun z : Addr × List Str => pairD z.2)).map fun z => V.ref z.1)) (t' := s.toks) (fun b o e => sortedAll_old e) (Nat.le_succ _) ⟨?_, out, ep, ?_, hat⟩, rfl, q _ _ hperm hsort (I.hok.fresh (Nat.le_succ _))⟩
    · rw [List.length_map, hperm.length_eq, sizeLine_eq]
      omega
    · rw [eo]
      exact vals_maps (fun z : Addr × List Str => V.ref z.1) (fun z => Value.ref z.1) _ fun z _ => (rfl : RelV (.ref z.1) (.ref z.1))
/-! ### rows that begin with unlike texts -/
abbrev Rw := Addr × Str × List V
def nmOf (zs : List Rw) : Value → Str
  | .ref t => ((zs.find? fun z => decide (z.1 = t)).map (·.2.1)).getD ⟨#[]⟩
  | _ => ⟨#[]⟩
def rSortW (K : PySem.W.Frag) : List V → Hp → VK → Prop := fun vs H Q => ∃ (a : Addr) (zs : List Rw), vs = [.ref a] ∧ SqL K H a (zs.map fun z => V.ref z.1) ∧ (∀ z ∈ zs, H z.1 = some (.tup (.str z.2.1 :: z.2.2))) ∧ (zs.map (·.2.1)).Nodup ∧ zs.length ≤ 100000 ∧
  ∀ p (ys : List Rw), ys.Perm zs → ys.Pairwise (fun x y => sLt y.2.1 x.2.1 = false) → H p = none → Q (.ref p) (upd H p (.lst (ys.map fun z => V.ref z.1)))
theorem refs_eqW {zs : List Rw} : ∀ {us : List Value}, Vals (zs.map fun z => V.ref z.1) us → us = zs.map fun z => Value.ref z.1 := by
  induction zs with
  | nil => intro us h; cases h; rfl
  | cons z zs ih =>
    intro us h
    cases h with
    | cons a b =>
      rw [show _ = Value.ref z.1 from a, ih b]
      rfl
theorem nmOf_at {H : Hp} {zs : List Rw} (h : ∀ z ∈ zs, H z.1 = some (.tup (.str z.2.1 :: z.2.2))) {z : Rw} (hz : z ∈ zs) : nmOf zs (.ref z.1) = z.2.1 := by
  unfold nmOf
  cases e : zs.find? fun y => decide (y.1 = z.1) with
  | none =>
    have := List.find?_eq_none.1 e z hz
    simp at this
  | some y =>
    have hy := List.mem_of_find?_eq_some e
    have e1 : y.1 = z.1 := by
      have := List.find?_some e
      simpa using this
    have a := h y hy
    have b := h z hz
    rw [e1, b] at a
    injection a with a
    injection a with a
    injection a with a _
    injection a with a
    show ((zs.find? fun y => decide (y.1 = z.1)).map (·.2.1)).getD _ = _
    rw [e]
    exact a.symm
theorem nodup_at {zs : List Rw} (hn : (zs.map (·.2.1)).Nodup) {x y : Rw} (hx : x ∈ zs) (hy : y ∈ zs) (e : x.2.1 = y.2.1) : x = y := by
  induction zs with
  | nil => cases hx
  | cons z zs ih =>
    rw [List.map_cons, List.nodup_cons] at hn
    rcases List.mem_cons.1 hx with e1 | hx'
    · rcases List.mem_cons.1 hy with e2 | hy'
      · rw [e1, e2]
      · exact absurd (List.mem_map.2 ⟨y, hy', e.symm.trans (by rw [e1])⟩) hn.1
    · rcases List.mem_cons.1 hy with e2 | hy'
      · exact absurd (List.mem_map.2 ⟨x, hx', e.trans (by rw [e2])⟩) hn.1
      · exact ih hn.2 hx' hy'
theorem kat_self {prog : Program} {w : World} {A : Around} {b fin : Bool} {Q : Bool → Shared → Prop} {s : Shared} (h : Q fin s) : ∀ (l : List Value) (i : Nat), KatLex prog w A b fin Q (l.zip l) i s
  | [], _ => h
  | v :: l, i => by
    rw [List.zip_cons_cons]
    exact kat_cons (SeqAt.EqAt.same v _ _ _ _ (kat_yes (kat_self h l (i + 1))))
theorem cr_sortW {X : Cx} : CallR X (.builtin "sorted") (rSortW X.K) := by
  intro pins s σ H vs us Q I r h
  obtain ⟨a, zs, rfl, hs, hz, hn, hl, q⟩ := h
  obtain ⟨its, rv, hpl, hline⟩ := I.list hs
  clear hline
  obtain ⟨u, rfl, ru⟩ := vals1 r
  obtain rfl : u = Value.ref a := ru
  have eits := refs_eqW rv
  have co : SrtO.Swo (fun u v => sLt (nmOf zs u) (nmOf zs v)) := ⟨fun x y h => sLo.asym h, fun x y z h1 h2 => by
    cases h3 : sLt (nmOf zs z) (nmOf zs x) with
    | false => rfl
    | true =>
      cases h4 : sLt (nmOf zs x) (nmOf zs y) with
      | true =>
        have := sLo.tr _ _ _ h3 h4
        rw [h2] at this
        cases this
      | false =>
        have := sLo.tot _ _ h4 h1
        rw [← this, h3] at h2
        cases h2⟩
  refine SrtO.sorted_ord co hpl.isList (by rw [eits, List.length_map, sizeLine_eq]; omega) (fun h2 h₁ l ho k1 h' k' => ?_) fun out h1 h2 => ?_
  · -- the tuples as they stand
    have tup : ∀ z ∈ zs, ∃ (o : Obj) (ts : List Value) (n : Nat) (tk : Tok) (rest : List Value), h'.get? z.1 = some o ∧ o.cls = .type "tuple" ∧ o.data = .seq ts.toArray n ∧ ts = .str z.2.1 tk :: rest := by
      intro z hzm
      obtain ⟨_, ts, rt, o, ho, hc, n, hd⟩ := I.hok z.1 _ (hz z hzm)
      cases rt with
      | cons ra rb =>
        obtain ⟨tk, rfl⟩ := ra
        have hk := k1 _ _ ho
        exact ⟨o, _, n, tk, _, k' _ _ hk.1 hk.2, hc, hd, rfl⟩
    have katT : ∃ fs : List Value, KatTups h' its fs ∧ fs.length = its.length ∧ ∀ v ∈ fs, ∃ x t, v = Value.str x t := by
      rw [eits]
      clear hs hn hl q rv eits hpl h2 ho co
      induction zs with
      | nil => exact ⟨[], KatTups.nil, rfl, fun v hv => by cases hv⟩
      | cons z zs ih =>
        obtain ⟨fs, f1, f2, f3⟩ := ih (fun y hy => hz y (List.mem_cons_of_mem _ hy)) fun y hy => tup y (List.mem_cons_of_mem _ hy)
        obtain ⟨o, ts, n, tk, rest, g1, g2, g3, g4⟩ := tup z List.mem_cons_self
        refine ⟨.str z.2.1 tk :: fs, KatTups.cons g1 g2 g3 (by rw [g4]; rfl) f1, by simp [f2], fun v hv => ?_⟩
        rcases List.mem_cons.1 hv with rfl | hv
        · exact ⟨_, _, rfl⟩
        · exact f3 v hv
    obtain ⟨fs, f1, f2, f3⟩ := katT
    refine ⟨tuples' true, fun Q' E' hq => ?_, fun p qq hp hq => ?_⟩
    · refine kat_kind (T := .type "str") (s := { s with heap := h' }) f1 (by omega) (fun v hv => ?_) (by rfl) ?_
      · obtain ⟨x, t, rfl⟩ := f3 v hv
        exact .now
      · exact hq
    · have hp : p.1 ∈ its := hp
      have hq : qq.1 ∈ its := hq
      rw [eits, List.mem_map] at hp hq
      obtain ⟨x, hx, ex⟩ := hp
      obtain ⟨y, hy, ey⟩ := hq
      rw [← ex, ← ey]
      obtain ⟨o, ts, n, tk, rest, g1, g2, g3, g4⟩ := tup x hx
      obtain ⟨o', ts', n', tk', rest', g1', g2', g3', g4'⟩ := tup y hy
      refine kat_lt (s := { s with heap := h' }) g1 g3 g1' g3' ?_
      show KatLex _ _ _ _ _ _ _ _ _
      have hr : SrtO.lt2 (fun u v => sLt (nmOf zs u) (nmOf zs v)) p qq = sLt x.2.1 y.2.1 := by
        show sLt (nmOf zs p.1) (nmOf zs qq.1) = _
        rw [← ex, ← ey, nmOf_at hz hx, nmOf_at hz hy]
      by_cases e : x.2.1 = y.2.1
      · have exy := nodup_at hn hx hy e
        subst exy
        rw [g1] at g1'
        injection g1' with g1'
        subst g1'
        rw [g3] at g3'
        injection g3' with g3' _
        have e2 : ts = ts' := by simpa using g3'
        subst e2
        refine kat_self ?_ ts 0
        refine ⟨rfl, ?_⟩
        rw [hr, sLo.irr]
        simp
      · rw [g4, g4', List.zip_cons_cons]
        refine kat_cons ?_
        refine wpAny_eqBool_str ?_
        rw [decide_eq_false e]
        refine kat_no ?_
        refine oneLt_str ⟨rfl, ?_⟩
        rw [hr]
        rfl
  · obtain ⟨ep, hat⟩ := sortedAll_at s.heap its out.toArray
    obtain ⟨ys, hys, hym⟩ := perm_lift (fun z : Rw => Value.ref z.1) (m := out) (n := its) h2.perm zs eits.symm
    have hsz : ys.Pairwise (fun x y => sLt y.2.1 x.2.1 = false) := by
      rw [← hym] at h1
      have := List.pairwise_map.1 h1
      refine List.Pairwise.imp_of_mem ?_ this
      intro x y hx hy hxy
      have hxy : sLt (nmOf zs (.ref y.1)) (nmOf zs (.ref x.1)) = false := hxy
      rw [nmOf_at hz (hys.mem_iff.1 hx), nmOf_at hz (hys.mem_iff.1 hy)] at hxy
      exact hxy
    refine ⟨.ref (s.heap.objs.size + 1), _, I.laid (a := s.heap.objs.size + 1) (o := .lst (ys.map fun z => V.ref z.1)) (t' := s.toks) (fun b o e => sortedAll_old e) (Nat.le_succ _) ⟨?_, out, ep, ?_, hat⟩, rfl, q _ _ hys hsz (I.hok.fresh (Nat.le_succ _))⟩
    · rw [List.length_map, hys.length_eq, sizeLine_eq]
      omega
    · rw [← hym]
      exact vals_maps (fun z : Rw => V.ref z.1) (fun z => Value.ref z.1) _ fun z _ => (rfl : RelV (.ref z.1) (.ref z.1))
end WH
set_option Elab.async false
set_option linter.all false
set_option maxRecDepth 100000
set_option maxHeartbeats 4000000
/-! sorted of a tuple of texts. -/
namespace WH
open PySem PySem.Spec PyProof.Rows L2
section
variable {prog : Program} {w : World} {A : Around} {E : Value → Shared → Prop} {s : Shared} {t : Addr} {vs : List Value}
/-- what a tuple holds, gathered -/
theorem gather_tup {R : List Value → Shared → Prop} (ht : s.heap.IsTuple t vs.toArray) (hn : vs.length ≤ sizeLine)
    (h : R vs { s with heap := (s.heap.push (seqObj "list" #[] 0)).update s.heap.objs.size (Obj.mapSeq (· ++ vs.toArray)) }) : wpAny (model prog w) A (collect (.ref t)) R E s := by
  obtain ⟨ob, g1, g2, k, g3⟩ := id ht
  have new0 : (s.heap.push (seqObj "list" #[] 0)).get? s.heap.objs.size = some (seqObj "list" #[] 0) := Heap.get?_push_size _ rfl
  have g1' : (s.heap.push (seqObj "list" #[] 0)).get? t = some ob := Heap.get?_push_of_some _ g1
  unfold collect
  refine wpAny_bind (wpAny_runValue (codeAny_builtin entry_proto_collect' ?_))
  change wpAny _ _ (do again (.builtin "list.__iadd__" ⟨[← newList [], .ref t], []⟩)) _ _ s
  refine wpAny_bind (wpAny_newList (wpAny_pure ⟨Code.quiet_builtin _ (by decide +kernel), codeAny_builtin entry_list_iadd' ?_⟩))
  change wpAny _ _ (Builtin.List.listExtendWith (.ref s.heap.objs.size) (.ref t) (.ref s.heap.objs.size)) _ _ { s with heap := s.heap.push (seqObj "list" #[] 0) }
  unfold Builtin.List.listExtendWith
  refine wpAny_bind (wpAny_typeOf (T := "tuple") ⟨ob, g1', g2⟩ ?_)
  have yes : (Value.type "tuple" == Value.type "tuple") = true := by rfl
  rw [if_pos (by rw [yes]; simp)]
  refine wpAny_bind (listItems_at g1' g3 ?_)
  refine wpAny_bind (listItems_at (xs := #[]) (n := 0) new0 rfl ?_)
  rw [if_neg (by simp)]
  refine wpAny_bind (listUpdate_at (xs := #[]) (n := 0) new0 rfl ?_ (Nat.zero_le _) (by change (#[] ++ vs.toArray).size ≤ sizeLine + 1; simp only [Array.size_append, List.size_toArray, List.length_nil]; omega))
  refine wpAny_pure ?_
  change wpAny _ _ (load s.heap.objs.size >>= _) _ _ { s with heap := (s.heap.push (seqObj "list" #[] 0)).update s.heap.objs.size (Obj.mapSeq (· ++ vs.toArray)) }
  refine wpAny_bind (wpAny_load (get?_update_seq new0 _) ?_)
  change wpAny _ _ (pure ((#[] : Array Value) ++ vs.toArray).toList) _ _ _
  have e : ((#[] : Array Value) ++ vs.toArray).toList = vs := by simp
  rw [e]
  exact wpAny_pure h
/-- sorted of a tuple of fewer than 64 texts -/
theorem sorted_tupS {ss : List Str} {Q : Value → Shared → Prop} (ht : s.heap.IsTuple t vs.toArray) (hS : StrsAre vs ss) (few : vs.length < 64)
    (h : ∀ (out : Array Value) (ss' : List Str), StrsAre out.toList ss' → ss'.Perm ss → sortedS ss' = true → Q (.ref (s.heap.objs.size + 1)) { s with heap := sortedAll s.heap vs out }) :
    wpAny (model prog w) A (call (.builtin "sorted") [.ref t]) Q E s := by
  have sz : ((s.heap.push (seqObj "list" #[] 0)).update s.heap.objs.size (Obj.mapSeq (· ++ vs.toArray))).objs.size = s.heap.objs.size + 1 := by
    rw [Heap.size_update, size_push']
  have at1 : (((s.heap.push (seqObj "list" #[] 0)).update s.heap.objs.size (Obj.mapSeq (· ++ vs.toArray))).push (seqObj "list" vs.toArray 0)).get? (s.heap.objs.size + 1) = some (seqObj "list" vs.toArray 0) := by
    rw [← sz]
    exact Heap.get?_push_size _ rfl
  refine Calls.call_function_entry kind_sorted plain_sorted entry_sorted (args_sorted1 _) ?_
  unfold Builtin.«sorted»
  refine wpAny_bind (m := checkCount "sorted" 1 1 _) (wpAny_pure ?_)
  refine wpAny_bind (gather_tup ht (by rw [sizeLine_eq]; omega) ?_)
  refine wpAny_bind (wpAny_newList ?_)
  change wpAny _ _ _ _ _ { s with heap := ((s.heap.push (seqObj "list" #[] 0)).update s.heap.objs.size (Obj.mapSeq (· ++ vs.toArray))).push (seqObj "list" vs.toArray 0) }
  rw [sz]
  refine wpAny_bind (wpAny_holding (wpAny_call_entry slot_list_sort ⟨_, at1, rfl⟩ entry_list_sort (list_sort_treeK strKind_oneLt at1 hS.keysOf (fun v₁ v₂ rest e => keyKind_strs (by rw [← e]; exact hS)) few fun st' p q => ⟨_, rfl, ?_⟩) (args_list_sort _)))
  obtain ⟨ss', h1, h2, h3⟩ := sorted_out_str hS p q
  exact wpAny_pure ⟨_, rfl, h _ ss' h1 h2 h3⟩
end
def rSortedTS (K : PySem.W.Frag) : List V → Hp → VK → Prop := fun vs H Q => ∃ (a : Addr) (xs : List Str), vs = [V.ref a] ∧ SqT K H a (xs.map V.str) ∧ xs.length < 64 ∧
  ∀ (ys : List Str) (p : Addr), ys.Perm xs → sortedS ys = true → H p = none → Q (.ref p) (upd H p (.lst (ys.map V.str)))
theorem sortTS {X : Cx} (K : PySem.W.Frag) (hk : X.K = K := by rfl) : CallR X (.builtin "sorted") (rSortedTS K) := by
  subst hk
  intro pins s σ H vs us Q I r h
  obtain ⟨a, xs, rfl, hs, few, q⟩ := h
  obtain ⟨its, rv, ht, _⟩ := I.tuple hs
  obtain ⟨u, rfl, ru⟩ := vals1 r
  obtain rfl : u = Value.ref a := ru
  have len := rv.length
  rw [List.length_map] at len
  refine sorted_tupS ht rv.strs (by omega) fun out ys h1 h2 h3 => ?_
  obtain ⟨ep, hat⟩ := PyProof.Rows.sortedAll_at s.heap its out
  refine ⟨.ref (s.heap.objs.size + 1), _, I.laid (a := s.heap.objs.size + 1) (o := .lst (ys.map V.str)) (t' := s.toks) (fun b o e => PyProof.Rows.sortedAll_old e) (Nat.le_succ _) ⟨?_, out.toList, ep, vals_of_strs h1, hat⟩, rfl, q ys _ h2 h3 (I.hok.fresh (Nat.le_succ _))⟩
  rw [List.length_map, h2.length_eq, sizeLine_eq]
  omega
end WH
set_option Elab.async false
set_option linter.all false
set_option maxRecDepth 100000
set_option maxHeartbeats 2000000
namespace WH
open PySem PySem.Spec PyProof.Rows L2 WM
abbrev s_in_order : Stmt := topS 17
theorem sc_in_order : FnScope ["sets", "many", "one"] ["sets"] (defScope s_in_order) := ⟨rfl, rfl, rfl, by decide +kernel, rfl, by decide +kernel, by decide +kernel⟩
abbrev s_least_of : Stmt := topS 18
theorem sc_least_of : FnScope ["sets", "found", "one", "elder"] ["sets"] (defScope s_least_of) := ⟨rfl, rfl, rfl, by decide +kernel, rfl, by decide +kernel, by decide +kernel⟩
abbrev s_least_hitting : Stmt := topS 19
theorem sc_least_hitting : FnScope ["lots", "found", "lot", "longer", "one", "thing"] ["lots"] (defScope s_least_hitting) := ⟨rfl, rfl, rfl, by decide +kernel, rfl, by decide +kernel, by decide +kernel⟩
theorem putAll_keys (ks : List (List Key)) : ((putAll ks).map (·.1)).Nodup ∧ (∀ k, k ∈ (putAll ks).map (·.1) ↔ k ∈ ks) ∧ (putAll ks).length ≤ ks.length := by
  refine ⟨?_, ?_, putAll_len ks⟩
  · induction ks using WM.snocInd with
    | h0 => simp [putAll]
    | h1 l x ih =>
      rw [putAll_snoc, keys_put]
      split
      · exact ih
      · rename_i hx
        rw [List.nodup_append]
        refine ⟨ih, by simp, fun y hy z hz => ?_⟩
        rw [List.mem_singleton] at hz
        exact fun e => hx (hz ▸ e ▸ hy)
  · induction ks using WM.snocInd with
    | h0 => intro k; simp [putAll]
    | h1 l x ih =>
      intro k
      rw [putAll_snoc, keys_put]
      split
      · rename_i hx
        rw [ih, List.mem_append, List.mem_singleton]
        exact ⟨.inl, fun h => h.elim id fun e => e ▸ (ih x).1 hx⟩
      · rw [List.mem_append, List.mem_append, ih]
/-- the texts behind keys -/
theorem keys_back : ∀ {ks : List (List Key)} {ss : List (List Str)}, (∀ k ∈ ks, ∃ s ∈ ss, k = s.map Sum.inr) → ∃ us : List (List Str), ks = us.map (·.map Sum.inr)
  | [], _, _ => ⟨[], rfl⟩
  | k :: ks, ss, h => by
    obtain ⟨s, _, e⟩ := h k List.mem_cons_self
    obtain ⟨us, e'⟩ := keys_back (ks := ks) (ss := ss) fun k' hk => h k' (List.mem_cons_of_mem _ hk)
    exact ⟨s :: us, by rw [e, e']; rfl⟩
theorem inrs_inj {s t : List Str} (h : s.map (Sum.inr : Str → Key) = t.map Sum.inr) : s = t := by
  induction s generalizing t with
  | nil => cases t with
    | nil => rfl
    | cons => cases h
  | cons x s ih => cases t with
    | nil => cases h
    | cons y t =>
      rw [List.map_cons, List.map_cons] at h
      injection h with h1 h2
      injection h1 with h1
      rw [h1, ih h2]
theorem keysOf (ss : List (List Str)) : ∃ us : List (List Str), (putAll (ss.map (·.map Sum.inr))).map (·.1) = us.map (·.map Sum.inr) ∧ us.Nodup ∧ (∀ s, s ∈ us ↔ s ∈ ss) ∧ us.length ≤ ss.length := by
  obtain ⟨h1, h2, h3⟩ := putAll_keys (ss.map (·.map Sum.inr))
  obtain ⟨us, e⟩ := keys_back (ks := (putAll (ss.map (·.map Sum.inr))).map (·.1)) (ss := ss) fun k hk => by
    obtain ⟨s, hs, e⟩ := List.mem_map.1 ((h2 k).1 hk)
    exact ⟨s, hs, e.symm⟩
  have hm : ∀ s, s ∈ us ↔ s ∈ ss := fun s => by
    have := h2 (s.map Sum.inr)
    rw [e, List.mem_map, List.mem_map] at this
    constructor
    · intro hs
      obtain ⟨t, ht, et⟩ := this.1 ⟨s, hs, rfl⟩
      exact inrs_inj et ▸ ht
    · intro hs
      obtain ⟨t, ht, et⟩ := this.2 ⟨s, hs, rfl⟩
      exact inrs_inj et ▸ ht
  refine ⟨us, e, ?_, hm, ?_⟩
  · rw [e] at h1
    exact List.Pairwise.of_map _ (fun a b hab z => hab (by rw [z])) h1
  · have := congrArg List.length e
    rw [List.length_map, List.length_map] at this
    rw [List.length_map] at h3
    omega
theorem paired_mapL {α β γ : Type} {F : α → β → Prop} (g : γ → α) : ∀ {l : List γ} {m : List β}, Paired (fun c b => F (g c) b) l m → Paired F (l.map g) m
  | _, _, .nil => .nil
  | _, _, .cons a t => .cons a (paired_mapL g t)
theorem asc_of_weak {α : Type} {lt : α → α → Bool} (o : LO lt) {l : List α} (hn : l.Nodup) (h : l.Pairwise fun x y => lt y x = false) : Asc lt l := by
  refine List.Pairwise.imp ?_ (hn.and h)
  rintro x y ⟨h1, h2⟩
  cases e : lt x y with
  | true => rfl
  | false => exact absurd (o.tot _ _ e h2) h1
theorem sz2 : 2 ≤ sizeLine := by rw [sizeLine_eq]; decide
def rPr : Rep (List Str) := fun H v s => ∃ t, v = .ref t ∧ PrAt H t s
theorem rPr_gr : Gr rPr := ⟨fun _ _ _ _ k ⟨t, e, q, h1, h2⟩ => ⟨t, e, q, k _ _ trivial h1, k _ _ trivial h2⟩,
  fun _ _ _ _ _ _ hD ⟨t, e, q, h1, h2⟩ => ⟨t, e, q, by rw [upd_ne (ne_of h1 hD (fun z => nomatch z))]; exact h1, by rw [upd_ne (ne_of h2 hD (fun z => nomatch z))]; exact h2⟩⟩
theorem prs_back : ∀ {H : Hp} {xs : List V} {ss : List (List Str)}, Paired (rPr H) xs ss → ∃ zs : List (Addr × List Str), xs = zs.map (fun z => V.ref z.1) ∧ ss = zs.map (·.2) ∧ ∀ z ∈ zs, PrAt H z.1 z.2
  | _, _, _, .nil => ⟨[], rfl, rfl, fun _ h => nomatch h⟩
  | _, _, _, .cons h t => by
    obtain ⟨a, e, p⟩ := h
    obtain ⟨zs, e1, e2, q⟩ := prs_back t
    refine ⟨(a, _) :: zs, by rw [e, e1]; rfl, by rw [e2]; rfl, fun z hz => ?_⟩
    rcases List.mem_cons.1 hz with rfl | hz
    · exact p
    · exact q z hz
section
variable {P : Program} {w : World} {K : PySem.W.Frag} {mg : Str → Option Value} {base : Heap}
def sp_in_order (K : PySem.W.Frag) : Sp := fun vs H Q _ => ∃ (a : Addr) (xs : List V) (ss : List (List Str)), vs = [.ref a] ∧ SqL K H a xs ∧ Paired (rSet H) xs ss ∧ ss.length ≤ 100000 ∧
  ∀ p H' ws (ts : List (List Str)), H p = none → Same H H' → H' p = some (.lst ws) → Paired (rSet H') ws ts → Asc (clt sLt) ts → (∀ s, s ∈ ts ↔ s ∈ ss) → ts.length ≤ ss.length → Q (.ref p) H'
theorem ok_in_order {f : Addr} {fd : FuncData} (D : Df K mg "in_order" s_in_order ["sets"] f fd) (T : Bl mg) : Dn P w K mg base CX0 1 "in_order" ["sets"] (sp_in_order K) := .of D (by
  refine D.fn.ok sc_in_order (fun vs H Q E h => ?_) (fun cdv A outer s H vs Q E hr h => ?_)
  · obtain ⟨a, xs, ss, rfl, _⟩ := h
    rfl
  · obtain ⟨a, xs, ss, rfl, ha, hp, hz, q⟩ := h
    refine ⟨_, (pss_one (ps_ret (pe_lc (own := [("many", 1), ("one", 2)]) rfl sc_in_order.nd (pil K (pe_callB ((cr_sortPr hr.units)) (by rfl) T.b_sorted (by decide +kernel) (pa_cons (pe_lc (own := [("one", 2)]) rfl sc_in_order.nd (pil K (pe_callTy ((call_list_dT rfl)) (by rfl) T.b_list (by decide +kernel) (pa_cons (pe_dcT rfl (hu_of hr) (pv 0) (by decide +kernel) rfl (by decide +kernel) (by decide +kernel) rfl (by intro _; rfl)) pa_nil))) (blkOk_by (N := ["sets", "many", "one"]) (sc := defScope s_in_order) (by decide +kernel)) (fun _ _ _ _ _ => pg_name (i := 2) sc_in_order.nd rfl (Or.inl rfl)) (fun _ _ _ _ _ => pts_nil) (fun _ _ _ _ _ => pe_tup (pa_cons (pe_callB (lenA K) (by rfl) T.b_len (by decide +kernel) (pa_cons (pv 2) pa_nil)) (pa_cons (pv 2) pa_nil)))) pa_nil))) (blkOk_by (N := ["sets", "many", "one"]) (sc := defScope s_in_order) (by decide +kernel)) (fun _ _ _ _ _ => tupG K (n := 2) rfl (pgs_cons (pg_name (i := 1) sc_in_order.nd rfl (Or.inl rfl)) (pgs_cons (pg_name (i := 2) sc_in_order.nd rfl (Or.inl rfl)) pgs_nil))) (fun _ _ _ _ _ => pts_nil) (fun _ _ _ _ _ => pv 2)))), ?_⟩
    obtain ⟨us, eus, nus, mus, lus⟩ := keysOf ss
    refine ⟨_, rfl, a, xs, ss.map (·.map Sum.inr), rfl, ha, ?_, by rw [List.length_map]; exact hz, fun d hd => ?_⟩
    · clear eus nus mus lus q hz ha
      induction hp with
      | nil => exact .nil
      | cons h _ ih =>
        obtain ⟨b, e, hb⟩ := h
        refine .cons ⟨b, e, ?_⟩ ih
        rw [hb, List.map_map]
        rfl
    refine ⟨d, _, rfl, .inl upd_same, fun l bs hl hb => ?_⟩
    have s1 : Same H (upd (upd H d (.dT (putAll (ss.map (·.map Sum.inr))))) l (.lst (bs.map V.ref))) := (same_upd hd).trans (same_upd hl)
    have hbu : Paired (rSet (upd (upd H d (.dT (putAll (ss.map (·.map Sum.inr))))) l (.lst (bs.map V.ref)))) (bs.map V.ref) us := by
      have hb' : Paired (fun (k : List Key) (b : Addr) => upd H d (.dT (putAll (ss.map (·.map Sum.inr)))) b = some (.tup (k.map kV))) (us.map (·.map Sum.inr)) bs := by
        rw [← eus]
        exact paired_mapL _ hb
      clear q eus nus mus lus hb s1
      generalize upd H d (.dT (putAll (ss.map (·.map Sum.inr)))) = H0 at hb' hl
      generalize hbb : bs.map V.ref = bv at *
      have gen : ∀ (us : List (List Str)) (bs : List Addr), Paired (fun (k : List Key) (b : Addr) => H0 b = some (.tup (k.map kV))) (us.map (·.map Sum.inr)) bs → Paired (rSet (upd H0 l (.lst bv))) (bs.map V.ref) us := by
        intro us
        induction us with
        | nil => intro bs h; cases h; exact .nil
        | cons u us ih =>
          intro bs h
          cases h with
          | cons a t =>
            refine .cons ⟨_, rfl, ?_⟩ (ih _ t)
            rw [upd_ne (ne_of_none a hl), a, List.map_map]
            rfl
      rw [← hbb]
      rw [← hbb] at gen
      exact gen us bs hb'
    refine ⟨l, rfl, ⟨_, SqL.of upd_same⟩, fun D1 hD1 => lc_L (R := rSet) (S := rPr) (as := us) rSet_mono rPr_gr some hD1 (SqL.of upd_same) hbu (by rw [hbu.length]; omega) (fun i x b hb H2 s2 hx N Z hN hZ => ?_) fun H3 ys s3 hy hys => ?_⟩
    · obtain ⟨b', rfl, hb'⟩ := hx
      refine ⟨rfl, ty ⟨_, rfl, b', _, rfl, .inr (SqT.of hb'), _, rfl, sz2, fun t ht => hN _ _ _ (same_upd ht) rfl ⟨t, rfl, b', ?_, ?_⟩⟩⟩
      · rw [upd_same, List.length_map]
      · exact same_upd ht _ _ hb'
    · rw [List.filterMap_some] at hys
      obtain ⟨zs, ez, eu, hz'⟩ := prs_back hys
      subst ez
      have hzl : zs.length = us.length := by rw [eu, List.length_map]
      refine ⟨D1, zs, rfl, SqL.of hy, hz', by omega, fun p2 ys hperm hsort hp2 => ?_⟩
      have hp3 : Paired (rPr (upd H3 p2 (.lst (ys.map fun z => V.ref z.1)))) (ys.map fun z => V.ref z.1) (ys.map (·.2)) := by
        have : ∀ z ∈ ys, PrAt (upd H3 p2 (.lst (ys.map fun z => V.ref z.1))) z.1 z.2 := fun z hz => by
          obtain ⟨q', h1, h2⟩ := hz' z (hperm.mem_iff.1 hz)
          exact ⟨q', same_upd hp2 _ _ h1, same_upd hp2 _ _ h2⟩
        revert this
        generalize upd H3 p2 (.lst (ys.map fun z => V.ref z.1)) = H4
        clear hperm hsort
        intro this
        induction ys with
        | nil => exact .nil
        | cons y ys ih => exact .cons ⟨_, rfl, this y List.mem_cons_self⟩ (ih fun z hz => this z (List.mem_cons_of_mem _ hz))
      refine ⟨p2, rfl, ⟨_, SqL.of upd_same⟩, fun D2 hD2 => lc_L (R := rPr) (S := rSet) (as := ys.map (·.2)) rPr_gr.mono rSet_gr some hD2 (SqL.of upd_same) hp3 (by rw [List.length_map, hperm.length_eq]; omega) (fun i x b hb H5 s5 hx N Z hN hZ => ?_) fun H6 ws s6 hw hws => ?_⟩
      · obtain ⟨t, rfl, q', h1, h2⟩ := hx
        refine ⟨t, _, rfl, SqT.of h1, rfl, _, _, rfl, _, _, rfl, rfl, rfl, ty ⟨_, rfl, hN _ _ _ (Same.refl _) rfl ⟨q', rfl, h2⟩⟩⟩
      · rw [List.filterMap_some] at hws
        have hpm : (ys.map (·.2)).Perm us := by rw [eu]; exact hperm.map _
        have s2 := s1.trans (s3.trans (same_upd (o := .lst (ys.map fun z => V.ref z.1)) hp2))
        exact q D2 H6 ws _ (Same.none s2 hD2) (s2.trans s6) hw hws (asc_of_weak (clt_lo sLo) (hpm.nodup_iff.2 nus) (List.pairwise_map.2 hsort)) (fun s => (hpm.mem_iff).trans (mus s)) (by rw [hpm.length_eq]; exact lus))

/-! ### least_of -/
def sp_least_of (K : PySem.W.Frag) : Sp := fun vs H Q _ => ∃ (a : Addr) (xs : List V) (ss : List (List Str)), vs = [.ref a] ∧ SqL K H a xs ∧ Paired (rSet H) xs ss ∧ ss.length ≤ 100000 ∧ (∀ s ∈ ss, s.length ≤ 100000) ∧
  ∀ p H' ws (ts : List (List Str)), H p = none → Same H H' → H' p = some (.lst ws) → Paired (rSet H') ws (leastOf ts) → Asc (clt sLt) ts → (∀ s, s ∈ ts ↔ s ∈ ss) → ts.length ≤ ss.length → Q (.ref p) H'
theorem leastOf_sub {α : Type} [DecidableEq α] (L : List (List α)) : (leastOf L).length ≤ L.length ∧ ∀ s ∈ leastOf L, s ∈ L := by
  induction L using WM.snocInd with
  | h0 => exact ⟨Nat.le_refl _, fun s h => h⟩
  | h1 l x ih =>
    rw [leastOf_snoc]
    unfold leastStep
    split
    · exact ⟨by rw [List.length_append]; omega, fun s h => List.mem_append.2 (.inl (ih.2 s h))⟩
    · refine ⟨by simp only [List.length_append]; omega, fun s h => ?_⟩
      rcases List.mem_append.1 h with h | h
      · exact List.mem_append.2 (.inl (ih.2 s h))
      · exact List.mem_append.2 (.inr h)
theorem ok_least_of {f : Addr} {fd : FuncData} (D : Df K mg "least_of" s_least_of ["sets"] f fd) (T : Bl mg) (G_is_part : Dn P w K mg base CX0 1 "is_part" ["one", "other"] (sp_is_part K)) (G_in_order : Dn P w K mg base CX0 1 "in_order" ["sets"] (sp_in_order K)) : Dn P w K mg base CX0 2 "least_of" ["sets"] (sp_least_of K) := .of D (by
  refine D.fn.ok sc_least_of (fun vs H Q E h => ?_) (fun cdv A outer s H vs Q E hr h => ?_)
  · obtain ⟨a, xs, ss, rfl, _⟩ := h
    rfl
  · obtain ⟨a, xs, ss, rfl, ha, hp, hz, hzs, q⟩ := h
    refine ⟨_, (pss_cons (ps_set (i := 1) sc_least_of.nd rfl (Or.inl rfl) (pe_lst pa_nil))
      (pss_cons (ps_for PassesOwn.never rfl (pil K (pe_cl G_in_order (hr.mono (by decide)) (pa_cons (pv 0) pa_nil))) (pg_name (i := 2) sc_least_of.nd rfl (Or.inr rfl))
        (pss_one (ps_if (pt_not (pt_val (pe_callB (anyK K) (by rfl) T.b_any (by decide +kernel) (pa_cons (pe_lc (own := [("elder", 3)]) rfl sc_least_of.nd (pil K (pv 1)) (blkOk_by (N := ["sets", "found", "one", "elder"]) (sc := defScope s_least_of) (by decide +kernel)) (fun _ _ _ _ _ => pg_name (i := 3) sc_least_of.nd rfl (Or.inl rfl)) (fun _ _ _ _ _ => pts_nil) (fun _ _ _ _ _ => pe_cl G_is_part (hr.mono (by decide)) (pa_cons (pv 3) (pa_cons (pv 2) pa_nil)))) pa_nil)))) (pss_one (ps_expr (bmK K PySem.F.plainAttrs_list PySem.F.slot_list_append PySem.F.type_list_append mt_append (pv 1) (pa_cons (pv 2) pa_nil)))) pss_nil)))
      (pss_one (ps_ret (pv 1))))), ?_⟩
    refine ⟨Nat.zero_le _, fun F hF => ?_⟩
    refine ⟨_, rfl, a, xs, ss, rfl, (Kg.of (same_upd hF)).seq ha, rSet_mono.all (Kg.of (same_upd hF)) hp, hz, fun l H1 ws ts hl s1 hH1 hw asc mem len => ?_⟩
    have hlF : l ≠ F := fun e => by rw [e, upd_same] at hl; cases hl
    have hF1 : H1 F = some (.lst []) := s1 _ _ upd_same
    have s0 : Same H H1 := fun b o e => s1 b o (same_upd hF b o e)
    refine ⟨l, rfl, ⟨_, SqL.of hH1⟩, for_list (K := K) (a := l) (xs := ws) (fun i σ H2 => (∃ v v', σ = [some (.ref a), some (.ref F), v, v']) ∧ Same H H2 ∧ H2 l = some (.lst ws) ∧ Paired (rSet H2) ws ts ∧ ∃ ys, H2 F = some (.lst ys) ∧ Paired (rSet H2) ys (leastOf (ts.take i)))
      ⟨⟨none, none, rfl⟩, s0, hH1, hw, [], hF1, .nil⟩ (fun i σ H2 _ ⟨_, _, h, _⟩ => SqL.of h) ?_ ?_⟩
    · rintro i y σ H2 hi ⟨⟨v, v', rfl⟩, s2, h2, hw2, ys, hy, hys⟩
      obtain ⟨c, hc, hR⟩ := paired_get hw2 hi
      have hcs : c ∈ ss := (mem c).1 (List.mem_of_getElem? hc)
      have il : i < ts.length := (List.getElem?_eq_some_iff.mp hc).1
      have hyl : ys.length ≤ 100000 := by
        have h1 := (leastOf_sub (ts.take i)).1
        rw [hys.length]
        rw [List.length_take] at h1
        omega
      refine ⟨_, rfl, F, rfl, ⟨_, SqL.of hy⟩, fun D hD => lc_L (R := rSet) (S := rV V.bl) (as := leastOf (ts.take i)) rSet_mono rV_gr (fun e => some (isPart e c)) hD (SqL.of hy) hys hyl (fun j x b hb H3 s3 hx N Z hN hZ => ?_) fun H3 zs s3 hz3 hzp => ?_⟩
      · obtain ⟨p1, rfl, e1⟩ := hx
        obtain ⟨p2, rfl, e2⟩ := rSet_mono _ _ _ _ (Kg.of s3) hR
        have hbs : b ∈ ss := (mem b).1 (List.mem_of_mem_take ((leastOf_sub (ts.take i)).2 b (List.mem_of_getElem? hb)))
        exact ⟨rfl, ty ⟨_, rfl, _, rfl, p1, p2, b, c, rfl, .inr (SqT.of e1), .inr (SqT.of e2), hzs b hbs, fun H4 s4 => hN _ _ _ s4 rfl rfl⟩⟩
      · refine ⟨D, _, rfl, SqL.of (by rw [hz3, paired_rV hzp]), ?_⟩
        rw [filterMap_some]
        refine ⟨_, rfl, ?_⟩
        have est : leastOf (ts.take (i + 1)) = leastStep (leastOf (ts.take i)) c := by
          rw [List.take_add_one, hc, Option.toList_some, leastOf_snoc]
        have eb : ((leastOf (ts.take i)).map fun e => isPart e c).any id = (leastOf (ts.take i)).any fun e => isPart e c := by
          rw [List.any_map]
          rfl
        rw [eb]
        by_cases hb : ((leastOf (ts.take i)).any fun e => isPart e c) = true
        · rw [hb]
          refine iteF ⟨⟨_, _, rfl⟩, s2.trans s3, s3 _ _ h2, rSet_mono.all (Kg.of s3) hw2, ys, s3 _ _ hy, ?_⟩
          rw [est, leastStep, if_pos hb]
          exact rSet_mono.all (Kg.of s3) hys
        · rw [Bool.not_eq_true] at hb
          rw [hb]
          refine iteT ⟨_, rfl, .inl ⟨rfl, _, SqL.of (s3 _ _ hy)⟩, _, rfl, F, ys, _, rfl, rfl, s3 _ _ hy, by rw [sizeLine_eq]; omega, ?_⟩
          refine ⟨⟨_, _, rfl⟩, Same.own (s2.trans s3) hF, by rw [upd_ne hlF]; exact s3 _ _ h2, rSet_fl.all (s3 _ _ hy) (rSet_mono.all (Kg.of s3) hw2), _, upd_same, ?_⟩
          rw [est, leastStep, if_neg (by rw [hb]; exact Bool.false_ne_true)]
          exact rSet_fl.all (s3 _ _ hy) (Paired.app (rSet_mono.all (Kg.of s3) hys) (.cons (rSet_mono _ _ _ _ (Kg.of s3) hR) .nil))
    · rintro σ H2 ⟨⟨v, v', rfl⟩, s2, h2, hw2, ys, hy, hys⟩
      rw [hw2.length, List.take_length] at hys
      exact ⟨_, rfl, q F H2 ys ts hF s2 hy hys asc mem len⟩)
end
end WH
set_option Elab.async false
set_option linter.all false
set_option maxRecDepth 100000
set_option maxHeartbeats 2000000
namespace WH
open PySem PySem.Spec PyProof.Rows L2 WM
theorem sz1 : 1 ≤ sizeLine := by rw [sizeLine_eq]; decide
/-! ### how many there are -/
theorem len_flat {α β : Type} (f : α → List β) (m : Nat) : ∀ l : List α, (∀ x ∈ l, (f x).length ≤ m) → (l.flatMap f).length ≤ l.length * m
  | [], _ => by simp
  | x :: l, h => by
    have := len_flat f m l fun y hy => h y (List.mem_cons_of_mem _ hy)
    have := h x List.mem_cons_self
    rw [List.flatMap_cons, List.length_append, List.length_cons, Nat.succ_mul]
    omega
theorem len_next (names : List Str) (lvl : List (List Str)) : (nextL sLt names lvl).length ≤ lvl.length * names.length :=
  len_flat _ _ _ fun x _ => by
    rw [List.length_map]
    exact List.length_filter_le _ _
theorem len_lvl {names : List Str} (h : names.length ≤ 5) : ∀ k, (lvlN sLt names k).length ≤ 5 ^ k
  | 0 => Nat.le_refl _
  | k + 1 => by
    have h1 := len_next names (lvlN sLt names k)
    have h2 := len_lvl h k
    have h3 : (lvlN sLt names k).length * names.length ≤ 5 ^ k * 5 := Nat.mul_le_mul h2 h
    exact Nat.le_trans h1 h3
theorem len_setsTo {names : List Str} (h : names.length ≤ 5) : ∀ k, (setsTo sLt names k).length ≤ 6 ^ k
  | 0 => Nat.le_refl _
  | k + 1 => by
    rw [setsTo_succ, List.length_append, Nat.pow_succ]
    have h1 := len_setsTo h k
    have h2 := len_lvl h (k + 1)
    have h3 : 5 ^ (k + 1) ≤ 6 ^ k * 5 := by
      rw [Nat.pow_succ]
      exact Nat.mul_le_mul (Nat.pow_le_pow_left (by decide) k) (Nat.le_refl 5)
    omega
theorem len_all {names : List Str} (h : names.length ≤ 5) : (allSets sLt names).length ≤ 7776 :=
  Nat.le_trans (len_setsTo h names.length) (Nat.pow_le_pow_right (by decide) h)
theorem len_least {names : List Str} (h : names.length ≤ 5) (P : List Str → Bool) : (leastSets sLt P names).length ≤ 7776 :=
  Nat.le_trans (leastOf_sub _).1 (Nat.le_trans (List.length_filter_le _ _) (len_all h))
theorem asc_len {s names : List Str} (h : Asc sLt s) (hs : ∀ x ∈ s, x ∈ names) : s.length ≤ names.length := nodup_len (h.nodup sLo) hs
/-! ### the longer sets -/
def srt (l : List Str) : List Str := l.mergeSort fun a b => !sLt b a
theorem srt_perm (l : List Str) : (srt l).Perm l := List.mergeSort_perm _ _
theorem srt_asc {l : List Str} (hn : l.Nodup) : Asc sLt (srt l) := by
  have h := List.pairwise_mergeSort (le := fun a b => !sLt b a) (fun x y z h1 h2 => ?_) (fun x y => ?_) l
  · refine asc_of_weak sLo ((srt_perm l).nodup_iff.2 hn) (List.Pairwise.imp ?_ h)
    intro x y hxy
    simpa using hxy
  · have h1 : sLt y x = false := by simpa using h1
    have h2 : sLt z y = false := by simpa using h2
    show (!sLt z x) = true
    cases h3 : sLt z x with
    | false => rfl
    | true =>
      cases h4 : sLt x y with
      | true =>
        have := sLo.tr _ _ _ h3 h4
        rw [h2] at this
        cases this
      | false =>
        have := sLo.tot _ _ h4 h1
        rw [← this, h3] at h2
        cases h2
  · show (!sLt y x || !sLt x y) = true
    cases h3 : sLt y x with
    | false => rfl
    | true => rw [sLo.asym h3]; rfl
theorem srt_of {l ys : List Str} (hn : l.Nodup) (h : ys.Perm l) (hs : sortedS ys = true) : ys = srt l :=
  Asc.perm_eq sLo (sorted_asc hs (h.nodup_iff.2 hn)) (srt_asc hn) (h.trans (srt_perm l).symm)
def anyIn (one lot : List Str) : Bool := one.any fun x => decide (x ∈ lot)
theorem anyIn_iff {one lot : List Str} : anyIn one lot = true ↔ ∃ x ∈ one, x ∈ lot := by
  simp [anyIn, List.any_eq_true]
def longStep (lot one : List Str) : List (List Str) := if anyIn one lot = true then [one] else lot.map fun t => srt (one ++ [t])
theorem longStep_len (lot one : List Str) (h : lot.length ≤ 5) : (longStep lot one).length ≤ 5 := by
  unfold longStep
  split
  · simp
  · rw [List.length_map]; exact h
theorem longer_iff {lot : List Str} {found : List (List Str)} (hf : ∀ one ∈ found, Asc sLt one) (s : List Str) : s ∈ found.flatMap (longStep lot) ↔ Longer sLt found lot s := by
  rw [List.mem_flatMap]
  constructor
  · rintro ⟨one, h1, h2⟩
    unfold longStep at h2
    by_cases c : anyIn one lot = true
    · rw [if_pos c, List.mem_singleton] at h2
      exact .inl ⟨h2 ▸ h1, h2 ▸ anyIn_iff.1 c⟩
    · rw [if_neg c, List.mem_map] at h2
      obtain ⟨t, ht, e⟩ := h2
      have c' : ¬ ∃ x ∈ one, x ∈ lot := fun z => c (anyIn_iff.2 z)
      have hn : (one ++ [t]).Nodup := by
        rw [List.nodup_append]
        refine ⟨(hf one h1).nodup sLo, by simp, fun x hx y hy => ?_⟩
        rw [List.mem_singleton] at hy
        exact fun e => c' ⟨x, hx, by rw [e, hy]; exact ht⟩
      refine .inr ⟨one, h1, c', t, ht, e ▸ srt_asc hn, fun x => ?_⟩
      rw [← e, (srt_perm _).mem_iff, List.mem_append, List.mem_singleton]
  · rintro (⟨h1, h2⟩ | ⟨one, h1, c', t, ht, h3, h4⟩)
    · exact ⟨s, h1, by unfold longStep; rw [if_pos (anyIn_iff.2 h2)]; simp⟩
    · refine ⟨one, h1, ?_⟩
      unfold longStep
      rw [if_neg fun c => c' (anyIn_iff.1 c), List.mem_map]
      have hn : (one ++ [t]).Nodup := by
        rw [List.nodup_append]
        refine ⟨(hf one h1).nodup sLo, by simp, fun x hx y hy => ?_⟩
        rw [List.mem_singleton] at hy
        exact fun e => c' ⟨x, hx, by rw [e, hy]; exact ht⟩
      refine ⟨t, ht, Asc.ext sLo (srt_asc hn) h3 fun x => ?_⟩
      rw [(srt_perm _).mem_iff, List.mem_append, List.mem_singleton, h4]
section
variable {P : Program} {w : World} {K : PySem.W.Frag} {mg : Str → Option Value} {base : Heap}
def sp_least_hitting (K : PySem.W.Frag) : Sp := fun vs H Q _ => ∃ (a : Addr) (xs : List V) (lots : List (List Str)) (names : List Str), vs = [.ref a] ∧ SqL K H a xs ∧ Paired (rSet H) xs lots ∧ Asc sLt names ∧ names.length ≤ 5 ∧
  (∀ l ∈ lots, Asc sLt l ∧ ∀ x ∈ l, x ∈ names) ∧
  ∀ p H' ws, H p = none → Same H H' → H' p = some (.lst ws) → Paired (rSet H') ws (hitting sLt lots names) → Q (.ref p) H'
theorem ok_least_hitting {f : Addr} {fd : FuncData} (D : Df K mg "least_hitting" s_least_hitting ["lots"] f fd) (T : Bl mg) (G_least_of : Dn P w K mg base CX0 2 "least_of" ["sets"] (sp_least_of K)) : Dn P w K mg base CX0 3 "least_hitting" ["lots"] (sp_least_hitting K) := .of D (by
  refine D.fn.ok sc_least_hitting (fun vs H Q E h => ?_) (fun cdv A outer s H vs Q E hr h => ?_)
  · obtain ⟨a, xs, ss, names, rfl, _⟩ := h
    rfl
  · obtain ⟨a, xs, lots, names, rfl, ha, hp, hna, hnl, hlots, q⟩ := h
    refine ⟨_, (pss_cons (ps_set (i := 1) sc_least_hitting.nd rfl (Or.inl rfl) (pe_lst (pa_cons (pe_tup pa_nil) pa_nil)))
      (pss_cons (ps_for PassesOwn.never rfl (pil K (pv 0)) (pg_name (i := 2) sc_least_hitting.nd rfl (Or.inr rfl))
        (pss_cons (ps_set (i := 3) sc_least_hitting.nd rfl (Or.inl rfl) (pe_lst pa_nil))
        (pss_cons (ps_for PassesOwn.never rfl (pil K (pv 1)) (pg_name (i := 4) sc_least_hitting.nd rfl (Or.inr rfl))
          (pss_one (ps_if (pt_val (pe_callB (anyK K) (by rfl) T.b_any (by decide +kernel) (pa_cons (pe_lc (own := [("thing", 5)]) rfl sc_least_hitting.nd (pit K (pv 4)) (blkOk_by (N := ["lots", "found", "lot", "longer", "one", "thing"]) (sc := defScope s_least_hitting) (by decide +kernel)) (fun _ _ _ _ _ => pg_name (i := 5) sc_least_hitting.nd rfl (Or.inl rfl)) (fun _ _ _ _ _ => pts_nil) (fun _ _ _ _ _ => pe_cmpR (inSq K) (pv 5) (pv 2) rfl)) pa_nil))) (pss_one (ps_expr (bmK K PySem.F.plainAttrs_list PySem.F.slot_list_append PySem.F.type_list_append mt_append (pv 3) (pa_cons (pv 4) pa_nil)))) (pss_one (ps_expr (bmK K PySem.F.plainAttrs_list PySem.F.slot_list_extend PySem.F.type_list_extend mt_extend (pv 3) (pa_cons (pe_lc (own := [("thing", 5)]) rfl sc_least_hitting.nd (pit K (pv 2)) (blkOk_by (N := ["lots", "found", "lot", "longer", "one", "thing"]) (sc := defScope s_least_hitting) (by decide +kernel)) (fun _ _ _ _ _ => pg_name (i := 5) sc_least_hitting.nd rfl (Or.inl rfl)) (fun _ _ _ _ _ => pts_nil) (fun _ _ _ _ _ => pe_callTy (tupOf K) (by rfl) T.b_tuple (by decide +kernel) (pa_cons (pe_callB ((sortTS K)) (by rfl) T.b_sorted (by decide +kernel) (pa_cons (pe_op (catA K) (pv 4) (pe_tup (pa_cons (pv 5) pa_nil))) pa_nil)) pa_nil))) pa_nil)))))))
        (pss_one (ps_set (i := 1) sc_least_hitting.nd rfl (Or.inl rfl) (pe_cl G_least_of (hr.mono (by decide)) (pa_cons (pv 3) pa_nil)))))))
      (pss_one (ps_ret (pv 1))))), ?_⟩
    refine ⟨Nat.zero_le _, fun e0 he0 => ⟨sz1, fun F hF => ?_⟩⟩
    have s0 : Same H (upd (upd H e0 (.tup [])) F (.lst [.ref e0])) := (same_upd he0).trans (same_upd hF)
    have hFn : H F = none := Same.none (same_upd he0) hF
    refine ⟨_, rfl, a, rfl, ⟨_, (Kg.of s0).seq ha⟩, for_list (K := K) (a := a) (xs := xs) (fun i σ H2 => ∃ F ys, (∃ v2 v3 v4 v5, σ = [some (.ref a), some (.ref F), v2, v3, v4, v5]) ∧ H F = none ∧ Same H H2 ∧ H2 F = some (.lst ys) ∧ Paired (rSet H2) ys (hitting sLt (lots.take i) names))
      ⟨F, [.ref e0], ⟨none, none, none, none, rfl⟩, hFn, s0, upd_same, ?_⟩ (fun i σ H2 _ ⟨_, _, _, _, s2, _⟩ => (Kg.of s2).seq ha) ?_ ?_⟩
    · rw [List.take_zero, hitting_nil sLo hna]
      exact .cons ⟨e0, rfl, by rw [upd_ne (fun e => by rw [← e, upd_same] at hF; cases hF), upd_same]; rfl⟩ .nil
    · rintro i y σ H2 hi ⟨F, ys, ⟨v2, v3, v4, v5, rfl⟩, hFn, s2, hF2, hys⟩
      obtain ⟨lot, hlot, la, rfl, hl0⟩ := paired_get hp hi
      have hlm : lot ∈ lots := List.mem_of_getElem? hlot
      obtain ⟨hla, hln⟩ := hlots lot hlm
      have hll : lot.length ≤ 5 := Nat.le_trans (asc_len hla hln) hnl
      have hl2 : H2 la = some (.tup (lot.map V.str)) := s2 _ _ hl0
      have hfl : (hitting sLt (lots.take i) names).length ≤ 7776 := len_least hnl _
      have hyl : ys.length ≤ 7776 := by rw [hys.length]; exact hfl
      refine ⟨Nat.zero_le _, fun G hG => ?_⟩
      refine ⟨_, rfl, F, rfl, ⟨_, SqL.of (same_upd hG _ _ hF2)⟩, for_list (K := K) (a := F) (xs := ys) (fun j σ H3 => (∃ v4 v5, σ = [some (.ref a), some (.ref F), some (.ref la), some (.ref G), v4, v5]) ∧ Same H2 H3 ∧ ∃ zs, H3 G = some (.lst zs) ∧ Paired (rSet H3) zs (((hitting sLt (lots.take i) names).take j).flatMap (longStep lot)))
        ⟨⟨_, _, rfl⟩, same_upd hG, [], upd_same, .nil⟩ (fun j σ H3 _ ⟨_, s3, _⟩ => SqL.of (s3 _ _ hF2)) ?_ ?_⟩
      · rintro j y σ H3 hj ⟨⟨v4, v5, rfl⟩, s3, zs, hz3, hzp⟩
        obtain ⟨one, hone, oa, rfl, ho2⟩ := paired_get hys hj
        have hom := List.mem_of_getElem? hone
        obtain ⟨hoa, hon, _⟩ := leastSets_mem sLo hna hom
        have hol : one.length ≤ 5 := Nat.le_trans (asc_len hoa hon) hnl
        have ho3 := s3 _ _ ho2
        have hzl : zs.length ≤ 38880 := by
          rw [hzp.length]
          have := len_flat (longStep lot) 5 ((hitting sLt (lots.take i) names).take j) fun x _ => longStep_len lot x hll
          have h2 : ((hitting sLt (lots.take i) names).take j).length ≤ 7776 := by rw [List.length_take]; omega
          omega
        have est : ((hitting sLt (lots.take i) names).take (j + 1)).flatMap (longStep lot) = ((hitting sLt (lots.take i) names).take j).flatMap (longStep lot) ++ longStep lot one := by
          rw [List.take_add_one, hone, Option.toList_some, List.flatMap_append]
          simp
        refine ⟨_, rfl, oa, rfl, ⟨_, SqT.of ho3⟩, fun D hD => lc_T (R := rS) (S := rV V.bl) (as := one) rV_mono rV_gr (fun e => some (decide (e ∈ lot))) hD (SqT.of ho3) (rV_paired one) (by rw [List.length_map]; omega) (fun m x b hb H4 s4 hx N Z hN hZ => ?_) fun H4 bs s4 hz4 hb4 => ?_⟩
        · refine ⟨rfl, ty ⟨x, rfl, .ref la, rfl, la, _, rfl, .inr (SqT.of (s4 _ _ (s3 _ _ hl2))), ?_, strs_flat lot, hN _ _ _ (Same.refl _) rfl ?_⟩⟩
          · rw [show x = V.str b from hx]; rfl
          · show V.bl (inV x _) = _
            rw [show x = V.str b from hx, inV_strs]
        · refine ⟨D, _, rfl, SqL.of (by rw [hz4, paired_rV hb4]), ?_⟩
          rw [filterMap_some]
          refine ⟨_, rfl, ?_⟩
          have eb : (one.map fun e => decide (e ∈ lot)).any id = anyIn one lot := by
            rw [List.any_map]
            rfl
          rw [eb]
          have hz4' := s4 _ _ hz3
          by_cases c : anyIn one lot = true
          · rw [c]
            refine iteT ⟨_, rfl, .inl ⟨rfl, _, SqL.of hz4'⟩, _, rfl, G, zs, _, rfl, rfl, hz4', by rw [sizeLine_eq]; omega, ?_⟩
            refine ⟨⟨_, _, rfl⟩, Same.own (s3.trans s4) hG, _, upd_same, ?_⟩
            rw [est, longStep, if_pos c]
            exact rSet_fl.all hz4' (Paired.app (rSet_mono.all (Kg.of s4) hzp) (.cons ⟨oa, rfl, s4 _ _ ho3⟩ .nil))
          · have c2 := c
            rw [Bool.not_eq_true] at c
            rw [c]
            refine iteF ⟨_, rfl, .inl ⟨rfl, _, SqL.of hz4'⟩, ?_⟩
            refine ⟨_, rfl, la, rfl, ⟨_, SqT.of (s4 _ _ (s3 _ _ hl2))⟩, fun D2 hD2 => lc_T (R := rS) (S := rSet) (as := lot) rV_mono rSet_gr (fun t => some (srt (one ++ [t]))) hD2 (SqT.of (s4 _ _ (s3 _ _ hl2))) (rV_paired lot) (by rw [List.length_map]; omega) (fun m x b hb H5 s5 hx N Z hN hZ => ?_) fun H6 ws s6 hw hwp => ?_⟩
            · rw [show x = V.str b from hx]
              have hbm : b ∈ lot := List.mem_of_getElem? hb
              have hnd : (one ++ [b]).Nodup := by
                rw [List.nodup_append]
                refine ⟨hoa.nodup sLo, by simp, fun x hx y hy => ?_⟩
                rw [List.mem_singleton] at hy
                exact fun e => c2 (anyIn_iff.2 ⟨x, hx, by rw [e, hy]; exact hbm⟩)
              refine ⟨rfl, ty ?_⟩
              have fin : ∀ (q : Addr) (H7 : Hp), Same H5 H7 → H7 q = some (.tup ((one ++ [b]).map V.str)) → rSortedTS K [V.ref q] H7 (fun y H8 => ∃ p ys, [y] = [V.ref p] ∧ ((SqL K H8 p ys ∧ ∀ l, H8 l = none → N (.ref l) (upd H8 l (.tup ys))) ∨ (SqT K H8 p ys ∧ N (.ref p) H8))) := by
                intro q H7 s7 hq
                refine ⟨q, _, rfl, SqT.of hq, by rw [List.length_append, List.length_singleton]; omega, fun ys p hpm hso hp => ?_⟩
                refine ⟨p, _, rfl, .inl ⟨SqL.of upd_same, fun l hl => hN _ _ _ (s7.trans ((same_upd hp).trans (same_upd hl))) rfl ⟨l, rfl, ?_⟩⟩⟩
                rw [upd_same, srt_of hnd hpm hso]
              refine ⟨_, rfl, _, rfl, sz1, fun r hr' => ?_⟩
              refine ⟨oa, r, one.map V.str, [V.str b], rfl, rfl, SqT.of (same_upd hr' _ _ (s5 _ _ (s4 _ _ ho3))), SqT.of upd_same, by rw [sizeLine_eq, List.length_map, List.length_singleton]; omega, fun e => ?_, fun _ e => (by cases e), fun _ _ p hp => ?_⟩
              · refine fin r _ (same_upd hr') ?_
                rw [upd_same, List.map_append, e]
                rfl
              · refine fin p _ ((same_upd hr').trans (same_upd hp)) ?_
                rw [upd_same, List.map_append]
                rfl
            · have hww := hwp.length
              rw [filterMap_some] at hwp
              have hwl : ws.length ≤ 5 := by rw [hwp.length, List.length_map]; exact hll
              have hz6 := s6 _ _ hz4'
              refine ⟨G, D2, zs, ws, rfl, rfl, hz6, hw, by rw [sizeLine_eq]; omega, ?_⟩
              refine ⟨⟨_, _, rfl⟩, Same.own (s3.trans (s4.trans s6)) hG, _, upd_same, ?_⟩
              rw [est, longStep, if_neg c2]
              exact Paired.app (rSet_fl.all hz6 (rSet_mono.all (Kg.of (s4.trans s6)) hzp)) (rSet_fl.all hz6 hwp)
      · rintro σ H3 ⟨⟨v4, v5, rfl⟩, s3, zs, hz3, hzp⟩
        rw [hys.length, List.take_length] at hzp
        have hzl : ((hitting sLt (lots.take i) names).flatMap (longStep lot)).length ≤ 38880 := by
          have := len_flat (longStep lot) 5 (hitting sLt (lots.take i) names) fun x _ => longStep_len lot x hll
          omega
        have hfa : ∀ one ∈ hitting sLt (lots.take i) names, Asc sLt one := fun one h => (leastSets_mem sLo hna h).1
        refine ⟨_, rfl, G, zs, _, rfl, SqL.of hz3, hzp, by omega, fun s hs => ?_, fun p H5 ws ts hp5 s5 hw hwp asc mem len => ?_⟩
        · have sub : Asc sLt s ∧ ∀ x ∈ s, x ∈ names := by
            rcases (longer_iff hfa s).1 hs with ⟨h, _⟩ | ⟨one, h, _, t, ht, h1, h2⟩
            · obtain ⟨x1, x2, _⟩ := leastSets_mem sLo hna h
              exact ⟨x1, x2⟩
            · obtain ⟨_, x2, _⟩ := leastSets_mem sLo hna h
              exact ⟨h1, fun x hx => ((h2 x).1 hx).elim (x2 x) fun e => e ▸ hln t ht⟩
          have := asc_len sub.1 sub.2
          omega
        · refine ⟨p, ws, ⟨_, _, _, _, rfl⟩, (s2.trans s3).free hp5, s2.trans (s3.trans s5), hw, ?_⟩
          have hst := hitting_step (L := lots.take i) sLo hna hln asc fun s => (mem s).trans (longer_iff hfa s)
          have et : lots.take (i + 1) = lots.take i ++ [lot] := by rw [List.take_add_one, hlot]; rfl
          rw [et, ← hst]
          exact hwp
    · rintro σ H2 ⟨F, ys, ⟨v2, v3, v4, v5, rfl⟩, hFn, s2, hF2, hys⟩
      rw [hp.length, List.take_length] at hys
      exact ⟨_, rfl, q F H2 ys hFn s2 hF2 hys⟩)
end
end WH
set_option Elab.async false
set_option linter.all false
set_option maxRecDepth 100000
set_option maxHeartbeats 2000000
namespace WH
open PySem PySem.Spec PyProof.Rows L2 WM
abbrev s_all_sets : Stmt := topS 21
theorem sc_all_sets : FnScope ["names", "found", "level", "_", "longer", "one", "name"] ["names"] (defScope s_all_sets) := ⟨rfl, rfl, rfl, by decide +kernel, rfl, by decide +kernel, by decide +kernel⟩
abbrev s__law_x_all : Stmt := topS 49
theorem sc__law_x_all : FnScope ["_law_names", "_law_found", "_law_level", "_law_k", "_law_longer", "_law_one", "_law_name"] ["_law_names"] (defScope s__law_x_all) := ⟨rfl, rfl, rfl, by decide +kernel, rfl, by decide +kernel, by decide +kernel⟩
abbrev s__law_x_in : Stmt := topS 50
theorem sc__law_x_in : FnScope ["_law_one", "_law_other", "_law_thing"] ["_law_one", "_law_other"] (defScope s__law_x_in) := ⟨rfl, rfl, rfl, by decide +kernel, rfl, by decide +kernel, by decide +kernel⟩
abbrev s__law_x_least : Stmt := topS 51
theorem sc__law_x_least : FnScope ["_law_sets", "_law_found", "_law_one", "_law_some"] ["_law_sets"] (defScope s__law_x_least) := ⟨rfl, rfl, rfl, by decide +kernel, rfl, by decide +kernel, by decide +kernel⟩
abbrev okS (x : Str) : Bool := x.cps.all (· < 0x110000)
theorem setD_shaped (s : List Str) (h : ∀ x ∈ s, okS x = true) : SeqAt.shaped (setD s) = true := by
  have h1 := set_depth s
  have h2 : (setD s).depth ≤ 64 := by
    have : (setD s).depth ≤ (pairD s).depth := by
      unfold pairD
      simp only [PyData.depth, PyData.depthAll]
      omega
    omega
  have h3 : ∀ l : List Str, (∀ x ∈ l, okS x = true) → PyData.canLayAll0 (l.map PyData.str) = true := by
    intro l
    induction l with
    | nil => intro _; simp [PyData.canLayAll0]
    | cons x l ih =>
      intro hl
      rw [List.map_cons]
      simp only [PyData.canLayAll0, PyData.canLay0, Bool.and_eq_true]
      exact ⟨hl x List.mem_cons_self, ih fun y hy => hl y (List.mem_cons_of_mem _ hy)⟩
  have h4 : (setD s).canLay0 = true := by
    unfold setD
    simp only [PyData.canLay0]
    exact h3 s h
  unfold SeqAt.shaped
  rw [h4, Bool.true_and]
  exact decide_eq_true h2
theorem mem_sets {names s : List Str} (h : s ∈ allSets sLt names) : Asc sLt s ∧ ∀ x ∈ s, x ∈ names := by
  obtain ⟨k, _, hk⟩ := List.mem_flatMap.1 h
  exact ((mem_lvl sLo).1 hk).2
theorem eq_nil_or_snoc {α : Type} (l : List α) : l = [] ∨ ∃ p x, l = p ++ [x] := by
  cases h : l with
  | nil => exact .inl rfl
  | cons y r => exact .inr ⟨(y :: r).dropLast, (y :: r).getLast (by simp), (List.dropLast_concat_getLast (by simp)).symm⟩
theorem filterMap_if {α β : Type} (p : α → Bool) (f : α → β) (l : List α) : (l.filter p).map f = l.filterMap fun x => if p x = true then some (f x) else none := by
  induction l with
  | nil => rfl
  | cons x l ih =>
    rw [List.filter_cons, List.filterMap_cons]
    by_cases c : p x = true
    · rw [if_pos c, if_pos c, List.map_cons, ih]
    · rw [if_neg c, if_neg c, ih]
section
variable {P : Program} {w : World} {K : PySem.W.Frag} {mg : Str → Option Value} {base : Heap}
def sp_all_sets (K : PySem.W.Frag) : Sp := fun vs H Q _ => ∃ (a : Addr) (names : List Str), vs = [.ref a] ∧ SqL K H a (names.map V.str) ∧ names.length ≤ 5 ∧ (∀ x ∈ names, okS x = true) ∧
  ∀ p H' ws, H p = none → Same H H' → H' p = some (.lst ws) → Paired (rSet H') ws (allSets sLt names) → Q (.ref p) H'
theorem ok_all_sets {f : Addr} {fd : FuncData} (D : Df K mg "all_sets" s_all_sets ["names"] f fd) (T : Bl mg) : Dn P w K mg base CX0 1 "all_sets" ["names"] (sp_all_sets K) := .of D (by
  refine D.fn.ok sc_all_sets (fun vs H Q E h => ?_) (fun cdv A outer s H vs Q E hr h => ?_)
  · obtain ⟨a, xs, rfl, _⟩ := h
    rfl
  · obtain ⟨a, names, rfl, ha, hl, hok, q⟩ := h
    refine ⟨_, (pss_cons (ps_par (i := 1) (j := 2) rfl sc_all_sets.nd rfl rfl (by decide) rfl rfl (pa_cons (pe_lst (pa_cons (pe_tup pa_nil) pa_nil)) (pa_cons (pe_lst (pa_cons (pe_tup pa_nil) pa_nil)) pa_nil)) rfl)
      (pss_cons (ps_for PassesOwn.never rfl (pil K (pv 0)) (pg_name (i := 3) sc_all_sets.nd rfl (Or.inl rfl))
        (pss_cons (ps_set (i := 4) sc_all_sets.nd rfl (Or.inl rfl) (pe_lst pa_nil))
        (pss_cons (ps_for PassesOwn.never rfl (pil K (pv 2)) (pg_name (i := 5) sc_all_sets.nd rfl (Or.inr rfl))
          (pss_one (ps_expr (bmK K PySem.F.plainAttrs_list PySem.F.slot_list_extend PySem.F.type_list_extend mt_extend (pv 4) (pa_cons (pe_lc (own := [("name", 6)]) rfl sc_all_sets.nd (pil K (pv 0)) (blkOk_by (N := ["names", "found", "level", "_", "longer", "one", "name"]) (sc := defScope s_all_sets) (by decide +kernel)) (fun _ _ _ _ _ => pg_name (i := 6) sc_all_sets.nd rfl (Or.inl rfl)) (fun _ _ _ _ _ => pts_one (PW.pt (pw_or (pt_cmpR (eqD K hr.units) (pv 5) (pe_tup pa_nil) (nomark _)) (pw_or1 (pt_cmpR op_gt_str (pv 6) (pe_ix (ixT K) (pv 5) (pe_un un_neg (pe_int)) (fun _ _ => rfl)) (nomark _)))))) (fun _ _ _ _ _ => pe_op (catA K) (pv 5) (pe_tup (pa_cons (pv 6) pa_nil)))) pa_nil)))))
        (pss_cons (ps_expr (bmK K PySem.F.plainAttrs_list PySem.F.slot_list_extend PySem.F.type_list_extend mt_extend (pv 1) (pa_cons (pv 4) pa_nil)))
        (pss_one (ps_set (i := 2) sc_all_sets.nd rfl (Or.inl rfl) (pv 4)))))))
      (pss_one (ps_ret (pv 1))))), ?_⟩
    have hsh : ∀ s ∈ allSets sLt names, SeqAt.shaped (setD s) = true := fun s hs => setD_shaped _ fun x hx => hok x ((mem_sets hs).2 x hx)
    refine ⟨Nat.zero_le _, fun e0 he0 => ⟨sz1, fun F hF => ⟨Nat.zero_le _, fun e1 he1 => ⟨sz1, fun L hL => ?_⟩⟩⟩⟩
    have s0 : Same H (upd (upd (upd (upd H e0 (.tup [])) F (.lst [.ref e0])) e1 (.tup [])) L (.lst [.ref e1])) := (same_upd he0).trans ((same_upd hF).trans ((same_upd he1).trans (same_upd hL)))
    have hFn : H F = none := Same.none (same_upd he0) hF
    have sF : Same (upd (upd H e0 (.tup [])) F (.lst [.ref e0])) (upd (upd (upd (upd H e0 (.tup [])) F (.lst [.ref e0])) e1 (.tup [])) L (.lst [.ref e1])) := (same_upd he1).trans (same_upd hL)
    have hFe : F ≠ e0 := fun e => by rw [e, upd_same] at hF; cases hF
    have hLe : L ≠ e1 := fun e => by rw [e, upd_same] at hL; cases hL
    refine ⟨_, _, rfl, ?_⟩
    refine ⟨_, rfl, a, rfl, ⟨_, (Kg.of s0).seq ha⟩, for_list (K := K) (a := a) (xs := names.map V.str) (fun i σ H2 => ∃ L ys zs, (∃ v3 v4 v5 v6, σ = [some (.ref a), some (.ref F), some (.ref L), v3, v4, v5, v6]) ∧ H L = none ∧ L ≠ F ∧ Same H H2 ∧ H2 F = some (.lst ys) ∧ Paired (rSet H2) ys (setsTo sLt names i) ∧ H2 L = some (.lst zs) ∧ Paired (rSet H2) zs (lvlN sLt names i))
      ⟨L, [.ref e0], [.ref e1], ⟨none, none, none, none, rfl⟩, Same.none ((same_upd he0).trans ((same_upd hF).trans (same_upd he1))) hL, (fun e => by rw [e, upd_ne (ne_of_none upd_same he1), upd_same] at hL; cases hL), s0, sF _ _ upd_same, .cons ⟨e0, rfl, sF _ _ (by rw [upd_ne hFe.symm, upd_same]; rfl)⟩ .nil, upd_same, .cons ⟨e1, rfl, by rw [upd_ne hLe.symm, upd_same]; rfl⟩ .nil⟩ (fun i σ H2 _ ⟨_, _, _, _, _, _, s2, _⟩ => (Kg.of s2).seq ha) ?_ ?_⟩
    · rintro i y σ H2 hi ⟨L, ys, zs, ⟨v3, v4, v5, v6, rfl⟩, hLn, hLF, s2, hy, hyp, hz, hzp⟩
      have hil : i < names.length := by
        have := (List.getElem?_eq_some_iff.mp hi).1
        rw [List.length_map] at this
        exact this
      have hzl : zs.length ≤ 3125 := by
        rw [hzp.length]
        exact Nat.le_trans (len_lvl hl i) (Nat.pow_le_pow_right (by decide) (show i ≤ 5 by omega))
      have hyl : ys.length ≤ 7776 := by
        rw [hyp.length]
        exact Nat.le_trans (len_setsTo hl i) (Nat.pow_le_pow_right (by decide) (show i ≤ 5 by omega))
      have hin : ∀ one ∈ lvlN sLt names i, one ∈ allSets sLt names := fun one h => List.mem_flatMap.2 ⟨i, List.mem_range.2 (by omega), h⟩
      refine ⟨Nat.zero_le _, fun G hG => ?_⟩
      have hGF : G ≠ F := fun e => by rw [e, hy] at hG; cases hG
      have hGL : G ≠ L := fun e => by rw [e, hz] at hG; cases hG
      refine ⟨_, rfl, L, rfl, ⟨_, SqL.of (same_upd hG _ _ hz)⟩, for_list (K := K) (a := L) (xs := zs) (fun j σ H3 => (∃ v3 v5 v6, σ = [some (.ref a), some (.ref F), some (.ref L), v3, some (.ref G), v5, v6]) ∧ Same H2 H3 ∧ ∃ gs, H3 G = some (.lst gs) ∧ Paired (rSet H3) gs (nextL sLt names ((lvlN sLt names i).take j)))
        ⟨⟨_, _, _, rfl⟩, same_upd hG, [], upd_same, .nil⟩ (fun j σ H3 _ ⟨_, s3, _⟩ => SqL.of (s3 _ _ hz)) ?_ ?_⟩
      · rintro j y σ H3 hj ⟨⟨v3, v5, v6, rfl⟩, s3, gs, hg, hgp⟩
        obtain ⟨one, hone, oa, rfl, ho2⟩ := paired_get hzp hj
        have hom := hin one (List.mem_of_getElem? hone)
        have ho3 := s3 _ _ ho2
        have hgl : gs.length ≤ 15625 := by
          rw [hgp.length]
          have h1 := len_next names ((lvlN sLt names i).take j)
          have h2 : ((lvlN sLt names i).take j).length ≤ 3125 := by rw [List.length_take, ← hzp.length]; omega
          have h3 : ((lvlN sLt names i).take j).length * names.length ≤ 3125 * 5 := Nat.mul_le_mul h2 hl
          omega
        have hol : one.length ≤ 5 := Nat.le_trans (asc_len (mem_sets hom).1 (mem_sets hom).2) hl
        refine ⟨_, rfl, .inl ⟨rfl, _, SqL.of hg⟩, ?_⟩
        refine ⟨_, rfl, a, rfl, ⟨_, (Kg.of (s2.trans s3)).seq ha⟩, fun D2 hD2 => lc_L (R := rS) (S := rSet) (as := names) rV_mono rSet_gr (fun n => if okAft sLt one n = true then some (one ++ [n]) else none) hD2 ((Kg.of (s2.trans s3)).seq ha) (rV_paired names) (by rw [List.length_map]; omega) (fun m x n hn H5 s5 hx N Z hN hZ => ?_) fun H6 ws s6 hw hwp => ?_⟩
        · rw [show x = V.str n from hx]
          refine ⟨rfl, ?_⟩
          have ho5 := s5 _ _ ho3
          have fin : ∀ H6, Same H5 H6 → (if okAft sLt one n = true then tOp (rCatA K) (tVar 5) (tTup (tCons (tVar 6) tNil)) [some (.ref a), some (.ref F), some (.ref L), v3, some (.ref G), some (.ref oa), some (V.str n)] H6 N else Z H6) := by
            intro H6 s6
            by_cases c : okAft sLt one n = true
            · rw [if_pos c]
              refine ⟨_, rfl, _, rfl, sz1, fun r hr' => ?_⟩
              refine ⟨oa, r, one.map V.str, [V.str n], rfl, rfl, SqT.of (same_upd hr' _ _ (s6 _ _ ho5)), SqT.of upd_same, by rw [sizeLine_eq, List.length_map, List.length_singleton]; omega, fun e => ?_, fun _ e => (by cases e), fun _ _ p hp => ?_⟩
              · refine hN _ _ _ (s6.trans (same_upd hr')) (if_pos c) ⟨r, rfl, ?_⟩
                rw [upd_same, List.map_append, e]
                rfl
              · refine hN _ _ _ (s6.trans ((same_upd hr').trans (same_upd hp))) (if_pos c) ⟨p, rfl, ?_⟩
                rw [upd_same, List.map_append]
                rfl
            · rw [if_neg c]
              exact hZ _ s6 (if_neg c)
          refine ⟨_, rfl, Nat.zero_le _, fun r hr' => ⟨_, _, dp_set (same_upd hr' _ _ ho5), dp_set (s := []) upd_same, hsh one hom, by decide +kernel, _, rfl, ?_⟩⟩
          rw [eqv_set]
          rcases eq_nil_or_snoc one with rfl | ⟨pre, last, rfl⟩
          · rw [decide_eq_true rfl]
            exact fin _ (same_upd hr')
          · rw [decide_eq_false (by simp)]
            refine iteF ?_
            refine ⟨_, rfl, _, rfl, _, rfl, oa, _, _, V.str last, rfl, rfl, SqT.of (same_upd hr' _ _ ho5), ?_, _, _, rfl, rfl, _, rfl, ?_⟩
            · rw [List.map_append]
              exact atI_last _ _
            · have e : decide (last.cps.toList < n.cps.toList) = okAft sLt (pre ++ [last]) n := by
                unfold okAft
                rw [List.getLast?_append]
                rfl
              rw [e]
              exact fin _ (same_upd hr')
        · have hwl : ws.length ≤ 5 := by
            rw [hwp.length]
            exact Nat.le_trans (List.length_filterMap_le _ _) hl
          have hg6 := s6 _ _ hg
          refine ⟨G, D2, gs, ws, rfl, rfl, hg6, hw, by rw [sizeLine_eq]; omega, ?_⟩
          refine ⟨⟨_, _, _, rfl⟩, Same.own (s3.trans s6) hG, _, upd_same, ?_⟩
          have est : nextL sLt names ((lvlN sLt names i).take (j + 1)) = nextL sLt names ((lvlN sLt names i).take j) ++ names.filterMap fun n => if okAft sLt one n = true then some (one ++ [n]) else none := by
            unfold nextL
            rw [List.take_add_one, hone, Option.toList_some, List.flatMap_append, List.flatMap_singleton, filterMap_if]
          rw [est]
          exact Paired.app (rSet_fl.all hg6 (rSet_mono.all (Kg.of s6) hgp)) (rSet_fl.all hg6 hwp)
      · rintro σ H3 ⟨⟨v3, v5, v6, rfl⟩, s3, gs, hg, hgp⟩
        rw [hzp.length, List.take_length] at hgp
        have hgl : gs.length ≤ 15625 := by
          rw [hgp.length]
          have h1 := len_next names (lvlN sLt names i)
          have h2 : (lvlN sLt names i).length ≤ 3125 := by rw [← hzp.length]; exact hzl
          have h3 : (lvlN sLt names i).length * names.length ≤ 3125 * 5 := Nat.mul_le_mul h2 hl
          omega
        refine ⟨_, rfl, .inl ⟨rfl, _, SqL.of (s3 _ _ hy)⟩, _, rfl, F, G, ys, gs, rfl, rfl, s3 _ _ hy, hg, by rw [sizeLine_eq]; omega, ?_⟩
        refine ⟨_, rfl, G, ys ++ gs, gs, ⟨_, _, _, _, rfl⟩, Same.none s2 hG, hGF, Same.own (s2.trans s3) hFn, upd_same, ?_, by rw [upd_ne hGF]; exact hg, rSet_fl.all (s3 _ _ hy) hgp⟩
        rw [setsTo_succ]
        exact Paired.app (rSet_fl.all (s3 _ _ hy) (rSet_mono.all (Kg.of s3) hyp)) (rSet_fl.all (s3 _ _ hy) hgp)
    · rintro σ H2 ⟨L, ys, zs, ⟨v3, v4, v5, v6, rfl⟩, hLn, hLF, s2, hy, hyp, hz, hzp⟩
      rw [List.length_map] at hyp
      exact ⟨_, rfl, q F H2 ys hFn s2 hy hyp⟩)
theorem ok__law_x_all {f : Addr} {fd : FuncData} (D : Df K mg "_law_x_all" s__law_x_all ["_law_names"] f fd) (T : Bl mg) : Dn P w K mg base CX0 1 "_law_x_all" ["_law_names"] (sp_all_sets K) := .of D (by
  refine D.fn.ok sc__law_x_all (fun vs H Q E h => ?_) (fun cdv A outer s H vs Q E hr h => ?_)
  · obtain ⟨a, xs, rfl, _⟩ := h
    rfl
  · obtain ⟨a, names, rfl, ha, hl, hok, q⟩ := h
    refine ⟨_, (pss_cons (ps_par (i := 1) (j := 2) rfl sc__law_x_all.nd rfl rfl (by decide) rfl rfl (pa_cons (pe_lst (pa_cons (pe_tup pa_nil) pa_nil)) (pa_cons (pe_lst (pa_cons (pe_tup pa_nil) pa_nil)) pa_nil)) rfl)
      (pss_cons (ps_for PassesOwn.never rfl (pi_range1 (by rfl) T.b_range (pa_cons (pe_callB (lenA K) (by rfl) T.b_len (by decide +kernel) (pa_cons (pv 0) pa_nil)) pa_nil)) (pg_name (i := 3) sc__law_x_all.nd rfl (Or.inl rfl))
        (pss_cons (ps_set (i := 4) sc__law_x_all.nd rfl (Or.inl rfl) (pe_lst pa_nil))
        (pss_cons (ps_for PassesOwn.never rfl (pil K (pv 2)) (pg_name (i := 5) sc__law_x_all.nd rfl (Or.inr rfl))
          (pss_one (ps_expr (bmK K PySem.F.plainAttrs_list PySem.F.slot_list_extend PySem.F.type_list_extend mt_extend (pv 4) (pa_cons (pe_lc (own := [("_law_name", 6)]) rfl sc__law_x_all.nd (pil K (pv 0)) (blkOk_by (N := ["_law_names", "_law_found", "_law_level", "_law_k", "_law_longer", "_law_one", "_law_name"]) (sc := defScope s__law_x_all) (by decide +kernel)) (fun _ _ _ _ _ => pg_name (i := 6) sc__law_x_all.nd rfl (Or.inl rfl)) (fun _ _ _ _ _ => pts_one (PW.pt (pw_or (pt_cmpR (eqD K hr.units) (pv 5) (pe_tup pa_nil) (nomark _)) (pw_or1 (pt_cmpR op_gt_str (pv 6) (pe_ix (ixT K) (pv 5) (pe_un un_neg (pe_int)) (fun _ _ => rfl)) (nomark _)))))) (fun _ _ _ _ _ => pe_op (catA K) (pv 5) (pe_tup (pa_cons (pv 6) pa_nil)))) pa_nil)))))
        (pss_cons (ps_expr (bmK K PySem.F.plainAttrs_list PySem.F.slot_list_extend PySem.F.type_list_extend mt_extend (pv 1) (pa_cons (pv 4) pa_nil)))
        (pss_one (ps_set (i := 2) sc__law_x_all.nd rfl (Or.inl rfl) (pv 4)))))))
      (pss_one (ps_ret (pv 1))))), ?_⟩
    have hsh : ∀ s ∈ allSets sLt names, SeqAt.shaped (setD s) = true := fun s hs => setD_shaped _ fun x hx => hok x ((mem_sets hs).2 x hx)
    refine ⟨Nat.zero_le _, fun e0 he0 => ⟨sz1, fun F hF => ⟨Nat.zero_le _, fun e1 he1 => ⟨sz1, fun L hL => ?_⟩⟩⟩⟩
    have s0 : Same H (upd (upd (upd (upd H e0 (.tup [])) F (.lst [.ref e0])) e1 (.tup [])) L (.lst [.ref e1])) := (same_upd he0).trans ((same_upd hF).trans ((same_upd he1).trans (same_upd hL)))
    have hFn : H F = none := Same.none (same_upd he0) hF
    have sF : Same (upd (upd H e0 (.tup [])) F (.lst [.ref e0])) (upd (upd (upd (upd H e0 (.tup [])) F (.lst [.ref e0])) e1 (.tup [])) L (.lst [.ref e1])) := (same_upd he1).trans (same_upd hL)
    have hFe : F ≠ e0 := fun e => by rw [e, upd_same] at hF; cases hF
    have hLe : L ≠ e1 := fun e => by rw [e, upd_same] at hL; cases hL
    refine ⟨_, _, rfl, ?_⟩
    refine ⟨_, rfl, a, _, rfl, .inl ((Kg.of s0).seq ha), ?_⟩
    rw [List.length_map]
    refine ⟨_, rfl, by omega, by omega, for_range (lo := 0) (n := names.length) (fun i σ H2 => ∃ L ys zs, (∃ v3 v4 v5 v6, σ = [some (.ref a), some (.ref F), some (.ref L), v3, v4, v5, v6]) ∧ H L = none ∧ L ≠ F ∧ Same H H2 ∧ H2 F = some (.lst ys) ∧ Paired (rSet H2) ys (setsTo sLt names i) ∧ H2 L = some (.lst zs) ∧ Paired (rSet H2) zs (lvlN sLt names i))
      ⟨L, [.ref e0], [.ref e1], ⟨none, none, none, none, rfl⟩, Same.none ((same_upd he0).trans ((same_upd hF).trans (same_upd he1))) hL, (fun e => by rw [e, upd_ne (ne_of_none upd_same he1), upd_same] at hL; cases hL), s0, sF _ _ upd_same, .cons ⟨e0, rfl, sF _ _ (by rw [upd_ne hFe.symm, upd_same]; rfl)⟩ .nil, upd_same, .cons ⟨e1, rfl, by rw [upd_ne hLe.symm, upd_same]; rfl⟩ .nil⟩ ?_ ?_⟩
    · rintro i σ H2 hil ⟨L, ys, zs, ⟨v3, v4, v5, v6, rfl⟩, hLn, hLF, s2, hy, hyp, hz, hzp⟩
      have hzl : zs.length ≤ 3125 := by
        rw [hzp.length]
        exact Nat.le_trans (len_lvl hl i) (Nat.pow_le_pow_right (by decide) (show i ≤ 5 by omega))
      have hyl : ys.length ≤ 7776 := by
        rw [hyp.length]
        exact Nat.le_trans (len_setsTo hl i) (Nat.pow_le_pow_right (by decide) (show i ≤ 5 by omega))
      have hin : ∀ one ∈ lvlN sLt names i, one ∈ allSets sLt names := fun one h => List.mem_flatMap.2 ⟨i, List.mem_range.2 (by omega), h⟩
      refine ⟨Nat.zero_le _, fun G hG => ?_⟩
      have hGF : G ≠ F := fun e => by rw [e, hy] at hG; cases hG
      have hGL : G ≠ L := fun e => by rw [e, hz] at hG; cases hG
      refine ⟨_, rfl, L, rfl, ⟨_, SqL.of (same_upd hG _ _ hz)⟩, for_list (K := K) (a := L) (xs := zs) (fun j σ H3 => (∃ v3 v5 v6, σ = [some (.ref a), some (.ref F), some (.ref L), v3, some (.ref G), v5, v6]) ∧ Same H2 H3 ∧ ∃ gs, H3 G = some (.lst gs) ∧ Paired (rSet H3) gs (nextL sLt names ((lvlN sLt names i).take j)))
        ⟨⟨_, _, _, rfl⟩, same_upd hG, [], upd_same, .nil⟩ (fun j σ H3 _ ⟨_, s3, _⟩ => SqL.of (s3 _ _ hz)) ?_ ?_⟩
      · rintro j y σ H3 hj ⟨⟨v3, v5, v6, rfl⟩, s3, gs, hg, hgp⟩
        obtain ⟨one, hone, oa, rfl, ho2⟩ := paired_get hzp hj
        have hom := hin one (List.mem_of_getElem? hone)
        have ho3 := s3 _ _ ho2
        have hgl : gs.length ≤ 15625 := by
          rw [hgp.length]
          have h1 := len_next names ((lvlN sLt names i).take j)
          have h2 : ((lvlN sLt names i).take j).length ≤ 3125 := by rw [List.length_take, ← hzp.length]; omega
          have h3 : ((lvlN sLt names i).take j).length * names.length ≤ 3125 * 5 := Nat.mul_le_mul h2 hl
          omega
        have hol : one.length ≤ 5 := Nat.le_trans (asc_len (mem_sets hom).1 (mem_sets hom).2) hl
        refine ⟨_, rfl, .inl ⟨rfl, _, SqL.of hg⟩, ?_⟩
        refine ⟨_, rfl, a, rfl, ⟨_, (Kg.of (s2.trans s3)).seq ha⟩, fun D2 hD2 => lc_L (R := rS) (S := rSet) (as := names) rV_mono rSet_gr (fun n => if okAft sLt one n = true then some (one ++ [n]) else none) hD2 ((Kg.of (s2.trans s3)).seq ha) (rV_paired names) (by rw [List.length_map]; omega) (fun m x n hn H5 s5 hx N Z hN hZ => ?_) fun H6 ws s6 hw hwp => ?_⟩
        · rw [show x = V.str n from hx]
          refine ⟨rfl, ?_⟩
          have ho5 := s5 _ _ ho3
          have fin : ∀ H6, Same H5 H6 → (if okAft sLt one n = true then tOp (rCatA K) (tVar 5) (tTup (tCons (tVar 6) tNil)) [some (.ref a), some (.ref F), some (.ref L), v3, some (.ref G), some (.ref oa), some (V.str n)] H6 N else Z H6) := by
            intro H6 s6
            by_cases c : okAft sLt one n = true
            · rw [if_pos c]
              refine ⟨_, rfl, _, rfl, sz1, fun r hr' => ?_⟩
              refine ⟨oa, r, one.map V.str, [V.str n], rfl, rfl, SqT.of (same_upd hr' _ _ (s6 _ _ ho5)), SqT.of upd_same, by rw [sizeLine_eq, List.length_map, List.length_singleton]; omega, fun e => ?_, fun _ e => (by cases e), fun _ _ p hp => ?_⟩
              · refine hN _ _ _ (s6.trans (same_upd hr')) (if_pos c) ⟨r, rfl, ?_⟩
                rw [upd_same, List.map_append, e]
                rfl
              · refine hN _ _ _ (s6.trans ((same_upd hr').trans (same_upd hp))) (if_pos c) ⟨p, rfl, ?_⟩
                rw [upd_same, List.map_append]
                rfl
            · rw [if_neg c]
              exact hZ _ s6 (if_neg c)
          refine ⟨_, rfl, Nat.zero_le _, fun r hr' => ⟨_, _, dp_set (same_upd hr' _ _ ho5), dp_set (s := []) upd_same, hsh one hom, by decide +kernel, _, rfl, ?_⟩⟩
          rw [eqv_set]
          rcases eq_nil_or_snoc one with rfl | ⟨pre, last, rfl⟩
          · rw [decide_eq_true rfl]
            exact fin _ (same_upd hr')
          · rw [decide_eq_false (by simp)]
            refine iteF ?_
            refine ⟨_, rfl, _, rfl, _, rfl, oa, _, _, V.str last, rfl, rfl, SqT.of (same_upd hr' _ _ ho5), ?_, _, _, rfl, rfl, _, rfl, ?_⟩
            · rw [List.map_append]
              exact atI_last _ _
            · have e : decide (last.cps.toList < n.cps.toList) = okAft sLt (pre ++ [last]) n := by
                unfold okAft
                rw [List.getLast?_append]
                rfl
              rw [e]
              exact fin _ (same_upd hr')
        · have hwl : ws.length ≤ 5 := by
            rw [hwp.length]
            exact Nat.le_trans (List.length_filterMap_le _ _) hl
          have hg6 := s6 _ _ hg
          refine ⟨G, D2, gs, ws, rfl, rfl, hg6, hw, by rw [sizeLine_eq]; omega, ?_⟩
          refine ⟨⟨_, _, _, rfl⟩, Same.own (s3.trans s6) hG, _, upd_same, ?_⟩
          have est : nextL sLt names ((lvlN sLt names i).take (j + 1)) = nextL sLt names ((lvlN sLt names i).take j) ++ names.filterMap fun n => if okAft sLt one n = true then some (one ++ [n]) else none := by
            unfold nextL
            rw [List.take_add_one, hone, Option.toList_some, List.flatMap_append, List.flatMap_singleton, filterMap_if]
          rw [est]
          exact Paired.app (rSet_fl.all hg6 (rSet_mono.all (Kg.of s6) hgp)) (rSet_fl.all hg6 hwp)
      · rintro σ H3 ⟨⟨v3, v5, v6, rfl⟩, s3, gs, hg, hgp⟩
        rw [hzp.length, List.take_length] at hgp
        have hgl : gs.length ≤ 15625 := by
          rw [hgp.length]
          have h1 := len_next names (lvlN sLt names i)
          have h2 : (lvlN sLt names i).length ≤ 3125 := by rw [← hzp.length]; exact hzl
          have h3 : (lvlN sLt names i).length * names.length ≤ 3125 * 5 := Nat.mul_le_mul h2 hl
          omega
        refine ⟨_, rfl, .inl ⟨rfl, _, SqL.of (s3 _ _ hy)⟩, _, rfl, F, G, ys, gs, rfl, rfl, s3 _ _ hy, hg, by rw [sizeLine_eq]; omega, ?_⟩
        refine ⟨_, rfl, G, ys ++ gs, gs, ⟨_, _, _, _, rfl⟩, Same.none s2 hG, hGF, Same.own (s2.trans s3) hFn, upd_same, ?_, by rw [upd_ne hGF]; exact hg, rSet_fl.all (s3 _ _ hy) hgp⟩
        rw [setsTo_succ]
        exact Paired.app (rSet_fl.all (s3 _ _ hy) (rSet_mono.all (Kg.of s3) hyp)) (rSet_fl.all (s3 _ _ hy) hgp)
    · rintro σ H2 ⟨L, ys, zs, ⟨v3, v4, v5, v6, rfl⟩, hLn, hLF, s2, hy, hyp, hz, hzp⟩
      exact ⟨_, rfl, q F H2 ys hFn s2 hy hyp⟩)
/-! ### _law_x_in, _law_x_least -/
def sp_x_in (K : PySem.W.Frag) : Sp := fun vs H Q _ => ∃ (a b : Addr) (xs ys : List Str), vs = [.ref a, .ref b] ∧ SqT K H a (xs.map V.str) ∧ SqT K H b (ys.map V.str) ∧ xs.length ≤ 100000 ∧
  ∀ H', Same H H' → Q (.bl (isPart xs ys)) H'
theorem ok__law_x_in {f : Addr} {fd : FuncData} (D : Df K mg "_law_x_in" s__law_x_in ["_law_one", "_law_other"] f fd) (T : Bl mg) : Dn P w K mg base CX0 1 "_law_x_in" ["_law_one", "_law_other"] (sp_x_in K) := .of D (by
  refine D.fn.ok sc__law_x_in (fun vs H Q E h => ?_) (fun cdv A outer s H vs Q E hr h => ?_)
  · obtain ⟨a, b, xs, ys, rfl, _⟩ := h
    rfl
  · obtain ⟨a, b, xs, ys, rfl, ha, hb, hz, q⟩ := h
    refine ⟨_, (pss_one (ps_ret (pe_callB (allK K) (by rfl) T.b_all (by decide +kernel) (pa_cons (pe_lc (own := [("_law_thing", 2)]) rfl sc__law_x_in.nd (pit K (pv 0)) (blkOk_by (N := ["_law_one", "_law_other", "_law_thing"]) (sc := defScope s__law_x_in) (by decide +kernel)) (fun _ _ _ _ _ => pg_name (i := 2) sc__law_x_in.nd rfl (Or.inl rfl)) (fun _ _ _ _ _ => pts_nil) (fun _ _ _ _ _ => pe_cmpR (inSq K) (pv 2) (pv 1) rfl)) pa_nil)))), ?_⟩
    refine ⟨_, rfl, a, rfl, ⟨_, ha⟩, fun D hD => lc_T (R := rS) (S := rV V.bl) (as := xs) rV_mono rV_gr (fun c => some (decide (c ∈ ys))) hD ha (rV_paired xs) (by rw [List.length_map]; exact hz) (fun i x c hc H2 s2 hx N Z hN hZ => ?_) fun H' zs s' hD' hp => ?_⟩
    · refine ⟨rfl, ty ⟨x, rfl, .ref b, rfl, b, _, rfl, .inr ((Kg.of s2).tup hb), ?_, strs_flat ys, hN _ _ _ (Same.refl _) rfl ?_⟩⟩
      · rw [show x = V.str c from hx]; rfl
      · show V.bl (inV x _) = _
        rw [show x = V.str c from hx, inV_strs]
    · refine ⟨D, _, rfl, SqL.of (by rw [hD', paired_rV hp]), ?_⟩
      rw [filterMap_some]
      have e : ((xs.map fun c => decide (c ∈ ys)).all id) = isPart xs ys := by
        unfold isPart
        rw [List.all_map]
        rfl
      rw [e]
      exact q H' s')
def sp_x_least (K : PySem.W.Frag) : Sp := fun vs H Q _ => ∃ (a : Addr) (xs : List V) (ss : List (List Str)), vs = [.ref a] ∧ SqL K H a xs ∧ Paired (rSet H) xs ss ∧ ss.length ≤ 100000 ∧ (∀ s ∈ ss, s.length ≤ 100000) ∧
  ∀ p H' ws, H p = none → Same H H' → H' p = some (.lst ws) → Paired (rSet H') ws (leastOf ss) → Q (.ref p) H'
theorem ok__law_x_least {f : Addr} {fd : FuncData} (D : Df K mg "_law_x_least" s__law_x_least ["_law_sets"] f fd) (T : Bl mg) (G__law_x_in : Dn P w K mg base CX0 1 "_law_x_in" ["_law_one", "_law_other"] (sp_x_in K)) : Dn P w K mg base CX0 2 "_law_x_least" ["_law_sets"] (sp_x_least K) := .of D (by
  refine D.fn.ok sc__law_x_least (fun vs H Q E h => ?_) (fun cdv A outer s H vs Q E hr h => ?_)
  · obtain ⟨a, xs, ss, rfl, _⟩ := h
    rfl
  · obtain ⟨l, ws, ts, rfl, ha, hp, hz, hzs, q⟩ := h
    refine ⟨_, (pss_cons (ps_set (i := 1) sc__law_x_least.nd rfl (Or.inl rfl) (pe_lst pa_nil))
      (pss_cons (ps_for PassesOwn.never rfl (pil K (pv 0)) (pg_name (i := 2) sc__law_x_least.nd rfl (Or.inr rfl))
        (pss_one (ps_if (pt_not (pt_val (pe_callB (anyK K) (by rfl) T.b_any (by decide +kernel) (pa_cons (pe_lc (own := [("_law_some", 3)]) rfl sc__law_x_least.nd (pil K (pv 1)) (blkOk_by (N := ["_law_sets", "_law_found", "_law_one", "_law_some"]) (sc := defScope s__law_x_least) (by decide +kernel)) (fun _ _ _ _ _ => pg_name (i := 3) sc__law_x_least.nd rfl (Or.inl rfl)) (fun _ _ _ _ _ => pts_nil) (fun _ _ _ _ _ => pe_cl G__law_x_in (hr.mono (by decide)) (pa_cons (pv 3) (pa_cons (pv 2) pa_nil)))) pa_nil)))) (pss_one (ps_expr (bmK K PySem.F.plainAttrs_list PySem.F.slot_list_append PySem.F.type_list_append mt_append (pv 1) (pa_cons (pv 2) pa_nil)))) pss_nil)))
      (pss_one (ps_ret (pv 1))))), ?_⟩
    refine ⟨Nat.zero_le _, fun F hF => ?_⟩
    refine ⟨_, rfl, l, rfl, ⟨_, (Kg.of (same_upd hF)).seq ha⟩, for_list (K := K) (a := l) (xs := ws) (fun i σ H2 => (∃ v v', σ = [some (.ref l), some (.ref F), v, v']) ∧ Same H H2 ∧ ∃ ys, H2 F = some (.lst ys) ∧ Paired (rSet H2) ys (leastOf (ts.take i)))
      ⟨⟨none, none, rfl⟩, same_upd hF, [], upd_same, .nil⟩ (fun i σ H2 _ ⟨_, s2, _⟩ => (Kg.of s2).seq ha) ?_ ?_⟩
    · rintro i y σ H2 hi ⟨⟨v, v', rfl⟩, s2, ys, hy, hys⟩
      have hw2 := rSet_mono.all (Kg.of s2) hp
      obtain ⟨c, hc, hR⟩ := paired_get hw2 hi
      have il : i < ts.length := (List.getElem?_eq_some_iff.mp hc).1
      have hyl : ys.length ≤ 100000 := by
        have h1 := (leastOf_sub (ts.take i)).1
        rw [hys.length]
        rw [List.length_take] at h1
        omega
      refine ⟨_, rfl, F, rfl, ⟨_, SqL.of hy⟩, fun D hD => lc_L (R := rSet) (S := rV V.bl) (as := leastOf (ts.take i)) rSet_mono rV_gr (fun e => some (isPart e c)) hD (SqL.of hy) hys hyl (fun j x b hb H3 s3 hx N Z hN hZ => ?_) fun H3 zs s3 hz3 hzp => ?_⟩
      · obtain ⟨p1, rfl, e1⟩ := hx
        obtain ⟨p2, rfl, e2⟩ := rSet_mono _ _ _ _ (Kg.of s3) hR
        have hbs : b ∈ ts := List.mem_of_mem_take ((leastOf_sub (ts.take i)).2 b (List.mem_of_getElem? hb))
        exact ⟨rfl, ty ⟨_, rfl, _, rfl, p1, p2, b, c, rfl, SqT.of e1, SqT.of e2, hzs b hbs, fun H4 s4 => hN _ _ _ s4 rfl rfl⟩⟩
      · refine ⟨D, _, rfl, SqL.of (by rw [hz3, paired_rV hzp]), ?_⟩
        rw [filterMap_some]
        refine ⟨_, rfl, ?_⟩
        have est : leastOf (ts.take (i + 1)) = leastStep (leastOf (ts.take i)) c := by
          rw [List.take_add_one, hc, Option.toList_some, leastOf_snoc]
        have eb : ((leastOf (ts.take i)).map fun e => isPart e c).any id = (leastOf (ts.take i)).any fun e => isPart e c := by
          rw [List.any_map]
          rfl
        rw [eb]
        by_cases hb : ((leastOf (ts.take i)).any fun e => isPart e c) = true
        · rw [hb]
          refine iteF ⟨⟨_, _, rfl⟩, s2.trans s3, ys, s3 _ _ hy, ?_⟩
          rw [est, leastStep, if_pos hb]
          exact rSet_mono.all (Kg.of s3) hys
        · rw [Bool.not_eq_true] at hb
          rw [hb]
          refine iteT ⟨_, rfl, .inl ⟨rfl, _, SqL.of (s3 _ _ hy)⟩, _, rfl, F, ys, _, rfl, rfl, s3 _ _ hy, by rw [sizeLine_eq]; omega, ?_⟩
          refine ⟨⟨_, _, rfl⟩, Same.own (s2.trans s3) hF, _, upd_same, ?_⟩
          rw [est, leastStep, if_neg (by rw [hb]; exact Bool.false_ne_true)]
          exact rSet_fl.all (s3 _ _ hy) (Paired.app (rSet_mono.all (Kg.of s3) hys) (.cons (rSet_mono _ _ _ _ (Kg.of s3) hR) .nil))
    · rintro σ H2 ⟨⟨v, v', rfl⟩, s2, ys, hy, hys⟩
      rw [hp.length, List.take_length] at hys
      exact ⟨_, rfl, q F H2 ys hF s2 hy hys⟩)
end
end WH
set_option Elab.async false
set_option linter.all false
set_option maxRecDepth 100000
set_option maxHeartbeats 4000000
/-! sorted(rows, key=lambda row: row[0]), the rows beginning with whole numbers. -/
namespace WH
open PySem PySem.Spec PyProof.Rows L2 LamX
/-- a row as it stands: its tuple, its first number, the rest -/
abbrev Ri := Addr × Int × List V
/-- a call of the lambda on a row -/
theorem lam_first {prog : Program} {w : World} {A : Around} {s : Shared} {f t c' : Addr} {q x : Str} {params : Arguments} {scope : Scope} {pm ctv : Value} {p1 p2 p3 : Pos} {j : Nat} {k : Int} {tk : Tok} {rest : List Value}
    (room : A.depth < recursionLimit) (hf : s.heap.get? f = some (PySem.W.kla_obj "<lambda>" q params (.Subscript (.Name x p1) (.Constant (.int 0) j p2) p3) scope [] pm c' ctv))
    (ha : s.heap.CodeRec (.ref c') q) (hnl : s.heap.NoLimit) (hco : scope.isCoroutine = false) (hgen : scope.isGenerator = false) (hk : scope.kind = .function) (hx : scope.names = [(x, .local)])
    (hbind : bindArgs (PySem.W.kla_fn "<lambda>" q params (.Subscript (.Name x p1) (.Constant (.int 0) j p2) p3) scope [] pm (.ref c') ctv) ⟨[.ref t], []⟩ = pure [(x, .ref t)])
    (ht : IsTup s.heap t (.int k tk :: rest).toArray) (hd : (x == ("__debug__" : Str)) = false) :
    wpAny (model prog w) A (call (.ref f) [.ref t]) (PySem.W.KeyPure (.int k) s) (fun _ _ => False) s := by
  refine wpAny_call ?_
  refine PySem.W.kla_callFunE room hf rfl hco hgen rfl ha ?_
  rw [hbind]
  refine wpAny_pure (wpAny_newFunctionEnv (fun y hy => ?_) (fun y hy => ?_) (fun h₁ hns hsb => ⟨hnl.fresh _ hsb, ?_⟩) hk)
  · rw [show scope.names = [(x, .local)] from hx] at hy
    rw [List.mem_singleton.1 hy]
    exact fun z => nomatch z
  · rw [List.mem_singleton.1 hy]
    show scope.names.lookup x = _
    rw [hx, List.lookup_cons_self]
  · have kp : ∀ b o, s.heap.get? b = some o → h₁.get? b = some o := fun b o e => hsb.extBut b o (Nat.ne_of_lt (Heap.lt_size e)) (Heap.get?_push_of_some _ e)
    refine PySem.W.kla_codeExpr (wpAny_Subscript_Constant_late ?_)
    rw [eval_Name _ _ _ hd]
    refine wpAny_bind (wpAny_standAt (wpAny_loadName_local hk ?_ hns (v := .ref t) ?_ ?_))
    · show scope.names.lookup x = _
      rw [hx, List.lookup_cons_self]
    · show List.lookup x [(x, Value.ref t)].reverse = _
      rw [List.reverse_singleton, List.lookup_cons_self]
    · refine wpAny_Constant_int ?_
      obtain ⟨o, ho, hc, n, hdt⟩ := ht
      have ht' : IsTup h₁ t (.int k tk :: rest).toArray := ⟨o, kp _ _ ho, hc, n, hdt⟩
      refine ⟨"tuple", _, slot_tuple_getitem.lookup, ht'.typeIs, ?_⟩
      refine getItem_tuple (j := 0) (x := .int k tk) ht' (by decide) (by decide) ?_ ?_ ?_
      · unfold seqIndex?
        simp
      · simp
      · exact ⟨h₁, _, rfl, kp, .int _ _⟩
theorem refs_ri {zs : List Ri} : ∀ {us : List Value}, Vals (zs.map fun z => V.ref z.1) us → us = zs.map fun z => Value.ref z.1 := by
  induction zs with
  | nil => intro us h; cases h; rfl
  | cons z zs ih =>
    intro us h
    cases h with
    | cons a b =>
      rw [show _ = Value.ref z.1 from a, ih b]
      rfl
def tSortLam (T : List (Addr × Str)) (K : PySem.W.Frag) (te : TE) : TE := fun σ H Q => te σ H fun x H1 => Tabs T H1 ∧ ∃ (a : Addr) (zs : List Ri), x = .ref a ∧ SqL K H1 a (zs.map fun z => V.ref z.1) ∧ (∀ z ∈ zs, H1 z.1 = some (.tup (.int z.2.1 :: z.2.2))) ∧ zs.length ≤ 100000 ∧
  ∀ p H2 (ys : List Ri), ys.Perm zs → (∀ b o, H1 b = some o → (∀ ps, o ≠ .tbl ps) → b ≠ p) → ExtN H1 H2 → Tabs T H2 → H2 p = some (.lst (ys.map fun z => V.ref z.1)) → Q (.ref p) H2
/-- of one value -/
def oneV (B : V → Hp → Prop) : List V → Hp → Prop
  | [x], H => B x H
  | _, _ => False
theorem pe_sortLam {X : Cx} {T : List (Addr × Str)} {c P : Addr} {kk : Nat} {params : Arguments} {scope : Scope} {x : Str} {e : Expr} {te : TE} {p pos lpos kpos p1 p2 p3 : Pos} {j : Nat} (K : PySem.W.Frag) (hr : Room kk X.A) (he : PE X e te) (TB : TabB X.base X.mg c P) (hcode : X.env.code = .ref c) (hmT : (P, X.env.qual ++ "<lambda>") ∈ T)
    (hu : ∀ p ∈ T, p.1 = P → p.2 = X.env.qual ++ "<lambda>") (hm : X.mg "sorted" = none) (hg : Gl X "sorted" := by rfl) (hdef : defaultsOf params X.env = ([], []) := by rfl) (hx : scope.names = [(x, .local)] := by rfl) (hco : scope.isCoroutine = false := by rfl) (hgen : scope.isGenerator = false := by rfl) (hkd : scope.kind = .function := by rfl)
    (hbind : ∀ (q : Str) (pm cv ctv : Value) (t : Addr), bindArgs (PySem.W.kla_fn "<lambda>" q params (.Subscript (.Name x p1) (.Constant (.int 0) j p2) p3) scope [] pm cv ctv) ⟨[.ref t], []⟩ = pure [(x, .ref t)] := by intro _ _ _ _ _; rfl) (hd : (x == ("__debug__" : Str)) = false := by decide)
    (hK : X.K = K := by rfl) (hs0 : starEach [e] X.env = [(false, eval e X.env)] := by rfl)
    (hb0 : backTo pos (starEach [e] X.env) = (false, eval e X.env) :: backTo pos (starEach [] X.env) := by rfl) (hb1 : (backTo pos (starEach [e] X.env)).any (·.1) = false := by rfl) :
    PE X (.Call (.Name "sorted" p) [e] [⟨some "key", .Lambda params (.Subscript (.Name x p1) (.Constant (.int 0) j p2) p3) scope lpos, kpos⟩] pos) (tSortLam T K te) := by
  subst hK
  refine ⟨fun pins s σ H Q I h => ?_⟩
  refine wpAny_Call_Name_kw (ld_blt I hg hm PyProof.Rows.boot_sorted ?_ (by decide) (by decide))
  have ha : PA X [e] (tCons te tNil) := pa_cons he pa_nil hs0
  have h' : tCons te tNil σ H (oneV fun x H1 => Tabs T H1 ∧ ∃ (a : Addr) (zs : List Ri), x = .ref a ∧ SqL X.K H1 a (zs.map fun z => V.ref z.1) ∧ (∀ z ∈ zs, H1 z.1 = some (.tup (.int z.2.1 :: z.2.2))) ∧ zs.length ≤ 100000 ∧
      ∀ p H2 (ys : List Ri), ys.Perm zs → (∀ b o, H1 b = some o → (∀ ps, o ≠ .tbl ps) → b ≠ p) → ExtN H1 H2 → Tabs T H2 → H2 p = some (.lst (ys.map fun z => V.ref z.1)) → Q (.ref p) H2) := h
  have hfree : ∀ y ∈ scope.names, y.2 = .free → ∃ c, X.env.cells.lookup y.1 = some c := fun y hy e => by
    rw [hx, List.mem_singleton] at hy
    rw [hy] at e
    cases e
  have hcl : cloFrom X.env.cells scope.names [] = [] := by
    rw [hx]
    rfl
  refine PyProof.Rows.callWith_kw (thn (ha.run pos pins s σ H _ I h') fun us s1 ⟨vs, H1, I1, r1, q1⟩ => ?_) ?_ ?_ rfl rfl
  · obtain ⟨x1, rfl⟩ : ∃ x1, vs = [x1] := by
      match vs, q1 with
      | [x1], _ => exact ⟨x1, rfl⟩
      | [], q => exact q.elim
      | _ :: _ :: _, q => exact q.elim
    obtain ⟨hT, a, zs, rfl, hS, hz, hl, q⟩ := q1
    obtain ⟨u, rfl, ru⟩ := vals1 r1
    obtain rfl : u = Value.ref a := ru
    show wpAny _ _ (evalAll [do let v ← eval (.Lambda params (.Subscript (.Name x p1) (.Constant (.int 0) j p2) p3) scope lpos) X.env; standAt pos; pure v]) _ _ s1
    refine wpAny_evalAll_cons (wpAny_bind (lam_make2 I1 TB hcode hmT hu hT hdef hfree fun f c' pm ctv H2 s2 I2 eN T2 hf hfn hfr hco' => wpAny_bind (wpAny_standAt (wpAny_pure (wpAny_evalAll_nil ?_)))))
    rw [hcl] at hf
    show wpAny _ _ (call (.builtin "sorted") [.ref a] [(Str.ofString "key", .ref f)]) _ _ _
    have hS2 : SqL X.K H2 a (zs.map fun z => V.ref z.1) := by
      rcases hS with (h | ⟨o, h⟩) | h
      · exact .inl (.inl (eN _ _ h fun _ z => nomatch z))
      · exact .inl (.inr ⟨o, eN _ _ h fun _ z => nomatch z⟩)
      · exact .inr h
    have hz2 : ∀ z ∈ zs, H2 z.1 = some (.tup (.int z.2.1 :: z.2.2)) := fun z hm => eN _ _ (hz z hm) fun _ e => nomatch e
    obtain ⟨its, rv, hpl, _⟩ := I2.list hS2
    have eits := refs_ri rv
    have ee : PySem.W.EachIs (fun (v : Value) (b : Ri) => v = Value.ref b.1) its zs := by
      have := each_map (R := fun (v : Value) (b : Ri) => v = Value.ref b.1) (fun z => Value.ref z.1) id (l := zs) fun z _ => rfl
      rw [List.map_id] at this
      rw [eits]
      exact this
    obtain ⟨⟨oc, vs, tq, hoc, hdc, hvc⟩, _, _⟩ := I2.hok c' _ hco'
    refine PySem.W.sorted_key_data (b := false) (R := fun v b => v = Value.ref b.1) (fun z : Ri => PyData.int z.2.1) hpl.isList ee (PySem.W.AllAlike.of fun _ _ => by rfl) (PySem.W.Sortable.others fun b => ⟨(fun z => nomatch z), fun _ z => nomatch z⟩) (by rw [sizeLine_eq]; omega) (fun z _ => ?_)
      (PyProof.Rows.ksk_s1 _ _) (fun _ => PyProof.Rows.ksk_l1 _ _) (fun _ => PyProof.Rows.ksk_t1 _ _) (fun v z hv hzm h tk kp => ?_) fun out cc h' tk kp hn hat hlen hout => ?_
    · have := hr.units
      show X.A.units + 2 + 0 < cLine
      omega
    · subst hv
      obtain ⟨_, ts, rt, o, ho, hc, n, hdt⟩ := I2.hok z.1 _ (hz2 z hzm)
      cases rt with
      | cons ra rb =>
        obtain ⟨tk', rfl⟩ := ra
        exact lam_first (A := X.A.in1.in1) (s := { s2 with heap := h, toks := tk }) hr.depth (kp _ _ hf) ⟨c', oc, vs, tq, rfl, kp _ _ hoc, hdc, hvc⟩ (I2.nolimit.keeps kp) hco hgen hkd hx (hbind _ _ _ _ _) ⟨o, kp _ _ ho, hc, n, hdt⟩ hd
    · have hpm : (zs.mergeSort (PySem.W.dataLe false fun z : Ri => PyData.int z.2.1)).Perm zs := List.mergeSort_perm _ _
      have eo := each_eq (fun b : Ri => Value.ref b.1) hout
      have hp2 : H2 (s2.heap.objs.size + 1) = none := I2.hok.fresh (Nat.le_succ _)
      refine ⟨.ref (s2.heap.objs.size + 1), _, I2.laid (a := s2.heap.objs.size + 1) (o := .lst ((zs.mergeSort (PySem.W.dataLe false fun z : Ri => PyData.int z.2.1)).map fun z => V.ref z.1)) (t' := tk) kp (Nat.le_succ _) ⟨?_, out, cc, ?_, hat⟩, rfl,
        q _ _ _ hpm (fun b o hb hno => ne_new (eN _ _ hb hno) hp2) (eN.trans (.of (same_upd hp2))) (T2.ext (same_upd hp2)) upd_same⟩
      · rw [List.length_map, hpm.length_eq, sizeLine_eq]
        omega
      · rw [eo]
        exact vals_maps (fun z : Ri => V.ref z.1) (fun z => Value.ref z.1) _ fun z _ => (rfl : RelV (.ref z.1) (.ref z.1))
  · exact hb0
  · exact hb1
end WH
set_option Elab.async false
set_option linter.all false
set_option maxRecDepth 100000
set_option maxHeartbeats 4000000
/-! a list compared with an empty one; items of lists or tuples. -/
namespace WH
open PySem PySem.Spec PyProof.Rows L2
def rEqE (K : PySem.W.Frag) (neg : Bool) : R2 := fun x y H Q => ∃ a b xs, x = .ref a ∧ y = .ref b ∧ SqL K H a xs ∧ SqL K H b [] ∧ Q (.bl (if neg then !xs.isEmpty else xs.isEmpty)) H
theorem eqE {X : Cx} (K : PySem.W.Frag) (hu : X.A.units + 64 < cLine) (h : X.K = K := by rfl) : OpR X (compareOp .Eq) (rEqE K false) := by
  subst h
  intro pins s σ H x y v u Q I rx ry h
  obtain ⟨a, b, xs, rfl, rfl, ha, hb, q⟩ := h
  cases rx
  cases ry
  obtain ⟨its, r1, p1, _⟩ := I.list ha
  obtain ⟨its2, r2, p2, _⟩ := I.list hb
  cases r2
  have hu' : X.A.units < cLine := by omega
  cases xs with
  | nil =>
    cases r1
    exact SeqAt.eq_listAt (e := fun _ => true) p1.isList p2.isList rfl hu' (fun j h1 => by cases h1) ⟨.bl _, H, I, rfl, q⟩
  | cons z xs =>
    cases r1
    exact SeqAt.eq_list_lengthsAt p1.isList p2.isList (by simp) hu' ⟨.bl _, H, I, rfl, q⟩
theorem neE {X : Cx} (K : PySem.W.Frag) (hu : X.A.units + 64 < cLine) (h : X.K = K := by rfl) : OpR X (compareOp .NotEq) (rEqE K true) := by
  subst h
  intro pins s σ H x y v u Q I rx ry h
  obtain ⟨a, b, xs, rfl, rfl, ha, hb, q⟩ := h
  cases rx
  cases ry
  obtain ⟨its, r1, p1, _⟩ := I.list ha
  obtain ⟨its2, r2, p2, _⟩ := I.list hb
  cases r2
  have hu' : X.A.units < cLine := by omega
  cases xs with
  | nil =>
    cases r1
    exact SeqAt.RcNeAt.lists (e := fun _ => true) p1.isList p2.isList rfl hu' (fun j h1 => by cases h1) _ _ _ _ ⟨.bl _, H, I, rfl, q⟩
  | cons z xs =>
    cases r1
    exact SeqAt.RcNeAt.lists_lengths p1.isList p2.isList (by simp) hu' _ _ _ _ ⟨.bl _, H, I, rfl, q⟩
section
variable {X : Cx} (K : PySem.W.Frag)
theorem ixQ (h : X.K = K := by rfl) : IxR X (rIx K) := h ▸ ix_seq
end
end WH
set_option Elab.async false
set_option linter.all false
set_option maxRecDepth 100000
set_option maxHeartbeats 2000000
namespace WH
open PySem PySem.Spec PyProof.Rows L2 WM LamX
/-! ### rows and locks as values -/
def eV : Option Int → V
  | none => .non
  | some i => .int i
def kS : Bool → Str
  | true => "write"
  | false => "read"
def rowV (r : WM.Row) : List V := [.int r.1, eV r.2.1, .str (kS r.2.2)]
def lkV (l : Lk Str) : List V := .str l.1 :: rowV l.2
def rTup {β : Type} (f : β → List V) : Rep β := fun H v b => ∃ a, v = .ref a ∧ H a = some (.tup (f b))
theorem rTup_gr {β : Type} {f : β → List V} : Gr (rTup f) := ⟨fun _ _ _ _ k ⟨a, e, h⟩ => ⟨a, e, k _ _ trivial h⟩, fun _ _ _ _ _ _ hD ⟨a, e, h⟩ => ⟨a, e, by rw [upd_ne (ne_of h hD (fun z => nomatch z))]; exact h⟩⟩
abbrev rRow : Rep WM.Row := rTup rowV
abbrev rLk : Rep (Lk Str) := rTup lkV
/-- a lock, a list or a tuple -/
def rLkA : Rep (Lk Str) := fun H v l => ∃ a, v = .ref a ∧ (H a = some (.tup (lkV l)) ∨ H a = some (.lst (lkV l)))
theorem rLkA_mono : Mono rLkA := fun _ _ _ _ k ⟨a, e, h⟩ => ⟨a, e, h.elim (fun h => .inl (k _ _ trivial h)) fun h => .inr (k _ _ trivial h)⟩
theorem kS_write (k : Bool) : inV (.str "write") [.str (kS k)] = k := by cases k <;> decide +kernel
theorem kS_two (j k : Bool) : inV (.str "write") [.str (kS j), .str (kS k)] = (j || k) := by cases j <;> cases k <;> decide +kernel
theorem kS_inj {j k : Bool} : decide (V.str (kS j) = V.str (kS k)) = decide (j = k) := by cases j <;> cases k <;> decide +kernel
theorem eV_non (e : Option Int) : decide (eV e = .non) = e.isNone := by
  cases e with
  | none => rfl
  | some i => exact decide_eq_false fun z => nomatch z
/-! ### enumerate of a list -/
theorem for_enumL {K : PySem.W.Frag} {a : Addr} {xs : List V} {g : TG} {tb : TS} {D : Ends} {σ : L2.St} {H : Hp} (Pv : Nat → L2.St → Hp → Prop) (h0 : Pv 0 σ H) (hl : ∀ i σ H, i ≤ xs.length → Pv i σ H → SqL K H a xs)
    (hs : ∀ i x σ H T, xs[i]? = some x → Pv i σ H → H T = none → g (.ref T) σ (upd H T (.tup [.int (i : Nat), x])) fun σ2 H2 => tb { D with nx := Pv (i + 1), ct := Pv (i + 1), bk := D.nx } σ2 H2) (hd : ∀ σ H, Pv xs.length σ H → D.nx σ H) :
    ∃ W : Nat → Nat → L2.St → Hp → Prop, (∃ m, W 0 m σ H) ∧ ∀ i m σ H, W i m σ H →
      ((Ite K a).stop i H ∧ D.nx σ H) ∨ ((Ite K a).go i H ∧ ∃ N : L2.St → Hp → Prop, (∀ σ' H', N σ' H' → ∃ m', m' < m ∧ W (i + 1) m' σ' H') ∧ ∀ x H', (Ite K a).yld i H x H' → g x σ H' fun σ2 H2 => tb { D with nx := N, ct := N, bk := D.nx } σ2 H2) := by
  refine ⟨fun i m σ H => m = xs.length - i ∧ i ≤ xs.length ∧ Pv i σ H, ⟨xs.length, by simp, Nat.zero_le _, h0⟩, ?_⟩
  rintro i m σ H ⟨rfl, hi, p⟩
  have q := hl i σ H hi p
  by_cases hlt : i < xs.length
  · refine .inr ⟨⟨xs, _, q, List.getElem?_eq_getElem hlt⟩, Pv (i + 1), fun σ' H' p' => ⟨xs.length - (i + 1), by omega, rfl, hlt, p'⟩, ?_⟩
    rintro x H' ⟨T, y, rfl, hT, rfl, hy⟩
    have e := hy xs q
    exact hs i y σ H T e p hT
  · have e : i = xs.length := by omega
    subst e
    exact .inl ⟨⟨xs, q, Nat.le_refl _⟩, hd σ H p⟩
abbrev s_is_kind : Stmt := topS 24
theorem sc_is_kind : FnScope ["thing"] ["thing"] (defScope s_is_kind) := ⟨rfl, rfl, rfl, by decide +kernel, rfl, by decide +kernel, by decide +kernel⟩
abbrev s_is_range : Stmt := topS 25
theorem sc_is_range : FnScope ["begin", "end"] ["begin", "end"] (defScope s_is_range) := ⟨rfl, rfl, rfl, by decide +kernel, rfl, by decide +kernel, by decide +kernel⟩
abbrev s_is_lock : Stmt := topS 26
theorem sc_is_lock : FnScope ["thing"] ["thing"] (defScope s_is_lock) := ⟨rfl, rfl, rfl, by decide +kernel, rfl, by decide +kernel, by decide +kernel⟩
abbrev s_do_meet : Stmt := topS 27
theorem sc_do_meet : FnScope ["one", "other"] ["one", "other"] (defScope s_do_meet) := ⟨rfl, rfl, rfl, by decide +kernel, rfl, by decide +kernel, by decide +kernel⟩
abbrev s_are_clashing : Stmt := topS 28
theorem sc_are_clashing : FnScope ["one", "other"] ["one", "other"] (defScope s_are_clashing) := ⟨rfl, rfl, rfl, by decide +kernel, rfl, by decide +kernel, by decide +kernel⟩
abbrev s_checked_locks : Stmt := topS 29
theorem sc_checked_locks : FnScope ["locks", "index", "lock"] ["locks"] (defScope s_checked_locks) := ⟨rfl, rfl, rfl, by decide +kernel, rfl, by decide +kernel, by decide +kernel⟩
abbrev s_left_rows : Stmt := topS 30
theorem sc_left_rows : FnScope ["rows", "begin", "end", "found", "first", "last", "kind"] ["rows", "begin", "end"] (defScope s_left_rows) := ⟨rfl, rfl, rfl, by decide +kernel, rfl, by decide +kernel, by decide +kernel⟩
abbrev s_rows_as_locks : Stmt := topS 32
theorem sc_rows_as_locks : FnScope ["rows", "found", "owner", "first", "last", "kind"] ["rows"] (defScope s_rows_as_locks) := ⟨rfl, rfl, rfl, by decide +kernel, rfl, by decide +kernel, by decide +kernel⟩
/-- the tuple KINDS stands at ka -/
structure Ck (K : PySem.W.Frag) (mg : Str → Option Value) (ka : Addr) : Prop where
  gl : mg "KINDS" = some (.ref ka)
  sq : ∀ H, SqT K H ka [.str "read", .str "write"]
theorem pe_KINDS {X : Cx} {ka : Addr} (C : Ck X.K X.mg ka) {pos : Pos} (hg : Gl X "KINDS" := by rfl) : PE X (.Name "KINDS" pos) (tC (.ref ka)) := pe_glob hg C.gl rfl
section
variable {P : Program} {w : World} {K : PySem.W.Frag} {mg : Str → Option Value} {base : Heap} {ka : Addr}
def sp_is_kind : Sp := fun vs H Q _ => ∃ (k : Bool), vs = [.str (kS k)] ∧ ∀ H', Same H H' → Q (.bl true) H'
theorem ok_is_kind {f : Addr} {fd : FuncData} (D : Df K mg "is_kind" s_is_kind ["thing"] f fd) (T : Bl mg) (C : Ck K mg ka) : Dn P w K mg base CX0 1 "is_kind" ["thing"] sp_is_kind := .of D (by
  refine D.fn.ok sc_is_kind (fun vs H Q E h => ?_) (fun cdv A outer s H vs Q E hr h => ?_)
  · obtain ⟨k, rfl, _⟩ := h
    rfl
  · obtain ⟨k, rfl, q⟩ := h
    refine ⟨_, (pss_one (ps_ret (pe_and (pe_callB (isiK K) (by rfl) T.b_isinstance (by decide +kernel) (pa_cons (pv 0) (pa_cons (pe_bltn (v := .ty "str") (by rfl) T.b_str (by decide +kernel) rfl) pa_nil))) (pe_one (pe_cmpR (inSq K) (pv 0) (pe_KINDS C) rfl))))), ?_⟩
    refine ⟨_, rfl, _, _, _, _, true, rfl, .ty _, .base (.str _), kit_ty (by decide +kernel), true, rfl, ?_⟩
    refine iteT ⟨_, rfl, ka, _, rfl, .inr (C.sq _), rfl, by decide +kernel, ?_⟩
    have e : inV (.str (kS k)) [.str "read", .str "write"] = true := by cases k <;> decide +kernel
    rw [if_neg Bool.false_ne_true, e]
    exact q H (Same.refl H))
def rngOk (b : Int) (e : Option Int) : Bool := decide (0 ≤ b) && (match e with | none => true | some z => decide (b < z))
theorem rngOk_iff {b : Int} {e : Option Int} : rngOk b e = true ↔ wfR b e := by
  unfold rngOk
  cases e with
  | none => rw [wfR_none]; simp
  | some z => rw [wfR_some]; simp
def sp_is_range : Sp := fun vs H Q _ => ∃ (b : Int) (e : Option Int), vs = [.int b, eV e] ∧ ∀ H', Same H H' → Q (.bl (rngOk b e)) H'
theorem ok_is_range {f : Addr} {fd : FuncData} (D : Df K mg "is_range" s_is_range ["begin", "end"] f fd) (G_is_integer : Dn P w K mg base CX0 1 "is_integer" ["thing"] (sp_is_integer K)) (G_is_number : Dn P w K mg base CX0 2 "is_number" ["thing"] (sp_is_number K)) : Dn P w K mg base CX0 3 "is_range" ["begin", "end"] sp_is_range := .of D (by
  refine D.fn.ok sc_is_range (fun vs H Q E h => ?_) (fun cdv A outer s H vs Q E hr h => ?_)
  · obtain ⟨k, e, rfl, _⟩ := h
    rfl
  · obtain ⟨b, e, rfl, q⟩ := h
    refine ⟨_, (pss_one (ps_ret (pe_and (pe_cl G_is_number (hr.mono (by decide)) (pa_cons (pv 0) pa_nil)) (pe_one (pe_or (pe_cmpR op_isN (pv 1) (pe_non) (nomark _)) (pe_one (pe_and (pe_cl G_is_integer (hr.mono (by decide)) (pa_cons (pv 1) pa_nil)) (pe_one (pe_cmpR op_gt (pv 1) (pv 0) (nomark _)))))))))), ?_⟩
    refine ⟨_, rfl, _, _, rfl, .inl ⟨b, rfl, rfl⟩, fun H1 s1 => ⟨_, rfl, ?_⟩⟩
    unfold rngOk at q
    by_cases c : decide (0 ≤ b) = true
    · rw [c] at q ⊢
      rw [Bool.true_and] at q
      refine iteT ⟨_, rfl, rfl, _, rfl, ?_⟩
      cases e with
      | none => exact iteT (q H1 s1)
      | some z =>
        refine iteF ⟨_, rfl, _, "int", true, rfl, .base (.int z), int_int, fun H2 s2 => ⟨true, rfl, iteT ⟨_, rfl, _, rfl, _, _, rfl, rfl, q H2 (s1.trans s2)⟩⟩⟩
    · rw [Bool.not_eq_true] at c
      rw [c] at q ⊢
      exact iteF (q H1 s1))
end
end WH
set_option Elab.async false
set_option linter.all false
set_option maxRecDepth 100000
set_option maxHeartbeats 2000000
namespace WH
open PySem PySem.Spec PyProof.Rows L2 WM LamX
section
variable {P : Program} {w : World} {K : PySem.W.Frag} {mg : Str → Option Value} {base : Heap} {ka : Addr}
/-! ### is_lock -/
def wrongLk (H : Hp) (x : V) : Prop := x = .non ∨ (∃ i, x = .int i) ∨ (∃ a xs, x = .ref a ∧ H a = some (.tup xs) ∧ xs.length ≠ 4) ∨ ∃ (a : Addr) (o : Str) (b z : Int) (k : Str), x = .ref a ∧ H a = some (.tup [.str o, .int b, .int z, .str k]) ∧ nameOk o = true ∧ z ≤ b
def lkOk (l : Lk Str) : Prop := nameOk l.1 = true ∧ wfRow l.2
def sp_is_lock : Sp := fun vs H Q _ => ∃ (x : V) (b : Bool), vs = [x] ∧ ((∃ l, rLkA H x l ∧ lkOk l ∧ b = true) ∨ (wrongLk H x ∧ b = false)) ∧ ∀ H', Same H H' → Q (.bl b) H'
theorem rIx_at {K : PySem.W.Frag} {H : Hp} {a : Addr} {xs : List V} {j : Nat} {v : V} {Q : VK} (h : H a = some (.tup xs) ∨ H a = some (.lst xs)) (hv : xs[j]? = some v) (q : Q v H) : rIx K (.ref a) (.int j) H Q := by
  rcases h with h | h
  · exact .inr (.inl ⟨a, xs, j, v, rfl, rfl, SqT.of h, atI_nat hv, q⟩)
  · exact .inl ⟨a, xs, j, v, rfl, rfl, SqL.of h, atI_nat hv, q⟩
theorem ok_is_lock {f : Addr} {fd : FuncData} (D : Df K mg "is_lock" s_is_lock ["thing"] f fd) (T : Bl mg) (G_is_list : Dn P w K mg base CX0 1 "is_list" ["thing"] (sp_is_list K)) (G_is_name : Dn P w K mg base CX0 1 "is_name" ["thing"] sp_is_name) (G_is_range : Dn P w K mg base CX0 3 "is_range" ["begin", "end"] sp_is_range)
    (G_is_kind : Dn P w K mg base CX0 1 "is_kind" ["thing"] sp_is_kind) : Dn P w K mg base CX0 4 "is_lock" ["thing"] sp_is_lock := .of D (by
  refine D.fn.ok sc_is_lock (fun vs H Q E h => ?_) (fun cdv A outer s H vs Q E hr h => ?_)
  · obtain ⟨x, b, rfl, _⟩ := h
    rfl
  · obtain ⟨x, b, rfl, hx, q⟩ := h
    refine ⟨_, (pss_cons (ps_if (PW.pt (pw_or (pt_not (pt_val (pe_cl G_is_list (hr.mono (by decide)) (pa_cons (pv 0) pa_nil)))) (pw_or1 (pt_cmpR op_ne (pe_callB ((lenA K)) (by rfl) T.b_len (by decide +kernel) (pa_cons (pv 0) pa_nil)) (pe_int) (nomark _))))) (pss_one (ps_ret (pe_bl))) pss_nil)
      (pss_one (ps_ret (pe_and (pe_cl G_is_name (hr.mono (by decide)) (pa_cons (pe_ix (ixQ K) (pv 0) (pe_int) (fun _ _ => rfl)) pa_nil)) (pe_and (pe_cl G_is_range (hr.mono (by decide)) (pa_cons (pe_ix (ixQ K) (pv 0) (pe_int) (fun _ _ => rfl)) (pa_cons (pe_ix (ixQ K) (pv 0) (pe_int) (fun _ _ => rfl)) pa_nil))) (pe_one (pe_cl G_is_kind (hr.mono (by decide)) (pa_cons (pe_ix (ixQ K) (pv 0) (pe_int) (fun _ _ => rfl)) pa_nil)))))))), ?_⟩
    have kNo : ∀ (n : String) (b : Bool), x = .non ∨ (∃ i, x = .int i) → b = false → ∃ n, TyX K H x (.type n) ∧ kSeq K n = some false := by
      rintro _ _ (rfl | ⟨i, rfl⟩) _
      · exact ⟨_, .base .non, kSeq_no (by decide +kernel) (by decide +kernel)⟩
      · exact ⟨_, .base (.int i), kSeq_no (by decide +kernel) (by decide +kernel)⟩
    have four : ∀ {a : Addr} {xs : List V}, x = .ref a → (H a = some (.tup xs) ∨ H a = some (.lst xs)) → ∃ n, TyX K H x (.type n) ∧ kSeq K n = some true := by
      rintro a xs rfl (h | h)
      · exact ⟨_, .base (.tup h), kSeq_yes (.inr ⟨by decide +kernel, by decide +kernel⟩)⟩
      · exact ⟨_, .base (.lst h), kSeq_yes (.inl (by decide +kernel))⟩
    have len : ∀ {a : Addr} {xs : List V} {H1 : Hp}, Same H H1 → (H a = some (.tup xs) ∨ H a = some (.lst xs)) → SqL K H1 a xs ∨ SqT K H1 a xs := by
      rintro a xs H1 s1 (h | h)
      · exact .inr (SqT.of (s1 _ _ h))
      · exact .inl (SqL.of (s1 _ _ h))
    rcases hx with ⟨l, ⟨a, rfl, hl⟩, ⟨hn, hw⟩, rfl⟩ | ⟨hx, rfl⟩
    · obtain ⟨n, t1, t2⟩ := four rfl hl
      have hl0 := hl
      rcases hl with hl | hl
      · refine ⟨_, rfl, _, n, true, rfl, t1, t2, fun H1 s1 => ⟨_, rfl, ?_⟩⟩
        refine iteF ⟨_, rfl, a, _, rfl, len s1 hl0, rfl, _, rfl, ?_⟩
        refine iteF ⟨_, rfl, .inr (.inl ⟨_, _, _, _, rfl, rfl, SqT.of (s1 _ _ hl), rfl, ⟨_, rfl, hn, fun H2 s2 => ⟨_, rfl, iteT ?_⟩⟩⟩)⟩
        refine ⟨_, rfl, .inr (.inl ⟨_, _, _, _, rfl, rfl, SqT.of (s1.trans s2 _ _ hl), rfl, ⟨_, rfl, .inr (.inl ⟨_, _, _, _, rfl, rfl, SqT.of (s1.trans s2 _ _ hl), rfl, ⟨_, _, rfl, fun H3 s3 => ⟨_, rfl, ?_⟩⟩⟩)⟩⟩)⟩
        rw [rngOk_iff.2 hw]
        exact iteT ⟨_, rfl, .inr (.inl ⟨_, _, _, _, rfl, rfl, SqT.of (s1.trans (s2.trans s3) _ _ hl), rfl, ⟨_, rfl, fun H4 s4 => q H4 (s1.trans (s2.trans (s3.trans s4)))⟩⟩)⟩
      · refine ⟨_, rfl, _, n, true, rfl, t1, t2, fun H1 s1 => ⟨_, rfl, ?_⟩⟩
        refine iteF ⟨_, rfl, a, _, rfl, len s1 hl0, rfl, _, rfl, ?_⟩
        refine iteF ⟨_, rfl, .inl ⟨_, _, _, _, rfl, rfl, SqL.of (s1 _ _ hl), rfl, ⟨_, rfl, hn, fun H2 s2 => ⟨_, rfl, iteT ?_⟩⟩⟩⟩
        refine ⟨_, rfl, .inl ⟨_, _, _, _, rfl, rfl, SqL.of (s1.trans s2 _ _ hl), rfl, ⟨_, rfl, .inl ⟨_, _, _, _, rfl, rfl, SqL.of (s1.trans s2 _ _ hl), rfl, ⟨_, _, rfl, fun H3 s3 => ⟨_, rfl, ?_⟩⟩⟩⟩⟩⟩
        rw [rngOk_iff.2 hw]
        exact iteT ⟨_, rfl, .inl ⟨_, _, _, _, rfl, rfl, SqL.of (s1.trans (s2.trans s3) _ _ hl), rfl, ⟨_, rfl, fun H4 s4 => q H4 (s1.trans (s2.trans (s3.trans s4)))⟩⟩⟩
    · rcases hx with hx | hx | ⟨a, xs, rfl, hl, hne⟩ | ⟨a, o, bb, z, k, rfl, hl, hn, hw⟩
      · obtain ⟨n, t1, t2⟩ := kNo "" false (.inl hx) rfl
        exact ⟨_, rfl, _, n, false, rfl, t1, t2, fun H1 s1 => ⟨_, rfl, iteT (q H1 s1)⟩⟩
      · obtain ⟨n, t1, t2⟩ := kNo "" false (.inr hx) rfl
        exact ⟨_, rfl, _, n, false, rfl, t1, t2, fun H1 s1 => ⟨_, rfl, iteT (q H1 s1)⟩⟩
      · obtain ⟨n, t1, t2⟩ := four rfl (.inl hl)
        refine ⟨_, rfl, _, n, true, rfl, t1, t2, fun H1 s1 => ⟨_, rfl, ?_⟩⟩
        refine iteF ⟨_, rfl, a, _, rfl, len s1 (.inl hl), rfl, _, rfl, ?_⟩
        have e : (!decide (V.int ((xs.length : Nat) : Int) = V.int 4)) = true := by
          rw [decide_eq_false fun z => hne (by injection z; omega)]
          rfl
        rw [e]
        exact iteT (q H1 s1)
      · obtain ⟨n, t1, t2⟩ := four rfl (.inl hl)
        refine ⟨_, rfl, _, n, true, rfl, t1, t2, fun H1 s1 => ⟨_, rfl, ?_⟩⟩
        refine iteF ⟨_, rfl, a, _, rfl, len s1 (.inl hl), rfl, _, rfl, ?_⟩
        refine iteF ⟨_, rfl, .inr (.inl ⟨_, _, _, _, rfl, rfl, SqT.of (s1 _ _ hl), rfl, ⟨_, rfl, hn, fun H2 s2 => ⟨_, rfl, iteT ?_⟩⟩⟩)⟩
        refine ⟨_, rfl, .inr (.inl ⟨_, _, _, _, rfl, rfl, SqT.of (s1.trans s2 _ _ hl), rfl, ⟨_, rfl, .inr (.inl ⟨_, _, _, _, rfl, rfl, SqT.of (s1.trans s2 _ _ hl), rfl, ⟨bb, some z, rfl, fun H3 s3 => ⟨_, rfl, ?_⟩⟩⟩)⟩⟩)⟩
        have e : rngOk bb (some z) = false := by
          show (decide (0 ≤ bb) && decide (bb < z)) = false
          rw [show decide (bb < z) = false from decide_eq_false (by omega), Bool.and_false]
        rw [e]
        exact iteF (q H3 (s1.trans (s2.trans s3))))
/-! ### do_meet, are_clashing -/
def ltE (b : Int) : Option Int → Bool
  | none => true
  | some z => decide (b < z)
theorem meet_ltE (b : Int) (e : Option Int) (b' : Int) (e' : Option Int) : meetB b e b' e' = (ltE b e' && ltE b' e) := by
  cases e <;> cases e' <;> rfl
def sp_do_meet : Sp := fun vs H Q _ => ∃ (a b : Addr) (l m : Lk Str), vs = [.ref a, .ref b] ∧ H a = some (.tup (lkV l)) ∧ H b = some (.tup (lkV m)) ∧ ∀ H', Same H H' → Q (.bl (meetB l.2.1 l.2.2.1 m.2.1 m.2.2.1)) H'
theorem rIxT_at {K : PySem.W.Frag} {H : Hp} {a : Addr} {xs : List V} {j : Nat} {v : V} {Q : VK} (h : H a = some (.tup xs)) (hv : xs[j]? = some v) (q : Q v H) : rIxT K (.ref a) (.int j) H Q := ⟨a, xs, j, v, rfl, rfl, SqT.of h, atI_nat hv, q⟩
theorem ok_do_meet {f : Addr} {fd : FuncData} (D : Df K mg "do_meet" s_do_meet ["one", "other"] f fd) : Dn P w K mg base CX0 1 "do_meet" ["one", "other"] sp_do_meet := .of D (by
  refine D.fn.ok sc_do_meet (fun vs H Q E h => ?_) (fun cdv A outer s H vs Q E hr h => ?_)
  · obtain ⟨a, b, l, m, rfl, _⟩ := h
    rfl
  · obtain ⟨a, b, ⟨o, b1, e1, k1⟩, ⟨o2, b2, e2, k2⟩, rfl, ha, hb, q⟩ := h
    refine ⟨_, (pss_one (ps_ret (pe_and (pe_or (pe_cmpR op_isN (pe_ix (ixT K) (pv 1) (pe_int) (fun _ _ => rfl)) (pe_non) (nomark _)) (pe_one (pe_cmpR op_lt (pe_ix (ixT K) (pv 0) (pe_int) (fun _ _ => rfl)) (pe_ix (ixT K) (pv 1) (pe_int) (fun _ _ => rfl)) (nomark _)))) (pe_one (pe_or (pe_cmpR op_isN (pe_ix (ixT K) (pv 0) (pe_int) (fun _ _ => rfl)) (pe_non) (nomark _)) (pe_one (pe_cmpR op_lt (pe_ix (ixT K) (pv 1) (pe_int) (fun _ _ => rfl)) (pe_ix (ixT K) (pv 0) (pe_int) (fun _ _ => rfl)) (nomark _)))))))), ?_⟩
    have q : Q (.bl (ltE b1 e2 && ltE b2 e1)) H := by
      rw [← meet_ltE]
      exact q H (Same.refl H)
    have second : ∀ c : Bool, (c = true → Q (.bl (ltE b2 e1)) H) → (c = false → Q (.bl false) H) → if c = true then tOrV (tOp (fun x y H Q => y = .non ∧ Q (.bl (decide (x = .non))) H) (tOp (rIxT K) (tVar 0) (tC (.int 2))) (tC .non)) (tOp (rI0 fun i j => .bl (decide (i < j))) (tOp (rIxT K) (tVar 1) (tC (.int 1))) (tOp (rIxT K) (tVar 0) (tC (.int 2)))) [some (.ref a), some (.ref b)] H Q else Q (.bl false) H := by
      intro c h1 h2
      cases c with
      | false => exact iteF (h2 rfl)
      | true =>
        refine iteT ⟨_, rfl, _, _, _, _, rfl, rfl, SqT.of ha, rfl, ⟨rfl, _, rfl, ?_⟩⟩
        have h1 := h1 rfl
        rw [eV_non]
        cases e1 with
        | none => exact iteT h1
        | some z => exact iteF ⟨_, rfl, _, _, _, _, rfl, rfl, SqT.of hb, rfl, ⟨_, rfl, _, _, _, _, rfl, rfl, SqT.of ha, rfl, ⟨_, _, rfl, rfl, h1⟩⟩⟩
    refine ⟨_, rfl, _, _, _, _, rfl, rfl, SqT.of hb, rfl, ⟨rfl, _, rfl, ?_⟩⟩
    rw [eV_non]
    cases e2 with
    | none =>
      rw [show ltE b1 none = true from rfl, Bool.true_and] at q
      exact iteT ⟨_, rfl, second true (fun _ => q) (fun z => nomatch z)⟩
    | some z =>
      refine iteF ⟨_, rfl, _, _, _, _, rfl, rfl, SqT.of ha, rfl, ⟨_, rfl, _, _, _, _, rfl, rfl, SqT.of hb, rfl, ⟨_, _, rfl, rfl, _, rfl, ?_⟩⟩⟩
      rw [show ltE b1 (some z) = decide (b1 < z) from rfl] at q
      by_cases c : decide (b1 < z) = true
      · rw [c, Bool.true_and] at q
        rw [c]
        exact second true (fun _ => q) (fun z => nomatch z)
      · rw [Bool.not_eq_true] at c
        rw [c, Bool.false_and] at q
        rw [c]
        exact second false (fun z => nomatch z) (fun _ => q))
def sp_are_clashing : Sp := fun vs H Q _ => ∃ (a b : Addr) (l m : Lk Str), vs = [.ref a, .ref b] ∧ H a = some (.tup (lkV l)) ∧ H b = some (.tup (lkV m)) ∧ ∀ H', Same H H' → Q (.bl (clashB l m)) H'
theorem ok_are_clashing {f : Addr} {fd : FuncData} (D : Df K mg "are_clashing" s_are_clashing ["one", "other"] f fd) (G_do_meet : Dn P w K mg base CX0 1 "do_meet" ["one", "other"] sp_do_meet) : Dn P w K mg base CX0 2 "are_clashing" ["one", "other"] sp_are_clashing := .of D (by
  refine D.fn.ok sc_are_clashing (fun vs H Q E h => ?_) (fun cdv A outer s H vs Q E hr h => ?_)
  · obtain ⟨a, b, l, m, rfl, _⟩ := h
    rfl
  · obtain ⟨a, b, l, m, rfl, ha, hb, q⟩ := h
    refine ⟨_, (pss_one (ps_ret (pe_and (pe_cmpR op_ne (pe_ix (ixT K) (pv 0) (pe_int) (fun _ _ => rfl)) (pe_ix (ixT K) (pv 1) (pe_int) (fun _ _ => rfl)) (nomark _)) (pe_and (pe_cmpR (inSq K) (pe_str) (pe_tup (pa_cons (pe_ix (ixT K) (pv 0) (pe_int) (fun _ _ => rfl)) (pa_cons (pe_ix (ixT K) (pv 1) (pe_int) (fun _ _ => rfl)) pa_nil))) rfl) (pe_one (pe_cl G_do_meet (hr.mono (by decide)) (pa_cons (pv 0) (pa_cons (pv 1) pa_nil)))))))), ?_⟩
    unfold clashB at q
    refine ⟨_, rfl, _, _, _, _, rfl, rfl, SqT.of ha, rfl, ⟨_, rfl, _, _, _, _, rfl, rfl, SqT.of hb, rfl, ⟨rfl, _, rfl, ?_⟩⟩⟩
    by_cases c : l.1 = m.1
    · have e : (!decide (V.str l.1 = V.str m.1)) = false := by rw [c]; simp
      rw [e]
      refine iteF ?_
      have := q H (Same.refl H)
      rw [show decide (l.1 ≠ m.1) = false from decide_eq_false (fun z => z c), Bool.false_and, Bool.false_and] at this
      exact this
    · have e : (!decide (V.str l.1 = V.str m.1)) = true := by
        rw [decide_eq_false fun z => c (by injection z)]
        rfl
      rw [e]
      rw [show decide (l.1 ≠ m.1) = true from decide_eq_true c, Bool.true_and] at q
      refine iteT ⟨_, rfl, _, _, _, _, rfl, rfl, SqT.of ha, rfl, ⟨_, rfl, _, _, _, _, rfl, rfl, SqT.of hb, rfl, ⟨sz2, fun p hp => ?_⟩⟩⟩
      refine ⟨p, _, rfl, .inr (SqT.of upd_same), rfl, rfl, _, rfl, ?_⟩
      rw [if_neg Bool.false_ne_true, kS_two]
      by_cases c2 : (l.2.2.2 || m.2.2.2) = true
      · rw [c2]
        rw [c2, Bool.true_and] at q
        exact iteT ⟨_, rfl, _, rfl, a, b, l, m, rfl, same_upd hp _ _ ha, same_upd hp _ _ hb, fun H' s' => q H' ((same_upd hp).trans s')⟩
      · rw [Bool.not_eq_true] at c2
        rw [c2]
        rw [c2, Bool.false_and] at q
        exact iteF (q _ (same_upd hp)))
end
end WH
set_option Elab.async false
set_option linter.all false
set_option maxRecDepth 100000
set_option maxHeartbeats 2000000
namespace WH
open PySem PySem.Spec PyProof.Rows L2 WM LamX
section
variable {P : Program} {w : World} {K : PySem.W.Frag} {mg : Str → Option Value} {base : Heap} {ka : Addr}
/-! ### checked_locks -/
def sp_checked_locks (K : PySem.W.Frag) : Sp := fun vs H Q _ => ∃ (a : Addr) (xs : List V) (ls : List (Lk Str)), vs = [.ref a] ∧ H a = some (.lst xs) ∧ Paired (rLk H) xs ls ∧ ls.length ≤ 100000 ∧ (∀ l ∈ ls, lkOk l) ∧
  ∀ p H' ws, H p = none → Same H H' → H' p = some (.lst ws) → Paired (rLk H') ws ls → Q (.ref p) H'
theorem rLk_A {H : Hp} {v : V} {l : Lk Str} (h : rLk H v l) : rLkA H v l := let ⟨a, e, h⟩ := h; ⟨a, e, .inl h⟩
theorem ok_checked_locks {f : Addr} {fd : FuncData} (D : Df K mg "checked_locks" s_checked_locks ["locks"] f fd) (T : Bl mg) (G_is_list : Dn P w K mg base CX0 1 "is_list" ["thing"] (sp_is_list K)) (G_is_lock : Dn P w K mg base CX0 4 "is_lock" ["thing"] sp_is_lock) : Dn P w K mg base CX0 5 "checked_locks" ["locks"] (sp_checked_locks K) := .of D (by
  refine D.fn.ok sc_checked_locks (fun vs H Q E h => ?_) (fun cdv A outer s H vs Q E hr h => ?_)
  · obtain ⟨a, xs, ls, rfl, _⟩ := h
    rfl
  · obtain ⟨a, xs, ls, rfl, ha, hp, hz, hok, q⟩ := h
    refine ⟨_, (pss_cons (ps_if (pt_not (pt_val (pe_cl G_is_list (hr.mono (by decide)) (pa_cons (pv 0) pa_nil)))) (pss_one (ps_never)) pss_nil)
      (pss_cons (ps_for PassesOwn.never rfl (pi_enum (by rfl) T.b_enumerate (pa_cons (pv 0) pa_nil)) (tupG K (n := 2) rfl (pgs_cons (pg_name (i := 1) sc_checked_locks.nd rfl (Or.inl rfl)) (pgs_cons (pg_name (i := 2) sc_checked_locks.nd rfl (Or.inl rfl)) pgs_nil)))
        (pss_one (ps_if (pt_not (pt_val (pe_cl G_is_lock (hr.mono (by decide)) (pa_cons (pv 2) pa_nil)))) (pss_one (ps_never)) pss_nil)))
      (pss_one (ps_ret (pe_lc (own := [("lock", 2)]) rfl sc_checked_locks.nd (pil K (pv 0)) (blkOk_by (N := ["locks", "index", "lock"]) (sc := defScope s_checked_locks) (by decide +kernel)) (fun _ _ _ _ _ => pg_name (i := 2) sc_checked_locks.nd rfl (Or.inl rfl)) (fun _ _ _ _ _ => pts_nil) (fun _ _ _ _ _ => pe_callTy (tupOf K) (by rfl) T.b_tuple (by decide +kernel) (pa_cons (pv 2) pa_nil))))))), ?_⟩
    refine ⟨_, rfl, _, "list", true, rfl, .base (.lst ha), kSeq_yes (.inl (by decide +kernel)), fun H1 s1 => ⟨_, rfl, iteF ?_⟩⟩
    refine ⟨_, rfl, a, xs, rfl, SqL.of (s1 _ _ ha), for_enumL (K := K) (a := a) (xs := xs) (fun i σ H2 => (∃ v v', σ = [some (.ref a), v, v']) ∧ Same H H2) ⟨⟨none, none, rfl⟩, s1⟩ (fun i σ H2 _ ⟨_, s2⟩ => SqL.of (s2 _ _ ha)) ?_ ?_⟩
    · rintro i x σ H2 t hi ⟨⟨v, v', rfl⟩, s2⟩ ht
      obtain ⟨l, hl, hR⟩ := paired_get hp hi
      have s3 := s2.trans (same_upd (o := .tup [.int (i : Nat), x]) ht)
      refine ⟨t, _, rfl, SqT.of upd_same, rfl, _, _, rfl, _, _, rfl, rfl, ?_⟩
      refine ⟨_, rfl, x, true, rfl, .inl ⟨l, rLk_A (rTup_gr.mono _ _ _ _ (Kg.of s3) hR), hok l (List.mem_of_getElem? hl), rfl⟩, fun H3 s4 => ⟨_, rfl, iteF ?_⟩⟩
      exact ⟨⟨_, _, rfl⟩, s3.trans s4⟩
    · rintro σ H2 ⟨⟨v, v', rfl⟩, s2⟩
      refine ⟨_, rfl, a, rfl, ⟨_, SqL.of (s2 _ _ ha)⟩, fun D hD => lc_L (R := rLk) (S := rLk) (as := ls) rTup_gr.mono rTup_gr some hD (SqL.of (s2 _ _ ha)) (rTup_gr.mono.all (Kg.of s2) hp) (by rw [hp.length]; exact hz) (fun i x l hl H3 s3 hx N Z hN hZ => ?_) fun H3 ws s3 hw hwp => ?_⟩
      · obtain ⟨b, rfl, hb⟩ := hx
        exact ⟨rfl, ty ⟨_, rfl, b, _, rfl, .inr ⟨SqT.of hb, hN _ _ _ (Same.refl _) rfl ⟨b, rfl, hb⟩⟩⟩⟩
      · rw [List.filterMap_some] at hwp
        exact q D H3 ws (Same.none s2 hD) (s2.trans s3) hw hwp)
theorem len_flatR {α β : Type} (f : α → List β) (m : Nat) (l : List α) (h : ∀ x ∈ l, (f x).length ≤ m) : (l.flatMap f).length ≤ l.length * m := len_flat f m l h
/-! ### left_rows -/
def sp_left_rows (K : PySem.W.Frag) : Sp := fun vs H Q _ => ∃ (a : Addr) (xs : List V) (rs : List WM.Row) (b : Int) (e : Option Int), vs = [.ref a, .int b, eV e] ∧ SqL K H a xs ∧ Paired (rRow H) xs rs ∧ rs.length ≤ 100000 ∧
  ∀ p H' ws, H p = none → Same H H' → H' p = some (.lst ws) → Paired (rRow H') ws (leftRows rs b e) → Q (.ref p) H'
def lrIf (K : PySem.W.Frag) : TS := tIfS
          (tAnd (tTest (tOp (fun x y H Q => y = V.non ∧ Q (V.bl !decide (x = V.non)) H) (tVar 2) (tC V.non)))
            (tOr (tTest (tOp (fun x y H Q => y = V.non ∧ Q (V.bl (decide (x = V.non))) H) (tVar 5) (tC V.non)))
              (tTest (tOp (rI0 fun i j => V.bl (decide (j < i))) (tVar 5) (tVar 2)))))
          (tDrop
            (tBM K "list" rAppend (tVar 3)
              (tCons
                (tTup
                  (tCons
                    (tCB (fun xs H Q => ∃ i j, xs = [V.int i, V.int j] ∧ Q (V.int (if j > i then j else i)) H)
                      (tCons (tVar 4) (tCons (tVar 2) tNil)))
                    (tCons (tVar 5) (tCons (tVar 6) tNil))))
                tNil)))
          tNext
theorem sz3 : 3 ≤ sizeLine := by rw [sizeLine_eq]; decide
def lrTwo (e : Option Int) (f : Int) (l : Option Int) (k : Bool) : List WM.Row := match e with
  | none => []
  | some z => if pastEnd l z = true then [(max f z, l, k)] else []
theorem leftOne_eq (b : Int) (e : Option Int) (f : Int) (l : Option Int) (k : Bool) : leftOne b e (f, l, k) = (if f < b then [(f, some (cutEnd l b), k)] else []) ++ lrTwo e f l k := rfl
theorem ok_left_rows {f : Addr} {fd : FuncData} (D : Df K mg "left_rows" s_left_rows ["rows", "begin", "end"] f fd) (T : Bl mg) : Dn P w K mg base CX0 1 "left_rows" ["rows", "begin", "end"] (sp_left_rows K) := .of D (by
  refine D.fn.ok sc_left_rows (fun vs H Q E h => ?_) (fun cdv A outer s H vs Q E hr h => ?_)
  · obtain ⟨a, xs, rs, b, e, rfl, _⟩ := h
    rfl
  · obtain ⟨a, xs, rs, b, e, rfl, ha, hp, hz, q⟩ := h
    refine ⟨_, (pss_cons (ps_set (i := 3) sc_left_rows.nd rfl (Or.inl rfl) (pe_lst pa_nil))
      (pss_cons (ps_for PassesOwn.never rfl (pil K (pv 0)) (tupG K (n := 3) rfl (pgs_cons (pg_name (i := 4) sc_left_rows.nd rfl (Or.inl rfl)) (pgs_cons (pg_name (i := 5) sc_left_rows.nd rfl (Or.inl rfl)) (pgs_cons (pg_name (i := 6) sc_left_rows.nd rfl (Or.inl rfl)) pgs_nil))))
        (pss_cons (ps_if (pt_cmpR op_lt (pv 4) (pv 1) (nomark _)) (pss_one (ps_expr (bmK K PySem.F.plainAttrs_list PySem.F.slot_list_append PySem.F.type_list_append mt_append (pv 3) (pa_cons (pe_tup (pa_cons (pv 4) (pa_cons (pe_ifExp (PW.pt (pw_and (pt_cmpR op_notN (pv 5) (pe_non) (nomark _)) (pw_and1 (pt_cmpR op_lt (pv 5) (pv 1) (nomark _))))) (pv 5) (pv 1)) (pa_cons (pv 6) pa_nil)))) pa_nil)))) pss_nil)
        (pss_one (ps_if (PW.pt (pw_and (pt_cmpR op_notN (pv 2) (pe_non) (nomark _)) (pw_and1 (PW.pt (pw_or (pt_cmpR op_isN (pv 5) (pe_non) (nomark _)) (pw_or1 (pt_cmpR op_gt (pv 5) (pv 2) (nomark _)))))))) (pss_one (ps_expr (bmK K PySem.F.plainAttrs_list PySem.F.slot_list_append PySem.F.type_list_append mt_append (pv 3) (pa_cons (pe_tup (pa_cons (pe_callB (call_max2 rfl) (by rfl) T.b_max (by decide +kernel) (pa_cons (pv 4) (pa_cons (pv 2) pa_nil))) (pa_cons (pv 5) (pa_cons (pv 6) pa_nil)))) pa_nil)))) pss_nil))))
      (pss_one (ps_ret (pv 3))))), ?_⟩
    refine ⟨Nat.zero_le _, fun F hF => ?_⟩
    refine ⟨_, rfl, a, rfl, ⟨_, (Kg.of (same_upd hF)).seq ha⟩, for_list (K := K) (a := a) (xs := xs) (fun i σ H2 => (∃ v v' v'', σ = [some (.ref a), some (.int b), some (eV e), some (.ref F), v, v', v'']) ∧ Same H H2 ∧ ∃ ys, H2 F = some (.lst ys) ∧ Paired (rRow H2) ys (leftRows (rs.take i) b e))
      ⟨⟨none, none, none, rfl⟩, same_upd hF, [], upd_same, .nil⟩ (fun i σ H2 _ ⟨_, s2, _⟩ => (Kg.of s2).seq ha) ?_ ?_⟩
    · rintro i y σ H2 hi ⟨⟨v, v', v'', rfl⟩, s2, ys, hy, hyp⟩
      obtain ⟨⟨f, l, k⟩, hr', t, rfl, ht⟩ := paired_get hp hi
      refine ⟨t, _, rfl, SqT.of (s2 _ _ ht), rfl, _, _, rfl, _, _, rfl, _, _, rfl, rfl, ?_⟩
      have ht2 := s2 _ _ ht
      have hyl : ys.length ≤ 200000 := by
        rw [hyp.length]
        have := len_flatR (leftOne b e) 2 (rs.take i) fun r _ => leftOne_len
        have h2 : (rs.take i).length ≤ 100000 := by rw [List.length_take]; omega
        show ((rs.take i).flatMap (leftOne b e)).length ≤ _
        omega
      have est : leftRows (rs.take (i + 1)) b e = leftRows (rs.take i) b e ++ leftOne b e (f, l, k) := by
        unfold leftRows
        rw [List.take_add_one, hr', Option.toList_some, List.flatMap_append, List.flatMap_singleton]
      -- the second part
      have mid : ∀ (Dd : Ends) (p1 : List WM.Row) (zs : List V) (H3 : Hp), Same H H3 → H3 F = some (.lst zs) → Paired (rRow H3) zs (leftRows (rs.take i) b e ++ p1) → p1.length ≤ 1 →
          (∀ H4 ws, Same H H4 → H4 F = some (.lst ws) → Paired (rRow H4) ws (leftRows (rs.take i) b e ++ (p1 ++ lrTwo e f l k)) → Dd.nx [some (.ref a), some (.int b), some (eV e), some (.ref F), some (.int f), some (eV l), some (.str (kS k))] H4) →
          lrIf K Dd [some (.ref a), some (.int b), some (eV e), some (.ref F), some (.int f), some (eV l), some (.str (kS k))] H3 := by
        intro Dd p1 zs H3 s3 hz3 hzp hp1 nx
        have hzl : zs.length ≤ 200001 := by
          rw [hzp.length, List.length_append, ← hyp.length]
          omega
        refine ⟨_, rfl, rfl, _, rfl, ?_⟩
        rw [eV_non]
        cases e with
        | none =>
          refine iteF ?_
          refine iteF (nx H3 zs s3 hz3 ?_)
          rw [show lrTwo none f l k = [] from rfl, List.append_nil]
          exact hzp
        | some z =>
          refine iteT ⟨_, rfl, rfl, _, rfl, ?_⟩
          rw [eV_non]
          have app : tDrop (tBM K "list" rAppend (tVar 3) (tCons (tTup (tCons (tCB (fun xs H Q => ∃ i j, xs = [V.int i, V.int j] ∧ Q (V.int (if j > i then j else i)) H) (tCons (tVar 4) (tCons (tVar 2) tNil))) (tCons (tVar 5) (tCons (tVar 6) tNil)))) tNil)) Dd
              [some (.ref a), some (.int b), some (eV (some z)), some (.ref F), some (.int f), some (eV l), some (.str (kS k))] H3 ∨ pastEnd l z = false := by
            by_cases c : pastEnd l z = true
            · refine .inl ⟨_, rfl, .inl ⟨rfl, _, SqL.of hz3⟩, ?_⟩
              refine ⟨_, rfl, _, rfl, f, z, rfl, _, rfl, _, rfl, sz3, fun p hp' => ?_⟩
              have hpF : F ≠ p := fun e => by rw [← e, hz3] at hp'; cases hp'
              have hz4 : upd H3 p (.tup [.int (if z > f then z else f), eV l, .str (kS k)]) F = some (.lst zs) := by rw [upd_ne hpF]; exact hz3
              refine ⟨F, zs, _, rfl, rfl, hz4, by rw [sizeLine_eq]; omega, ?_⟩
              refine nx _ _ (Same.own (s3.trans (same_upd hp')) hF) upd_same ?_
              rw [show lrTwo (some z) f l k = [(max f z, l, k)] from if_pos c, ← List.append_assoc]
              refine Paired.app (rTup_gr.fl.all hz4 (rTup_gr.mono.all (Kg.of (same_upd hp')) hzp)) (.cons ⟨p, rfl, ?_⟩ .nil)
              rw [upd_ne hpF.symm, upd_same]
              have em : (if z > f then z else f) = max f z := by split <;> omega
              rw [em]
              rfl
            · exact .inr (by simpa using c)
          have skip : pastEnd l z = false → Dd.nx [some (.ref a), some (.int b), some (eV (some z)), some (.ref F), some (.int f), some (eV l), some (.str (kS k))] H3 := fun c => nx H3 zs s3 hz3 (by
            rw [show lrTwo (some z) f l k = [] from if_neg (by rw [c]; exact Bool.false_ne_true), List.append_nil]
            exact hzp)
          cases l with
          | none =>
            refine iteT (iteT ?_)
            rcases app with h | h
            · exact h
            · cases h
          | some y =>
            refine iteF ⟨_, rfl, _, rfl, _, _, rfl, rfl, _, rfl, ?_⟩
            rcases app with h | h
            · by_cases c : decide (z < y) = true
              · rw [c]; exact iteT h
              · rw [Bool.not_eq_true] at c
                rw [c]
                exact iteF (skip c)
            · have c : decide (z < y) = false := h
              rw [c]
              exact iteF (skip h)
      refine ⟨_, rfl, _, rfl, _, _, rfl, rfl, _, rfl, ?_⟩
      have fin : ∀ (p1 : List WM.Row) (zs : List V) (H3 : Hp), p1 = (if f < b then [(f, some (cutEnd l b), k)] else []) → Same H H3 → H3 F = some (.lst zs) → Paired (rRow H3) zs (leftRows (rs.take i) b e ++ p1) → lrIf K _ [some (.ref a), some (.int b), some (eV e), some (.ref F), some (.int f), some (eV l), some (.str (kS k))] H3 := fun p1 zs H3 e1 s3 hz3 hzp =>
        mid { nx := fun σ H2 => (∃ v v' v'', σ = [some (.ref a), some (.int b), some (eV e), some (.ref F), v, v', v'']) ∧ Same H H2 ∧ ∃ ys, H2 F = some (.lst ys) ∧ Paired (rRow H2) ys (leftRows (rs.take (i + 1)) b e), ct := fun σ H2 => (∃ v v' v'', σ = [some (.ref a), some (.int b), some (eV e), some (.ref F), v, v', v'']) ∧ Same H H2 ∧ ∃ ys, H2 F = some (.lst ys) ∧ Paired (rRow H2) ys (leftRows (rs.take (i + 1)) b e), rt := Q, bk := tRet (tVar 3) { nx := fun x H' => Q V.non H', rt := Q } } p1 zs H3 s3 hz3 hzp (by rw [e1]; split <;> simp) fun H4 ws s4 hw hwp => ⟨⟨_, _, _, rfl⟩, s4, ws, hw, by
          rw [est, leftOne_eq, ← e1]
          exact hwp⟩
      by_cases c : f < b
      · rw [show decide (f < b) = true from decide_eq_true c]
        refine iteT ⟨_, rfl, .inl ⟨rfl, _, SqL.of hy⟩, ?_⟩
        have put : ∀ (x : Int), x = cutEnd l b → tTup (fun σ H Q => Q [V.int f, V.int x, V.str (kS k)] H) [some (.ref a), some (.int b), some (eV e), some (.ref F), some (.int f), some (eV l), some (.str (kS k))] H2 (fun y H1 => rAppend (.ref F) [y] H1 fun _ H1 => lrIf K { nx := fun σ H2 => (∃ v v' v'', σ = [some (.ref a), some (.int b), some (eV e), some (.ref F), v, v', v'']) ∧ Same H H2 ∧ ∃ ys, H2 F = some (.lst ys) ∧ Paired (rRow H2) ys (leftRows (rs.take (i + 1)) b e), ct := fun σ H2 => (∃ v v' v'', σ = [some (.ref a), some (.int b), some (eV e), some (.ref F), v, v', v'']) ∧ Same H H2 ∧ ∃ ys, H2 F = some (.lst ys) ∧ Paired (rRow H2) ys (leftRows (rs.take (i + 1)) b e), rt := Q, bk := tRet (tVar 3) { nx := fun x H' => Q V.non H', rt := Q } } [some (.ref a), some (.int b), some (eV e), some (.ref F), some (.int f), some (eV l), some (.str (kS k))] H1) := by
          intro x ex
          refine ⟨sz3, fun p hp' => ?_⟩
          have hpF : F ≠ p := fun e => by rw [← e, hy] at hp'; cases hp'
          have hz4 : upd H2 p (.tup [.int f, .int x, .str (kS k)]) F = some (.lst ys) := by rw [upd_ne hpF]; exact hy
          refine ⟨F, ys, _, rfl, rfl, hz4, by rw [sizeLine_eq]; omega, fin _ _ _ (if_pos c).symm (Same.own (s2.trans (same_upd hp')) hF) upd_same ?_⟩
          refine Paired.app (rTup_gr.fl.all hz4 (rTup_gr.mono.all (Kg.of (same_upd hp')) hyp)) (.cons ⟨p, rfl, ?_⟩ .nil)
          rw [upd_ne hpF.symm, upd_same, ex]
          rfl
        refine ⟨_, rfl, _, rfl, rfl, _, rfl, ?_⟩
        rw [eV_non]
        cases l with
        | none => exact iteF (iteF ⟨_, rfl, _, rfl, put b rfl⟩)
        | some y =>
          refine iteT ⟨_, rfl, _, rfl, _, _, rfl, rfl, _, rfl, ?_⟩
          by_cases c2 : y < b
          · rw [show decide (y < b) = true from decide_eq_true c2]
            exact iteT ⟨_, rfl, _, rfl, put y (if_pos c2).symm⟩
          · rw [show decide (y < b) = false from decide_eq_false c2]
            exact iteF ⟨_, rfl, _, rfl, put b (if_neg c2).symm⟩
      · rw [show decide (f < b) = false from decide_eq_false c]
        exact iteF (fin [] ys H2 (if_neg c).symm s2 hy (by rw [List.append_nil]; exact hyp))
    · rintro σ H2 ⟨⟨v, v', v'', rfl⟩, s2, ys, hy, hyp⟩
      rw [hp.length, List.take_length] at hyp
      exact ⟨_, rfl, q F H2 ys hF s2 hy hyp⟩)
end
end WH
set_option Elab.async false
set_option linter.all false
set_option maxRecDepth 100000
set_option maxHeartbeats 2000000
namespace WH
open PySem PySem.Spec PyProof.Rows L2 WM LamX
/-! ### a dict: owner → list of rows -/
def KvOk (H : Hp) (kv : Key × V) (e : Str × List WM.Row) : Prop := kv.1 = Sum.inr e.1 ∧ Ls rRow H kv.2 e.2
theorem KvOk.kg {H H' : Hp} {kv : Key × V} {e : Str × List WM.Row} (k : Kg H H') (h : KvOk H kv e) : KvOk H' kv e := ⟨h.1, Ls_mono rTup_gr.mono _ _ _ _ k h.2⟩
def TbAt (H : Hp) (d : Addr) (tb : Tb Str) : Prop := ∃ kvs, H d = some (.dK kvs) ∧ Paired (KvOk H) kvs tb
theorem TbAt.kg {H H' : Hp} {d : Addr} {tb : Tb Str} (k : Kg H H') : TbAt H d tb → TbAt H' d tb := fun ⟨kvs, h, p⟩ => ⟨kvs, k _ _ trivial h, Paired.mapP p fun _ _ => KvOk.kg k⟩
theorem kvs_keys {H : Hp} : ∀ {kvs : List (Key × V)} {tb : Tb Str}, Paired (KvOk H) kvs tb → kvs.map (·.1) = (tb.map (·.1)).map Sum.inr
  | _, _, .nil => rfl
  | _, _, .cons h t => by
    rw [List.map_cons, List.map_cons, List.map_cons, h.1, kvs_keys t]
theorem valV_cons {κ : Type} [DecidableEq κ] (k k' : κ) (v : V) (kvs : List (κ × V)) : valV ((k, v) :: kvs) k' = if k = k' then some v else valV kvs k' := by
  unfold valV
  rw [List.find?_cons]
  by_cases c : k = k'
  · simp [c]
  · simp [c]
theorem tb_val {H : Hp} {o : Str} : ∀ {kvs : List (Key × V)} {tb : Tb Str}, Paired (KvOk H) kvs tb → (o ∈ tb.map (·.1) → ∃ v, valV kvs (Sum.inr o) = some v ∧ Ls rRow H v (getT tb o)) ∧ (o ∉ tb.map (·.1) → valV kvs (Sum.inr o) = none ∧ getT tb o = [])
  | _, _, .nil => ⟨fun h => (by cases h), fun _ => ⟨rfl, rfl⟩⟩
  | _, _, .cons (a := kv) (b := e) (l₁ := kvs) (l₂ := tb) h t => by
    obtain ⟨k, v⟩ := kv
    obtain ⟨o', rows⟩ := e
    obtain ⟨h1, h2⟩ := h
    have h1 : k = Sum.inr o' := h1
    subst h1
    obtain ⟨i1, i2⟩ := tb_val (o := o) t
    rw [valV_cons, getT_cons, List.map_cons, List.mem_cons]
    by_cases c : o' = o
    · subst c
      rw [if_pos rfl, if_pos rfl]
      exact ⟨fun _ => ⟨v, rfl, h2⟩, fun z => absurd (.inl rfl) z⟩
    · rw [if_neg fun z => c (Sum.inr.inj z), if_neg c]
      exact ⟨fun z => i1 (z.resolve_left fun q => c q.symm), fun z => i2 fun q => z (.inr q)⟩
section
variable {P : Program} {w : World} {K : PySem.W.Frag} {mg : Str → Option Value} {base : Heap} {ka : Addr}
def sp_rows_as_locks (K : PySem.W.Frag) : Sp := fun vs H Q _ => ∃ (d : Addr) (tb : Tb Str), vs = [.ref d] ∧ TbAt H d tb ∧ (tb.map (·.1)).Nodup ∧ tb.length < 64 ∧ total tb ≤ 100000 ∧
  ∀ p H' ws owners, H p = none → Same H H' → H' p = some (.lst ws) → owners.Perm (tb.map (·.1)) → Paired (rLk H') ws (tlOf tb owners) → Q (.ref p) H'
theorem total_take {tb : Tb Str} (hn : (tb.map (·.1)).Nodup) {owners : List Str} (hp : owners.Perm (tb.map (·.1))) (i : Nat) : (tlOf tb (owners.take i)).length ≤ total tb := by
  rw [← len_tlOf hn hp]
  conv => rhs; rw [← List.take_append_drop i owners]
  unfold tlOf
  rw [List.flatMap_append, List.length_append]
  omega
theorem sz4 : 4 ≤ sizeLine := by rw [sizeLine_eq]; decide
theorem len_get {tb : Tb Str} (hn : (tb.map (·.1)).Nodup) {o : Str} (ho : o ∈ tb.map (·.1)) : (getT tb o).length ≤ total tb := by
  rw [← len_tlOf hn (List.Perm.refl _)]
  unfold tlOf
  obtain ⟨a, b, e⟩ := List.append_of_mem ho
  rw [e, List.flatMap_append, List.flatMap_cons]
  simp only [List.length_append, List.length_map]
  omega
theorem ok_rows_as_locks {f : Addr} {fd : FuncData} (D : Df K mg "rows_as_locks" s_rows_as_locks ["rows"] f fd) (T : Bl mg) : Dn P w K mg base CX0 1 "rows_as_locks" ["rows"] (sp_rows_as_locks K) := .of D (by
  refine D.fn.ok sc_rows_as_locks (fun vs H Q E h => ?_) (fun cdv A outer s H vs Q E hr h => ?_)
  · obtain ⟨d, tb, rfl, _⟩ := h
    rfl
  · obtain ⟨d, tb, rfl, htb, hn, hl, ht, q⟩ := h
    have hu := hu_of hr
    refine ⟨_, (pss_cons (ps_set (i := 1) sc_rows_as_locks.nd rfl (Or.inl rfl) (pe_lst pa_nil))
      (pss_cons (ps_for PassesOwn.never rfl (pil K (pe_callB ((call_sortedD rfl)) (by rfl) T.b_sorted (by decide +kernel) (pa_cons (pv 0) pa_nil))) (pg_name (i := 2) sc_rows_as_locks.nd rfl (Or.inr rfl))
        (pss_one (ps_expr (bmK K PySem.F.plainAttrs_list PySem.F.slot_list_extend PySem.F.type_list_extend mt_extend (pv 1) (pa_cons (pe_lc (own := [("first", 3), ("last", 4), ("kind", 5)]) rfl sc_rows_as_locks.nd (pil K (pe_dget hu (pv 0) (pv 2) (fun _ _ => rfl))) (blkOk_by (N := ["rows", "found", "owner", "first", "last", "kind"]) (sc := defScope s_rows_as_locks) (by decide +kernel)) (fun _ _ _ _ _ => tupG K (n := 3) rfl (pgs_cons (pg_name (i := 3) sc_rows_as_locks.nd rfl (Or.inl rfl)) (pgs_cons (pg_name (i := 4) sc_rows_as_locks.nd rfl (Or.inl rfl)) (pgs_cons (pg_name (i := 5) sc_rows_as_locks.nd rfl (Or.inl rfl)) pgs_nil)))) (fun _ _ _ _ _ => pts_nil) (fun _ _ _ _ _ => pe_tup (pa_cons (pv 2) (pa_cons (pv 3) (pa_cons (pv 4) (pa_cons (pv 5) pa_nil)))))) pa_nil)))))
      (pss_one (ps_ret (pv 1))))), ?_⟩
    refine ⟨Nat.zero_le _, fun F hF => ?_⟩
    obtain ⟨kvs, hd, hkv⟩ := htb
    refine ⟨_, rfl, d, kvs, tb.map (·.1), rfl, .inl (same_upd hF _ _ hd), kvs_keys hkv, by rw [List.length_map]; exact hl, fun os p hperm hsort hp => ?_⟩
    have hFp : F ≠ p := fun e => by rw [← e, upd_same] at hp; cases hp
    have s1 : Same H (upd (upd H F (.lst [])) p (.lst (os.map V.str))) := (same_upd hF).trans (same_upd hp)
    refine ⟨p, rfl, ⟨_, SqL.of upd_same⟩, for_list (K := K) (a := p) (xs := os.map V.str) (fun i σ H2 => (∃ v2 v3 v4 v5, σ = [some (.ref d), some (.ref F), v2, v3, v4, v5]) ∧ Same H H2 ∧ H2 p = some (.lst (os.map V.str)) ∧ ∃ ys, H2 F = some (.lst ys) ∧ Paired (rLk H2) ys (tlOf tb (os.take i)))
      ⟨⟨none, none, none, none, rfl⟩, s1, upd_same, [], by rw [upd_ne hFp, upd_same], .nil⟩ (fun i σ H2 _ ⟨_, _, h, _⟩ => SqL.of h) ?_ ?_⟩
    · rintro i y σ H2 hi ⟨⟨v2, v3, v4, v5, rfl⟩, s2, hp2, ys, hy, hyp⟩
      rw [List.getElem?_map] at hi
      cases eo : os[i]? with
      | none => rw [eo] at hi; cases hi
      | some o =>
        rw [eo] at hi
        injection hi with hi
        subst hi
        have hok : o ∈ tb.map (·.1) := hperm.mem_iff.1 (List.mem_of_getElem? eo)
        have hyl : ys.length ≤ 100000 := by
          rw [hyp.length]
          exact Nat.le_trans (total_take hn hperm i) ht
        obtain ⟨v, hv, hvl⟩ := (tb_val (o := o) hkv).1 hok
        obtain ⟨ra, rxs, rfl, hra, hrp⟩ := Ls_mono rTup_gr.mono _ _ _ _ (Kg.of s2) hvl
        have hrl : rxs.length ≤ 100000 := by
          rw [hrp.length]
          exact Nat.le_trans (len_get hn hok) ht
        refine ⟨_, rfl, .inl ⟨rfl, _, SqL.of hy⟩, ?_⟩
        refine ⟨_, rfl, _, rfl, d, _, rfl, hv ▸ DGet.k (k := Sum.inr o) (s2 _ _ hd), ra, rfl, ⟨_, SqL.of hra⟩, fun D2 hD2 => lc_L (R := rRow) (S := rLk) (as := getT tb o) rTup_gr.mono rTup_gr (fun r => some (o, r)) hD2 (SqL.of hra) hrp hrl (fun m x r hr' H3 s3 hx N Z hN hZ => ?_) fun H3 ws s3 hw hwp => ?_⟩
        · obtain ⟨t, rfl, htp⟩ := hx
          refine ⟨t, _, rfl, SqT.of htp, rfl, _, _, rfl, _, _, rfl, _, _, rfl, rfl, rfl, ty ⟨_, rfl, _, rfl, _, rfl, _, rfl, sz4, fun p4 hp4 => hN _ _ _ (same_upd hp4) rfl ⟨p4, rfl, ?_⟩⟩⟩
          rw [upd_same]
          rfl
        · rw [filterMap_some] at hwp
          have hwl : ws.length ≤ 100000 := by
            rw [hwp.length, List.length_map, ← hrp.length]
            exact hrl
          have hy3 := s3 _ _ hy
          refine ⟨F, D2, ys, ws, rfl, rfl, hy3, hw, by rw [sizeLine_eq]; omega, ?_⟩
          have hpF : p ≠ F := hFp.symm
          refine ⟨⟨_, _, _, _, rfl⟩, Same.own (s2.trans s3) hF, by rw [upd_ne hpF]; exact s3 _ _ hp2, _, upd_same, ?_⟩
          have est : tlOf tb (os.take (i + 1)) = tlOf tb (os.take i) ++ (getT tb o).map fun r => (o, r) := by
            unfold tlOf
            rw [List.take_add_one, eo, Option.toList_some, List.flatMap_append, List.flatMap_singleton]
          rw [est]
          exact Paired.app (rTup_gr.fl.all hy3 (rTup_gr.mono.all (Kg.of s3) hyp)) (rTup_gr.fl.all hy3 hwp)
    · rintro σ H2 ⟨⟨v2, v3, v4, v5, rfl⟩, s2, hp2, ys, hy, hyp⟩
      rw [List.length_map, List.take_length] at hyp
      exact ⟨_, rfl, q F H2 ys os hF s2 hy hperm hyp⟩)
end
end WH
set_option Elab.async false
set_option linter.all false
set_option maxRecDepth 100000
set_option maxHeartbeats 2000000
namespace WH
open PySem PySem.Spec PyProof.Rows L2 WM LamX
abbrev s_joined_rows : Stmt := topS 31
theorem sc_joined_rows : FnScope ["rows", "found", "first", "last", "kind"] ["rows"] (defScope s_joined_rows) := ⟨rfl, rfl, rfl, by decide +kernel, rfl, by decide +kernel, by decide +kernel⟩
/-- a def whose code object is known -/
theorem Fun.okC {P : Program} {w : World} {K : PySem.W.Frag} {mg : Str → Option Value} {base : Heap} {x qual : Str} {st : Stmt} {f : Addr} {fd : FuncData} {N ps : List Str} {k : Nat} {sp : Sp} {c : Addr} (F : L2.Fun K x qual st f fd) (hc : fd.code = .ref c) (S : FnScope N ps (defScope st)) (len : ∀ vs H Q E, sp vs H Q E → vs.length = ps.length)
    (hbody : ∀ (A : Around) (outer : List Env) (s : Shared) (H : Hp) (vs : List V) (Q : VK) (E : XK), Room k (A.deeper (envOfC qual (defScope st) s.heap.objs.size f (.ref c))) → sp vs H Q E →
      ∃ t, PSs (cxOf CX0 P w K mg base N qual (defScope st) f (.ref c) A outer s H E).nox (defBody st) t ∧ t { nx := fun _ H' => Q .non H', rt := Q } (start N vs) H) : FnOk P w K mg base CX0 (k + 1) f fd ps sp := by
  obtain ⟨oc, od, kV, doc, pm, an, cdv, ct, osl, rfl, lk, hcd⟩ := F.ex
  have hc : cdv = .ref c := hc
  subst hc
  refine fn_of lk hcd S len fun A outer s H vs Q E hr hsp => ?_
  obtain ⟨t, h, q⟩ := hbody A outer s H vs Q E hr hsp
  exact ⟨t, h.nox, q⟩
theorem extN_own {H H' : Hp} {p : Addr} {o : HO} (e : ExtN H H') (h : H p = none) : ExtN H (upd H' p o) := fun b x hb n => by
  rw [upd_ne (ne_of_none hb h)]
  exact e b x hb n
theorem extN_kg {H H' : Hp} (e : ExtN H H') : Kg H H' := fun b o g hb => e b o hb fun ps z => by rw [z] at g; exact g
theorem tabs_upd {T : List (Addr × Str)} {H : Hp} {F : Addr} {xs ys : List V} (t : Tabs T H) (h : H F = some (.lst xs)) : Tabs T (upd H F (.lst ys)) := fun p hp => by
  obtain ⟨ps, a1, a2, a3⟩ := t p hp
  refine ⟨ps, by rw [upd_ne (ne_of a1 h fun z => nomatch z)]; exact a1, a2, fun p' cv hcv => ?_⟩
  obtain ⟨c0, e1, e2⟩ := a3 p' cv hcv
  exact ⟨c0, e1, by rw [upd_ne (ne_of e2 h fun z => nomatch z)]; exact e2⟩
theorem paired_snoc {α β : Type} {F : α → β → Prop} : ∀ {xs : List α} {bs : List β} {b : β}, Paired F xs (bs ++ [b]) → ∃ xs' x, xs = xs' ++ [x] ∧ Paired F xs' bs ∧ F x b
  | _, [], b, h => by
    cases h with
    | cons a t => cases t; exact ⟨[], _, rfl, .nil, a⟩
  | _, c :: bs, b, h => by
    cases h with
    | cons a t =>
      obtain ⟨xs', x, e, p, f⟩ := paired_snoc t
      exact ⟨_ :: xs', x, by rw [e]; rfl, .cons a p, f⟩
theorem set_last {α : Type} (l : List α) (x y : α) : (l ++ [x]).set l.length y = l ++ [y] := by
  rw [List.set_append_right _ _ (Nat.le_refl _), Nat.sub_self]
  rfl
theorem ixN_last (n : Nat) : ixN (n + 1) (-1) = some n := by
  unfold ixN
  rw [if_neg (by decide), if_pos (by omega)]
  congr 1
  omega
theorem eV_int (e : Option Int) (f : Int) : decide (eV e = .int f) = decide (e = some f) := by
  cases e with
  | none => rw [decide_eq_false (fun z => nomatch z), decide_eq_false (fun z => nomatch z)]
  | some y =>
    show decide (V.int y = V.int f) = _
    by_cases c : y = f
    · subst c
      rw [decide_eq_true rfl, decide_eq_true rfl]
    · rw [decide_eq_false fun z => c (by injection z), decide_eq_false fun z => c (by injection z)]
/-- rows with their tuples -/
theorem rows_back : ∀ {H : Hp} {xs : List V} {rs : List WM.Row}, Paired (rRow H) xs rs → ∃ zr : List (Addr × WM.Row), xs = zr.map (fun z => V.ref z.1) ∧ rs = zr.map (·.2) ∧ ∀ z ∈ zr, H z.1 = some (.tup (rowV z.2))
  | _, _, _, .nil => ⟨[], rfl, rfl, fun _ h => nomatch h⟩
  | _, _, _, .cons h t => by
    obtain ⟨a, e, p⟩ := h
    obtain ⟨zs, e1, e2, q⟩ := rows_back t
    refine ⟨(a, _) :: zs, by rw [e, e1]; rfl, by rw [e2]; rfl, fun z hz => ?_⟩
    rcases List.mem_cons.1 hz with rfl | hz
    · exact p
    · exact q z hz
theorem rows_fwd {H : Hp} : ∀ {zr : List (Addr × WM.Row)}, (∀ z ∈ zr, H z.1 = some (.tup (rowV z.2))) → Paired (rRow H) (zr.map fun z => V.ref z.1) (zr.map (·.2))
  | [], _ => .nil
  | z :: zr, h => .cons ⟨z.1, rfl, h z List.mem_cons_self⟩ (rows_fwd fun y hy => h y (List.mem_cons_of_mem _ hy))
section
variable {P : Program} {w : World} {K : PySem.W.Frag} {mg : Str → Option Value} {base : Heap} {ka : Addr}
def sp_joined_rows (TT : List (Addr × Str)) (K : PySem.W.Frag) : Sp := fun vs H Q _ => ∃ (a : Addr) (xs : List V) (rs : List WM.Row), vs = [.ref a] ∧ SqL K H a xs ∧ Paired (rRow H) xs rs ∧ rs.length ≤ 100000 ∧ Tabs TT H ∧
  ∀ p H' ws rs', rs'.Perm rs → H p = none → ExtN H H' → Tabs TT H' → H' p = some (.lst ws) → Paired (rRow H') ws (joinRows rs') → Q (.ref p) H'
theorem ok_joined_rows {TT : List (Addr × Str)} {jc jP : Addr} {f : Addr} {fd : FuncData} (D : Df K mg "joined_rows" s_joined_rows ["rows"] f fd) (hcode : fd.code = .ref jc) (T : Bl mg) (TB : TabB base mg jc jP) (hmT : (jP, (Str.ofString "joined_rows" ++ ".<locals>.") ++ "<lambda>") ∈ TT) (huT : ∀ p ∈ TT, p.1 = jP → p.2 = (Str.ofString "joined_rows" ++ ".<locals>.") ++ "<lambda>") : Dn P w K mg base CX0 1 "joined_rows" ["rows"] (sp_joined_rows TT K) := .of D (by
  refine Fun.okC D.fn hcode sc_joined_rows (fun vs H Q E h => ?_) (fun A outer s H vs Q E hr h => ?_)
  · obtain ⟨a, xs, rs, rfl, _⟩ := h
    rfl
  · obtain ⟨a, xs, rs, rfl, ha, hp, hz, hT, q⟩ := h
    refine ⟨_, (pss_cons (ps_set (i := 1) sc_joined_rows.nd rfl (Or.inl rfl) (pe_lst pa_nil))
      (pss_cons (ps_for PassesOwn.never rfl (pil K (pe_sortLam (T := TT) K hr (pv 0) TB rfl hmT huT T.b_sorted)) (tupG K (n := 3) rfl (pgs_cons (pg_name (i := 2) sc_joined_rows.nd rfl (Or.inl rfl)) (pgs_cons (pg_name (i := 3) sc_joined_rows.nd rfl (Or.inl rfl)) (pgs_cons (pg_name (i := 4) sc_joined_rows.nd rfl (Or.inl rfl)) pgs_nil))))
        (pss_one (ps_if (PW.pt (pw_and (pt_cmpR (neE K hr.units) (pv 1) (pe_lst pa_nil) (nomark _)) (pw_and (pt_cmpR op_eq (pe_ix (ixT K) (pe_ix (ixL K) (pv 1) (pe_un un_neg (pe_int)) (fun _ _ => rfl)) (pe_int) (fun _ _ => rfl)) (pv 2) (nomark _)) (pw_and1 (pt_cmpR op_eq (pe_ix (ixT K) (pe_ix (ixL K) (pv 1) (pe_un un_neg (pe_int)) (fun _ _ => rfl)) (pe_int) (fun _ _ => rfl)) (pv 4) (nomark _)))))) (pss_one (ps_asg (pe_tup (pa_cons (pe_ix (ixT K) (pe_ix (ixL K) (pv 1) (pe_un un_neg (pe_int)) (fun _ _ => rfl)) (pe_int) (fun _ _ => rfl)) (pa_cons (pv 3) (pa_cons (pv 4) pa_nil)))) (pg_sub (pv 1) (pe_un un_neg (pe_int)) set_list))) (pss_one (ps_expr (bmK K PySem.F.plainAttrs_list PySem.F.slot_list_append PySem.F.type_list_append mt_append (pv 1) (pa_cons (pe_tup (pa_cons (pv 2) (pa_cons (pv 3) (pa_cons (pv 4) pa_nil)))) pa_nil)))))))
      (pss_one (ps_ret (pv 1))))), ?_⟩
    obtain ⟨zr, exs, ers, hzr⟩ := rows_back hp
    refine ⟨Nat.zero_le _, fun F hF => ?_⟩
    subst exs
    subst ers
    have e0 : ExtN H (upd H F (.lst [])) := ExtN.of (same_upd hF)
    let fz : Addr × WM.Row → Ri := fun z => (z.1, z.2.1, [eV z.2.2.1, .str (kS z.2.2.2)])
    have exz : zr.map (fun z => V.ref z.1) = (zr.map fz).map fun z => V.ref z.1 := by
      rw [List.map_map]
      rfl
    refine ⟨_, rfl, hT.ext (same_upd hF), a, zr.map fz, rfl, exz ▸ (Kg.of (same_upd hF)).seq ha, fun z hz' => ?_, by rw [List.length_map]; rw [List.length_map] at hz; exact hz, fun p H2 ys hperm hne e2 T2 hp2 => ?_⟩
    · obtain ⟨y, hy, rfl⟩ := List.mem_map.1 hz'
      exact same_upd hF _ _ (hzr y hy)
    · obtain ⟨zs, hzs, rfl⟩ := perm_lift fz hperm zr rfl
      have hFp : F ≠ p := hne _ _ upd_same fun _ z => nomatch z
      have hF2 : H2 F = some (.lst []) := e2 _ _ upd_same fun _ z => nomatch z
      have ez2 : (zs.map fz).map (fun z => V.ref z.1) = zs.map fun z => V.ref z.1 := by
        rw [List.map_map]
        rfl
      rw [ez2] at hp2
      have hz2 : ∀ z ∈ zs, H2 z.1 = some (.tup (rowV z.2)) := fun z hz' => e2 _ _ (same_upd hF _ _ (hzr z (hzs.mem_iff.1 hz'))) fun _ z => nomatch z
      have hzl : zs.length ≤ 100000 := by
        rw [List.length_map] at hz
        rw [hzs.length_eq]
        exact hz
      refine ⟨p, rfl, ⟨_, SqL.of hp2⟩, for_list (K := K) (a := p) (xs := zs.map fun z => V.ref z.1) (fun i σ H3 => (∃ v2 v3 v4, σ = [some (.ref a), some (.ref F), v2, v3, v4]) ∧ ExtN H H3 ∧ Tabs TT H3 ∧ H3 p = some (.lst (zs.map fun z => V.ref z.1)) ∧ Paired (rRow H3) (zs.map fun z => V.ref z.1) (zs.map (·.2)) ∧ ∃ ys, H3 F = some (.lst ys) ∧ Paired (rRow H3) ys (joinRows ((zs.map (·.2)).take i)))
        ⟨⟨none, none, none, rfl⟩, e0.trans e2, T2, hp2, rows_fwd hz2, [], hF2, .nil⟩ (fun i σ H3 _ ⟨_, _, _, h, _⟩ => SqL.of h) ?_ ?_⟩
      · rintro i y σ H3 hi ⟨⟨v2, v3, v4, rfl⟩, e3, T3, hp3, hzp, ys, hy, hyp⟩
        obtain ⟨⟨f, l, k⟩, hr', t, rfl, ht⟩ := paired_get hzp hi
        have hil : i < zs.length := by
          have := (List.getElem?_eq_some_iff.mp hr').1
          rw [List.length_map] at this
          exact this
        have hyl : ys.length ≤ 100000 := by
          rw [hyp.length]
          have := joinRows_len ((zs.map (·.2)).take i)
          rw [List.length_take, List.length_map] at this
          omega
        have hpF : p ≠ F := hFp.symm
        have est : joinRows ((zs.map (·.2)).take (i + 1)) = joinStep (joinRows ((zs.map (·.2)).take i)) (f, l, k) := by
          rw [List.take_add_one, hr', Option.toList_some, joinRows_snoc]
        -- both ways of going on
        have add : ∀ H4, Same H3 H4 → joinStep (joinRows ((zs.map (·.2)).take i)) (f, l, k) = joinRows ((zs.map (·.2)).take i) ++ [(f, l, k)] →
            tDrop (tBM K "list" rAppend (tVar 1) (tCons (tTup (tCons (tVar 2) (tCons (tVar 3) (tCons (tVar 4) tNil)))) tNil))
              { nx := fun σ H3 => (∃ v2 v3 v4, σ = [some (.ref a), some (.ref F), v2, v3, v4]) ∧ ExtN H H3 ∧ Tabs TT H3 ∧ H3 p = some (.lst (zs.map fun z => V.ref z.1)) ∧ Paired (rRow H3) (zs.map fun z => V.ref z.1) (zs.map (·.2)) ∧ ∃ ys, H3 F = some (.lst ys) ∧ Paired (rRow H3) ys (joinRows ((zs.map (·.2)).take (i + 1))),
                ct := fun σ H3 => (∃ v2 v3 v4, σ = [some (.ref a), some (.ref F), v2, v3, v4]) ∧ ExtN H H3 ∧ Tabs TT H3 ∧ H3 p = some (.lst (zs.map fun z => V.ref z.1)) ∧ Paired (rRow H3) (zs.map fun z => V.ref z.1) (zs.map (·.2)) ∧ ∃ ys, H3 F = some (.lst ys) ∧ Paired (rRow H3) ys (joinRows ((zs.map (·.2)).take (i + 1))), rt := Q, bk := tRet (tVar 1) { nx := fun x H' => Q V.non H', rt := Q } }
              [some (.ref a), some (.ref F), some (.int f), some (eV l), some (.str (kS k))] H4 := by
          intro H4 s4 ej
          have hy4 := s4 _ _ hy
          refine ⟨_, rfl, .inl ⟨rfl, _, SqL.of hy4⟩, _, rfl, _, rfl, _, rfl, sz3, fun r hr4 => ?_⟩
          have hFr : F ≠ r := ne_new hy4 hr4
          have hy5 : upd H4 r (.tup [.int f, eV l, .str (kS k)]) F = some (.lst ys) := same_upd hr4 _ _ hy4
          have s5 := s4.trans (same_upd (o := .tup [.int f, eV l, .str (kS k)]) hr4)
          refine ⟨F, ys, _, rfl, rfl, hy5, by rw [sizeLine_eq]; omega, ⟨_, _, _, rfl⟩, extN_own (e3.trans (.of s5)) hF, tabs_upd (T3.ext s5) hy5, by rw [upd_ne hpF]; exact s5 _ _ hp3, rTup_gr.fl.all hy5 (rTup_gr.mono.all (Kg.of s5) hzp), _, upd_same, ?_⟩
          rw [est, ej]
          refine Paired.app (rTup_gr.fl.all hy5 (rTup_gr.mono.all (Kg.of s5) hyp)) (.cons ⟨r, rfl, ?_⟩ .nil)
          rw [upd_ne hFr.symm, upd_same]
          rfl
        refine ⟨t, _, rfl, SqT.of ht, rfl, _, _, rfl, _, _, rfl, _, _, rfl, rfl, ?_⟩
        refine ⟨_, rfl, Nat.zero_le _, fun q0 hq0 => ⟨F, q0, ys, rfl, rfl, SqL.of (same_upd hq0 _ _ hy), SqL.of upd_same, _, rfl, ?_⟩⟩
        have s4 : Same H3 (upd H3 q0 (.lst [])) := same_upd hq0
        rcases eq_nil_or_snoc (joinRows ((zs.map (·.2)).take i)) with ej | ⟨pre, z, ej⟩
        · have : ys = [] := by
            rw [ej] at hyp
            cases hyp
            rfl
          subst this
          refine iteF (iteF (add _ s4 ?_))
          rw [ej]
          rfl
        · rw [ej] at hyp
          obtain ⟨ys', y, rfl, hyp', t2, rfl, ht2⟩ := paired_snoc hyp
          obtain ⟨zf, zl, zk⟩ := z
          have e1 : (!(ys' ++ [V.ref t2]).isEmpty) = true := by
            cases ys' <;> rfl
          rw [if_pos rfl, e1]
          refine iteT ?_
          have hj : joinStep (joinRows ((zs.map (·.2)).take i)) (f, l, k) = if zl = some f ∧ zk = k then pre ++ [(zf, l, k)] else joinRows ((zs.map (·.2)).take i) ++ [(f, l, k)] := by
            rw [ej]
            unfold joinStep
            rw [List.getLast?_append]
            show (if zl = some f ∧ zk = k then (pre ++ [(zf, zl, zk)]).dropLast ++ [(zf, l, k)] else _) = _
            rw [List.dropLast_concat]
          refine ⟨_, rfl, _, rfl, F, _, _, _, rfl, rfl, SqL.of (s4 _ _ hy), atI_last _ _, t2, _, _, _, rfl, rfl, SqT.of (s4 _ _ ht2), rfl, _, rfl, ?_⟩
          have e2 : scal (eV zl) (.int f) = true := by cases zl <;> rfl
          refine ⟨e2, _, rfl, ?_⟩
          have e3' := eV_int zl f
          show if decide (eV zl = .int f) = true then _ else _
          rw [e3']
          by_cases c1 : zl = some f
          · rw [decide_eq_true c1]
            refine iteT ⟨_, rfl, _, rfl, F, _, _, _, rfl, rfl, SqL.of (s4 _ _ hy), atI_last _ _, t2, _, _, _, rfl, rfl, SqT.of (s4 _ _ ht2), rfl, _, rfl, ?_⟩
            refine ⟨rfl, _, rfl, ?_⟩
            rw [show decide (V.str (kS zk) = V.str (kS k)) = decide (zk = k) from kS_inj]
            by_cases c2 : zk = k
            · rw [decide_eq_true c2]
              refine iteT ⟨_, rfl, _, rfl, F, _, _, _, rfl, rfl, SqL.of (s4 _ _ hy), atI_last _ _, t2, _, _, _, rfl, rfl, SqT.of (s4 _ _ ht2), rfl, _, rfl, _, rfl, sz3, fun r hr4 => ?_⟩
              have s5 : Same H3 (upd (upd H3 q0 (.lst [])) r (.tup [.int zf, eV l, .str (kS k)])) := s4.trans (same_upd hr4)
              have hy5 := s5 _ _ hy
              refine ⟨_, rfl, _, rfl, F, _, _, ys'.length, rfl, rfl, hy5, ?_, ?_⟩
              · rw [List.length_append, List.length_singleton]
                exact ixN_last _
              · rw [set_last]
                refine ⟨⟨_, _, _, rfl⟩, extN_own (e3.trans (.of s5)) hF, tabs_upd (T3.ext s5) hy5, by rw [upd_ne hpF]; exact s5 _ _ hp3, rTup_gr.fl.all hy5 (rTup_gr.mono.all (Kg.of s5) hzp), _, upd_same, ?_⟩
                rw [est, hj, if_pos ⟨c1, c2⟩]
                refine Paired.app (rTup_gr.fl.all hy5 (rTup_gr.mono.all (Kg.of s5) hyp')) (.cons ⟨r, rfl, ?_⟩ .nil)
                rw [upd_ne (ne_new (s4 _ _ hy) hr4).symm, upd_same]
                rfl
            · rw [decide_eq_false c2]
              exact iteF (add _ s4 (by rw [hj, if_neg fun z => c2 z.2]))
          · rw [decide_eq_false c1]
            exact iteF (add _ s4 (by rw [hj, if_neg fun z => c1 z.1]))
      · rintro σ H3 ⟨⟨v2, v3, v4, rfl⟩, e3, T3, hp3, hzp, ys, hy, hyp⟩
        rw [List.length_map, ← List.length_map (as := zs) (f := fun z => z.2), List.take_length] at hyp
        exact ⟨_, rfl, q F H3 ys _ (hzs.map _) hF e3 T3 hy hyp⟩)
end
end WH
set_option Elab.async false
set_option linter.all false
set_option maxRecDepth 100000
set_option maxHeartbeats 2000000
namespace WH
open PySem PySem.Spec PyProof.Rows L2 WM LamX
abbrev s_LockTable___init__ : Stmt := inClass (topS 33) 0
theorem sc_LockTable___init__ : FnScope ["self", "locks", "found", "index", "lock", "standing", "rows"] ["self", "locks"] (defScope s_LockTable___init__) := ⟨rfl, rfl, rfl, by decide +kernel, rfl, by decide +kernel, by decide +kernel⟩
abbrev s_LockTable_locks : Stmt := inClass (topS 33) 1
theorem sc_LockTable_locks : FnScope ["self"] ["self"] (defScope s_LockTable_locks) := ⟨rfl, rfl, rfl, by decide +kernel, rfl, by decide +kernel, by decide +kernel⟩
abbrev s_LockTable_owners : Stmt := inClass (topS 33) 2
theorem sc_LockTable_owners : FnScope ["self"] ["self"] (defScope s_LockTable_owners) := ⟨rfl, rfl, rfl, by decide +kernel, rfl, by decide +kernel, by decide +kernel⟩
/-- a method's def as the top has left it; a method that keeps a promise -/
structure Dm (K : PySem.W.Frag) (x qual : Str) (st : Stmt) (ps : List Str) (f : Addr) (fd : FuncData) : Prop where
  fn : L2.Fun K x qual st f fd
  bd : Binds K fd ps []
structure Dq (P : Program) (w : World) (K : PySem.W.Frag) (mg : Str → Option Value) (base : Heap) (k : Nat) (f : Addr) (ps : List Str) (sp : Sp) : Prop where
  ex : ∃ fd, FnOk P w K mg base CX0 k f fd ps sp ∧ Binds K fd ps []
/-- the class of the tables -/
structure LTb (K : PySem.W.Frag) (mg : Str → Option Value) (C fi fl fo : Addr) : Prop where
  cls : Cls K C
  mkk : Mk K C fi
  ml : Meth K C "locks" fl
  mo : Meth K C "owners" fo
  gl : mg "LockTable" = some (.ref C)
  na : NoAttr K C "own_rows"
section
variable {X : Cx} {C fi fl fo : Addr} {k : Nat} {ps : List Str} {sp : Sp} {e o : Expr} {es : List Expr} {t : TA} {to : TE} {p pos apos : Pos}
theorem pe_mkLT (G : Dq X.prog X.w X.K X.mg X.base k fi ps sp) (L : LTb X.K X.mg C fi fl fo) (hr : Room (k + 1) X.A) (ha : PA X (e :: es) t) (hg : Gl X "LockTable" := by rfl)
    (he : starEach (e :: es) X.env = (false, eval e X.env) :: starEach es X.env := by rfl) (hpl : (backTo pos (starEach es X.env)).any (·.1) = false := by rfl) : PE X (.Call (.Name "LockTable" p) (e :: es) [] pos) (tMake C sp [] E0 t) := by
  obtain ⟨fd, F, b⟩ := G.ex
  exact pe_make L.mkk F hr hg L.gl b .nil pass0 ha (by decide) he hpl
theorem pe_locks {pl : Sem Bool} (G : Dq X.prog X.w X.K X.mg X.base k fl ps sp) (L : LTb X.K X.mg C fi fl fo) (hr : Room k X.A) (ho : PE X o to)
    (ht : eval (.Call (.Attribute o "locks" apos) [] [] pos) X.env = (do
      let ov ← eval o X.env
      standAt apos.atName
      let (f, first) ← holding [ov] (getMethod ov "locks" pl)
      callWith pos f first (backTo pos (starEach [] X.env)) (backToKw pos (keywordEach [] X.env))) := by rfl) : PE X (.Call (.Attribute o "locks" apos) [] [] pos) (tMeth C "locks" sp [] E0 to tNil) := by
  obtain ⟨fd, F, b⟩ := G.ex
  exact pe_meth0 ho L.cls L.ml F hr b .nil pass0 ht
theorem pe_owners {pl : Sem Bool} (G : Dq X.prog X.w X.K X.mg X.base k fo ps sp) (L : LTb X.K X.mg C fi fl fo) (hr : Room k X.A) (ho : PE X o to)
    (ht : eval (.Call (.Attribute o "owners" apos) [] [] pos) X.env = (do
      let ov ← eval o X.env
      standAt apos.atName
      let (f, first) ← holding [ov] (getMethod ov "owners" pl)
      callWith pos f first (backTo pos (starEach [] X.env)) (backToKw pos (keywordEach [] X.env))) := by rfl) : PE X (.Call (.Attribute o "owners" apos) [] [] pos) (tMeth C "owners" sp [] E0 to tNil) := by
  obtain ⟨fd, F, b⟩ := G.ex
  exact pe_meth0 ho L.cls L.mo F hr b .nil pass0 ht
end
/-- a table as an instance -/
def TbI (C : Addr) (H : Hp) (v : V) (tb : Tb Str) : Prop := ∃ x dx d, v = .ref x ∧ H x = some (.ins C dx [("own_rows", .ref d)]) ∧ TbAt H d tb
theorem TbI.kg {C : Addr} {H H' : Hp} {v : V} {tb : Tb Str} (k : Kg H H') : TbI C H v tb → TbI C H' v tb := fun ⟨x, dx, d, e, h, t⟩ => ⟨x, dx, d, e, k _ _ trivial h, t.kg k⟩
section
variable {P : Program} {w : World} {K : PySem.W.Frag} {mg : Str → Option Value} {base : Heap} {ka C fi fl fo : Addr}
/-! ### locks, owners -/
def sp_locks (C : Addr) : Sp := fun vs H Q _ => ∃ (v : V) (tb : Tb Str), vs = [v] ∧ TbI C H v tb ∧ (tb.map (·.1)).Nodup ∧ tb.length < 64 ∧ total tb ≤ 100000 ∧
  ∀ p H' ws owners, H p = none → Same H H' → H' p = some (.lst ws) → owners.Perm (tb.map (·.1)) → Paired (rLk H') ws (tlOf tb owners) → Q (.ref p) H'
theorem ok_locks {f : Addr} {fd : FuncData} (D : Dm K "locks" "LockTable.locks" s_LockTable_locks ["self"] fl fd) (L : LTb K mg C fi fl fo) (G_rows_as_locks : Dn P w K mg base CX0 1 "rows_as_locks" ["rows"] (sp_rows_as_locks K)) : Dq P w K mg base 2 fl ["self"] (sp_locks C) := ⟨fd, by
  refine D.fn.ok sc_LockTable_locks (fun vs H Q E h => ?_) (fun cdv A outer s H vs Q E hr h => ?_)
  · obtain ⟨v, tb, rfl, _⟩ := h
    rfl
  · obtain ⟨v, tb, rfl, ⟨x, dx, d, rfl, hx, htb⟩, hn, hl, ht, q⟩ := h
    refine ⟨_, (pss_one (ps_ret (pe_cl G_rows_as_locks (hr.mono (by decide)) (pa_cons (fldK K (pv 0)) pa_nil)))), ?_⟩
    exact ⟨_, rfl, x, C, dx, _, _, rfl, hx, L.cls, L.na, rfl, d, tb, rfl, htb, hn, hl, ht, q⟩, D.bd⟩
def sp_owners (C : Addr) : Sp := fun vs H Q _ => ∃ (v : V) (tb : Tb Str), vs = [v] ∧ TbI C H v tb ∧ (tb.map (·.1)).Nodup ∧ tb.length < 64 ∧
  ∀ p H' os, H p = none → Same H H' → H' p = some (.lst (os.map V.str)) → Asc sLt os → (∀ o, o ∈ os ↔ o ∈ tb.map (·.1)) → os.length = tb.length → Q (.ref p) H'
theorem ok_owners {fd : FuncData} (D : Dm K "owners" "LockTable.owners" s_LockTable_owners ["self"] fo fd) (L : LTb K mg C fi fl fo) (T : Bl mg) : Dq P w K mg base 1 fo ["self"] (sp_owners C) := ⟨fd, by
  refine D.fn.ok sc_LockTable_owners (fun vs H Q E h => ?_) (fun cdv A outer s H vs Q E hr h => ?_)
  · obtain ⟨v, tb, rfl, _⟩ := h
    rfl
  · obtain ⟨v, tb, rfl, ⟨x, dx, d, rfl, hx, kvs, hd, hkv⟩, hn, hl, q⟩ := h
    refine ⟨_, (pss_one (ps_ret (pe_callB ((call_sortedD rfl)) (by rfl) T.b_sorted (by decide +kernel) (pa_cons (fldK K (pv 0)) pa_nil)))), ?_⟩
    refine ⟨_, rfl, x, C, dx, _, _, rfl, hx, L.cls, L.na, rfl, d, kvs, tb.map (·.1), rfl, .inl hd, kvs_keys hkv, by rw [List.length_map]; exact hl, fun os p hperm hsort hp => ?_⟩
    exact q p _ os hp (same_upd hp) upd_same (sorted_asc hsort (hperm.nodup_iff.2 hn)) (fun o => hperm.mem_iff) (by rw [hperm.length_eq, List.length_map]), D.bd⟩
/-! ### __init__ -/
theorem rTup_updD {β : Type} {f : β → List V} {H : Hp} {d : Addr} {kvs kvs' : List (Key × V)} (hd : H d = some (.dK kvs)) {xs : List V} {bs : List β} (h : Paired (rTup f H) xs bs) : Paired (rTup f (upd H d (.dK kvs'))) xs bs :=
  Paired.mapP h fun _ _ ⟨a, e, h⟩ => ⟨a, e, by rw [upd_ne (ne_of h hd (fun z => nomatch z))]; exact h⟩
theorem lsRow_updD {H : Hp} {d : Addr} {kvs kvs' : List (Key × V)} (hd : H d = some (.dK kvs)) {v : V} {rs : List WM.Row} (h : Ls rRow H v rs) : Ls rRow (upd H d (.dK kvs')) v rs := by
  obtain ⟨a, xs, e, h1, h2⟩ := h
  exact ⟨a, xs, e, by rw [upd_ne (ne_of h1 hd (fun z => nomatch z))]; exact h1, rTup_updD hd h2⟩
theorem kv_any {H : Hp} {o : Str} : ∀ {kvs : List (Key × V)} {tb : Tb Str}, Paired (KvOk H) kvs tb → (kvs.any fun kv => decide (kv.1 = Sum.inr o)) = tb.any fun e => decide (e.1 = o)
  | _, _, .nil => rfl
  | _, _, .cons (a := kv) (b := e) h t => by
    rw [List.any_cons, List.any_cons, kv_any t, h.1]
    congr 1
    by_cases c : e.1 = o
    · rw [decide_eq_true (congrArg Sum.inr c), decide_eq_true c]
    · rw [decide_eq_false fun z => c (Sum.inr.inj z), decide_eq_false c]
theorem kv_map {H : Hp} {o : Str} {v : V} {rows : List WM.Row} (hv : Ls rRow H v rows) : ∀ {kvs : List (Key × V)} {tb : Tb Str}, Paired (KvOk H) kvs tb →
    Paired (KvOk H) (kvs.map fun kv => if kv.1 = Sum.inr o then (kv.1, v) else kv) (tb.map fun e => if e.1 = o then (e.1, rows) else e)
  | _, _, .nil => .nil
  | _, _, .cons (a := kv) (b := e) h t => by
    refine .cons ?_ (kv_map hv t)
    show KvOk H (if kv.1 = Sum.inr o then (kv.1, v) else kv) (if e.1 = o then (e.1, rows) else e)
    by_cases c : e.1 = o
    · rw [if_pos c, if_pos (h.1.trans (congrArg Sum.inr c))]
      exact ⟨h.1, hv⟩
    · rw [if_neg c, if_neg fun z => c (Sum.inr.inj (h.1.symm.trans z))]
      exact h
theorem kv_put {H : Hp} {kvs : List (Key × V)} {tb : Tb Str} {o : Str} {v : V} {rows : List WM.Row} (h : Paired (KvOk H) kvs tb) (hv : Ls rRow H v rows) : Paired (KvOk H) (putK kvs (Sum.inr o) v) (putT tb o rows) := by
  unfold putK putT
  rw [kv_any h]
  split
  · exact kv_map hv h
  · exact Paired.app h (.cons ⟨rfl, hv⟩ .nil)
theorem tabs_updD {T : List (Addr × Str)} {H : Hp} {d : Addr} {kvs kvs' : List (Key × V)} (t : Tabs T H) (h : H d = some (.dK kvs)) : Tabs T (upd H d (.dK kvs')) := fun p hp => by
  obtain ⟨ps, a1, a2, a3⟩ := t p hp
  refine ⟨ps, by rw [upd_ne (ne_of a1 h fun z => nomatch z)]; exact a1, a2, fun p' cv hcv => ?_⟩
  obtain ⟨c0, e1, e2⟩ := a3 p' cv hcv
  exact ⟨c0, e1, by rw [upd_ne (ne_of e2 h fun z => nomatch z)]; exact e2⟩
theorem tabs_updI {T : List (Addr × Str)} {H : Hp} {x C dx : Addr} {fs fs' : List (Str × V)} (t : Tabs T H) (h : H x = some (.ins C dx fs)) : Tabs T (upd H x (.ins C dx fs')) := fun p hp => by
  obtain ⟨ps, a1, a2, a3⟩ := t p hp
  refine ⟨ps, by rw [upd_ne (ne_of a1 h fun z => nomatch z)]; exact a1, a2, fun p' cv hcv => ?_⟩
  obtain ⟨c0, e1, e2⟩ := a3 p' cv hcv
  exact ⟨c0, e1, by rw [upd_ne (ne_of e2 h fun z => nomatch z)]; exact e2⟩
/-- what LockTable(locks) asks -/
structure LsOk (ls : List (Lk Str)) (names : List Str) : Prop where
  few : names.length ≤ 5
  own : ∀ l ∈ ls, l.1 ∈ names
  ok : ∀ l ∈ ls, lkOk l
  len : ls.length ≤ 40000
  all : AllOk ls
theorem few_keys {tb : Tb Str} {ls : List (Lk Str)} {names : List Str} (hf : names.length ≤ 5) (ho : ∀ l ∈ ls, l.1 ∈ names) (T : TblOk tb ls) : tb.length ≤ 5 := by
  have h := nodup_len (m := names) T.nd fun o h => by
    obtain ⟨l, hl, e⟩ := List.mem_map.1 ((T.keys o).1 h)
    exact e ▸ ho l hl
  rw [List.length_map] at h
  omega
def sp_init (TT : List (Addr × Str)) (C : Addr) : Sp := fun vs H Q _ => ∃ (x dx a : Addr) (xs : List V) (ls : List (Lk Str)) (names : List Str), vs = [.ref x, .ref a] ∧ H x = some (.ins C dx []) ∧ H a = some (.lst xs) ∧ Paired (rLk H) xs ls ∧ LsOk ls names ∧ Tabs TT H ∧
  ∀ H1 d tb, ExtN H H1 → Tabs TT H1 → TbAt H1 d tb → TblOk tb ls → TbD tb (2 * ls.length) → Q .non (upd H1 x (.ins C dx [("own_rows", .ref d)]))
theorem ok_init {TT : List (Addr × Str)} {fd : FuncData} (D : Dm K "__init__" "LockTable.__init__" s_LockTable___init__ ["self", "locks"] fi fd) (L : LTb K mg C fi fl fo) (T : Bl mg) (G_checked_locks : Dn P w K mg base CX0 5 "checked_locks" ["locks"] (sp_checked_locks K))
    (G_rows_as_locks : Dn P w K mg base CX0 1 "rows_as_locks" ["rows"] (sp_rows_as_locks K)) (G_are_clashing : Dn P w K mg base CX0 2 "are_clashing" ["one", "other"] sp_are_clashing) (G_left_rows : Dn P w K mg base CX0 1 "left_rows" ["rows", "begin", "end"] (sp_left_rows K))
    (G_joined_rows : Dn P w K mg base CX0 1 "joined_rows" ["rows"] (sp_joined_rows TT K)) : Dq P w K mg base 6 fi ["self", "locks"] (sp_init TT C) := ⟨fd, by
  refine D.fn.ok sc_LockTable___init__ (fun vs H Q E h => ?_) (fun cdv A outer s H vs Q E hr h => ?_)
  · obtain ⟨x, dx, a, xs, ls, names, rfl, _⟩ := h
    rfl
  · obtain ⟨x, dx, a, xs, ls, names, rfl, hx, ha, hp, ok, hT, q⟩ := h
    have hu := hu_of hr
    refine ⟨_, (pss_cons (ps_set (i := 2) sc_LockTable___init__.nd rfl (Or.inl rfl) (pe_dnewK))
      (pss_cons (ps_for PassesOwn.never rfl (pi_enum (by rfl) T.b_enumerate (pa_cons (pe_cl G_checked_locks (hr.mono (by decide)) (pa_cons (pv 1) pa_nil)) pa_nil)) (tupG K (n := 2) rfl (pgs_cons (pg_name (i := 3) sc_LockTable___init__.nd rfl (Or.inl rfl)) (pgs_cons (pg_name (i := 4) sc_LockTable___init__.nd rfl (Or.inl rfl)) pgs_nil)))
        (pss_cons (ps_for PassesOwn.never rfl (pil K (pe_cl G_rows_as_locks (hr.mono (by decide)) (pa_cons (pv 2) pa_nil))) (pg_name (i := 5) sc_LockTable___init__.nd rfl (Or.inl rfl))
          (pss_one (ps_if (pt_val (pe_cl G_are_clashing (hr.mono (by decide)) (pa_cons (pv 5) (pa_cons (pv 4) pa_nil)))) (pss_one (ps_never)) pss_nil)))
        (pss_cons (ps_set (i := 6) sc_LockTable___init__.nd rfl (Or.inl rfl) (pe_cl G_left_rows (hr.mono (by decide)) (pa_cons (pe_dget2 hu (pv 2) (pe_ix (ixT K) (pv 4) (pe_int) (fun _ _ => rfl)) (pe_lst pa_nil) ⟨rfl, rfl, rfl, rfl⟩) (pa_cons (pe_ix (ixT K) (pv 4) (pe_int) (fun _ _ => rfl)) (pa_cons (pe_ix (ixT K) (pv 4) (pe_int) (fun _ _ => rfl)) pa_nil)))))
        (pss_one (ps_dput hu (pv 2) (pe_ix (ixT K) (pv 4) (pe_int) (fun _ _ => rfl)) (pe_cl G_joined_rows (hr.mono (by decide)) (pa_cons (pe_op op_cat (pv 6) (pe_lst (pa_cons (pe_slice (slT K) (pv 4) (po_some (pe_int)) po_none) pa_nil))) pa_nil)) rfl)))))
      (pss_one (ps_fld (pv 0) (pv 2) rfl)))), ?_⟩
    intro d hd
    have s0 : Same H (upd H d (.dK [])) := same_upd hd
    refine ⟨_, rfl, a, xs, ls, rfl, s0 _ _ ha, rTup_gr.mono.all (Kg.of s0) hp, by have := ok.len; omega, ok.ok, fun p H1 ws hp1 s1 hw hwp => ?_⟩
    have hxp : x ≠ p := ne_new (s0 _ _ hx) hp1
    refine ⟨p, ws, rfl, SqL.of hw, for_enumL (K := K) (a := p) (xs := ws) (fun i σ H2 => (∃ v3 v4 v5 v6, σ = [some (.ref x), some (.ref a), some (.ref d), v3, v4, v5, v6]) ∧ ExtN H H2 ∧ Tabs TT H2 ∧ H2 p = some (.lst ws) ∧ Paired (rLk H2) ws ls ∧ ∃ tb, TbAt H2 d tb ∧ TblOk tb (ls.take i) ∧ TbD tb (2 * i))
      ⟨⟨none, none, none, none, rfl⟩, .of fun b o e => s1 _ _ (s0 _ _ e), (hT.ext s0).ext s1, hw, hwp, [], ⟨[], s1 _ _ upd_same, .nil⟩, tblOk_nil, tbD_nil⟩ (fun i σ H2 _ ⟨_, _, _, h, _⟩ => SqL.of h) ?_ ?_⟩
    · rintro i y σ H2 t hi ⟨⟨v3, v4, v5, v6, rfl⟩, e2, T2, hp2, hwp2, tb, htb, TB, TD⟩ ht
      obtain ⟨l, hl, la, rfl, hla⟩ := paired_get hwp2 hi
      have hlm : l ∈ ls := List.mem_of_getElem? hl
      have hil : i < ls.length := (List.getElem?_eq_some_iff.mp hl).1
      have hlw : wfRow l.2 := (ok.ok l hlm).2
      have enx : ls.take (i + 1) = ls.take i ++ [l] := by rw [List.take_add_one, hl]; rfl
      have hnext : okNext (ls.take i) l := ok.all (ls.take i) l (ls.drop (i + 1)) (by
        rw [List.append_cons, ← enx, List.take_append_drop])
      have hfew := few_keys ok.few (fun l hl => ok.own l (List.mem_of_mem_take hl)) TB
      have htot : total tb ≤ 80000 := by have := TD.tot; have := ok.len; omega
      have s3 : Same H2 (upd H2 t (.tup [.int (i : Nat), .ref la])) := same_upd ht
      refine ⟨t, _, rfl, SqT.of upd_same, rfl, _, _, rfl, _, _, rfl, rfl, ?_⟩
      -- none of the rows that stand clashes
      refine ⟨_, rfl, d, tb, rfl, htb.kg (Kg.of s3), TB.nd, by omega, by omega, fun p3 H3 ss os hp3 s4 hss hos hsp => ?_⟩
      have s4' := s3.trans s4
      refine ⟨p3, rfl, ⟨_, SqL.of hss⟩, for_list (K := K) (a := p3) (xs := ss) (fun j σ H4 => (∃ v5, σ = [some (.ref x), some (.ref a), some (.ref d), some (.int (i : Nat)), some (.ref la), v5, v6]) ∧ Same H2 H4 ∧ H4 p3 = some (.lst ss) ∧ Paired (rLk H4) ss (tlOf tb os))
        ⟨⟨_, rfl⟩, s4', hss, hsp⟩ (fun j σ H4 _ ⟨_, _, h, _⟩ => SqL.of h) ?_ ?_⟩
      · rintro j y σ H4 hj ⟨⟨v5, rfl⟩, s5, hss4, hsp4⟩
        obtain ⟨st, hst, sa, rfl, hsa⟩ := paired_get hsp4 hj
        have hstands := (mem_tlOf TB.nd (fun o => hos.mem_iff) st).1 (List.mem_of_getElem? hst)
        refine ⟨_, rfl, _, rfl, sa, la, st, l, rfl, hsa, s5 _ _ hla, fun H5 s6 => ⟨_, rfl, ?_⟩⟩
        have hcl : clashB st l = false := no_clash TB hlw hnext (o := st.1) (r := st.2) hstands
        rw [hcl]
        exact iteF ⟨⟨_, rfl⟩, s5.trans s6, s6 _ _ hss4, rTup_gr.mono.all (Kg.of s6) hsp4⟩
      · rintro σ H4 ⟨⟨v5, rfl⟩, s5, -, -⟩
        obtain ⟨kvs, hdk, hkv⟩ := htb.kg (Kg.of s5)
        have hla4 := s5 _ _ hla
        refine ⟨_, rfl, d, rfl, .inl ⟨kvs, .inl hdk⟩, _, rfl, _, _, _, _, rfl, rfl, SqT.of hla4, rfl, Nat.zero_le _, fun z hz => ?_⟩
        have s6 : Same H4 (upd H4 z (.lst [])) := same_upd hz
        have hrow : ∃ (ra : Addr) (rxs : List V), (valV kvs (Sum.inr l.1)).getD (.ref z) = .ref ra ∧ upd H4 z (.lst []) ra = some (.lst rxs) ∧ Paired (rRow (upd H4 z (.lst []))) rxs (getT tb l.1) := by
          by_cases c : l.1 ∈ tb.map (·.1)
          · obtain ⟨v, hv, ra, rxs, rfl, h1, h2⟩ := (tb_val hkv).1 c
            exact ⟨ra, rxs, by rw [hv]; rfl, s6 _ _ h1, rTup_gr.mono.all (Kg.of s6) h2⟩
          · obtain ⟨hv, hg⟩ := (tb_val hkv).2 c
            exact ⟨z, [], by rw [hv]; rfl, upd_same, by rw [hg]; exact .nil⟩
        obtain ⟨ra, rxs, era, hra, hrp⟩ := hrow
        have hgl : (getT tb l.1).length ≤ 80000 := by
          by_cases c : l.1 ∈ tb.map (·.1)
          · exact Nat.le_trans (len_get TB.nd c) htot
          · rw [getT_none c]; exact Nat.zero_le _
        refine ⟨_, DGet.k (k := Sum.inr l.1) (s6 _ _ hdk), ?_⟩
        rw [era]
        refine ⟨_, rfl, _, _, _, _, rfl, rfl, SqT.of (s6 _ _ hla4), rfl, _, rfl, _, _, _, _, rfl, rfl, SqT.of (s6 _ _ hla4), rfl, ?_⟩
        refine ⟨ra, rxs, _, l.2.1, l.2.2.1, rfl, SqL.of hra, hrp, by omega, fun p6 H6 ws6 hp6 s7 hw6 hwp6 => ?_⟩
        have hl6 : (leftRows (getT tb l.1) l.2.1 l.2.2.1).length ≤ 80001 := by
          have := leftRows_len hlw (TD.dj l.1)
          omega
        -- rows + [lock[1:]]
        refine ⟨_, rfl, _, rfl, _, rfl, la, _, rfl, SqT.of (s7 _ _ (s6 _ _ hla4)), (fun z => absurd z.1 (show ¬ (1 : Nat) = 0 by decide)), fun _ q1 hq1 => ?_⟩
        have s8 : Same H6 (upd H6 q1 (.tup (cutV (lkV l) (some 1) none))) := same_upd hq1
        refine ⟨sz1, fun q2 hq2 => ?_⟩
        have s9 : Same (upd H6 q1 (.tup (cutV (lkV l) (some 1) none))) (upd (upd H6 q1 (.tup (cutV (lkV l) (some 1) none))) q2 (.lst [.ref q1])) := same_upd hq2
        refine ⟨p6, q2, ws6, [.ref q1], rfl, rfl, s9 _ _ (s8 _ _ hw6), upd_same, by rw [sizeLine_eq, hwp6.length, List.length_singleton]; omega, fun q3 hq3 => ?_⟩
        have s10 : Same (upd (upd H6 q1 (.tup (cutV (lkV l) (some 1) none))) q2 (.lst [.ref q1])) (upd (upd (upd H6 q1 (.tup (cutV (lkV l) (some 1) none))) q2 (.lst [.ref q1])) q3 (.lst (ws6 ++ [.ref q1]))) := same_upd hq3
        have sA := s5.trans (s6.trans (s7.trans (s8.trans (s9.trans s10))))
        have hrows : Paired (rRow (upd (upd (upd H6 q1 (.tup (cutV (lkV l) (some 1) none))) q2 (.lst [.ref q1])) q3 (.lst (ws6 ++ [.ref q1])))) (ws6 ++ [.ref q1]) (leftRows (getT tb l.1) l.2.1 l.2.2.1 ++ [l.2]) :=
          Paired.app (rTup_gr.mono.all (Kg.of (s8.trans (s9.trans s10))) hwp6) (.cons ⟨q1, rfl, s10 _ _ (s9 _ _ upd_same)⟩ .nil)
        refine ⟨q3, _, _, rfl, SqL.of upd_same, hrows, by rw [List.length_append, List.length_singleton]; omega, T2.ext sA, fun p7 H7 ws7 rs' hperm hp7 e7 T7 hw7 hwp7 => ?_⟩
        have eA : ExtN H2 H7 := (ExtN.of sA).trans e7
        have hla7 : H7 la = some (.tup (lkV l)) := eA _ _ hla fun _ z => nomatch z
        have hd7 : H7 d = some (.dK kvs) := e7 _ _ (s10 _ _ (s9 _ _ (s8 _ _ (s7 _ _ (s6 _ _ hdk))))) fun _ z => nomatch z
        have hkv7 : Paired (KvOk H7) kvs tb := Paired.mapP hkv fun _ _ => KvOk.kg (extN_kg ((ExtN.of (s6.trans (s7.trans (s8.trans (s9.trans s10))))).trans e7))
        have hkl : kvs.length ≤ 5 := by rw [hkv.length]; exact hfew
        refine ⟨_, rfl, _, rfl, _, _, _, _, rfl, rfl, SqT.of hla7, rfl, d, _, rfl, DPut.k (k := Sum.inr l.1) hd7 (by rw [sizeLine_eq]; omega), ?_⟩
        obtain ⟨n1, n2⟩ := table_next TB TD hlw hperm
        have ls7 : Ls rRow H7 (.ref p7) (joinRows rs') := ⟨p7, ws7, rfl, hw7, hwp7⟩
        refine ⟨⟨_, _, _, _, rfl⟩, extN_own (e2.trans eA) hd, tabs_updD T7 hd7, ?_, rTup_updD hd7 (rTup_gr.mono.all (extN_kg eA) hwp2), putT tb l.1 (joinRows rs'), ⟨_, upd_same, ?_⟩, by rw [enx]; exact n1, ?_⟩
        · have hp7' : H7 p = some (.lst ws) := eA _ _ hp2 fun _ z => nomatch z
          rw [upd_ne (ne_of hp7' hd7 fun z => nomatch z)]
          exact hp7'
        · exact Paired.mapP (kv_put hkv7 ls7) fun _ _ h => ⟨h.1, lsRow_updD hd7 h.2⟩
        · rw [show 2 * (i + 1) = 2 * i + 2 from by omega]
          exact n2
    · rintro σ H2 ⟨⟨v3, v4, v5, v6, rfl⟩, e2, T2, hp2, hwp2, tb, htb, TB, TD⟩
      rw [hwp.length, List.take_length] at TB
      rw [hwp.length] at TD
      refine ⟨_, rfl, _, rfl, x, C, dx, _, rfl, e2 _ _ hx (fun _ z => nomatch z), L.cls, L.na, by decide, ?_⟩
      exact q H2 d tb e2 T2 htb TB TD, D.bd⟩
end
end WH
set_option Elab.async false
set_option linter.all false
set_option maxRecDepth 100000
set_option maxHeartbeats 2000000
namespace WH
open PySem PySem.Spec PyProof.Rows L2 WM LamX
abbrev s_lift_lock : Stmt := topS 34
theorem sc_lift_lock : FnScope ["table", "owner", "where", "rows", "others", "lock", "first", "last", "kind"] ["table", "owner", "where"] (defScope s_lift_lock) := ⟨rfl, rfl, rfl, by decide +kernel, rfl, by decide +kernel, by decide +kernel⟩
theorem tbAt_updI {H : Hp} {x C dx d : Addr} {fs fs' : List (Str × V)} {tb : Tb Str} (hx : H x = some (.ins C dx fs)) (h : TbAt H d tb) : TbAt (upd H x (.ins C dx fs')) d tb := by
  obtain ⟨kvs, h1, h2⟩ := h
  refine ⟨kvs, by rw [upd_ne (ne_of h1 hx fun z => nomatch z)]; exact h1, Paired.mapP h2 fun _ _ h => ⟨h.1, ?_⟩⟩
  obtain ⟨a, xs, e, g1, g2⟩ := h.2
  exact ⟨a, xs, e, by rw [upd_ne (ne_of g1 hx fun z => nomatch z)]; exact g1, Paired.mapP g2 fun _ _ ⟨b, e, h⟩ => ⟨b, e, by rw [upd_ne (ne_of h hx fun z => nomatch z)]; exact h⟩⟩
theorem left_none {rows : List WM.Row} (h : ∀ r ∈ rows, wfRow r) : leftRows rows 0 none = [] := by
  unfold leftRows
  rw [List.flatMap_eq_nil_iff]
  rintro ⟨f, l, k⟩ hr
  rw [leftOne_eq, if_neg (by have := (h _ hr).1; show ¬ f < 0; exact Int.not_lt.2 this)]
  rfl
theorem TbD.mono {tb : Tb Str} {m n : Nat} (h : TbD tb m) (e : m ≤ n) : TbD tb n := ⟨h.dj, Nat.le_trans h.tot e⟩
/-- a table with what is known of it -/
structure TbG (tb : Tb Str) (ls : List (Lk Str)) (names : List Str) (n : Nat) : Prop where
  tbl : TblOk tb ls
  dj : TbD tb n
  few : names.length ≤ 5
  own : ∀ l ∈ ls, l.1 ∈ names
  ok : ∀ l ∈ ls, lkOk l
  all : AllOk ls
theorem TbG.len {tb : Tb Str} {ls : List (Lk Str)} {names : List Str} {n : Nat} (G : TbG tb ls names n) : tb.length ≤ 5 := few_keys G.few G.own G.tbl
section
variable {P : Program} {w : World} {K : PySem.W.Frag} {mg : Str → Option Value} {base : Heap} {ka C fi fl fo : Addr}
/-- what is made of locks by LockTable(..) -/
theorem made {TT : List (Addr × Str)} {H : Hp} {Q : VK} {a : Addr} {xs : List V} {ls : List (Lk Str)} {names : List Str} (ha : H a = some (.lst xs)) (hp : Paired (rLk H) xs ls) (ok : LsOk ls names) (hT : Tabs TT H)
    (q : ∀ v H' tb, ExtN H H' → Tabs TT H' → TbI C H' v tb → TbG tb ls names (2 * ls.length) → Q v H') :
    ∀ x dx, H x = none → H dx = none → dx ≠ x → sp_init TT C (.ref x :: ([.ref a] ++ [])) (upd (upd H dx (.own x)) x (.ins C dx [])) (fun v H2 => v = .non ∧ Q (.ref x) H2) E0 := by
  intro x dx hx hdx hne
  have s1 : Same H (upd H dx (.own x)) := same_upd hdx
  have hx1 : upd H dx (.own x) x = none := by rw [upd_ne hne.symm]; exact hx
  have s2 : Same H (upd (upd H dx (.own x)) x (.ins C dx [])) := s1.trans (same_upd hx1)
  refine ⟨x, dx, a, xs, ls, names, rfl, upd_same, s2 _ _ ha, rTup_gr.mono.all (Kg.of s2) hp, ok, hT.ext s2, fun H1 d tb e1 T1 htb TB TD => ⟨rfl, ?_⟩⟩
  have hx2 : H1 x = some (.ins C dx []) := e1 _ _ upd_same fun _ z => nomatch z
  exact q _ _ tb (extN_own ((ExtN.of s2).trans e1) hx) (tabs_updI T1 hx2) ⟨x, dx, d, rfl, upd_same, tbAt_updI hx2 htb⟩ ⟨TB, TD, ok.few, ok.own, ok.ok, ok.all⟩
def sp_lift (TT : List (Addr × Str)) (C : Addr) : Sp := fun vs H Q _ => ∃ (v : V) (o : Str) (wh : Addr) (tb : Tb Str) (ls : List (Lk Str)) (names : List Str) (n : Nat), vs = [v, .str o, .ref wh] ∧ TbI C H v tb ∧ TbG tb ls names n ∧ n ≤ 40000 ∧ nameOk o = true ∧ H wh = some (.tup [.int 0, .non]) ∧ Tabs TT H ∧
  ∀ v' H' tb' ls', ExtN H H' → Tabs TT H' → TbI C H' v' tb' → TbG tb' ls' names (2 * n) → (∀ o' p, lastCov ls' o' p = if o' = o then none else lastCov ls o' p) → Q v' H'
theorem ok_lift {TT : List (Addr × Str)} {f : Addr} {fd : FuncData} (D : Df K mg "lift_lock" s_lift_lock ["table", "owner", "where"] f fd) (T : Bl mg) (L : LTb K mg C fi fl fo) (G_is_name : Dn P w K mg base CX0 1 "is_name" ["thing"] sp_is_name) (G_is_list : Dn P w K mg base CX0 1 "is_list" ["thing"] (sp_is_list K)) (G_is_range : Dn P w K mg base CX0 3 "is_range" ["begin", "end"] sp_is_range)
    (G_left_rows : Dn P w K mg base CX0 1 "left_rows" ["rows", "begin", "end"] (sp_left_rows K)) (G_locks : Dq P w K mg base 2 fl ["self"] (sp_locks C)) (G_init : Dq P w K mg base 6 fi ["self", "locks"] (sp_init TT C)) : Dn P w K mg base CX0 8 "lift_lock" ["table", "owner", "where"] (sp_lift TT C) := .of D (by
  refine D.fn.ok sc_lift_lock (fun vs H Q E h => ?_) (fun cdv A outer s H vs Q E hr h => ?_)
  · obtain ⟨v, o, wh, tb, ls, names, n, rfl, _⟩ := h
    rfl
  · obtain ⟨v, o, wh, tb, ls, names, n, rfl, hv, G, hn, ho, hwh, hT, q⟩ := h
    have hu := hu_of hr
    refine ⟨_, (pss_cons (ps_if (pt_not (pt_val (pe_cl G_is_name (hr.mono (by decide)) (pa_cons (pv 1) pa_nil)))) (pss_one (ps_never)) pss_nil)
      (pss_cons (ps_if (PW.pt (pw_or (pt_not (pt_val (pe_cl G_is_list (hr.mono (by decide)) (pa_cons (pv 2) pa_nil)))) (pw_or (pt_cmpR op_ne (pe_callB (lenA K) (by rfl) T.b_len (by decide +kernel) (pa_cons (pv 2) pa_nil)) (pe_int) (nomark _)) (pw_or1 (pt_not (pt_val (pe_cl G_is_range (hr.mono (by decide)) (pa_cons (pe_ix (ixT K) (pv 2) (pe_int) (fun _ _ => rfl)) (pa_cons (pe_ix (ixT K) (pv 2) (pe_int) (fun _ _ => rfl)) pa_nil))))))))) (pss_one (ps_never)) pss_nil)
      (pss_cons (ps_set (i := 3) sc_lift_lock.nd rfl (Or.inl rfl) (pe_cl G_left_rows (hr.mono (by decide)) (pa_cons (pe_dget2 hu (fldK K (pv 0)) (pv 1) (pe_lst pa_nil) ⟨rfl, rfl, rfl, rfl⟩) (pa_cons (pe_ix (ixT K) (pv 2) (pe_int) (fun _ _ => rfl)) (pa_cons (pe_ix (ixT K) (pv 2) (pe_int) (fun _ _ => rfl)) pa_nil)))))
      (pss_cons (ps_setLc (i := 4) (own := [("lock", 5)]) rfl sc_lift_lock.nd rfl rfl (sw_true rfl rfl rfl (by decide +kernel)) (pil K (pe_locks G_locks L (hr.mono (by decide)) (pv 0))) (blkOk_by (N := ["table", "owner", "where", "rows", "others", "lock", "first", "last", "kind"]) (sc := defScope s_lift_lock) (by decide +kernel)) (fun _ _ _ _ _ => pg_name (i := 5) sc_lift_lock.nd rfl (Or.inl rfl)) (fun _ _ _ _ _ => pts_one (pt_cmpR op_ne (pe_ix (ixT K) (pv 5) (pe_int) (fun _ _ => rfl)) (pv 1) (nomark _))) (fun _ _ _ _ _ => pv 5))
      (pss_one (ps_ret (pe_mkLT G_init L (hr.mono (by decide)) (pa_cons (pe_op op_cat (pv 4) (pe_lc (own := [("first", 6), ("last", 7), ("kind", 8)]) rfl sc_lift_lock.nd (pil K (pv 3)) (blkOk_by (N := ["table", "owner", "where", "rows", "others", "lock", "first", "last", "kind"]) (sc := defScope s_lift_lock) (by decide +kernel)) (fun _ _ _ _ _ => tupG K (n := 3) rfl (pgs_cons (pg_name (i := 6) sc_lift_lock.nd rfl (Or.inl rfl)) (pgs_cons (pg_name (i := 7) sc_lift_lock.nd rfl (Or.inl rfl)) (pgs_cons (pg_name (i := 8) sc_lift_lock.nd rfl (Or.inl rfl)) pgs_nil)))) (fun _ _ _ _ _ => pts_nil) (fun _ _ _ _ _ => pe_tup (pa_cons (pv 1) (pa_cons (pv 6) (pa_cons (pv 7) (pa_cons (pv 8) pa_nil))))))) pa_nil)))))))), ?_⟩
    have hfew := G.len
    have htot : total tb ≤ 40000 := Nat.le_trans G.dj.tot hn
    -- the names and the range are right
    refine ⟨_, rfl, o, rfl, ho, fun H1 s1 => ⟨_, rfl, iteF ?_⟩⟩
    have hwh1 := s1 _ _ hwh
    refine ⟨_, rfl, _, "tuple", true, rfl, .base (.tup hwh1), kSeq_yes (.inr ⟨by decide +kernel, by decide +kernel⟩), fun H2 s2 => ⟨_, rfl, iteF ?_⟩⟩
    have hwh2 := s2 _ _ hwh1
    refine ⟨_, rfl, wh, _, rfl, .inr (SqT.of hwh2), rfl, _, rfl, iteF ?_⟩
    refine ⟨_, rfl, _, _, _, _, rfl, rfl, SqT.of hwh2, rfl, _, rfl, _, _, _, _, rfl, rfl, SqT.of hwh2, rfl, 0, none, rfl, fun H3 s3 => ⟨_, rfl, iteF ?_⟩⟩
    have sA := s1.trans (s2.trans s3)
    have hv3 := hv.kg (Kg.of sA)
    obtain ⟨x0, dx0, d0, rfl, hx0, kvs, hdk, hkv⟩ := id hv3
    have hwh3 := sA _ _ hwh
    -- what is left of the owner's rows: none
    refine ⟨_, rfl, x0, C, dx0, _, _, rfl, hx0, L.cls, L.na, rfl, d0, rfl, .inl ⟨kvs, .inl hdk⟩, _, rfl, Nat.zero_le _, fun z hz => ?_⟩
    have s4 : Same H3 (upd H3 z (.lst [])) := same_upd hz
    have hrow : ∃ (ra : Addr) (rxs : List V), (valV kvs (Sum.inr o)).getD (.ref z) = .ref ra ∧ upd H3 z (.lst []) ra = some (.lst rxs) ∧ Paired (rRow (upd H3 z (.lst []))) rxs (getT tb o) := by
      by_cases c : o ∈ tb.map (·.1)
      · obtain ⟨v, hv, ra, rxs, rfl, h1, h2⟩ := (tb_val hkv).1 c
        exact ⟨ra, rxs, by rw [hv]; rfl, s4 _ _ h1, rTup_gr.mono.all (Kg.of s4) h2⟩
      · obtain ⟨hv, hg⟩ := (tb_val hkv).2 c
        exact ⟨z, [], by rw [hv]; rfl, upd_same, by rw [hg]; exact .nil⟩
    obtain ⟨ra, rxs, era, hra, hrp⟩ := hrow
    have hgl : (getT tb o).length ≤ 40000 := by
      by_cases c : o ∈ tb.map (·.1)
      · exact Nat.le_trans (len_get G.tbl.nd c) htot
      · rw [getT_none c]; exact Nat.zero_le _
    refine ⟨_, DGet.k (k := Sum.inr o) (s4 _ _ hdk), ?_⟩
    rw [era]
    refine ⟨_, rfl, _, _, _, _, rfl, rfl, SqT.of (s4 _ _ hwh3), rfl, _, rfl, _, _, _, _, rfl, rfl, SqT.of (s4 _ _ hwh3), rfl, ?_⟩
    refine ⟨ra, rxs, _, 0, none, rfl, SqL.of hra, hrp, by omega, fun p5 H5 ws5 hp5 s5 hw5 hwp5 => ?_⟩
    rw [left_none fun r hr => G.tbl.wf o r ((mem_getT G.tbl.nd).1 hr)] at hwp5
    cases hwp5
    -- the others' locks
    refine ⟨_, rfl, x0, dx0, _, rfl, s5 _ _ (s4 _ _ hx0), rfl, .ref x0, tb, rfl, (hv3.kg (Kg.of s4)).kg (Kg.of s5), G.tbl.nd, by omega, by omega, fun p6 H6 ws6 os hp6 s6 hw6 hos hwp6 => ?_⟩
    have hlen6 : (tlOf tb os).length = total tb := len_tlOf G.tbl.nd hos
    refine ⟨p6, rfl, ⟨_, SqL.of hw6⟩, fun D1 hD1 => lc_L (R := rLk) (S := rLk) (as := tlOf tb os) rTup_gr.mono rTup_gr (fun l => if l.1 ≠ o then some l else none) hD1 (SqL.of hw6) hwp6 (by rw [hwp6.length, hlen6]; omega) (fun i x l hl H7 s7 hx N Z hN hZ => ?_) fun H7 ws7 s7 hw7 hwp7 => ?_⟩
    · obtain ⟨la, rfl, hla⟩ := hx
      refine ⟨rfl, _, rfl, _, _, _, _, rfl, rfl, SqT.of hla, rfl, _, rfl, rfl, _, rfl, ?_⟩
      by_cases c : l.1 = o
      · rw [c, decide_eq_true rfl]
        exact iteF (hZ _ (Same.refl _) (if_neg fun z => z c))
      · rw [decide_eq_false fun z => c (by injection z)]
        exact iteT ⟨_, rfl, hN _ _ _ (Same.refl _) (if_pos c) ⟨la, rfl, hla⟩⟩
    · have efl : (tlOf tb os).filterMap (fun l => if l.1 ≠ o then some l else none) = (tlOf tb os).filter fun l => decide (l.1 ≠ o) := by
        have := filterMap_if (fun l : Lk Str => decide (l.1 ≠ o)) id (tlOf tb os)
        rw [List.map_id] at this
        rw [this]
        congr 1
        funext l
        by_cases c : l.1 = o
        · rw [if_neg fun z => z c, if_neg fun z => (of_decide_eq_true z) c]
        · rw [if_pos c, if_pos (decide_eq_true c)]
          rfl
      rw [efl] at hwp7
      obtain ⟨a1, a2, a3⟩ := lift_ok G.tbl G.all (mem_tlOf G.tbl.nd fun o' => hos.mem_iff) o
      refine ⟨_, rfl, _, rfl, p5, rfl, ⟨_, SqL.of (s7 _ _ (s6 _ _ hw5))⟩, fun D2 hD2 => lc_L (R := rRow) (S := rLk) (as := []) rTup_gr.mono rTup_gr (fun r => some (o, r)) hD2 (SqL.of (s7 _ _ (s6 _ _ hw5))) .nil (Nat.zero_le _) (fun i x l hl => by cases hl) fun H8 ws8 s8 hw8 hwp8 => ?_⟩
      cases hwp8
      have hlen7 : ws7.length ≤ total tb := by
        rw [hwp7.length, ← hlen6]
        exact List.length_filter_le _ _
      refine ⟨D1, D2, ws7, [], rfl, rfl, s8 _ _ hw7, hw8, by rw [sizeLine_eq, List.length_nil]; omega, ?_⟩
      rw [List.append_nil]
      intro q1 hq1
      have s9 : Same H8 (upd H8 q1 (.lst ws7)) := same_upd hq1
      have sB := s4.trans (s5.trans (s6.trans (s7.trans (s8.trans s9))))
      have ls' : LsOk ((tlOf tb os).filter fun l => decide (l.1 ≠ o)) names := by
        have sub : ∀ l ∈ (tlOf tb os).filter fun l => decide (l.1 ≠ o), Stands tb l.1 l.2 := fun l hl => (mem_tlOf G.tbl.nd (fun o' => hos.mem_iff) l).1 (List.mem_filter.1 hl).1
        have own : ∀ l ∈ (tlOf tb os).filter fun l => decide (l.1 ≠ o), ∃ m ∈ ls, m.1 = l.1 := fun l hl => by
          obtain ⟨rows, h1, _⟩ := sub l hl
          exact List.mem_map.1 ((G.tbl.keys l.1).1 (List.mem_map.2 ⟨_, h1, rfl⟩))
        refine ⟨G.few, fun l hl => ?_, fun l hl => ⟨?_, a2 l hl⟩, ?_, a1⟩
        · obtain ⟨m, hm, e⟩ := own l hl
          exact e ▸ G.own m hm
        · obtain ⟨m, hm, e⟩ := own l hl
          exact e ▸ (G.ok m hm).1
        · refine Nat.le_trans (List.length_filter_le _ _) ?_
          rw [hlen6]
          exact htot
      refine made upd_same (by exact rTup_gr.mono.all (Kg.of (s8.trans s9)) hwp7) ls' (hT.ext fun b o e => sB _ _ (sA _ _ e)) fun v' H' tb' e' T' hv' G' => ?_
      refine q v' H' tb' _ ((ExtN.of fun b o e => sB _ _ (sA _ _ e)).trans e') T' hv' ⟨G'.tbl, TbD.mono G'.dj ?_, G'.few, G'.own, G'.ok, G'.all⟩ a3
      have h1 := List.length_filter_le (fun l : Lk Str => decide (l.1 ≠ o)) (tlOf tb os)
      have h2 := G.dj.tot
      omega)
end
end WH
set_option Elab.async false
set_option linter.all false
set_option maxRecDepth 100000
set_option maxHeartbeats 2000000
namespace WH
open PySem PySem.Spec PyProof.Rows L2 WM LamX
abbrev s_BadLock___init__ : Stmt := inClass (topS 2) 0
theorem sc_BadLock___init__ : FnScope ["self", "index"] ["self", "index"] (defScope s_BadLock___init__) := ⟨rfl, rfl, rfl, by decide +kernel, rfl, by decide +kernel, by decide +kernel⟩
abbrev s_BadPrices___init__ : Stmt := inClass (topS 4) 0
theorem sc_BadPrices___init__ : FnScope ["self", "thing"] ["self", "thing"] (defScope s_BadPrices___init__) := ⟨rfl, rfl, rfl, by decide +kernel, rfl, by decide +kernel, by decide +kernel⟩
abbrev s_cost_of : Stmt := topS 37
theorem sc_cost_of : FnScope ["names", "prices", "name"] ["names", "prices"] (defScope s_cost_of) := ⟨rfl, rfl, rfl, by decide +kernel, rfl, by decide +kernel, by decide +kernel⟩
abbrev s_cheapest_of : Stmt := topS 38
theorem sc_cheapest_of : FnScope ["sets", "prices", "costs", "one"] ["sets", "prices"] (defScope s_cheapest_of) := ⟨rfl, rfl, rfl, by decide +kernel, rfl, by decide +kernel, by decide +kernel⟩
/-! ### the two exceptions: made with one value, which is kept in a field -/
structure Xo (K : PySem.W.Frag) (mg : Str → Option Value) (x f : Str) (CB fI : Addr) : Prop where
  ox : OexC K CB
  iC : PySem.W.findIn K (.ref CB) "__init__" = some (some (.ref fI))
  tI : PySem.W.typeIn K (.ref fI) = some (.type "function")
  gl : mg x = some (.ref CB)
  nf : PySem.W.findIn K (.ref CB) f = some none
  xf : XfC K CB
def sp_exi (CB : Addr) (f : Str) : Sp := fun vs H Q _ => ∃ (a : Addr) (v : V), vs = [.ref a, v] ∧ H a = some (exo a CB none) ∧ ∀ dx, H dx = none → dx ≠ a → Q .non (upd (upd H dx (exd dx [(f, v)])) a (exo a CB (some dx)))
section
variable {P : Program} {w : World} {K : PySem.W.Frag} {mg : Str → Option Value} {base : Heap} {CB fI : Addr}
theorem ok_badlock {fd : FuncData} (D : Dm K "__init__" "BadLock.__init__" s_BadLock___init__ ["self", "index"] fI fd) (L : Xo K mg "BadLock" "index" CB fI) : Dq P w K mg base 1 fI ["self", "index"] (sp_exi CB "index") := ⟨fd, by
  refine D.fn.ok sc_BadLock___init__ (fun vs H Q E h => ?_) (fun cdv A outer s H vs Q E hr h => ?_)
  · obtain ⟨a, v, rfl, _⟩ := h
    rfl
  · obtain ⟨a, v, rfl, ha, q⟩ := h
    refine ⟨_, (pss_one (ps_ost (pv 0) (pv 1))), ?_⟩
    exact ⟨_, rfl, _, rfl, a, CB, rfl, L.ox, L.nf, .inl ⟨ha, fun dx hdx hne => q dx hdx hne⟩⟩, D.bd⟩
theorem ok_badprices {fd : FuncData} (D : Dm K "__init__" "BadPrices.__init__" s_BadPrices___init__ ["self", "thing"] fI fd) (L : Xo K mg "BadPrices" "thing" CB fI) : Dq P w K mg base 1 fI ["self", "thing"] (sp_exi CB "thing") := ⟨fd, by
  refine D.fn.ok sc_BadPrices___init__ (fun vs H Q E h => ?_) (fun cdv A outer s H vs Q E hr h => ?_)
  · obtain ⟨a, v, rfl, _⟩ := h
    rfl
  · obtain ⟨a, v, rfl, ha, q⟩ := h
    refine ⟨_, (pss_one (ps_ost (pv 0) (pv 1))), ?_⟩
    exact ⟨_, rfl, _, rfl, a, CB, rfl, L.ox, L.nf, .inl ⟨ha, fun dx hdx hne => q dx hdx hne⟩⟩, D.bd⟩
/-- C(e): the exception in flight -/
def tRz (CB : Addr) (f : Str) (ta : TA) : L2.St → Hp → XK → Prop := fun σ H Q => ta σ H (oneV fun v H1 => ∀ d, H1 d = none → Q (.ref CB) (some d) (upd H1 d (.xd [(f, v)])))
theorem pm_exc {X : Cx} {x f nm : Str} {e : Expr} {ta : TA} {p pos : Pos} (L : Xo X.K X.mg x f CB fI) (G : Dq X.prog X.w X.K X.mg X.base 1 fI ["self", nm] (sp_exi CB f)) (hr : Room 2 X.A) (ha : PA X [e] ta) (hg : Gl X x := by rfl)
    (hdb : (x == ("__debug__" : Str)) = false := by decide) (he : starEach [e] X.env = (false, eval e X.env) :: starEach [] X.env := by rfl) (hpl : (backTo pos (starEach [] X.env)).any (·.1) = false := by rfl) : PMk X (.Call (.Name x p) [e] [] pos) (tRz CB f ta) := by
  obtain ⟨fd, F, bd⟩ := G.ex
  have ha' : PA X [e] (fun σ H Q' => ∃ R, ta σ H R ∧ ∀ vs H1, R vs H1 → Q' vs H1) := ⟨fun pos pins s σ H Q I ⟨R, h1, h2⟩ => thn (ha.run pos pins s σ H R I h1) fun us s1 ⟨vs, H1, I1, r, q⟩ => ⟨vs, H1, I1, r, h2 _ _ q⟩⟩
  intro pins s σ H Q I h
  refine pmk_oex L.ox L.iC L.tI F hr bd .nil pass0 hg L.gl ha' hdb he hpl pins s σ H Q I ⟨_, h, fun vs H1 hB => ?_⟩
  obtain ⟨v, rfl⟩ : ∃ v, vs = [v] := by
    match vs, hB with
    | [v], _ => exact ⟨v, rfl⟩
    | [], q => exact q.elim
    | _ :: _ :: _, q => exact q.elim
  refine ⟨by show 1 ≤ 1000; decide, fun a hna => ⟨a, v, rfl, upd_same, fun dx hdx hne => ⟨rfl, dx, _, upd_same, by rw [upd_ne hne, upd_same], by rw [upd_ne hne] at hdx; exact hdx, ?_⟩⟩⟩
  rw [upd_ne hne] at hdx
  have e : upd (del (upd (upd (upd H1 a (exo a CB none)) dx (exd dx [(f, v)])) a (exo a CB (some dx))) a) dx (.xd [(f, v)]) = upd H1 dx (.xd [(f, v)]) := by
    funext b
    by_cases c1 : b = dx
    · rw [c1, upd_same, upd_same]
    · rw [upd_ne c1, upd_ne c1]
      by_cases c2 : b = a
      · rw [c2, del_same, hna]
      · rw [del_ne c2, upd_ne c2, upd_ne c1, upd_ne c2]
  rw [e]
  exact hB dx hdx
/-! ### cost_of, cheapest_of -/
/-- prices: a dict, a whole number for each of the names -/
def PrOk (H : Hp) (d : Addr) (names : List Str) (pr : Str → Int) : Prop := ∃ kvs : List (Key × V), H d = some (.dK kvs) ∧ (∀ x ∈ names, valV kvs (Sum.inr x) = some (.int (pr x))) ∧ (∀ kv ∈ kvs, ∃ x ∈ names, kv.1 = Sum.inr x) ∧ (∀ x ∈ names, 0 ≤ pr x) ∧ kvs.length ≤ 1000
theorem PrOk.kg {H H' : Hp} {d : Addr} {names : List Str} {pr : Str → Int} (k : Kg H H') : PrOk H d names pr → PrOk H' d names pr := fun ⟨kvs, h, r⟩ => ⟨kvs, k _ _ trivial h, r⟩
def sp_cost_of (K : PySem.W.Frag) : Sp := fun vs H Q _ => ∃ (a d : Addr) (s names : List Str) (pr : Str → Int), vs = [.ref a, .ref d] ∧ H a = some (.tup (s.map V.str)) ∧ PrOk H d names pr ∧ (∀ x ∈ s, x ∈ names) ∧ s.length ≤ 100000 ∧
  ∀ H', Same H H' → Q (.int (s.map pr).sum) H'
theorem ok_cost_of {f : Addr} {fd : FuncData} (D : Df K mg "cost_of" s_cost_of ["names", "prices"] f fd) (T : Bl mg) : Dn P w K mg base CX0 1 "cost_of" ["names", "prices"] (sp_cost_of K) := .of D (by
  refine D.fn.ok sc_cost_of (fun vs H Q E h => ?_) (fun cdv A outer s H vs Q E hr h => ?_)
  · obtain ⟨a, d, s, names, pr, rfl, _⟩ := h
    rfl
  · obtain ⟨a, d, s, names, pr, rfl, ha, ⟨kvs, hd, hv, _, _⟩, hs, hl, q⟩ := h
    have hu := hu_of hr
    refine ⟨_, (pss_one (ps_ret (pe_callB (sumK K) (by rfl) T.b_sum (by decide +kernel) (pa_cons (pe_lc (own := [("name", 2)]) rfl sc_cost_of.nd (pit K (pv 0)) (blkOk_by (N := ["names", "prices", "name"]) (sc := defScope s_cost_of) (by decide +kernel)) (fun _ _ _ _ _ => pg_name (i := 2) sc_cost_of.nd rfl (Or.inl rfl)) (fun _ _ _ _ _ => pts_nil) (fun _ _ _ _ _ => pe_dget hu (pv 1) (pv 2) (fun _ _ => rfl))) pa_nil)))), ?_⟩
    refine ⟨_, rfl, a, rfl, ⟨_, SqT.of ha⟩, fun D1 hD1 => lc_T (R := rS) (S := rV V.int) (as := s) rV_mono rV_gr (fun x => some (pr x)) hD1 (SqT.of ha) (rV_paired s) (by rw [List.length_map]; exact hl) (fun i y x hx H2 s2 hy N Z hN hZ => ?_) fun H2 ys s2 hy hyp => ?_⟩
    · rw [show y = V.str x from hy]
      refine ⟨rfl, ty ⟨_, rfl, _, rfl, d, _, rfl, hv x (hs x (List.mem_of_getElem? hx)) ▸ DGet.k (k := Sum.inr x) (s2 _ _ hd), hN _ _ _ (Same.refl _) rfl rfl⟩⟩
    · rw [filterMap_some] at hyp
      refine ⟨D1, s.map pr, rfl, SqL.of (by rw [hy, paired_rV hyp]), q H2 s2⟩)
/-- the first of the cheapest -/
def firstMin (l : List Int) (j : Nat) (m : Int) : Prop := l[j]? = some m ∧ (∀ y ∈ l, m ≤ y) ∧ ∀ (i : Nat) z, i < j → l[i]? = some z → z ≠ m
theorem firstMin_ex : ∀ {l : List Int}, l ≠ [] → ∃ j m, firstMin l j m
  | [x], _ => ⟨0, x, rfl, fun y hy => by rw [List.mem_singleton] at hy; omega, fun i z h => by omega⟩
  | x :: y :: r, _ => by
    obtain ⟨j, m, h1, h2, h3⟩ := firstMin_ex (l := y :: r) (by simp)
    by_cases c : x ≤ m
    · refine ⟨0, x, rfl, fun z hz => ?_, fun i z h => by omega⟩
      rcases List.mem_cons.1 hz with rfl | hz
      · exact Int.le_refl _
      · exact Int.le_trans c (h2 z hz)
    · refine ⟨j + 1, m, by simpa using h1, fun z hz => ?_, fun i z hi hz => ?_⟩
      · rcases List.mem_cons.1 hz with rfl | hz
        · omega
        · exact h2 z hz
      · cases i with
        | zero =>
          injection hz with hz
          omega
        | succ i => exact h3 i z (by omega) (by simpa using hz)
theorem firstMin_fun {l : List Int} {i j : Nat} {m n : Int} (a : firstMin l i m) (b : firstMin l j n) : i = j ∧ m = n := by
  have e : m = n := by
    have h1 := a.2.1 n (List.mem_of_getElem? b.1)
    have h2 := b.2.1 m (List.mem_of_getElem? a.1)
    omega
  subst e
  refine ⟨?_, rfl⟩
  rcases Nat.lt_trichotomy i j with c | c | c
  · exact absurd rfl (b.2.2 i m c a.1)
  · exact c
  · exact absurd rfl (a.2.2 j m c b.1)
theorem ints_flat (l : List Int) : (l.map V.int).all flatV = true := by
  rw [List.all_eq_true]
  intro v hv
  obtain ⟨x, _, rfl⟩ := List.mem_map.1 hv
  rfl
theorem eqV_int (a b : Int) : eqV (.int a) (.int b) = decide (a = b) := by
  unfold eqV
  first | rfl | (by_cases h : a = b <;> simp [h])
def sp_cheapest_of (K : PySem.W.Frag) : Sp := fun vs H Q _ => ∃ (a d : Addr) (xs : List V) (ss : List (List Str)) (names : List Str) (pr : Str → Int), vs = [.ref a, .ref d] ∧ H a = some (.lst xs) ∧ Paired (rSet H) xs ss ∧ ss ≠ [] ∧ ss.length ≤ 100000 ∧ PrOk H d names pr ∧ (∀ s ∈ ss, (∀ x ∈ s, x ∈ names) ∧ s.length ≤ 100000) ∧
  ∀ p H' j m s, H p = none → Same H H' → firstMin (ss.map fun s => (s.map pr).sum) j m → ss[j]? = some s → H' p = some (.lst (s.map V.str)) → Q (.ref p) H'
theorem ok_cheapest_of {f : Addr} {fd : FuncData} (D : Df K mg "cheapest_of" s_cheapest_of ["sets", "prices"] f fd) (T : Bl mg) (G_cost_of : Dn P w K mg base CX0 1 "cost_of" ["names", "prices"] (sp_cost_of K)) : Dn P w K mg base CX0 2 "cheapest_of" ["sets", "prices"] (sp_cheapest_of K) := .of D (by
  refine D.fn.ok sc_cheapest_of (fun vs H Q E h => ?_) (fun cdv A outer s H vs Q E hr h => ?_)
  · obtain ⟨a, d, xs, ss, names, pr, rfl, _⟩ := h
    rfl
  · obtain ⟨a, d, xs, ss, names, pr, rfl, ha, hp, hne, hl, hpr, hss, q⟩ := h
    refine ⟨_, (pss_cons (ps_setLc (i := 2) (own := [("one", 3)]) rfl sc_cheapest_of.nd rfl rfl (sw_true rfl rfl rfl (by decide +kernel)) (pil K (pv 0)) (blkOk_by (N := ["sets", "prices", "costs", "one"]) (sc := defScope s_cheapest_of) (by decide +kernel)) (fun _ _ _ _ _ => pg_name (i := 3) sc_cheapest_of.nd rfl (Or.inl rfl)) (fun _ _ _ _ _ => pts_nil) (fun _ _ _ _ _ => pe_cl G_cost_of (hr.mono (by decide)) (pa_cons (pv 3) (pa_cons (pv 1) pa_nil))))
      (pss_one (ps_ret (pe_ifExp (pt_cmpR (neE K hr.units) (pv 0) (pe_lst pa_nil) (nomark _)) (pe_callTy (listOf K) (by rfl) T.b_list (by decide +kernel) (pa_cons (pe_ix (ixL K) (pv 0) (bmK K PySem.F.plainAttrs_list PySem.F.slot_list_index PySem.F.type_list_index mt_index (pv 2) (pa_cons (pe_callB (minK K) (by rfl) T.b_min (by decide +kernel) (pa_cons (pv 2) pa_nil)) pa_nil)) (fun _ _ => rfl)) pa_nil)) (pe_non))))), ?_⟩
    refine ⟨_, rfl, a, rfl, ⟨_, SqL.of ha⟩, fun D1 hD1 => lc_L (R := rSet) (S := rV V.int) (as := ss) rSet_mono rV_gr (fun s => some (s.map pr).sum) hD1 (SqL.of ha) hp (by rw [hp.length]; exact hl) (fun i y s hs H2 s2 hy N Z hN hZ => ?_) fun H2 ys s2 hy hyp => ?_⟩
    · obtain ⟨sa, rfl, hsa⟩ := hy
      obtain ⟨h1, h2⟩ := hss s (List.mem_of_getElem? hs)
      exact ⟨rfl, ty ⟨_, rfl, _, rfl, sa, d, s, names, pr, rfl, hsa, hpr.kg (Kg.of s2), h1, h2, fun H3 s3 => hN _ _ _ s3 rfl rfl⟩⟩
    · rw [filterMap_some] at hyp
      have eys := paired_rV hyp
      obtain ⟨j, m, hf⟩ := firstMin_ex (l := ss.map fun s => (s.map pr).sum) (by simpa using hne)
      obtain ⟨s, hs⟩ : ∃ s, ss[j]? = some s := by
        have h := hf.1
        rw [List.getElem?_map] at h
        cases e : ss[j]? with
        | none => rw [e] at h; cases h
        | some s => exact ⟨s, rfl⟩
      have hp2 := rSet_mono.all (Kg.of s2) hp
      obtain ⟨v, hv, sa, rfl, hsa⟩ : ∃ v, xs[j]? = some v ∧ rSet H2 v s := by
        have : j < xs.length := by rw [hp.length]; exact (List.getElem?_eq_some_iff.mp hs).1
        obtain ⟨c, hc, hR⟩ := paired_get hp2 (List.getElem?_eq_getElem this)
        rw [hs] at hc
        injection hc with hc
        exact ⟨_, List.getElem?_eq_getElem this, hc ▸ hR⟩
      refine ⟨_, rfl, Nat.zero_le _, fun q0 hq0 => ⟨a, q0, xs, rfl, rfl, SqL.of (same_upd hq0 _ _ (s2 _ _ ha)), SqL.of upd_same, _, rfl, ?_⟩⟩
      have s3 : Same H2 (upd H2 q0 (.lst [])) := same_upd hq0
      have hxne : (!xs.isEmpty) = true := by
        cases xs with
        | nil => cases hp; exact absurd rfl hne
        | cons => rfl
      rw [if_pos rfl, hxne]
      have hy3 : SqL K (upd H2 q0 (.lst [])) D1 ((ss.map fun s => (s.map pr).sum).map V.int) := SqL.of (by rw [← eys]; exact s3 _ _ hy)
      refine iteT ⟨_, rfl, _, rfl, .inl ⟨rfl, _, hy3⟩, _, rfl, D1, _, rfl, hy3, by simpa using List.length_pos_iff.2 hne, fun m' hm' hle => ?_⟩
      have em : m' = m := by
        have h1 := hle m (List.mem_of_getElem? hf.1)
        have h2 := hf.2.1 m' hm'
        omega
      subst em
      refine ⟨D1, _, _, j, .int m', rfl, rfl, hy3, rfl, ints_flat _, by rw [List.getElem?_map, hf.1]; rfl, by rw [eqV_int]; exact decide_eq_true rfl, fun i z hi hz => ?_, ?_⟩
      · rw [List.getElem?_map] at hz
        cases e : (ss.map fun s => (s.map pr).sum)[i]? with
        | none => rw [e] at hz; cases hz
        | some y =>
          rw [e] at hz
          injection hz with hz
          subst hz
          rw [eqV_int]
          exact decide_eq_false (hf.2.2 i y hi e)
      · refine ⟨a, xs, _, _, rfl, rfl, SqL.of (s3 _ _ (s2 _ _ ha)), atI_nat hv, sa, _, rfl, .inr (SqT.of (s3 _ _ hsa)), fun p hp' => ?_⟩
        exact q p _ j m' s ((s2.trans s3).free hp') ((s2.trans s3).trans (same_upd hp')) hf hs upd_same)
end
end WH
set_option Elab.async false
set_option linter.all false
set_option maxRecDepth 100000
set_option maxHeartbeats 2000000
namespace WH
open PySem PySem.Spec PyProof.Rows L2 WM LamX
abbrev s_checked_prices : Stmt := topS 36
theorem sc_checked_prices : FnScope ["names", "prices", "key", "name"] ["names", "prices"] (defScope s_checked_prices) := ⟨rfl, rfl, rfl, by decide +kernel, rfl, by decide +kernel, by decide +kernel⟩
/-- for k in d, the dict locked -/
theorem for_keysK {d : Addr} {o : Obj} {kvs : List (Key × V)} {g : TG} {tb : TS} {D : Ends} {σ : L2.St} {H : Hp} (Pv : Nat → L2.St → Hp → Prop) (h0 : Pv 0 σ H) (hl : ∀ i σ H, i ≤ kvs.length → Pv i σ H → H d = some (.frz o (.dK kvs)))
    (hs : ∀ i k v σ H, kvs[i]? = some (k, v) → Pv i σ H → g (kV k) σ H fun σ2 H2 => tb { D with nx := Pv (i + 1), ct := Pv (i + 1), bk := D.nx } σ2 H2) (hd : ∀ σ H, Pv kvs.length σ H → D.nx σ H) :
    ∃ W : Nat → Nat → L2.St → Hp → Prop, (∃ m, W 0 m σ H) ∧ ∀ i m σ H, W i m σ H →
      ((Itk d o kvs).stop i H ∧ D.nx σ H) ∨ ((Itk d o kvs).go i H ∧ ∃ N : L2.St → Hp → Prop, (∀ σ' H', N σ' H' → ∃ m', m' < m ∧ W (i + 1) m' σ' H') ∧ ∀ x H', (Itk d o kvs).yld i H x H' → g x σ H' fun σ2 H2 => tb { D with nx := N, ct := N, bk := D.nx } σ2 H2) := by
  refine ⟨fun i m σ H => m = kvs.length - i ∧ i ≤ kvs.length ∧ Pv i σ H, ⟨kvs.length, by simp, Nat.zero_le _, h0⟩, ?_⟩
  rintro i m σ H ⟨rfl, hi, p⟩
  have q := hl i σ H hi p
  by_cases hlt : i < kvs.length
  · refine .inr ⟨⟨q, hlt⟩, Pv (i + 1), fun σ' H' p' => ⟨kvs.length - (i + 1), by omega, rfl, hlt, p'⟩, ?_⟩
    rintro x H' ⟨rfl, k, v, e, rfl⟩
    exact hs i k v σ H' e p
  · have e : i = kvs.length := by omega
    subst e
    exact .inl ⟨⟨q, Nat.le_refl _⟩, hd σ H p⟩
def GoodKv (names : List Str) (kv : Key × V) : Prop := ∃ x i, kv = (Sum.inr x, V.int i) ∧ x ∈ names ∧ 0 ≤ i
/-- prices that are refused, and the thing named -/
def PB (K : PySem.W.Frag) (H : Hp) (v : V) (names : List Str) (t : V) : Prop :=
  (∃ n, TyX K H v (.type n) ∧ kitB n "dict" = some false ∧ t = v) ∨
  (∃ (d : Addr) (kvs : List (Key × V)) (i : Nat) (x : Str) (y : V), v = .ref d ∧ H d = some (.dK kvs) ∧ (∀ j kv, j < i → kvs[j]? = some kv → GoodKv names kv ∧ valV kvs kv.1 = some kv.2) ∧ kvs[i]? = some (Sum.inr x, y) ∧ t = .str x ∧
    (x ∉ names ∨ (x ∈ names ∧ valV kvs (Sum.inr x) = some y ∧ ∀ H', (∀ b o, b ≠ d → H b = some o → H' b = some o) → numOk K H' y false))) ∨
  (∃ (d : Addr) (kvs : List (Key × V)) (i : Nat) (x : Str), v = .ref d ∧ H d = some (.dK kvs) ∧ (∀ kv ∈ kvs, GoodKv names kv ∧ valV kvs kv.1 = some kv.2) ∧ names[i]? = some x ∧ t = .str x ∧ valV kvs (Sum.inr x) = none ∧ ∀ j z, j < i → names[j]? = some z → valV kvs (Sum.inr z) ≠ none)
section
variable {P : Program} {w : World} {K : PySem.W.Frag} {mg : Str → Option Value} {base : Heap} {CP fP : Addr}
def sp_checked_prices (K : PySem.W.Frag) (CP : Addr) : Sp := fun vs H Q E => ∃ (an : Addr) (v : V) (names : List Str), vs = [.ref an, v] ∧ H an = some (.lst (names.map V.str)) ∧ names.length ≤ 1000 ∧
  ((∃ d pr, v = .ref d ∧ PrOk H d names pr ∧ (∃ kvs, H d = some (.dK kvs) ∧ ∀ kv ∈ kvs, GoodKv names kv ∧ valV kvs kv.1 = some kv.2) ∧ ∀ H', Same H H' → Q .non H') ∨
   ∃ t, PB K H v names t ∧ ∀ dd H', (∀ b o, (v = .ref b → ∀ kvs, o ≠ .dK kvs) → H b = some o → H' b = some o) → H' dd = some (.xd [("thing", t)]) → E (.ref CP) (some dd) H')
theorem ok_checked_prices {f : Addr} {fd : FuncData} (D : Df K mg "checked_prices" s_checked_prices ["names", "prices"] f fd) (T : Bl mg) (G_is_number : Dn P w K mg base CX0 2 "is_number" ["thing"] (sp_is_number K)) (L_BadPrices : Xo K mg "BadPrices" "thing" CP fP) (G_BadPrices : Dq P w K mg base 1 fP ["self", "thing"] (sp_exi CP "thing")) :
    Dn P w K mg base (L2.CX P w) 3 "checked_prices" ["names", "prices"] (sp_checked_prices K CP) := .of D (by
  refine D.fn.okX sc_checked_prices (fun vs H Q E h => ?_) (fun cdv A outer s H vs Q E hr h => ?_)
  · obtain ⟨an, v, names, rfl, _⟩ := h
    rfl
  · obtain ⟨an, v, names, rfl, han, hn, q⟩ := h
    have hu := hu_of hr
    refine ⟨_, (pss_cons (ps_if (pt_not (pt_val (pe_callB (isiK K) (by rfl) T.b_isinstance (by decide +kernel) (pa_cons (pv 1) (pa_cons (pe_bltn (v := .ty "dict") (by rfl) T.b_dict (by decide +kernel) rfl) pa_nil))))) (pss_one (ps_raise rfl (takes_of rfl rfl rfl rfl) (pm_exc L_BadPrices G_BadPrices (hr.mono (by decide)) (pa_cons (pv 1) pa_nil)))) pss_nil)
      (pss_cons (ps_lock (ps_for (passes_of rfl) rfl (pi_keys (pv 1)) (pg_name (i := 2) sc_checked_prices.nd rfl (Or.inl rfl))
        (pss_one (ps_if (PW.pt (pw_or (pt_cmpR (ninSq K) (pv 2) (pv 0) rfl) (pw_or1 (pt_not (pt_val (pe_cl G_is_number (hr.mono (by decide)) (pa_cons (pe_dget hu (pv 1) (pv 2) (fun _ _ => rfl)) pa_nil))))))) (pss_one (ps_raise rfl (takes_of rfl rfl rfl rfl) (pm_exc L_BadPrices G_BadPrices (hr.mono (by decide)) (pa_cons (pv 2) pa_nil)))) pss_nil))))
      (pss_one (ps_for (passes_of rfl) rfl (pil K (pv 0)) (pg_name (i := 3) sc_checked_prices.nd rfl (Or.inl rfl))
        (pss_one (ps_if (pt_cmp (pc_dnotin hu (pv 3) (pv 1)) rfl) (pss_one (ps_raise rfl (takes_of rfl rfl rfl rfl) (pm_exc L_BadPrices G_BadPrices (hr.mono (by decide)) (pa_cons (pv 3) pa_nil)))) pss_nil)))))), ?_⟩
    have key : (∃ n t, TyX K H v (.type n) ∧ kitB n "dict" = some false ∧ t = v ∧ ∀ dd H', (∀ b o, (v = .ref b → ∀ kvs, o ≠ .dK kvs) → H b = some o → H' b = some o) → H' dd = some (.xd [("thing", t)]) → E (.ref CP) (some dd) H') ∨ ∃ (d : Addr) (kvs : List (Key × V)) (n0 m0 : Nat), v = .ref d ∧
        H d = some (.dK kvs) ∧
        (∀ j kv, j < n0 → kvs[j]? = some kv → GoodKv names kv ∧ valV kvs kv.1 = some kv.2) ∧
        (∀ kv, kvs[n0]? = some kv → ∃ x y, kv = (Sum.inr x, y) ∧ (x ∉ names ∨ (x ∈ names ∧ valV kvs (Sum.inr x) = some y ∧ ∀ H', (∀ b o, b ≠ d → H b = some o → H' b = some o) → numOk K H' y false)) ∧ ∀ dd H', (∀ b o, (v = .ref b → ∀ kvs, o ≠ .dK kvs) → H b = some o → H' b = some o) → H' dd = some (.xd [("thing", .str x)]) → E (.ref CP) (some dd) H') ∧
        (kvs.length ≤ n0 → (∀ j z, j < m0 → names[j]? = some z → valV kvs (Sum.inr z) ≠ none) ∧ (∀ z, names[m0]? = some z → valV kvs (Sum.inr z) = none ∧ ∀ dd H', (∀ b o, (v = .ref b → ∀ kvs, o ≠ .dK kvs) → H b = some o → H' b = some o) → H' dd = some (.xd [("thing", .str z)]) → E (.ref CP) (some dd) H') ∧ (names.length ≤ m0 → ∀ H', Same H H' → Q .non H')) := by
      rcases q with ⟨d, pr, rfl, ⟨kvs, hd, hv, _⟩, ⟨kvs', hd', hall⟩, q⟩ | ⟨t, hb, hE⟩
      · rw [hd] at hd'
        injection hd' with hd'
        injection hd' with hd'
        subst hd'
        refine .inr ⟨d, kvs, kvs.length, names.length, rfl, hd, fun j kv _ hj => hall kv (List.mem_of_getElem? hj), fun kv hk => by simp at hk, fun _ => ⟨fun j z _ hz => ?_, fun z hz => by simp at hz, fun _ => q⟩⟩
        rw [hv z (List.mem_of_getElem? hz)]
        exact fun z => nomatch z
      · rcases hb with ⟨n, ht, hk, rfl⟩ | ⟨d, kvs, i, x, y, rfl, hd, hg, hi, rfl, hb⟩ | ⟨d, kvs, i, x, rfl, hd, hg, hi, rfl, hx, hlt⟩
        · exact .inl ⟨n, _, ht, hk, rfl, hE⟩
        · refine .inr ⟨d, kvs, i, 0, rfl, hd, hg, fun kv hk => ?_, fun hle => ?_⟩
          · rw [hi] at hk
            injection hk with hk
            exact ⟨x, y, hk.symm, hb, hE⟩
          · have := (List.getElem?_eq_some_iff.mp hi).1
            omega
        · refine .inr ⟨d, kvs, kvs.length, i, rfl, hd, fun j kv _ hj => hg kv (List.mem_of_getElem? hj), fun kv hk => by simp at hk, fun _ => ⟨hlt, fun z hz => ?_, fun hle => ?_⟩⟩
          · rw [hi] at hz
            injection hz with hz
            exact hz ▸ ⟨hx, hE⟩
          · have := (List.getElem?_eq_some_iff.mp hi).1
            omega
    rcases key with ⟨n, t, ht, hk, rfl, hE⟩ | ⟨d, kvs, n0, m0, ev, hd, hgood, hbad, hend⟩
    · refine ⟨_, rfl, _, _, _, _, false, rfl, .ty _, ht, kit_ty hk, false, rfl, iteT ?_⟩
      exact ⟨_, rfl, fun dd hdd => hE dd _ (fun b o _ e => same_upd hdd _ _ e) upd_same⟩
    · subst ev
      refine ⟨_, rfl, .ref d, _, _, _, true, rfl, .ty _, .base (.dK hd), kit_ty (by decide +kernel), true, rfl, iteF ?_⟩
      have hand : an ≠ d := ne_of han hd fun z => nomatch z
      refine ⟨d, _, hd, trivial, fun od => ?_⟩
      refine ⟨_, rfl, d, od, rfl, .inl ⟨kvs, upd_same, for_keysK (d := d) (o := od) (kvs := kvs) (fun i σ H2 => i ≤ n0 ∧ (∃ v2 v3, σ = [some (.ref an), some (.ref d), v2, v3]) ∧ (∀ b o, b ≠ d → H b = some o → H2 b = some o) ∧ H2 d = some (.frz od (.dK kvs)))
        ⟨Nat.zero_le _, ⟨none, none, rfl⟩, fun b o hb e => by rw [upd_ne hb]; exact e, upd_same⟩ (fun i σ H2 _ ⟨_, _, _, h⟩ => h) ?_ ?_⟩⟩
      · rintro i k y σ H2 hi ⟨hin, ⟨v2, v3, rfl⟩, s2, hd2⟩
        have han2 := s2 _ _ hand han
        by_cases hlt : i < n0
        · obtain ⟨⟨x, z, e, hx, hz⟩, hv⟩ := hgood i _ hlt hi
          injection e with e1 e2
          subst e1
          subst e2
          refine ⟨_, rfl, _, rfl, an, _, rfl, .inl (SqL.of han2), rfl, strs_flat names, _, rfl, ?_⟩
          rw [if_pos rfl, show inV (kV (Sum.inr x)) (names.map V.str) = true from by rw [show kV (Sum.inr x) = V.str x from rfl, inV_strs]; exact decide_eq_true hx]
          refine iteF ⟨_, rfl, _, rfl, d, _, rfl, .inl ⟨kvs, Sum.inr x, .inr ⟨od, hd2⟩, rfl, hv.symm⟩, _, true, rfl, .inl ⟨z, rfl, (decide_eq_true hz).symm⟩, fun H3 s3 => ⟨_, rfl, iteF ?_⟩⟩
          exact ⟨by omega, ⟨_, _, rfl⟩, fun b o hb e => s3 _ _ (s2 b o hb e), s3 _ _ hd2⟩
        · have ei : i = n0 := by omega
          subst ei
          obtain ⟨x, y', e, hb, hE⟩ := hbad _ hi
          injection e with e1 e2
          subst e1
          subst e2
          refine ⟨_, rfl, _, rfl, an, _, rfl, .inl (SqL.of han2), rfl, strs_flat names, _, rfl, ?_⟩
          rw [if_pos rfl]
          have fin : ∀ H3, Same H2 H3 → tRz CP "thing" (tCons (tVar 2) tNil) [some (.ref an), some (.ref d), some (.str x), v3] H3 (fun cls d H' => E cls d H') := by
            intro H3 s3
            refine ⟨_, rfl, fun dd hdd => hE dd _ (fun b o hb e => ?_) upd_same⟩
            have h3 := s3 _ _ (s2 b o (fun z => hb (by rw [z]) kvs (by rw [z, hd] at e; exact (Option.some.inj e).symm)) e)
            exact same_upd hdd _ _ h3
          rcases hb with hx | ⟨hx, hv, hnum⟩
          · rw [show inV (kV (Sum.inr x)) (names.map V.str) = false from by rw [show kV (Sum.inr x) = V.str x from rfl, inV_strs]; exact decide_eq_false hx]
            exact iteT (iteT (fin _ (Same.refl _)))
          · rw [show inV (kV (Sum.inr x)) (names.map V.str) = true from by rw [show kV (Sum.inr x) = V.str x from rfl, inV_strs]; exact decide_eq_true hx]
            refine iteF ⟨_, rfl, _, rfl, d, _, rfl, .inl ⟨kvs, Sum.inr x, .inr ⟨od, hd2⟩, rfl, hv.symm⟩, _, false, rfl, hnum H2 s2, fun H3 s3 => ⟨_, rfl, iteT (fin H3 s3)⟩⟩
      · rintro σ H2 ⟨hin, ⟨v2, v3, rfl⟩, s2, hd2⟩
        obtain ⟨g1, g2, g3⟩ := hend hin
        refine ⟨hd2, ?_⟩
        have sU : Same H (upd H2 d (.dK kvs)) := fun b o e => by
          by_cases c : b = d
          · rw [c, upd_same, ← hd, ← c, e]
          · rw [upd_ne c]
            exact s2 b o c e
        refine ⟨_, rfl, an, rfl, ⟨_, SqL.of (sU _ _ han)⟩, for_list (K := K) (a := an) (xs := names.map V.str) (fun i σ H3 => i ≤ m0 ∧ (∃ v3, σ = [some (.ref an), some (.ref d), v2, v3]) ∧ Same H H3) ⟨Nat.zero_le _, ⟨_, rfl⟩, sU⟩ (fun i σ H3 _ ⟨_, _, s3⟩ => SqL.of (s3 _ _ han)) ?_ ?_⟩
        · rintro i y σ H3 hi ⟨him, ⟨v3', rfl⟩, s3⟩
          rw [List.getElem?_map] at hi
          cases ez : names[i]? with
          | none => rw [ez] at hi; cases hi
          | some z =>
            rw [ez] at hi
            injection hi with hi
            subst hi
            refine ⟨_, rfl, _, rfl, d, _, rfl, DGet.k (k := Sum.inr z) (s3 _ _ hd), _, rfl, ?_⟩
            by_cases hlt : i < m0
            · have := g1 i z hlt ez
              rw [show (!(valV kvs (Sum.inr z)).isSome) = false from by
                cases e : valV kvs (Sum.inr z) with
                | none => exact absurd e this
                | some y => rfl]
              exact iteF ⟨by omega, ⟨_, rfl⟩, s3⟩
            · have ei : i = m0 := by omega
              subst ei
              obtain ⟨h1, h2⟩ := g2 z ez
              rw [h1]
              refine iteT ⟨_, rfl, fun dd hdd => h2 dd _ (fun b o hb e => same_upd hdd _ _ (s3 _ _ e)) upd_same⟩
        · rintro σ H3 ⟨him, ⟨v3', rfl⟩, s3⟩
          rw [List.length_map] at him
          exact g3 him H3 s3)
end
end WH
set_option Elab.async false
set_option linter.all false
set_option maxRecDepth 100000
set_option maxHeartbeats 4000000
/-! enumerate of a list or of a tuple. -/
namespace WH
open PySem PySem.Spec PyProof.Rows L2
theorem meets_enumT (l : Addr) (items : Array Value) (n : Nat) (dct : Option Addr) (sl : Array (Option Value)) :
    Meets (Builtin.«enumerate.__new__» ⟨[.type "enumerate", .ref l], []⟩) (fun _ R s => s.heap.get? l = some { cls := .type "tuple", dict := dct, data := .seq items n, slots := sl } ∧
      R (.ok (.ret (.ref (s.heap.push { cls := .type "tuple_iterator", data := .fields #[.ref l, .int 0 0] }).objs.size)))
        { s with heap := (s.heap.push { cls := .type "tuple_iterator", data := .fields #[.ref l, .int 0 0] }).push { cls := .type "enumerate", data := .fields #[.none, .bool false, .ref s.heap.objs.size, rawInt 0, .none, .none] } }) :=
  .of_wp fun prog w A R s h => by
    obtain ⟨hp, g, d, tk, os⟩ := s
    obtain ⟨hl, h⟩ := h
    have hsub := sub_enumerate
    have hT : Heap.IsTuple (Shared.heap ⟨hp, g, d, tk, os⟩) l items := ⟨_, hl, rfl, n, rfl⟩
    wp_walk using AutoSeq1.wpAny_loadPart' hl
    refine wpAny_stack_any fun st => wpAny_pure ?_
    split
    · rename_i c _ _ _ _ _
      cases (c == Value.type "enumerate")
      · wp_walk using AutoSeq1.wpAny_loadPart' hl, wpAny_pyIter_tuple hT
        exact ⟨_, rfl, h⟩
      · wp_walk using AutoSeq1.wpAny_loadPart' hl, wpAny_pyIter_tuple hT
        exact ⟨_, rfl, h⟩
    · wp_walk using AutoSeq1.wpAny_loadPart' hl, wpAny_pyIter_tuple hT
      exact ⟨_, rfl, h⟩
section
variable {prog : Program} {w : World} {A : Around} {E : Value → Shared → Prop} {s : Shared}
theorem call_enumT {l : Addr} {items : Array Value} {Q : Value → Shared → Prop} (hL : s.heap.IsTuple l items)
    (h : ∀ h', IsEnum h' (s.heap.objs.size + 1) s.heap.objs.size 0 .none → h'.IsTupleIter s.heap.objs.size l 0 →
      (∀ b o, s.heap.get? b = some o → h'.get? b = some o) → Q (.ref (s.heap.objs.size + 1)) { s with heap := h' }) :
    wpAny (model prog w) A (call (.type "enumerate") [.ref l]) Q E s := by
  obtain ⟨⟨c, dct, dt, sl⟩, hl, hc, n, hd⟩ := hL
  have hc : c = .type "tuple" := hc
  have hd : dt = .seq items n := hd
  subst hc
  subst hd
  refine callType_new F.called_enumerate (by decide) (F.typeCall_enumerate_1 _) (F.newCall_enumerate_1 _) (fun obj => F.args_object_init_2 obj _) F.entry_enumerate_new (meets_enumT l items n dct sl) ⟨hl, ?_⟩
  have sz : (s.heap.push { cls := .type "tuple_iterator", data := .fields #[.ref l, .int 0 0] }).objs.size = s.heap.objs.size + 1 := Heap.size_push ..
  change _ ∧ _
  rw [sz]
  have he : IsEnum ((s.heap.push { cls := .type "tuple_iterator", data := .fields #[.ref l, .int 0 0] }).push { cls := .type "enumerate", data := .fields #[.none, .bool false, .ref s.heap.objs.size, rawInt 0, .none, .none] }) (s.heap.objs.size + 1) s.heap.objs.size 0 .none := by
    have q := Heap.get?_push_size (s.heap.push { cls := .type "tuple_iterator", data := .fields #[.ref l, .int 0 0] }) (o := { cls := .type "enumerate", data := .fields #[.none, .bool false, .ref s.heap.objs.size, rawInt 0, .none, .none] }) rfl
    rw [sz] at q
    exact q
  exact ⟨⟨_, he, rfl⟩, h _ he ⟨_, Heap.get?_push_of_some _ (Heap.get?_push_size _ rfl), rfl, rfl⟩ fun b o x => Heap.get?_push_of_some _ (Heap.get?_push_of_some _ x)⟩
theorem enumT_end {e it l : Addr} {i : Nat} {k : Int} {items : Array Value} {old : Value} {Q : Option Value → Shared → Prop} (hh : A.handled = none) (he : IsEnum s.heap e it k old) (hit : s.heap.IsTupleIter it l i) (hl : s.heap.IsTuple l items) (hx : items[i]? = none)
    (hQ : ∀ h', Heap.ExtBut it s.heap h' → Q none { s with heap := h' }) : wpAny (model prog w) A (pyNext (.ref e)) Q E s := by
  have tE : s.TypeIs (.ref e) "enumerate" := ⟨_, he, rfl⟩
  unfold pyNext
  refine wpAny_bind (wpAny_attempt (wpAny_callSpecial?_slot (name := Str.ofString "__next__") tE F.slot_enumerate_next (wpAny_call_entry F.slot_enumerate_next tE F.entry_enumerate_next ?_ (F.args_enumerate_next_1 _))))
  change wpAny _ _ (field (.ref e) 2 >>= _) _ _ _
  refine wpAny_bind (wpAny_field he rfl (x := .ref it) rfl ?_)
  refine wpAny_bind (wpAny_nextOf_tuple_end hh hit hl hx fun h' x he' hx' => ?_)
  obtain ⟨o, ho, hc⟩ := hx'
  refine wpAny_bind (wpAny_isInstance (T := "StopIteration") (b := true) ⟨o, ho, hc⟩ isSubtype_stop ?_)
  exact wpAny_pure (hQ _ he')
end
/-- the tuple at a, each item in a new pair -/
def IteT (K : PySem.W.Frag) (a : Addr) : It :=
  ⟨fun i H => ∃ (xs : List V) (x : V), SqT K H a xs ∧ xs[i]? = some x, fun i H v H' => ∃ T x, v = .ref T ∧ H T = none ∧ H' = upd H T (.tup [.int (i : Nat), x]) ∧ ∀ xs, SqT K H a xs → xs[i]? = some x, fun i H => ∃ xs : List V, SqT K H a xs ∧ xs.length ≤ i⟩
theorem apart3 {h : Heap} {e it a : Addr} {i : Int} {j : Nat} {old : Value} {items : Array Value} (he : IsEnum h e it i old) (hit : h.IsTupleIter it a j) (ht : h.IsTuple a items) : a ≠ it ∧ e ≠ a := by
  obtain ⟨o, ho, hc, _⟩ := hit
  obtain ⟨o2, ho2, hc2, _⟩ := ht
  refine ⟨fun z => ?_, fun z => ?_⟩
  · rw [z, ho] at ho2
    injection ho2 with ho2
    rw [← ho2, hc] at hc2
    simp at hc2
  · have he : h.get? e = _ := he
    rw [z, ho2] at he
    injection he with he
    rw [he] at hc2
    simp at hc2
theorem turn_enumT {P : Program} {w : World} {K : PySem.W.Frag} {elts : List Expr} {kk : Nat} {tpos : Pos} (a e it : Addr) :
    Turn P w K (.Tuple elts kk tpos) (IteT K a) [e, it] e (fun i h => (∃ old, IsEnum h e it ((i : Nat) : Int) old) ∧ h.IsTupleIter it a i ∧ e ≠ it) where
  mem := by simp
  obj := fun i h st b hb => by
    obtain ⟨⟨old, he⟩, ⟨o, ho, hc, hd⟩, _⟩ := st
    have e' : b = e ∨ b = it := by simpa using hb
    rcases e' with z | z
    · rw [z]
      exact ⟨_, he, fun v q => nomatch q⟩
    · rw [z]
      exact ⟨o, ho, fun v q => by rw [hd] at q; cases q⟩
  keep := fun i h h' st k => let ⟨⟨old, he⟩, hi, hne⟩ := st; ⟨⟨old, k e (by simp) _ he⟩, hi.at fun o q => k it (by simp) o q, hne⟩
  item := by
    intro X hP hw hK hc i pins s σ H E I hf st hg
    subst hP hw hK
    obtain ⟨⟨old, he⟩, hit, hne⟩ := st
    obtain ⟨xs, x, hq, hx⟩ := hg
    obtain ⟨its, rv, p, hz⟩ := I.tuple hq
    obtain ⟨u, hu, ru⟩ := rv.get hx
    obtain ⟨n1, n2⟩ := apart3 he hit p
    have hel : e < s.heap.objs.size := Heap.lt_size he
    have hil : it < s.heap.objs.size := by
      obtain ⟨_, q, _⟩ := hit
      exact Heap.lt_size q
    have hlt : i < its.toArray.size := by
      have := (List.getElem?_eq_some_iff.mp hu).1
      simpa using this
    refine wpAny_pyNext_enum_itemD (Draws.tuple (A := X.A.in1) (I.ok.hd hc) it a n1 its.toArray) he ⟨hit, p⟩ hlt hne (by simp [hne, n2]) fun x' h' tk hx' ho st' hT hsz hk => ?_
    have ex : x' = u := by
      have hx' : its.toArray[i]? = some x' := hx'
      rw [List.getElem?_toArray, hu] at hx'
      injection hx' with hx'
      exact hx'.symm
    subst ex
    refine ⟨_, rfl, wpAny_letOwnedTupleGo_enum (s := { s with heap := h', toks := tk + 1 }) ho fun h'' he' sb => ?_⟩
    have hT2 : h''.get? s.heap.objs.size = some { cls := .type "tuple", data := .seq #[.int i tk, x'] } := (sb.2 _ (Nat.ne_of_gt hel)).trans hT
    have new : ObjOk X.prog X.w (upd H s.heap.objs.size (.tup [.int (i : Nat), x])) h'' s.heap.objs.size (.tup [.int (i : Nat), x]) :=
      ⟨by change 2 ≤ sizeLine; decide, [.int i tk, x'], .cons ⟨_, rfl⟩ (.cons ru .nil), ⟨_, hT2, rfl, _, rfl⟩⟩
    have I1 : Inv X pins σ (upd H s.heap.objs.size (.tup [.int (i : Nat), x])) { s with heap := h'', toks := tk + 1 } :=
      I.turnedNew (ch := [e, it]) (fun b ob hb q => (sb.2 b (fun z => hb (by simp [z]))).trans (hk b ob (fun z => hb (by simp [z])) (fun z => hb (by simp [z])) q)) hf (Nat.le_refl _) new
    refine ⟨.ref s.heap.objs.size, _, I1, rfl, ⟨_, x, rfl, I.hok.fresh (Nat.le_refl _), rfl, fun ys hy => by rw [I.tuple_inj hy hq]; exact hx⟩, ⟨⟨x', ?_⟩, st'.1.at fun o q => (sb.2 it (Ne.symm hne)).trans q, hne⟩, fun b hb => ?_⟩
    · have e1 : ((i + 1 : Nat) : Int) = (i : Int) + 1 := by omega
      rw [e1]
      exact he'
    · have hb' : b < s.heap.objs.size := by
        have e' : b = e ∨ b = it := by simpa using hb
        rcases e' with z | z
        · rw [z]; exact hel
        · rw [z]; exact hil
      rw [upd_ne (Nat.ne_of_lt hb')]
      exact (hf b hb).1
  done := by
    intro X hP hw hK hc i pins s σ H E I hf st hg
    subst hP hw hK
    obtain ⟨⟨old, he⟩, hit, hne⟩ := st
    obtain ⟨xs, hq, hx⟩ := hg
    obtain ⟨its, rv, p, hz⟩ := I.tuple hq
    obtain ⟨f0, f1, f2, f3, f4, f5⟩ := hf it (by simp)
    obtain ⟨n1, n2⟩ := apart3 he hit p
    have hl := rv.length
    have hii : its.toArray.size ≤ i := by simp; omega
    exact enumT_end (I.ok.hd hc) he hit p (by rw [Array.getElem?_eq_none hii]) fun h' eb => ⟨rfl, I.turned (t' := s.toks) (fun b o hb q => eb b o hb q) f0 f1 f3 f4 f5⟩
  self := fun A i s Q E st h => let ⟨⟨_, he⟩, _⟩ := st; wpAny_pyIter_enum he h
/-- enumerate of a list or of a tuple -/
def iEnumA (K : PySem.W.Frag) (ta : TA) : TI := fun σ H R => ta σ H fun vs H1 => ∃ a, vs = [.ref a] ∧ (((∃ xs, SqL K H1 a xs) ∧ R (Ite K a) H1) ∨ ((∃ xs, SqT K H1 a xs) ∧ R (IteT K a) H1))
theorem pi_enumA {X : Cx} {e : Expr} {ta : TA} {p pos tpos : Pos} {elts : List Expr} {kk : Nat} (hg : Gl X "enumerate") (hm : X.mg "enumerate" = none) (ha : PA X [e] ta) (hs : starEach [e] X.env = [(false, eval e X.env)] := by rfl) :
    PI X (.Tuple elts kk tpos) (.Call (.Name "enumerate" p) [e] [] pos) (iEnumA X.K ta) := by
  refine ⟨fun pins s σ H R I h => ?_⟩
  refine Call_ (ld_blt I hg hm boot_enumerate (PyProof.Rows.callWith_type1 (thn (ha.run pos pins s σ H _ I h) fun us s1 ⟨vs, H1, I1, r1, q1⟩ => ?_) hs rfl))
  obtain ⟨a, ex, q⟩ := q1
  subst ex
  obtain ⟨u, rfl, ru⟩ := vals1 r1
  obtain rfl : u = Value.ref a := ru
  have fp : ∀ b ∈ [s1.heap.objs.size + 1, s1.heap.objs.size], FpOk X pins H1 b := fun b hb => by
    have e' : b = s1.heap.objs.size + 1 ∨ b = s1.heap.objs.size := by simpa using hb
    have hle : s1.heap.objs.size ≤ b := by
      rcases e' with z | z
      · rw [z]; exact Nat.le_add_right _ _
      · rw [z]; exact Nat.le_refl _
    exact I1.fpOk hle (I1.hok.fresh hle)
  rcases q with ⟨⟨xs, hq⟩, q⟩ | ⟨⟨xs, hq⟩, q⟩
  · obtain ⟨its, rv, p', hz⟩ := I1.list hq
    refine call_enumerate_list p'.isList fun h' he hit hsz hk => wpAny_pyIter_enum he ?_
    have I2 : Inv X pins σ H1 { s1 with heap := h' } := I1.kept (t' := s1.toks) hk
    exact ⟨s1.heap.objs.size + 1, [s1.heap.objs.size + 1, s1.heap.objs.size], _, _, H1, rfl, I2, turn_enum a (s1.heap.objs.size + 1) s1.heap.objs.size, ⟨⟨.none, he⟩, hit, Nat.succ_ne_self _⟩, fp, q⟩
  · obtain ⟨its, rv, p', hz⟩ := I1.tuple hq
    refine call_enumT p' fun h' he hit hk => wpAny_pyIter_enum he ?_
    have I2 : Inv X pins σ H1 { s1 with heap := h' } := I1.kept (t' := s1.toks) hk
    exact ⟨s1.heap.objs.size + 1, [s1.heap.objs.size + 1, s1.heap.objs.size], _, _, H1, rfl, I2, turn_enumT a (s1.heap.objs.size + 1) s1.heap.objs.size, ⟨⟨.none, he⟩, hit, Nat.succ_ne_self _⟩, fp, q⟩
theorem enumA {X : Cx} (K : PySem.W.Frag) {e : Expr} {ta : TA} {p pos tpos : Pos} {elts : List Expr} {kk : Nat} (hg : Gl X "enumerate") (hm : X.mg "enumerate" = none) (ha : PA X [e] ta) (hs : starEach [e] X.env = [(false, eval e X.env)] := by rfl) (hK : X.K = K := by rfl) :
    PI X (.Tuple elts kk tpos) (.Call (.Name "enumerate" p) [e] [] pos) (iEnumA K ta) := hK ▸ pi_enumA hg hm ha hs
end WH
set_option Elab.async false
set_option linter.all false
set_option maxRecDepth 100000
set_option maxHeartbeats 4000000
/-! xs.remove(k), texts. -/
namespace WH
open PySem PySem.Spec PyProof.Rows L2
theorem first_of {α : Type} [DecidableEq α] : ∀ {l : List α} {k : α}, k ∈ l → ∃ j, j < l.length ∧ l[j]? = some k ∧ (∀ i, i < j → l[i]? ≠ some k) ∧ l.eraseIdx j = l.erase k
  | a :: r, k, h => by
    by_cases c : a = k
    · subst c
      exact ⟨0, Nat.succ_pos _, rfl, fun i hi => absurd hi (Nat.not_lt_zero _), by simp⟩
    · have hr : k ∈ r := (List.mem_cons.1 h).resolve_left fun z => c z.symm
      obtain ⟨j, h1, h2, h3, h4⟩ := first_of hr
      refine ⟨j + 1, Nat.succ_lt_succ h1, by simpa using h2, fun i hi z => ?_, ?_⟩
      · cases i with
        | zero => exact c (Option.some.inj z)
        | succ i => exact h3 i (by omega) (by simpa using z)
      · rw [List.erase_cons_tail (by simpa using c), ← h4]
        rfl
theorem isStr_at (k : Str) : ∀ {vs : List Value} {ys : List Str}, StrsAre vs ys → ∀ (i : Nat) (h : i < vs.length), isStrOf k vs[i] = true ↔ ys[i]? = some k
  | _, _, .nil, i, h => absurd h (by simp)
  | _, _, .cons n t hr, 0, _ => by
    show (n == k) = true ↔ some n = some k
    rw [beq_iff_eq, Option.some_inj]
  | _, _, .cons n t hr, i + 1, h => isStr_at k hr i (Nat.lt_of_succ_lt_succ h)
def rRemS : V → List V → Hp → VK → Prop := fun x vs H Q => ∃ (l : Addr) (xs : List Str) (k : Str), x = .ref l ∧ vs = [.str k] ∧ H l = some (.lst (xs.map V.str)) ∧ k ∈ xs ∧ Q .non (upd H l (.lst ((xs.erase k).map V.str)))
theorem mt_removeS {X : Cx} : MtR X "list.remove" rRemS := by
  intro pins s σ H x vs v us Q I rx rv h
  obtain ⟨l, xs, k, rfl, rfl, hH, hk, q⟩ := h
  cases rx
  obtain ⟨u, rfl, t, rfl⟩ := vals1 rv
  obtain ⟨z, its, n, r, hl, e0⟩ := I.lstM hH
  have hS : StrsAre its xs := r.strs
  have hnl : xs.length = its.length := by rw [← hl, List.length_map]
  have hsz : its.toArray.size ≤ sizeLine := by rw [List.size_toArray, ← hl]; exact z
  obtain ⟨j, j1, j2, j3, j4⟩ := first_of hk
  have hj : j < its.length := by omega
  refine call_meets PySem.F.slot_list_remove ⟨_, e0, rfl⟩ PySem.F.entry_list_remove (PySem.F.args_list_remove_2 _ _)
    (MeetsSeq.list_remove l its.toArray n (.str k t) (isStrOf k) (fun y hy => eq_isStrOf k t hS y (by simpa using hy)) j (by rw [List.size_toArray]; exact hj) ?_ (fun i hi2 hlt => ?_) hsz) ⟨e0, ?_⟩
  · show isStrOf k its[j] = true
    exact (isStr_at k hS j hj).mpr j2
  · have hi3 : i < its.length := by rw [List.size_toArray] at hi2; exact hi2
    show isStrOf k its[i] = false
    rw [Bool.eq_false_iff]
    exact fun w => j3 i hlt ((isStr_at k hS i hi3).mp w)
  · have me : ∀ (ns : List Str) (j : Nat), (ns.map V.str).eraseIdx j = (ns.eraseIdx j).map V.str := by
      intro ns
      induction ns with
      | nil => intro j; rfl
      | cons n r ih =>
        intro j
        cases j with
        | zero => rfl
        | succ j => exact congrArg (V.str n :: ·) (ih j)
    have r2 : Vals ((xs.erase k).map V.str) (its.eraseIdx j) := by
      have w := r.eraseIdx j
      rw [me, j4] at w
      exact w
    refine ⟨.non, _, I.lset (its' := its.eraseIdx j) hH e0 ?_ r2 ?_, rfl, q⟩
    · show its.toArray.eraseIdxIfInBounds j = (its.eraseIdx j).toArray
      rw [List.eraseIdxIfInBounds_toArray]
    · rw [List.length_map] at z ⊢
      have := List.length_erase_le (a := k) (l := xs)
      omega
end WH
set_option Elab.async false
set_option linter.all false
set_option maxRecDepth 100000
set_option maxHeartbeats 2000000
namespace WH
open PySem PySem.Spec PyProof.Rows L2 WM LamX
abbrev s_checked_wants : Stmt := topS 40
theorem sc_checked_wants : FnScope ["wants", "found", "index", "lock", "owner"] ["wants"] (defScope s_checked_wants) := ⟨rfl, rfl, rfl, by decide +kernel, rfl, by decide +kernel, by decide +kernel⟩
/-- enumerate of a list or a tuple -/
theorem for_enumT {K : PySem.W.Frag} {a : Addr} {xs : List V} {g : TG} {tb : TS} {D : Ends} {σ : L2.St} {H : Hp} (Pv : Nat → L2.St → Hp → Prop) (h0 : Pv 0 σ H) (hl : ∀ i σ H, i ≤ xs.length → Pv i σ H → SqT K H a xs)
    (hs : ∀ i x σ H T, xs[i]? = some x → Pv i σ H → H T = none → g (.ref T) σ (upd H T (.tup [.int (i : Nat), x])) fun σ2 H2 => tb { D with nx := Pv (i + 1), ct := Pv (i + 1), bk := D.nx } σ2 H2) (hd : ∀ σ H, Pv xs.length σ H → D.nx σ H) :
    ∃ W : Nat → Nat → L2.St → Hp → Prop, (∃ m, W 0 m σ H) ∧ ∀ i m σ H, W i m σ H →
      ((IteT K a).stop i H ∧ D.nx σ H) ∨ ((IteT K a).go i H ∧ ∃ N : L2.St → Hp → Prop, (∀ σ' H', N σ' H' → ∃ m', m' < m ∧ W (i + 1) m' σ' H') ∧ ∀ x H', (IteT K a).yld i H x H' → g x σ H' fun σ2 H2 => tb { D with nx := N, ct := N, bk := D.nx } σ2 H2) := by
  refine ⟨fun i m σ H => m = xs.length - i ∧ i ≤ xs.length ∧ Pv i σ H, ⟨xs.length, by simp, Nat.zero_le _, h0⟩, ?_⟩
  rintro i m σ H ⟨rfl, hi, p⟩
  have q := hl i σ H hi p
  by_cases hlt : i < xs.length
  · refine .inr ⟨⟨xs, _, q, List.getElem?_eq_getElem hlt⟩, Pv (i + 1), fun σ' H' p' => ⟨xs.length - (i + 1), by omega, rfl, hlt, p'⟩, ?_⟩
    rintro x H' ⟨T, y, rfl, hT, rfl, hy⟩
    have e := hy xs q
    exact hs i y σ H T e p hT
  · have e : i = xs.length := by omega
    subst e
    exact .inl ⟨⟨xs, q, Nat.le_refl _⟩, hd σ H p⟩
theorem for_enumA {K : PySem.W.Frag} {a : Addr} {xs : List V} {g : TG} {tb : TS} {D : Ends} {σ : L2.St} {H : Hp} (Pv : Nat → L2.St → Hp → Prop) (hq : (∀ i σ H, Pv i σ H → SqL K H a xs) ∨ (∀ i σ H, Pv i σ H → SqT K H a xs)) (h0 : Pv 0 σ H)
    (hs : ∀ i x σ H T, xs[i]? = some x → Pv i σ H → H T = none → g (.ref T) σ (upd H T (.tup [.int (i : Nat), x])) fun σ2 H2 => tb { D with nx := Pv (i + 1), ct := Pv (i + 1), bk := D.nx } σ2 H2) (hd : ∀ σ H, Pv xs.length σ H → D.nx σ H) :
    ((∃ xs, SqL K H a xs) ∧ ∃ W : Nat → Nat → L2.St → Hp → Prop, (∃ m, W 0 m σ H) ∧ ∀ i m σ H, W i m σ H →
      ((Ite K a).stop i H ∧ D.nx σ H) ∨ ((Ite K a).go i H ∧ ∃ N : L2.St → Hp → Prop, (∀ σ' H', N σ' H' → ∃ m', m' < m ∧ W (i + 1) m' σ' H') ∧ ∀ x H', (Ite K a).yld i H x H' → g x σ H' fun σ2 H2 => tb { D with nx := N, ct := N, bk := D.nx } σ2 H2)) ∨
    ((∃ xs, SqT K H a xs) ∧ ∃ W : Nat → Nat → L2.St → Hp → Prop, (∃ m, W 0 m σ H) ∧ ∀ i m σ H, W i m σ H →
      ((IteT K a).stop i H ∧ D.nx σ H) ∨ ((IteT K a).go i H ∧ ∃ N : L2.St → Hp → Prop, (∀ σ' H', N σ' H' → ∃ m', m' < m ∧ W (i + 1) m' σ' H') ∧ ∀ x H', (IteT K a).yld i H x H' → g x σ H' fun σ2 H2 => tb { D with nx := N, ct := N, bk := D.nx } σ2 H2)) := by
  rcases hq with hq | hq
  · exact .inl ⟨⟨xs, hq 0 σ H h0⟩, for_enumL Pv h0 (fun i σ H _ p => hq i σ H p) hs hd⟩
  · exact .inr ⟨⟨xs, hq 0 σ H h0⟩, for_enumT Pv h0 (fun i σ H _ p => hq i σ H p) hs hd⟩
theorem dc_list {K : PySem.W.Frag} {a : Addr} {xs : List V} {g : TG} {tt : TT} {tk tv : TE} {vs : List Nat} {σ : L2.St} {H1 : Hp} {D : Addr} {Qd : Hp → Prop} (Pv : Nat → Hp → Prop) (h0 : Pv 0 (upd H1 D (.dK []))) (hl : ∀ i H, i ≤ xs.length → Pv i H → SqL K H a xs)
    (hs : ∀ i x H, xs[i]? = some x → Pv i H → g x (wipe σ vs) H fun σ2 H2 => wipe σ2 vs = wipe σ vs ∧ tt σ2 H2 fun b H3 =>
      if b = true then tk σ2 H3 fun y H4 => tv σ2 H4 fun z H5 => ∃ kvs k, y = kV k ∧ H5 D = some (.dK kvs) ∧ kvs.length < sizeLine ∧ Pv (i + 1) (upd H5 D (.dK (putK kvs k z))) else Pv (i + 1) H3) (hd : ∀ H, Pv xs.length H → Qd H) :
    ∃ W : Nat → Nat → Hp → Prop, (∃ m, W 0 m (upd H1 D (.dK []))) ∧ ∀ i m H, W i m H →
      ((Itl K a).stop i H ∧ Qd H) ∨ ((Itl K a).go i H ∧ ∃ Nx : Hp → Prop, (∀ H', Nx H' → ∃ m', m' < m ∧ W (i + 1) m' H') ∧ ∀ x H', (Itl K a).yld i H x H' → g x (wipe σ vs) H' fun σ2 H2 => wipe σ2 vs = wipe σ vs ∧ tt σ2 H2 fun b H3 =>
        if b = true then tk σ2 H3 fun y H4 => tv σ2 H4 fun z H5 => ∃ kvs k, y = kV k ∧ H5 D = some (.dK kvs) ∧ kvs.length < sizeLine ∧ Nx (upd H5 D (.dK (putK kvs k z))) else Nx H3) := by
  refine ⟨fun i m H => m = xs.length - i ∧ i ≤ xs.length ∧ Pv i H, ⟨xs.length, by simp, Nat.zero_le _, h0⟩, ?_⟩
  rintro i m H ⟨rfl, hi, p⟩
  have q := hl i H hi p
  by_cases hlt : i < xs.length
  · refine .inr ⟨⟨xs, _, q, List.getElem?_eq_getElem hlt⟩, Pv (i + 1), fun H' p' => ⟨xs.length - (i + 1), by omega, rfl, hlt, p'⟩, ?_⟩
    intro x H' y
    obtain ⟨e, y⟩ := y
    rw [e]
    exact hs i x H (y xs q) p
  · have e : i = xs.length := by omega
    rw [e] at p ⊢
    exact .inl ⟨⟨xs, q, Nat.le_refl _⟩, hd H p⟩
/-! ### a dict: owner → lock -/
def KvL (H : Hp) (kv : Key × V) (l : Lk Str) : Prop := kv.1 = Sum.inr l.1 ∧ rLk H kv.2 l
theorem KvL.kg {H H' : Hp} {kv : Key × V} {l : Lk Str} (k : Kg H H') (h : KvL H kv l) : KvL H' kv l := ⟨h.1, rTup_gr.mono _ _ _ _ k h.2⟩
theorem KvL.updD {H : Hp} {d : Addr} {kvs kvs' : List (Key × V)} (hd : H d = some (.dK kvs)) {kv : Key × V} {l : Lk Str} (h : KvL H kv l) : KvL (upd H d (.dK kvs')) kv l := by
  obtain ⟨h1, a, e, h2⟩ := h
  exact ⟨h1, a, e, by rw [upd_ne (ne_of h2 hd (fun z => nomatch z))]; exact h2⟩
theorem kvL_keys {H : Hp} : ∀ {kvs : List (Key × V)} {ls : List (Lk Str)}, Paired (KvL H) kvs ls → kvs.map (·.1) = (ls.map (·.1)).map Sum.inr
  | _, _, .nil => rfl
  | _, _, .cons h t => by
    rw [List.map_cons, List.map_cons, List.map_cons, h.1, kvL_keys t]
theorem kvL_val {H : Hp} : ∀ {kvs : List (Key × V)} {ls : List (Lk Str)}, Paired (KvL H) kvs ls → (ls.map (·.1)).Nodup → (∀ l ∈ ls, ∃ v, valV kvs (Sum.inr l.1) = some v ∧ rLk H v l) ∧ ∀ o, o ∉ ls.map (·.1) → valV kvs (Sum.inr o) = none
  | _, _, .nil, _ => ⟨(fun _ h => nomatch h), fun _ _ => rfl⟩
  | _, _, .cons (a := kv) (b := l) (l₁ := kvs) (l₂ := ls) h t, hn => by
    rw [List.map_cons, List.nodup_cons] at hn
    obtain ⟨k, v⟩ := kv
    obtain ⟨h1, h2⟩ := h
    have h1 : k = Sum.inr l.1 := h1
    subst h1
    obtain ⟨i1, i2⟩ := kvL_val t hn.2
    refine ⟨fun m hm => ?_, fun o ho => ?_⟩
    · rw [valV_cons]
      rcases List.mem_cons.1 hm with rfl | hm
      · rw [if_pos rfl]
        exact ⟨v, rfl, h2⟩
      · rw [if_neg fun z => hn.1 (List.mem_map.2 ⟨m, hm, (Sum.inr.inj z).symm⟩)]
        exact i1 m hm
    · rw [List.map_cons, List.mem_cons, not_or] at ho
      rw [valV_cons, if_neg fun z => ho.1 (Sum.inr.inj z).symm]
      exact i2 o ho.2
theorem putK_new {κ : Type} [DecidableEq κ] {kvs : List (κ × V)} {k : κ} {v : V} (h : k ∉ kvs.map (·.1)) : putK kvs k v = kvs ++ [(k, v)] := by
  unfold putK
  rw [if_neg fun z => ?_]
  obtain ⟨e, he, q⟩ := List.any_eq_true.1 z
  exact h (List.mem_map.2 ⟨e, he, of_decide_eq_true q⟩)
structure WtOk (ls : List (Lk Str)) : Prop where
  ok : ∀ l ∈ ls, lkOk l
  nd : (ls.map (·.1)).Nodup
  len : ls.length ≤ 60
section
variable {P : Program} {w : World} {K : PySem.W.Frag} {mg : Str → Option Value} {base : Heap} {CL fL : Addr}
/-- the wants as they stand, or the first that is wrong -/
def sp_checked_wants (CL : Addr) : Sp := fun vs H Q E => ∃ (wa : Addr) (xs : List V), vs = [.ref wa] ∧ (H wa = some (.lst xs) ∨ H wa = some (.tup xs)) ∧
  ((∃ ls, Paired (rLkA H) xs ls ∧ WtOk ls ∧ ∀ p H' kvs ms, H p = none → Same H H' → H' p = some (.dK kvs) → Paired (KvL H') kvs ms → ms.Perm ls → Asc sLt (ms.map (·.1)) → Q (.ref p) H') ∨
   (∃ xg w xr ls, xs = xg ++ w :: xr ∧ Paired (rLkA H) xg ls ∧ WtOk ls ∧ wrongLk H w ∧ ∀ dd H', Same H H' → H' dd = some (.xd [("index", .int (xg.length : Nat))]) → E (.ref CL) (some dd) H'))
theorem ok_checked_wants {f : Addr} {fd : FuncData} (D : Df K mg "checked_wants" s_checked_wants ["wants"] f fd) (T : Bl mg) (G_is_list : Dn P w K mg base CX0 1 "is_list" ["thing"] (sp_is_list K)) (G_is_lock : Dn P w K mg base CX0 4 "is_lock" ["thing"] sp_is_lock) (L_BadLock : Xo K mg "BadLock" "index" CL fL) (G_BadLock : Dq P w K mg base 1 fL ["self", "index"] (sp_exi CL "index")) :
    Dn P w K mg base (L2.CX P w) 5 "checked_wants" ["wants"] (sp_checked_wants CL) := .of D (by
  refine D.fn.okX sc_checked_wants (fun vs H Q E h => ?_) (fun cdv A outer s H vs Q E hr h => ?_)
  · obtain ⟨wa, xs, rfl, _⟩ := h
    rfl
  · obtain ⟨wa, xs, rfl, hwa, q⟩ := h
    have hu := hu_of hr
    refine ⟨_, (pss_cons (ps_if (pt_not (pt_val (pe_cl G_is_list (hr.mono (by decide)) (pa_cons (pv 0) pa_nil)))) (pss_one (ps_raise rfl (takes_of rfl rfl rfl rfl) (pm_exc L_BadLock G_BadLock (hr.mono (by decide)) (pa_cons (pe_int) pa_nil)))) pss_nil)
      (pss_cons (ps_set (i := 1) sc_checked_wants.nd rfl (Or.inr rfl) (pe_dnewK))
      (pss_cons (ps_for (passes_of rfl) rfl (enumA K (by rfl) T.b_enumerate (pa_cons (pv 0) pa_nil)) (tupG K (n := 2) rfl (pgs_cons (pg_name (i := 2) sc_checked_wants.nd rfl (Or.inl rfl)) (pgs_cons (pg_name (i := 3) sc_checked_wants.nd rfl (Or.inl rfl)) pgs_nil)))
        (pss_cons (ps_if (PW.pt (pw_or (pt_not (pt_val (pe_cl G_is_lock (hr.mono (by decide)) (pa_cons (pv 3) pa_nil)))) (pw_or1 (pt_cmp (pc_din hu (pe_ix (ixQ K) (pv 3) (pe_int) (fun _ _ => rfl)) (pv 1)) rfl)))) (pss_one (ps_raise rfl (takes_of rfl rfl rfl rfl) (pm_exc L_BadLock G_BadLock (hr.mono (by decide)) (pa_cons (pv 2) pa_nil)))) pss_nil)
        (pss_one (ps_dput hu (pv 1) (pe_ix (ixQ K) (pv 3) (pe_int) (fun _ _ => rfl)) (pe_callTy (tupOf K) (by rfl) T.b_tuple (by decide +kernel) (pa_cons (pv 3) pa_nil)) rfl))))
      (pss_one (ps_ret (pe_dc (own := [("owner", 4)]) rfl sc_checked_wants.nd (pil K (pe_callB ((call_sortedD rfl)) (by rfl) T.b_sorted (by decide +kernel) (pa_cons (pv 1) pa_nil))) (blkOk_by (N := ["wants", "found", "index", "lock", "owner"]) (sc := defScope s_checked_wants) (by decide +kernel)) (fun _ _ _ _ _ => pg_name (i := 4) sc_checked_wants.nd rfl (Or.inl rfl)) (fun _ _ _ _ _ => pts_nil) (fun _ _ _ _ _ => pv 4) (fun _ _ _ _ _ => pe_dget hu (pv 1) (pv 4) (fun _ _ => rfl)))))))), ?_⟩
    have key : ∃ (n0 : Nat) (ls : List (Lk Str)), n0 ≤ xs.length ∧ Paired (rLkA H) (xs.take n0) ls ∧ WtOk ls ∧ (∀ w, xs[n0]? = some w → wrongLk H w ∧ ∀ dd H', Same H H' → H' dd = some (.xd [("index", .int (n0 : Nat))]) → E (.ref CL) (some dd) H') ∧
        (xs.length ≤ n0 → ∀ p H' kvs ms, H p = none → Same H H' → H' p = some (.dK kvs) → Paired (KvL H') kvs ms → ms.Perm ls → Asc sLt (ms.map (·.1)) → Q (.ref p) H') := by
      rcases q with ⟨ls, hp, ok, q⟩ | ⟨xg, w, xr, ls, rfl, hp, ok, hw, q⟩
      · exact ⟨xs.length, ls, Nat.le_refl _, by rw [List.take_length]; exact hp, ok, fun w hw => by simp at hw, fun _ => q⟩
      · refine ⟨xg.length, ls, by simp, by rw [List.take_left]; exact hp, ok, fun w' hw' => ?_, fun hle => absurd hle (by simp only [List.length_append, List.length_cons]; omega)⟩
        rw [List.getElem?_append_right (Nat.le_refl _), Nat.sub_self] at hw'
        injection hw' with hw'
        exact hw' ▸ ⟨hw, q⟩
    obtain ⟨n0, ls, hn0, hp, ok, hbad, hgood⟩ := key
    have hlen : ls.length = n0 := by rw [← hp.length, List.length_take]; omega
    have hl60 := ok.len
    have four : ∃ n, TyX K H (.ref wa) (.type n) ∧ kSeq K n = some true := by
      rcases hwa with h | h
      · exact ⟨_, .base (.lst h), kSeq_yes (.inl (by decide +kernel))⟩
      · exact ⟨_, .base (.tup h), kSeq_yes (.inr ⟨by decide +kernel, by decide +kernel⟩)⟩
    obtain ⟨nm, t1, t2⟩ := four
    refine ⟨_, rfl, _, nm, true, rfl, t1, t2, fun H1 s1 => ⟨_, rfl, iteF ?_⟩⟩
    intro d hd
    have hdn : H d = none := s1.free hd
    have s0 : Same H (upd H1 d (.dK [])) := s1.trans (same_upd hd)
    refine ⟨_, rfl, wa, rfl, for_enumA (K := K) (a := wa) (xs := xs) (fun i σ H2 => i ≤ n0 ∧ (∃ v2 v3 v4, σ = [some (.ref wa), some (.ref d), v2, v3, v4]) ∧ Same H H2 ∧ ∃ kvs, H2 d = some (.dK kvs) ∧ Paired (KvL H2) kvs (ls.take i))
      (hwa.symm.elim (fun h => .inr fun i σ H2 ⟨_, _, s2, _⟩ => SqT.of (s2 _ _ h)) (fun h => .inl fun i σ H2 ⟨_, _, s2, _⟩ => SqL.of (s2 _ _ h))) ⟨Nat.zero_le _, ⟨none, none, none, rfl⟩, s0, [], upd_same, .nil⟩ ?_ ?_⟩
    · rintro i x σ H2 t hi ⟨hin, ⟨v2, v3, v4, rfl⟩, s2, kvs, hk, hkv⟩ ht
      have s3 : Same H2 (upd H2 t (.tup [.int (i : Nat), x])) := same_upd ht
      have sA := s2.trans s3
      refine ⟨t, _, rfl, SqT.of upd_same, rfl, _, _, rfl, _, _, rfl, rfl, ?_⟩
      by_cases hlt : i < n0
      · have hxi : (xs.take n0)[i]? = some x := by rw [List.getElem?_take_of_lt hlt]; exact hi
        obtain ⟨l, hl, hR⟩ := paired_get hp hxi
        have hlm : l ∈ ls := List.mem_of_getElem? hl
        refine ⟨_, rfl, x, true, rfl, .inl ⟨l, rLkA_mono _ _ _ _ (Kg.of sA) hR, ok.ok l hlm, rfl⟩, fun H3 s4 => ⟨_, rfl, iteF ?_⟩⟩
        have sB := sA.trans s4
        obtain ⟨xa, rfl, hxa⟩ := rLkA_mono _ _ _ _ (Kg.of sB) hR
        have hk3 : H3 d = some (.dK kvs) := s4 _ _ (s3 _ _ hk)
        have hkv3 : Paired (KvL H3) kvs (ls.take i) := Paired.mapP hkv fun _ _ => KvL.kg (Kg.of (s3.trans s4))
        have hndt : ((ls.take i).map (·.1)).Nodup := by
          have := ok.nd
          rw [← List.take_append_drop i ls, List.map_append, List.nodup_append] at this
          exact this.1
        have hnew : l.1 ∉ (ls.take i).map (·.1) := fun hm => by
          have h1 := ok.nd
          rw [← List.take_append_drop i ls, List.map_append, List.nodup_append] at h1
          have h2 : l ∈ ls.drop i := by
            rw [List.mem_iff_getElem?]
            exact ⟨0, by rw [List.getElem?_drop]; exact hl⟩
          exact h1.2.2 _ hm _ (List.mem_map.2 ⟨l, h2, rfl⟩) rfl
        have hvn := (kvL_val hkv3 hndt).2 _ hnew
        have hkl : kvs.length ≤ 60 := by
          rw [hkv.length, List.length_take]
          omega
        have hkeys : Sum.inr l.1 ∉ kvs.map (·.1) := by
          rw [kvL_keys hkv3]
          exact fun z => hnew (inr_mem.1 z)
        have etk : ls.take (i + 1) = ls.take i ++ [l] := by rw [List.take_add_one, hl]; rfl
        rcases hxa with hx | hx
        · refine ⟨_, rfl, .inr (.inl ⟨_, _, _, _, rfl, rfl, SqT.of hx, rfl, ⟨_, rfl, d, none, rfl, hvn ▸ DGet.k (k := Sum.inr l.1) hk3, _, rfl, iteF ?_⟩⟩)⟩
          refine ⟨_, rfl, xa, _, rfl, .inr ⟨SqT.of hx, ⟨_, rfl, _, rfl, .inr (.inl ⟨_, _, _, _, rfl, rfl, SqT.of hx, rfl, d, _, rfl, DPut.k (k := Sum.inr l.1) hk3 (by rw [sizeLine_eq]; omega), ?_⟩)⟩⟩⟩
          refine ⟨by omega, ⟨_, _, _, rfl⟩, Same.own sB hdn, _, upd_same, ?_⟩
          rw [putK_new hkeys, etk]
          exact Paired.app (Paired.mapP hkv3 fun _ _ => KvL.updD hk3) (.cons (KvL.updD hk3 ⟨rfl, xa, rfl, hx⟩) .nil)
        · refine ⟨_, rfl, .inl ⟨_, _, _, _, rfl, rfl, SqL.of hx, rfl, ⟨_, rfl, d, none, rfl, hvn ▸ DGet.k (k := Sum.inr l.1) hk3, _, rfl, iteF ?_⟩⟩⟩
          refine ⟨_, rfl, xa, _, rfl, .inl ⟨SqL.of hx, fun y hy => ?_⟩⟩
          have s5 : Same H3 (upd H3 y (.tup (lkV l))) := same_upd hy
          have hk5 := s5 _ _ hk3
          refine ⟨_, rfl, _, rfl, .inl ⟨_, _, _, _, rfl, rfl, SqL.of (s5 _ _ hx), rfl, d, _, rfl, DPut.k (k := Sum.inr l.1) hk5 (by rw [sizeLine_eq]; omega), ?_⟩⟩
          refine ⟨by omega, ⟨_, _, _, rfl⟩, Same.own (sB.trans s5) hdn, _, upd_same, ?_⟩
          rw [putK_new hkeys, etk]
          exact Paired.app (Paired.mapP (Paired.mapP hkv3 fun _ _ => KvL.kg (Kg.of s5)) fun _ _ => KvL.updD hk5) (.cons (KvL.updD hk5 ⟨rfl, y, rfl, upd_same⟩) .nil)
      · have ei : i = n0 := by omega
        subst ei
        obtain ⟨hw, hE⟩ := hbad x hi
        refine ⟨_, rfl, x, false, rfl, .inr ⟨?_, rfl⟩, fun H3 s4 => ⟨_, rfl, iteT (iteT ⟨_, rfl, fun dd hdd => hE dd _ (sA.trans (s4.trans (same_upd hdd))) upd_same⟩)⟩⟩
        rcases hw with h | h | ⟨a, ys, e, h1, h2⟩ | ⟨a, o, b, z, k, e, h1, h2⟩
        · exact .inl h
        · exact .inr (.inl h)
        · exact .inr (.inr (.inl ⟨a, ys, e, sA _ _ h1, h2⟩))
        · exact .inr (.inr (.inr ⟨a, o, b, z, k, e, sA _ _ h1, h2⟩))
    · rintro σ H2 ⟨hin, ⟨v2, v3, v4, rfl⟩, s2, kvs, hk, hkv⟩
      have e0 : ls.take xs.length = ls := List.take_of_length_le (by omega)
      rw [e0] at hkv
      refine ⟨_, rfl, d, kvs, ls.map (·.1), rfl, .inl hk, kvL_keys hkv, by rw [List.length_map]; omega, fun os p hperm hsort hp' => ?_⟩
      have s3 : Same H2 (upd H2 p (.lst (os.map V.str))) := same_upd hp'
      have hos := sorted_asc hsort (hperm.nodup_iff.2 ok.nd)
      obtain ⟨ms, hms, ems⟩ := perm_lift (fun l : Lk Str => l.1) hperm ls rfl
      have hmn : (ms.map (·.1)).Nodup := by rw [ems]; exact hos.nodup sLo
      have hpd : p ≠ d := fun e => by rw [e, hk] at hp'; cases hp'
      refine ⟨p, rfl, ⟨_, SqL.of upd_same⟩, fun D2 hD2 => dc_list (K := K) (a := p) (xs := os.map V.str) (fun i H3 => Same (upd H2 p (.lst (os.map V.str))) H3 ∧ ∃ kv2, H3 D2 = some (.dK kv2) ∧ Paired (KvL H3) kv2 (ms.take i)) ⟨same_upd hD2, [], upd_same, .nil⟩ (fun i H3 _ ⟨s4, _⟩ => SqL.of (s4 _ _ upd_same)) ?_ ?_⟩
      · rintro i y H3 hi ⟨s4, kv2, hk2, hkv2⟩
        rw [← ems, List.map_map, List.getElem?_map] at hi
        cases em : ms[i]? with
        | none => rw [em] at hi; cases hi
        | some m =>
          rw [em] at hi
          injection hi with hi
          subst hi
          have hmm : m ∈ ls := hms.mem_iff.1 (List.mem_of_getElem? em)
          obtain ⟨v, hv, hvr⟩ := (kvL_val hkv ok.nd).1 m hmm
          have hk3 : H3 d = some (.dK kvs) := s4 _ _ (s3 _ _ hk)
          have hl2 : kv2.length ≤ 60 := by
            rw [hkv2.length, List.length_take, hms.length_eq]
            omega
          refine ⟨rfl, ty ⟨_, rfl, _, rfl, _, rfl, d, _, rfl, hv ▸ DGet.k (k := Sum.inr m.1) hk3, kv2, Sum.inr m.1, rfl, hk2, by rw [sizeLine_eq]; omega, ?_⟩⟩
          have hnew : Sum.inr m.1 ∉ kv2.map (·.1) := by
            rw [kvL_keys hkv2]
            intro z
            have hm1 := inr_mem.1 z
            have h1 := hmn
            rw [← List.take_append_drop i ms, List.map_append, List.nodup_append] at h1
            have h2 : m ∈ ms.drop i := by
              rw [List.mem_iff_getElem?]
              exact ⟨0, by rw [List.getElem?_drop]; exact em⟩
            exact h1.2.2 _ hm1 _ (List.mem_map.2 ⟨m, h2, rfl⟩) rfl
          refine ⟨Same.own s4 hD2, _, upd_same, ?_⟩
          rw [putK_new hnew, List.take_add_one, em]
          refine Paired.app (Paired.mapP hkv2 fun _ _ => KvL.updD hk2) (.cons (KvL.updD hk2 ⟨rfl, rTup_gr.mono _ _ _ _ (Kg.of (s3.trans s4)) hvr⟩) .nil)
      · rintro H3 ⟨s4, kv2, hk2, hkv2⟩
        have e1 : ms.take (os.map V.str).length = ms := List.take_of_length_le (by rw [List.length_map, ← ems, List.length_map]; exact Nat.le_refl _)
        rw [e1] at hkv2
        exact hgood hin D2 H3 kv2 ms ((s2.trans s3).free hD2) (s2.trans (s3.trans s4)) hk2 hkv2 hms (by rw [ems]; exact hos))
end
end WH
set_option Elab.async false
set_option linter.all false
set_option maxRecDepth 100000
set_option maxHeartbeats 2000000
namespace WH
open PySem PySem.Spec PyProof.Rows L2 WM LamX
abbrev s_waits_for : Stmt := topS 41
theorem sc_waits_for : FnScope ["table", "wants", "known", "found", "owner", "others", "lock"] ["table", "wants"] (defScope s_waits_for) := ⟨rfl, rfl, rfl, by decide +kernel, rfl, by decide +kernel, by decide +kernel⟩
abbrev s_all_owners : Stmt := topS 42
theorem sc_all_owners : FnScope ["table", "waiting"] ["table", "waiting"] (defScope s_all_owners) := ⟨rfl, rfl, rfl, by decide +kernel, rfl, by decide +kernel, by decide +kernel⟩
/-! ### a dict: owner → list of texts -/
def rStrs : Rep (List Str) := fun H v l => ∃ a, v = .ref a ∧ H a = some (.lst (l.map V.str))
def KvS (H : Hp) (kv : Key × V) (e : Str × List Str) : Prop := kv.1 = Sum.inr e.1 ∧ rStrs H kv.2 e.2
theorem rStrs_mono : Mono rStrs := fun _ _ _ _ k ⟨a, e, h⟩ => ⟨a, e, k _ _ trivial h⟩
theorem KvS.kg {H H' : Hp} {kv : Key × V} {e : Str × List Str} (k : Kg H H') (h : KvS H kv e) : KvS H' kv e := ⟨h.1, rStrs_mono _ _ _ _ k h.2⟩
theorem KvS.updD {H : Hp} {d : Addr} {kvs kvs' : List (Key × V)} (hd : H d = some (.dK kvs)) {kv : Key × V} {e : Str × List Str} (h : KvS H kv e) : KvS (upd H d (.dK kvs')) kv e := by
  obtain ⟨h1, a, q, h2⟩ := h
  exact ⟨h1, a, q, by rw [upd_ne (ne_of h2 hd (fun z => nomatch z))]; exact h2⟩
abbrev Ws := List (Str × List Str)
def WsAt (H : Hp) (d : Addr) (ws : Ws) : Prop := ∃ kvs, H d = some (.dK kvs) ∧ Paired (KvS H) kvs ws
theorem WsAt.kg {H H' : Hp} {d : Addr} {ws : Ws} (k : Kg H H') : WsAt H d ws → WsAt H' d ws := fun ⟨kvs, h, p⟩ => ⟨kvs, k _ _ trivial h, Paired.mapP p fun _ _ => KvS.kg k⟩
theorem kvS_keys {H : Hp} : ∀ {kvs : List (Key × V)} {ws : Ws}, Paired (KvS H) kvs ws → kvs.map (·.1) = (ws.map (·.1)).map Sum.inr
  | _, _, .nil => rfl
  | _, _, .cons h t => by
    rw [List.map_cons, List.map_cons, List.map_cons, h.1, kvS_keys t]
/-- whom o waits for -/
def wOf (ws : Ws) (o : Str) : List Str := ((ws.find? fun e => decide (e.1 = o)).map (·.2)).getD []
theorem wOf_cons (k o : Str) (l : List Str) (ws : Ws) : wOf ((k, l) :: ws) o = if k = o then l else wOf ws o := by
  unfold wOf
  rw [List.find?_cons]
  by_cases c : k = o
  · rw [if_pos c]; simp [c]
  · rw [if_neg c]; simp [c]
theorem wOf_none : ∀ {ws : Ws} {o : Str}, o ∉ ws.map (·.1) → wOf ws o = []
  | [], _, _ => rfl
  | (k, l) :: ws, o, h => by
    rw [List.map_cons, List.mem_cons, not_or] at h
    rw [wOf_cons, if_neg fun e => h.1 e.symm]
    exact wOf_none h.2
theorem wOf_at : ∀ {ws : Ws}, (ws.map (·.1)).Nodup → ∀ {o : Str} {l : List Str}, (o, l) ∈ ws → wOf ws o = l
  | (k, rs) :: ws, hn, o, l, h => by
    rw [List.map_cons, List.nodup_cons] at hn
    rw [wOf_cons]
    rcases List.mem_cons.1 h with e | h
    · injection e with e1 e2
      rw [if_pos e1.symm, e2]
    · rw [if_neg fun e => hn.1 (List.mem_map.2 ⟨_, h, e.symm⟩)]
      exact wOf_at hn.2 h
theorem kvS_val {H : Hp} {o : Str} : ∀ {kvs : List (Key × V)} {ws : Ws}, Paired (KvS H) kvs ws → (o ∈ ws.map (·.1) → ∃ v, valV kvs (Sum.inr o) = some v ∧ rStrs H v (wOf ws o)) ∧ (o ∉ ws.map (·.1) → valV kvs (Sum.inr o) = none)
  | _, _, .nil => ⟨(fun h => by cases h), fun _ => rfl⟩
  | _, _, .cons (a := kv) (b := e) (l₁ := kvs) (l₂ := ws) h t => by
    obtain ⟨k, v⟩ := kv
    obtain ⟨o', l⟩ := e
    obtain ⟨h1, h2⟩ := h
    have h1 : k = Sum.inr o' := h1
    subst h1
    obtain ⟨i1, i2⟩ := kvS_val (o := o) t
    rw [valV_cons, wOf_cons, List.map_cons, List.mem_cons]
    by_cases c : o' = o
    · subst c
      rw [if_pos rfl, if_pos rfl]
      exact ⟨fun _ => ⟨v, rfl, h2⟩, fun z => absurd (.inl rfl) z⟩
    · rw [if_neg fun z => c (Sum.inr.inj z), if_neg c]
      exact ⟨fun z => i1 (z.resolve_left fun q => c q.symm), fun z => i2 fun q => z (.inr q)⟩
/-- the waits of wants wl behind locks ls -/
structure WaitsOk (ls wl : List (Lk Str)) (ws : Ws) : Prop where
  keys : ∀ o, o ∈ ws.map (·.1) ↔ o ∈ wl.map (·.1)
  asc : Asc sLt (ws.map (·.1))
  lists : ∀ e ∈ ws, Asc sLt e.2 ∧ ∃ l ∈ wl, l.1 = e.1 ∧ ∀ x, x ∈ e.2 ↔ Wt ls l x
/-- what is refused among wants -/
def BadW (CL : Addr) (H : Hp) (xs : List V) (E : XK) : Prop := ∃ xg w xr ls, xs = xg ++ w :: xr ∧ Paired (rLkA H) xg ls ∧ WtOk ls ∧ wrongLk H w ∧ ∀ dd H', Same H H' → H' dd = some (.xd [("index", .int (xg.length : Nat))]) → E (.ref CL) (some dd) H'
theorem wrongLk.kg {H H' : Hp} {w : V} (k : Kg H H') (h : wrongLk H w) : wrongLk H' w := by
  rcases h with h | h | ⟨a, ys, e, h1, h2⟩ | ⟨a, o, b, z, k', e, h1, h2⟩
  · exact .inl h
  · exact .inr (.inl h)
  · exact .inr (.inr (.inl ⟨a, ys, e, k _ _ trivial h1, h2⟩))
  · exact .inr (.inr (.inr ⟨a, o, b, z, k', e, k _ _ trivial h1, h2⟩))
theorem BadW.same {CL : Addr} {H H' : Hp} {xs : List V} {E : XK} (s : Same H H') : BadW CL H xs E → BadW CL H' xs E := fun ⟨xg, w, xr, ls, e, p, ok, hw, q⟩ =>
  ⟨xg, w, xr, ls, e, rLkA_mono.all (Kg.of s) p, ok, hw.kg (Kg.of s), fun dd H'' s' => q dd H'' (s.trans s')⟩
section
variable {P : Program} {w : World} {K : PySem.W.Frag} {mg : Str → Option Value} {base : Heap} {CL fL C fi fl fo : Addr}
def sp_waits_for (C CL : Addr) : Sp := fun vs H Q E => ∃ (tv : V) (wa : Addr) (xs : List V) (tb : Tb Str) (ls : List (Lk Str)) (names : List Str) (n : Nat), vs = [tv, .ref wa] ∧ TbI C H tv tb ∧ TbG tb ls names n ∧ n ≤ 100000 ∧ (H wa = some (.lst xs) ∨ H wa = some (.tup xs)) ∧
  ((∃ wl, Paired (rLkA H) xs wl ∧ WtOk wl ∧ ∀ p H' ws, H p = none → Same H H' → WsAt H' p ws → WaitsOk ls wl ws → Q (.ref p) H') ∨ BadW CL H xs E)
theorem ok_waits_for {f : Addr} {fd : FuncData} (D : Df K mg "waits_for" s_waits_for ["table", "wants"] f fd) (T : Bl mg) (L : LTb K mg C fi fl fo) (G_locks : Dq P w K mg base 2 fl ["self"] (sp_locks C)) (G_are_clashing : Dn P w K mg base CX0 2 "are_clashing" ["one", "other"] sp_are_clashing) (G_each_once : Dn P w K mg base CX0 1 "each_once" ["things"] (sp_each_once K))
    (G_checked_wants : Dn P w K mg base (L2.CX P w) 5 "checked_wants" ["wants"] (sp_checked_wants CL)) : Dn P w K mg base (L2.CX P w) 6 "waits_for" ["table", "wants"] (sp_waits_for C CL) := .of D (by
  refine D.fn.okX sc_waits_for (fun vs H Q E h => ?_) (fun cdv A outer s H vs Q E hr h => ?_)
  · obtain ⟨tv, wa, xs, tb, ls, names, n, rfl, _⟩ := h
    rfl
  · obtain ⟨tv, wa, xs, tb, ls, names, n, rfl, htv, G, hn, hwa, q⟩ := h
    have hu := hu_of hr
    refine ⟨_, (pss_cons (ps_asg (pe_tup (pa_cons (pe_clX (E := E) G_checked_wants (hr.mono (by decide)) (takes_of rfl rfl rfl rfl) (fun _ _ _ _ h => h) (pa_cons (pv 1) pa_nil)) (pa_cons (pe_dnewK) pa_nil))) (tupG K (n := 2) rfl (pgs_cons (pg_name (i := 2) sc_waits_for.nd rfl (Or.inr rfl)) (pgs_cons (pg_name (i := 3) sc_waits_for.nd rfl (Or.inl rfl)) pgs_nil))))
      (pss_cons (ps_lock (ps_for (passes_of rfl) rfl (pi_keys (pv 2)) (pg_name (i := 4) sc_waits_for.nd rfl (Or.inr rfl))
        (pss_cons (ps_setLc (i := 5) (own := [("lock", 6)]) rfl sc_waits_for.nd rfl rfl (sw_true rfl rfl rfl (by decide +kernel)) (pil K (pe_locks G_locks L (hr.mono (by decide)) (pv 0))) (blkOk_by (N := ["table", "wants", "known", "found", "owner", "others", "lock"]) (sc := defScope s_waits_for) (by decide +kernel)) (fun _ _ _ _ _ => pg_name (i := 6) sc_waits_for.nd rfl (Or.inl rfl)) (fun _ _ _ _ _ => pts_one (pt_val (pe_cl G_are_clashing (hr.mono (by decide)) (pa_cons (pv 6) (pa_cons (pe_dget hu (pv 2) (pv 4) (fun _ _ => rfl)) pa_nil))))) (fun _ _ _ _ _ => pe_ix (ixT K) (pv 6) (pe_int) (fun _ _ => rfl)))
        (pss_one (ps_dput hu (pv 3) (pv 4) (pe_callB (sortS K) (by rfl) T.b_sorted (by decide +kernel) (pa_cons (pe_cl G_each_once (hr.mono (by decide)) (pa_cons (pv 5) pa_nil)) pa_nil)) rfl)))))
      (pss_one (ps_ret (pv 3))))), ?_⟩
    rcases q with ⟨wl, hwp, wok, q⟩ | hbad
    case inr => exact ⟨_, rfl, wa, xs, rfl, hwa, .inr hbad⟩
    refine ⟨_, rfl, wa, xs, rfl, hwa, .inl ⟨wl, hwp, wok, fun p H1 kvs ms hp s1 hk hkv hperm hasc => ?_⟩⟩
    intro d hd
    have hdn : H d = none := s1.free hd
    have hpd : p ≠ d := ne_new hk hd
    have s2 : Same H1 (upd H1 d (.dK [])) := same_upd hd
    refine ⟨sz2, fun t ht => ?_⟩
    have hdt : d ≠ t := ne_new upd_same ht
    have s3 : Same (upd H1 d (.dK [])) (upd (upd H1 d (.dK [])) t (.tup [.ref p, .ref d])) := same_upd ht
    generalize hH3 : upd (upd H1 d (.dK [])) t (.tup [.ref p, .ref d]) = H3 at s3
    have ht3 : H3 t = some (.tup [.ref p, .ref d]) := by rw [← hH3, upd_same]
    have hd3 : H3 d = some (.dK []) := s3 _ _ upd_same
    have hk3 : H3 p = some (.dK kvs) := s3 _ _ (s2 _ _ hk)
    have hkv3 : Paired (KvL H3) kvs ms := Paired.mapP hkv fun _ _ => KvL.kg (Kg.of (s2.trans s3))
    have s13 : Same H H3 := s1.trans (s2.trans s3)
    have hmn : (ms.map (·.1)).Nodup := hasc.nodup sLo
    refine ⟨t, _, rfl, SqT.of ht3, rfl, _, _, rfl, _, _, rfl, rfl, ?_⟩
    refine ⟨p, _, hk3, trivial, fun od => ?_⟩
    refine ⟨_, rfl, p, od, rfl, .inl ⟨kvs, upd_same, for_keysK (d := p) (o := od) (kvs := kvs) (fun i σ H5 => (∃ v4 v5 v6, σ = [some tv, some (.ref wa), some (.ref p), some (.ref d), v4, v5, v6]) ∧ (∀ b o, b ≠ p → b ≠ d → H3 b = some o → H5 b = some o) ∧ H5 p = some (.frz od (.dK kvs)) ∧
        ∃ kw ws, H5 d = some (.dK kw) ∧ Paired (KvS H5) kw ws ∧ ws.map (·.1) = (ms.take i).map (·.1) ∧ ∀ e ∈ ws, Asc sLt e.2 ∧ ∃ l ∈ wl, l.1 = e.1 ∧ ∀ x, x ∈ e.2 ↔ Wt ls l x)
      ⟨⟨none, none, none, rfl⟩, fun b o h1 _ h => by rw [upd_ne h1]; exact h, upd_same, [], [], by rw [upd_ne hpd.symm]; exact hd3, .nil, rfl, fun _ h => nomatch h⟩ (fun i σ H5 _ ⟨_, _, h, _⟩ => h) ?_ ?_⟩⟩
    · rintro i k v σ H5 hi ⟨⟨v4, v5, v6, rfl⟩, s5, hfz, kw, ws, hkw, hws, hkeys, hlists⟩
      obtain ⟨m, hm, hk1, la, hv, hla⟩ := paired_get hkv3 hi
      have hk1 : k = Sum.inr m.1 := hk1
      have hv : v = .ref la := hv
      subst hk1
      subst hv
      have hmm : m ∈ ms := List.mem_of_getElem? hm
      have hmw : m ∈ wl := hperm.mem_iff.1 hmm
      have sH5 : Same H H5 := fun b o e => s5 b o (fun z => by rw [z, hp] at e; cases e) (fun z => by rw [z, hdn] at e; cases e) (s13 _ _ e)
      have hla5 : H5 la = some (.tup (lkV m)) := s5 _ _ (ne_of hla hk3 fun z => nomatch z) (ne_of hla hd3 fun z => nomatch z) hla
      obtain ⟨x0, dx0, d0, rfl, hx0, htb⟩ := htv.kg (Kg.of sH5)
      have hfew := G.len
      have htot : total tb ≤ 100000 := Nat.le_trans G.dj.tot hn
      refine ⟨_, rfl, x0, dx0, _, rfl, hx0, rfl, .ref x0, tb, rfl, ⟨x0, dx0, d0, rfl, hx0, htb⟩, G.tbl.nd, by omega, htot, fun p6 H6 ws6 os hp6 s6 hw6 hos hwp6 => ?_⟩
      have hlen6 : (tlOf tb os).length = total tb := len_tlOf G.tbl.nd hos
      have hval : valV kvs (Sum.inr m.1) = some (.ref la) := by
        obtain ⟨v', h1, _⟩ := (kvL_val hkv3 hmn).1 m hmm
        have h2 : ∀ {kvs : List (Key × V)} {ls : List (Lk Str)}, Paired (KvL H3) kvs ls → (ls.map (·.1)).Nodup → ∀ {i : Nat} {k : Key} {v : V}, kvs[i]? = some (k, v) → valV kvs k = some v := by
          intro kvs ls hp
          induction hp with
          | nil => intro _ i k v h; cases h
          | @cons a b l1 l2 h t ih =>
            intro hn i k v hi
            obtain ⟨k0, v0⟩ := a
            rw [List.map_cons, List.nodup_cons] at hn
            rw [valV_cons]
            cases i with
            | zero =>
              injection hi with hi
              injection hi with h1 h2
              rw [if_pos h1, h2]
            | succ i =>
              have hi' : l1[i]? = some (k, v) := by simpa using hi
              have hin : k ∈ l1.map (·.1) := List.mem_map.2 ⟨_, List.mem_of_getElem? hi', rfl⟩
              rw [if_neg fun z => ?_]
              · exact ih hn.2 hi'
              · rw [kvL_keys t, ← z, show k0 = Sum.inr b.1 from h.1] at hin
                exact hn.1 (inr_mem.1 hin)
        exact h2 hkv3 hmn hi
      refine ⟨p6, rfl, ⟨_, SqL.of hw6⟩, fun D1 hD1 => lc_L (R := rLk) (S := rS) (as := tlOf tb os) rTup_gr.mono rV_gr (fun st => if clashB st m = true then some st.1 else none) hD1 (SqL.of hw6) hwp6 (by rw [hwp6.length, hlen6]; exact htot) (fun j x st hst H7 s7 hx N Z hN hZ => ?_) fun H7 ys7 s7 hw7 hwp7 => ?_⟩
      · obtain ⟨sa, rfl, hsa⟩ := hx
        refine ⟨rfl, _, rfl, _, rfl, _, rfl, p, _, rfl, .inl ⟨kvs, Sum.inr m.1, .inr ⟨od, s7 _ _ (s6 _ _ hfz)⟩, rfl, hval.symm⟩, sa, la, st, m, rfl, hsa, s7 _ _ (s6 _ _ hla5), fun H8 s8 => ⟨_, rfl, ?_⟩⟩
        by_cases c : clashB st m = true
        · rw [c]
          exact iteT ⟨_, rfl, _, _, _, _, rfl, rfl, SqT.of (s8 _ _ hsa), rfl, hN _ _ _ s8 (if_pos c) rfl⟩
        · have c2 := c
          rw [Bool.not_eq_true] at c
          rw [c]
          exact iteF (hZ _ s8 (if_neg c2))
      · have eys := paired_rV hwp7
        have hoth : ∀ x, x ∈ (tlOf tb os).filterMap (fun st => if clashB st m = true then some st.1 else none) ↔ Wt ls m x := by
          intro x
          rw [← clash_waits G.tbl ((wok.ok m hmw).2), List.mem_filterMap]
          constructor
          · rintro ⟨st, h1, h2⟩
            by_cases c : clashB st m = true
            · rw [if_pos c] at h2
              injection h2 with h2
              subst h2
              exact ⟨st.2, (mem_tlOf G.tbl.nd (fun o => hos.mem_iff) st).1 h1, c⟩
            · rw [if_neg c] at h2
              cases h2
          · rintro ⟨r, h1, h2⟩
            exact ⟨(x, r), (mem_tlOf G.tbl.nd (fun o => hos.mem_iff) (x, r)).2 h1, if_pos h2⟩
        have hol : ((tlOf tb os).filterMap (fun st => if clashB st m = true then some st.1 else none)).length ≤ 100000 := Nat.le_trans (List.length_filterMap_le _ _) (by rw [hlen6]; exact htot)
        generalize (tlOf tb os).filterMap (fun st => if clashB st m = true then some st.1 else none) = oth at eys hoth hwp7 hol
        refine ⟨_, rfl, D1, oth, rfl, SqL.of (by rw [hw7, eys]), hol, fun p8 H8 hp8 s8 hw8 => ?_⟩
        obtain ⟨ond, omem⟩ := onceL_ok oth
        have ofew : (onceL oth).length ≤ 5 := by
          refine Nat.le_trans (nodup_len ond (m := names) fun x hx => ?_) G.few
          obtain ⟨l, hl, e⟩ := List.mem_map.1 (((hoth x).1 ((omem x).1 hx)).owner)
          exact e ▸ G.own l hl
        refine ⟨p8, _, rfl, SqL.of hw8, by omega, fun zs p9 hz9 hso hp9 => ?_⟩
        have sA : Same H5 (upd H8 p9 (.lst (zs.map V.str))) := s6.trans (s7.trans (s8.trans (same_upd hp9)))
        have hkwl : kw.length ≤ 60 := by
          have h1 := congrArg List.length hkeys
          rw [List.length_map, List.length_map, List.length_take] at h1
          have h2 := hperm.length_eq
          have h3 := wok.len
          rw [hws.length]
          omega
        refine ⟨_, rfl, _, rfl, d, _, rfl, DPut.k (k := Sum.inr m.1) (sA _ _ hkw) (by rw [sizeLine_eq]; omega), ?_⟩
        have etk : ms.take (i + 1) = ms.take i ++ [m] := by rw [List.take_add_one, hm]; rfl
        have hnew : Sum.inr m.1 ∉ kw.map (·.1) := by
          rw [kvS_keys hws, hkeys]
          intro z
          have hm1 := inr_mem.1 z
          have h1 := hmn
          rw [← List.take_append_drop i ms, List.map_append, List.nodup_append] at h1
          have h2 : m ∈ ms.drop i := by
            rw [List.mem_iff_getElem?]
            exact ⟨0, by rw [List.getElem?_drop]; exact hm⟩
          exact h1.2.2 _ hm1 _ (List.mem_map.2 ⟨m, h2, rfl⟩) rfl
        refine ⟨⟨_, _, _, rfl⟩, fun b o h1 h2 h3 => by rw [upd_ne h2]; exact sA _ _ (s5 b o h1 h2 h3), by rw [upd_ne hpd]; exact sA _ _ hfz, _, ws ++ [(m.1, zs)], upd_same, ?_, ?_, fun e he => ?_⟩
        · rw [putK_new hnew]
          have hkd := sA _ _ hkw
          exact Paired.app (Paired.mapP (Paired.mapP hws fun _ _ => KvS.kg (Kg.of sA)) fun _ _ => KvS.updD hkd) (.cons (KvS.updD hkd ⟨rfl, p9, rfl, upd_same⟩) .nil)
        · rw [List.map_append, hkeys, etk, List.map_append]
          rfl
        · rcases List.mem_append.1 he with he | he
          · exact hlists e he
          · rw [List.mem_singleton.1 he]
            refine ⟨sorted_asc hso (hz9.nodup_iff.2 ond), m, hmw, rfl, fun x => ?_⟩
            rw [hz9.mem_iff, omem, hoth]
    · rintro σ H5 ⟨⟨v4, v5, v6, rfl⟩, s5, hfz, kw, ws, hkw, hws, hkeys, hlists⟩
      refine ⟨hfz, ?_⟩
      have e1 : ms.take kvs.length = ms := List.take_of_length_le (by rw [hkv.length]; exact Nat.le_refl _)
      rw [e1] at hkeys
      have sH : Same H (upd H5 p (.dK kvs)) := fun b o e => by
        have hbp : b ≠ p := fun z => by rw [z, hp] at e; cases e
        rw [upd_ne hbp]
        exact s5 b o hbp (fun z => by rw [z, hdn] at e; cases e) (s13 _ _ e)
      refine ⟨_, rfl, q d _ ws hdn sH ⟨kw, by rw [upd_ne hpd.symm]; exact hkw, Paired.mapP hws fun _ _ ⟨h1, a, h2, h3⟩ => ⟨h1, a, h2, by rw [upd_ne (ne_of h3 hfz fun z => nomatch z)]; exact h3⟩⟩ ⟨fun o => ?_, by rw [hkeys]; exact hasc, hlists⟩⟩
      rw [hkeys]
      exact (hperm.map _).mem_iff)
end
end WH
set_option Elab.async false
set_option linter.all false
set_option maxRecDepth 100000
set_option maxHeartbeats 4000000
/-! {k: v}, one pair. -/
namespace WH
open PySem PySem.Spec PyProof.Rows L2
def tDict1 (tk tv : TE) : TE := fun σ H Q => ∀ D, H D = none → tk σ (upd H D (.dK [])) fun y H1 => tv σ H1 fun z H2 => ∃ k, y = kV k ∧ H2 D = some (.dK []) ∧ Q (.ref D) (upd H2 D (.dK [(k, z)]))
theorem pe_dict1 {X : Cx} {ke ve : Expr} {tk tv : TE} {pos : Pos} (hk : PE X ke tk) (hv : PE X ve tv) : PE X (.Dict [some ke] [ve] pos) (tDict1 tk tv) := by
  refine ⟨fun pins s σ H Q I h => ?_⟩
  refine wpAny_Dict_any rfl rfl (by simp) (by simp) ?_
  have hn : H s.heap.objs.size = none := I.hok.fresh (Nat.le_refl _)
  have I0 : Inv X pins σ (upd H s.heap.objs.size (.dK [])) { s with heap := s.heap.push { cls := .type "dict", data := .dict #[] } } :=
    I.laid (a := s.heap.objs.size) (o := .dK []) (t' := s.toks) (fun _ _ q => Heap.get?_push_of_some _ q) (Nat.le_refl _) (dk_empty s.heap I.big)
  change wpAny _ _ (evalPairs [(eval ke X.env, do let x ← eval ve X.env; standAt pos; pure x)]) _ _ _
  refine evalPairs_cons (thn (hk.run pins _ σ _ _ I0 (h _ hn)) fun kv s1 ⟨y, H1, I1, r1, q1⟩ => ?_)
  refine wpAny_bind (thn (hv.run pins s1 σ H1 _ I1 q1) fun vv s2 ⟨z, H2, I2, r2, k, e, hD, q2⟩ => wpAny_bind (wpAny_standAt (wpAny_pure (evalPairs_nil ?_))))
  subst e
  change wpAny _ _ (forIn [(kv, vv)] PUnit.unit fun (x : Value × Value) (_ : PUnit) => (do dictSet s.heap.objs.size x.1 x.2; pure (ForInStep.yield PUnit.unit) : Sem (ForInStep PUnit))) _ _ _
  rw [List.forIn_cons]
  refine wpAny_bind (wpAny_bind (d_dictSet I2 hD (by rw [sizeLine_eq]; simp) r1 r2 fun s' I3 => wpAny_pure ?_))
  change wpAny _ _ (forIn ([] : List (Value × Value)) PUnit.unit _) _ _ _
  rw [List.forIn_nil]
  exact wpAny_pure ⟨.ref s.heap.objs.size, _, I3, rfl, q2⟩
end WH
set_option Elab.async false
set_option linter.all false
set_option maxRecDepth 100000
set_option maxHeartbeats 2000000
namespace WH
open PySem PySem.Spec PyProof.Rows L2 WM LamX
abbrev s_ring_from : Stmt := topS 44
theorem sc_ring_from : FnScope ["waiting", "owner", "ways", "queue", "at", "here", "other"] ["waiting", "owner"] (defScope s_ring_from) := ⟨rfl, rfl, rfl, by decide +kernel, rfl, by decide +kernel, by decide +kernel⟩
abbrev s_end_order : Stmt := topS 43
theorem sc_end_order : FnScope ["table", "wants", "waiting", "left", "found", "able", "owner"] ["table", "wants"] (defScope s_end_order) := ⟨rfl, rfl, rfl, by decide +kernel, rfl, by decide +kernel, by decide +kernel⟩
section
variable {P : Program} {w : World} {K : PySem.W.Frag} {mg : Str → Option Value} {base : Heap} {CL fL C fi fl fo : Addr}
/-! ### all_owners -/
def sp_all_owners (C : Addr) : Sp := fun vs H Q _ => ∃ (tv : V) (d : Addr) (tb : Tb Str) (kvs : List (Key × V)) (ks names : List Str), vs = [tv, .ref d] ∧ TbI C H tv tb ∧ (tb.map (·.1)).Nodup ∧ H d = some (.dK kvs) ∧ kvs.map (·.1) = ks.map Sum.inr ∧ ks.length ≤ 60 ∧ names.length ≤ 5 ∧
  (∀ o ∈ tb.map (·.1), o ∈ names) ∧ (∀ o ∈ ks, o ∈ names) ∧
  ∀ p H' os, H p = none → Same H H' → H' p = some (.lst (os.map V.str)) → Asc sLt os → (∀ o, o ∈ os ↔ o ∈ tb.map (·.1) ∨ o ∈ ks) → os.length ≤ 5 → Q (.ref p) H'
theorem ok_all_owners {f : Addr} {fd : FuncData} (D : Df K mg "all_owners" s_all_owners ["table", "waiting"] f fd) (T : Bl mg) (L : LTb K mg C fi fl fo) (G_owners : Dq P w K mg base 1 fo ["self"] (sp_owners C)) (G_each_once : Dn P w K mg base CX0 1 "each_once" ["things"] (sp_each_once K)) : Dn P w K mg base CX0 2 "all_owners" ["table", "waiting"] (sp_all_owners C) := .of D (by
  refine D.fn.ok sc_all_owners (fun vs H Q E h => ?_) (fun cdv A outer s H vs Q E hr h => ?_)
  · obtain ⟨tv, d, tb, kvs, ks, names, rfl, _⟩ := h
    rfl
  · obtain ⟨tv, d, tb, kvs, ks, names, rfl, htv, hn, hd, hk, hkl, hnl, h1, h2, q⟩ := h
    refine ⟨_, (pss_one (ps_ret (pe_callB (sortS K) (by rfl) T.b_sorted (by decide +kernel) (pa_cons (pe_cl G_each_once (hr.mono (by decide)) (pa_cons (pe_op op_cat (pe_owners G_owners L (hr.mono (by decide)) (pv 0)) (pe_callTy ((call_listD rfl)) (by rfl) T.b_list (by decide +kernel) (pa_cons (pv 1) pa_nil))) pa_nil)) pa_nil)))), ?_⟩
    obtain ⟨x0, dx0, d0, rfl, hx0, htb⟩ := id htv
    have htl : tb.length ≤ 5 := by
      have := nodup_len hn h1
      rw [List.length_map] at this
      omega
    refine ⟨_, rfl, x0, dx0, _, rfl, hx0, rfl, .ref x0, tb, rfl, htv, hn, by omega, fun p1 H1 os1 hp1 s1 hw1 asc1 mem1 len1 => ?_⟩
    refine ⟨_, rfl, d, kvs, rfl, .inl (s1 _ _ hd), fun p2 hp2 => ?_⟩
    have s2 : Same H1 (upd H1 p2 (.lst (kvs.map fun kv => kV kv.1))) := same_upd hp2
    have ek : (kvs.map fun kv => kV kv.1) = ks.map V.str := by
      have := congrArg (List.map kV) hk
      rw [List.map_map, List.map_map] at this
      exact this
    have hkl' : kvs.length = ks.length := by
      have := congrArg List.length hk
      rw [List.length_map, List.length_map] at this
      exact this
    refine ⟨p1, p2, _, _, rfl, rfl, s2 _ _ hw1, upd_same, by rw [sizeLine_eq, List.length_map, List.length_map]; omega, fun p3 hp3 => ?_⟩
    refine ⟨p3, os1 ++ ks, rfl, SqL.of (by rw [upd_same, ek, List.map_append]), by rw [List.length_append]; omega, fun p4 H4 hp4 s4 hw4 => ?_⟩
    obtain ⟨ond, omem⟩ := onceL_ok (os1 ++ ks)
    have ofew : (onceL (os1 ++ ks)).length ≤ 5 := by
      refine Nat.le_trans (nodup_len ond (m := names) fun x hx => ?_) hnl
      rcases List.mem_append.1 ((omem x).1 hx) with h | h
      · exact h1 x ((mem1 x).1 h)
      · exact h2 x h
    refine ⟨p4, _, rfl, SqL.of hw4, by omega, fun ys p5 hys hso hp5 => ?_⟩
    have sA := s1.trans (s2.trans ((same_upd hp3).trans s4))
    refine q p5 _ ys (sA.free hp5) (sA.trans (same_upd hp5)) upd_same (sorted_asc hso (hys.nodup_iff.2 ond)) (fun o => ?_) (by rw [hys.length_eq]; exact ofew)
    rw [hys.mem_iff, omem, List.mem_append, mem1])
/-! ### ring_from -/
theorem way_in {g : Str → List Str} {a b : Str} {p : List Str} (h : Way g a b p) {V : List Str} (ha : a ∈ V) (hV : ∀ x ∈ V, ∀ y ∈ g x, y ∈ V ∧ y ≠ a) : b ∈ V := by
  induction h with
  | one => exact ha
  | snoc _ hc ih => exact (hV _ ih _ hc).1
theorem way_no {g : Str → List Str} {a b : Str} {p : List Str} (h : Way g a b p) (hb : a ∈ g b) : ¬ NoWay g a := fun ⟨V, ha, hV⟩ => (hV b (way_in h ha hV) a hb).2 rfl
/-- ways that are known: to each that was met, a way -/
def KvW (g : Str → List Str) (o : Str) (S : List Str) (B : Nat) (q : Addr) (H : Hp) (kv : Key × V) (x : Str) : Prop := kv.1 = Sum.inr x ∧ ∃ a p, kv.2 = .ref a ∧ a ≠ q ∧ H a = some (.lst (p.map V.str)) ∧ Way g o x p ∧ (∀ y ∈ p, y ∈ S) ∧ p.length ≤ B
end
theorem KvW.kg {g : Str → List Str} {o : Str} {S : List Str} {B : Nat} {q : Addr} {H H' : Hp} {kv : Key × V} {x : Str} (k : Kg H H') (h : KvW g o S B q H kv x) : KvW g o S B q H' kv x := let ⟨h1, a, p, e, n, h2, r⟩ := h; ⟨h1, a, p, e, n, k _ _ trivial h2, r⟩
theorem KvW.updD {g : Str → List Str} {o : Str} {S : List Str} {B : Nat} {q : Addr} {H : Hp} {d : Addr} {kvs kvs' : List (Key × V)} (hd : H d = some (.dK kvs)) {kv : Key × V} {x : Str} (h : KvW g o S B q H kv x) : KvW g o S B q (upd H d (.dK kvs')) kv x := by
  obtain ⟨h1, a, p, e, n, h2, r⟩ := h
  exact ⟨h1, a, p, e, n, by rw [upd_ne (ne_of h2 hd (fun z => nomatch z))]; exact h2, r⟩
theorem KvW.lst {g : Str → List Str} {o : Str} {S : List Str} {B : Nat} {q : Addr} {H : Hp} {ys : List V} {kv : Key × V} {x : Str} (h : KvW g o S B q H kv x) : KvW g o S B q (upd H q (.lst ys)) kv x := by
  obtain ⟨h1, a, p, e, n, h2, r⟩ := h
  exact ⟨h1, a, p, e, n, by rw [upd_ne n]; exact h2, r⟩
theorem KvW.up {g : Str → List Str} {o : Str} {S : List Str} {B B' : Nat} {q : Addr} {H : Hp} {kv : Key × V} {x : Str} (hB : B ≤ B') (h : KvW g o S B q H kv x) : KvW g o S B' q H kv x := by
  obtain ⟨h1, a, p, e, n, h2, h3, h4, h5⟩ := h
  exact ⟨h1, a, p, e, n, h2, h3, h4, Nat.le_trans h5 hB⟩
theorem kvW_keys {g : Str → List Str} {o : Str} {S : List Str} {B : Nat} {q : Addr} {H : Hp} : ∀ {kvs : List (Key × V)} {xs : List Str}, Paired (KvW g o S B q H) kvs xs → kvs.map (·.1) = xs.map Sum.inr
  | _, _, .nil => rfl
  | _, _, .cons h t => by rw [List.map_cons, List.map_cons, h.1, kvW_keys t]
theorem kvW_val {g : Str → List Str} {o : Str} {S : List Str} {B : Nat} {q : Addr} {H : Hp} : ∀ {kvs : List (Key × V)} {xs : List Str}, Paired (KvW g o S B q H) kvs xs → xs.Nodup → (∀ x ∈ xs, ∃ v, valV kvs (Sum.inr x) = some v ∧ KvW g o S B q H (Sum.inr x, v) x) ∧ ∀ x, x ∉ xs → valV kvs (Sum.inr x) = none
  | _, _, .nil, _ => ⟨(fun _ h => nomatch h), fun _ _ => rfl⟩
  | _, _, .cons (a := kv) (b := l) (l₁ := kvs) (l₂ := ls) h t, hn => by
    rw [List.nodup_cons] at hn
    obtain ⟨k, v⟩ := kv
    have h1 : k = Sum.inr l := h.1
    subst h1
    obtain ⟨i1, i2⟩ := kvW_val t hn.2
    refine ⟨fun m hm => ?_, fun o ho => ?_⟩
    · rw [valV_cons]
      rcases List.mem_cons.1 hm with rfl | hm
      · rw [if_pos rfl]
        exact ⟨v, rfl, h⟩
      · rw [if_neg fun z => hn.1 (by have e := Sum.inr.inj z; rw [e]; exact hm)]
        exact i1 m hm
    · rw [List.mem_cons, not_or] at ho
      rw [valV_cons, if_neg fun z => ho.1 (Sum.inr.inj z).symm]
      exact i2 o ho.2
section
variable {P : Program} {w : World} {K : PySem.W.Frag} {mg : Str → Option Value} {base : Heap} {CL fL C fi fl fo : Addr}
def sp_ring_from : Sp := fun vs H Q _ => ∃ (d : Addr) (o : Str) (ws : Ws) (S : List Str), vs = [.ref d, .str o] ∧ WsAt H d ws ∧ o ∈ S ∧ S.length ≤ 5 ∧ (∀ x ∈ S, (∀ y ∈ wOf ws x, y ∈ S) ∧ (wOf ws x).length ≤ 1000) ∧
  ∀ v H', Same H H' → ((v = .non ∧ NoWay (wOf ws) o) ∨ ∃ a T, v = .ref a ∧ (∀ x ∈ T, x ∈ S) ∧ Closed (wOf ws) T ∧ ¬ NoWay (wOf ws) o) → Q v H'
theorem ok_ring_from {f : Addr} {fd : FuncData} (D : Df K mg "ring_from" s_ring_from ["waiting", "owner"] f fd) (T : Bl mg) : Dn P w K mg base CX0 1 "ring_from" ["waiting", "owner"] sp_ring_from := .of D (by
  refine D.fn.ok sc_ring_from (fun vs H Q E h => ?_) (fun cdv A outer s H vs Q E hr h => ?_)
  · obtain ⟨d, o, ws, S, rfl, _⟩ := h
    rfl
  · obtain ⟨d, o, ws, S, rfl, hws, ho, hS, hcl, q⟩ := h
    have hu := hu_of hr
    refine ⟨_, (pss_cons (ps_par3 (i := 2) (j := 3) (l := 4) rfl sc_ring_from.nd rfl rfl rfl (by decide) (by decide) (by decide) rfl rfl rfl (pa_cons (pe_dict1 (pv 1) (pe_lst (pa_cons (pv 1) pa_nil))) (pa_cons (pe_lst (pa_cons (pv 1) pa_nil)) (pa_cons (pe_int) pa_nil))) rfl)
      (pss_cons (ps_while PassesOwn.never (pt_cmpR op_lt (pv 4) (pe_callB (lenA K) (by rfl) T.b_len (by decide +kernel) (pa_cons (pv 3) pa_nil)) (nomark _)) (pss_cons (ps_set (i := 5) sc_ring_from.nd rfl (Or.inl rfl) (pe_ix (ixL K) (pv 3) (pv 4) (fun _ _ => rfl)))
        (pss_cons (ps_aug (i := 4) sc_ring_from.nd rfl (Or.inl rfl) (pe_int) ip_add)
        (pss_one (ps_for PassesOwn.never rfl (pil K (pe_dget2 hu (pv 0) (pv 5) (pe_lst pa_nil) ⟨rfl, rfl, rfl, rfl⟩)) (pg_name (i := 6) sc_ring_from.nd rfl (Or.inl rfl))
          (pss_cons (ps_if (pt_cmpR op_eq (pv 6) (pv 1) (nomark _)) (pss_one (ps_ret (pe_dget hu (pv 2) (pv 5) (fun _ _ => rfl)))) pss_nil)
          (pss_one (ps_if (pt_cmp (pc_dnotin hu (pv 6) (pv 2)) rfl) (pss_cons (ps_dput hu (pv 2) (pv 6) (pe_op op_cat (pe_dget hu (pv 2) (pv 5) (fun _ _ => rfl)) (pe_lst (pa_cons (pv 6) pa_nil))) rfl)
            (pss_one (ps_expr (bmK K PySem.F.plainAttrs_list PySem.F.slot_list_append PySem.F.type_list_append mt_append (pv 3) (pa_cons (pv 6) pa_nil))))) pss_nil))))))))
      (pss_one (ps_ret (pe_non))))), ?_⟩
    generalize hg : wOf ws = g at q hcl
    intro D1 hD1
    have hD1n : H D1 = none := hD1
    have s1 : Same H (upd H D1 (.dK [])) := same_upd hD1
    refine ⟨_, rfl, _, rfl, sz1, fun p0 hp0 => ⟨Sum.inr o, rfl, same_upd hp0 _ _ upd_same, ?_⟩⟩
    have hp0n : H p0 = none := s1.free hp0
    have hpD : p0 ≠ D1 := fun e => by rw [e, upd_same] at hp0; cases hp0
    have s2 : Same H (upd (upd H D1 (.dK [])) p0 (.lst [.str o])) := s1.trans (same_upd hp0)
    have s3 : Same H (upd (upd (upd H D1 (.dK [])) p0 (.lst [.str o])) D1 (.dK [(Sum.inr o, .ref p0)])) := Same.own s2 hD1n
    refine ⟨_, rfl, sz1, fun qa hqa => ?_⟩
    generalize hH3 : upd (upd (upd H D1 (.dK [])) p0 (.lst [.str o])) D1 (.dK [(Sum.inr o, .ref p0)]) = H3 at s3 hqa
    have hD3 : H3 D1 = some (.dK [(Sum.inr o, .ref p0)]) := by rw [← hH3, upd_same]
    have hp3 : H3 p0 = some (.lst [.str o]) := by rw [← hH3, upd_ne hpD, upd_same]
    have s4 : Same H3 (upd H3 qa (.lst [.str o])) := same_upd hqa
    have hqn : H qa = none := s3.free hqa
    have hpq : p0 ≠ qa := ne_new hp3 hqa
    refine ⟨_, _, _, rfl, ?_⟩
    refine ⟨fun m σ H2 => ∃ (qs : List Str) (at_ : Nat) (v5 v6 : Option V) (kvs : List (Key × V)), σ = [some (.ref d), some (.str o), some (.ref D1), some (.ref qa), some (.int (at_ : Nat)), v5, v6] ∧ m = 6 - at_ ∧ at_ ≤ qs.length ∧ Same H H2 ∧ H2 qa = some (.lst (qs.map V.str)) ∧ H2 D1 = some (.dK kvs) ∧
        Paired (KvW g o S qs.length qa H2) kvs qs ∧ qs.Nodup ∧ (∀ x ∈ qs, x ∈ S) ∧ o ∈ qs ∧ ∀ i x, i < at_ → qs[i]? = some x → ∀ y ∈ g x, y ∈ qs ∧ y ≠ o,
      ⟨6, [o], 0, none, none, [(Sum.inr o, .ref p0)], rfl, rfl, Nat.zero_le _, s3.trans s4, upd_same, s4 _ _ hD3, .cons ⟨rfl, p0, [o], rfl, hpq, s4 _ _ hp3, .one o, fun y hy => by rw [List.mem_singleton.1 hy]; exact ho, Nat.le_refl _⟩ .nil, by simp, fun x hx => by rw [List.mem_singleton.1 hx]; exact ho, by simp, fun i x hi => absurd hi (Nat.not_lt_zero _)⟩, ?_⟩
    rintro m σ H2 ⟨qs, at_, v5, v6, kvs, rfl, rfl, hle, s5, hq2, hD2, hkv, hnd, hsub, hoq, hdone⟩
    have hqs5 : qs.length ≤ 5 := Nat.le_trans (nodup_len hnd hsub) hS
    refine ⟨_, rfl, _, rfl, qa, _, rfl, .inl (SqL.of hq2), _, _, rfl, rfl, _, rfl, ?_⟩
    rw [List.length_map]
    by_cases c : at_ < qs.length
    · rw [show decide ((at_ : Int) < ((qs.length : Nat) : Int)) = true from decide_eq_true (by omega)]
      obtain ⟨x, hx⟩ : ∃ x, qs[at_]? = some x := ⟨_, List.getElem?_eq_getElem c⟩
      have hxq : x ∈ qs := List.mem_of_getElem? hx
      have hxS := hsub x hxq
      obtain ⟨hgS, hgl⟩ := hcl x hxS
      refine iteT ⟨fun σ' H' => ∃ m', m' < 6 - at_ ∧ ∃ (qs : List Str) (at_ : Nat) (v5 v6 : Option V) (kvs : List (Key × V)), σ' = [some (.ref d), some (.str o), some (.ref D1), some (.ref qa), some (.int (at_ : Nat)), v5, v6] ∧ m' = 6 - at_ ∧ at_ ≤ qs.length ∧ Same H H' ∧ H' qa = some (.lst (qs.map V.str)) ∧ H' D1 = some (.dK kvs) ∧
        Paired (KvW g o S qs.length qa H') kvs qs ∧ qs.Nodup ∧ (∀ x ∈ qs, x ∈ S) ∧ o ∈ qs ∧ ∀ i x, i < at_ → qs[i]? = some x → ∀ y ∈ g x, y ∈ qs ∧ y ≠ o, fun _ _ h => h, ?_⟩
      refine ⟨_, rfl, _, rfl, qa, _, _, .str x, rfl, rfl, SqL.of hq2, atI_nat (by rw [List.getElem?_map, hx]; rfl), ?_⟩
      refine ⟨_, rfl, _, _, rfl, rfl, ?_⟩
      -- whom x waits for
      obtain ⟨kw, hdw, hkw⟩ := hws.kg (Kg.of s5)
      refine ⟨_, rfl, d, rfl, .inl ⟨kw, .inl hdw⟩, _, rfl, Nat.zero_le _, fun z hz => ?_⟩
      have s6 : Same H2 (upd H2 z (.lst [])) := same_upd hz
      have hrow : ∃ ga : Addr, (valV kw (Sum.inr x)).getD (.ref z) = .ref ga ∧ upd H2 z (.lst []) ga = some (.lst ((g x).map V.str)) ∧ ga ≠ qa := by
        by_cases c : x ∈ ws.map (·.1)
        · obtain ⟨kvs0, h0, hp0'⟩ := hws
          obtain ⟨v0, hv0, ga0, e0, hga0⟩ := (kvS_val (o := x) hp0').1 c
          obtain ⟨v, hv, ga, rfl, h1⟩ := (kvS_val (o := x) hkw).1 c
          have ekv : kw = kvs0 := by
            have h1 := s5 _ _ h0
            rw [hdw] at h1
            injection h1 with h1
            injection h1 with h1
          subst ekv
          rw [hv] at hv0
          injection hv0 with hv0
          rw [← hv0] at e0
          injection e0 with e0
          refine ⟨ga, by rw [hv]; rfl, by rw [← hg]; exact s6 _ _ h1, fun e => ?_⟩
          rw [← e0, e, hqn] at hga0
          cases hga0
        · refine ⟨z, by rw [(kvS_val (o := x) hkw).2 c]; rfl, by rw [upd_same, ← hg, wOf_none c]; rfl, fun e => ?_⟩
          rw [e, hq2] at hz
          cases hz
      obtain ⟨ga, ega, hga, hgaq⟩ := hrow
      refine ⟨_, DGet.k (k := Sum.inr x) (s6 _ _ hdw), ?_⟩
      rw [ega]
      have hkv6 : Paired (KvW g o S qs.length qa (upd H2 z (.lst []))) kvs qs := Paired.mapP hkv fun _ _ => KvW.kg (Kg.of s6)
      refine ⟨ga, rfl, ⟨_, SqL.of hga⟩, for_list (K := K) (a := ga) (xs := (g x).map V.str) (fun j σ H3 => ∃ (qs2 : List Str) (v6 : Option V) (kvs2 : List (Key × V)), σ = [some (.ref d), some (.str o), some (.ref D1), some (.ref qa), some (.int ((at_ : Nat) + 1)), some (.str x), v6] ∧ Same H H3 ∧ H3 ga = some (.lst ((g x).map V.str)) ∧ H3 qa = some (.lst (qs2.map V.str)) ∧ H3 D1 = some (.dK kvs2) ∧
          Paired (KvW g o S qs2.length qa H3) kvs2 qs2 ∧ qs2.Nodup ∧ (∀ x ∈ qs2, x ∈ S) ∧ (∃ ext, qs2 = qs ++ ext) ∧ ∀ y ∈ (g x).take j, y ∈ qs2 ∧ y ≠ o)
        ⟨qs, v6, kvs, rfl, s5.trans s6, hga, s6 _ _ hq2, s6 _ _ hD2, hkv6, hnd, hsub, ⟨[], by simp⟩, fun y hy => by simp at hy⟩ (fun j σ H3 _ ⟨_, _, _, _, _, h, _⟩ => SqL.of h) ?_ ?_⟩
      · rintro j y σ H3 hj ⟨qs2, v6', kvs2, rfl, s7, hga3, hq3, hD3', hkv3, hnd3, hsub3, ⟨ext, hext⟩, hall⟩
        rw [List.getElem?_map] at hj
        cases ey : (g x)[j]? with
        | none => rw [ey] at hj; cases hj
        | some y' =>
          rw [ey] at hj
          injection hj with hj
          subst hj
          have hyg : y' ∈ g x := List.mem_of_getElem? ey
          have hyS : y' ∈ S := hgS y' hyg
          have hx2 : x ∈ qs2 := by rw [hext]; exact List.mem_append.2 (.inl hxq)
          have hq25 : qs2.length ≤ 5 := Nat.le_trans (nodup_len hnd3 hsub3) hS
          obtain ⟨k1, k2⟩ := kvW_val hkv3 hnd3
          obtain ⟨pv, hpv, _, pa, pth, epv, hpaq, hpa, hway, hpS, hpl⟩ := k1 x hx2
          have epv : pv = .ref pa := epv
          subst epv
          have etk : (g x).take (j + 1) = (g x).take j ++ [y'] := by rw [List.take_add_one, ey]; rfl
          refine ⟨_, rfl, _, rfl, rfl, _, rfl, ?_⟩
          by_cases cy : y' = o
          · rw [show decide (V.str y' = V.str o) = true from decide_eq_true (congrArg V.str cy)]
            refine iteT ⟨_, rfl, _, rfl, D1, _, rfl, hpv ▸ DGet.k (k := Sum.inr x) hD3', q _ H3 s7 (.inr ⟨pa, pth, rfl, hpS, hway.closed (cy ▸ hyg), way_no hway (cy ▸ hyg)⟩)⟩
          · rw [show decide (V.str y' = V.str o) = false from decide_eq_false fun e => cy (by injection e)]
            refine iteF ?_
            by_cases cq : y' ∈ qs2
            · obtain ⟨v', hv', _⟩ := k1 y' cq
              refine ⟨_, rfl, _, rfl, D1, some v', rfl, hv' ▸ DGet.k (k := Sum.inr y') hD3', _, rfl, iteF ?_⟩
              refine ⟨qs2, _, kvs2, rfl, s7, hga3, hq3, hD3', hkv3, hnd3, hsub3, ⟨ext, hext⟩, fun u hu => ?_⟩
              rw [etk] at hu
              rcases List.mem_append.1 hu with hu | hu
              · exact hall u hu
              · rw [List.mem_singleton.1 hu]
                exact ⟨cq, cy⟩
            · have hvn := k2 y' cq
              refine ⟨_, rfl, _, rfl, D1, none, rfl, hvn ▸ DGet.k (k := Sum.inr y') hD3', _, rfl, iteT ?_⟩
              refine ⟨_, rfl, _, rfl, D1, _, rfl, hpv ▸ DGet.k (k := Sum.inr x) hD3', _, rfl, sz1, fun r hr' => ?_⟩
              have s8 : Same H3 (upd H3 r (.lst [.str y'])) := same_upd hr'
              refine ⟨pa, r, _, _, rfl, rfl, s8 _ _ hpa, upd_same, by rw [List.length_map, List.length_singleton, sizeLine_eq]; omega, fun p4 hp4 => ?_⟩
              have s9 : Same H3 (upd (upd H3 r (.lst [.str y'])) p4 (.lst (pth.map V.str ++ [.str y']))) := s8.trans (same_upd hp4)
              have hp4q : p4 ≠ qa := fun e => by rw [e, s8 _ _ hq3] at hp4; cases hp4
              have hD9 := s9 _ _ hD3'
              have hqD : qa ≠ D1 := ne_of hq3 hD3' fun z => nomatch z
              have hkl : kvs2.length ≤ 5 := by rw [hkv3.length]; exact hq25
              refine ⟨_, rfl, _, rfl, D1, _, rfl, DPut.k (k := Sum.inr y') hD9 (by rw [sizeLine_eq]; omega), ?_⟩
              have hnew : Sum.inr y' ∉ kvs2.map (·.1) := by
                rw [kvW_keys hkv3]
                exact fun z => cq (inr_mem.1 z)
              rw [putK_new hnew]
              have hqx : upd (upd (upd H3 r (.lst [.str y'])) p4 (.lst (pth.map V.str ++ [.str y']))) D1 (.dK (kvs2 ++ [(Sum.inr y', .ref p4)])) qa = some (.lst (qs2.map V.str)) := by
                rw [upd_ne hqD]
                exact s9 _ _ hq3
              refine ⟨_, rfl, .inl ⟨rfl, _, SqL.of hqx⟩, _, rfl, qa, _, _, rfl, rfl, hqx, by rw [List.length_map, sizeLine_eq]; omega, ?_⟩
              refine ⟨qs2 ++ [y'], _, kvs2 ++ [(Sum.inr y', .ref p4)], rfl, Same.own (Same.own (s7.trans s9) hD1n) hqn, ?_, by rw [upd_same, List.map_append]; rfl, by rw [upd_ne hqD.symm, upd_same], ?_, ?_, fun u hu => ?_, ⟨ext ++ [y'], by rw [hext, List.append_assoc]⟩, fun u hu => ?_⟩
              · rw [upd_ne hgaq, upd_ne (ne_of hga3 hD3' fun z => nomatch z)]
                exact s9 _ _ hga3
              · rw [List.length_append, List.length_singleton]
                refine Paired.app (Paired.mapP hkv3 fun _ _ h => KvW.up (Nat.le_succ _) (KvW.lst (KvW.updD hD9 (KvW.kg (Kg.of s9) h)))) (.cons ⟨rfl, p4, pth ++ [y'], rfl, hp4q, ?_, .snoc hway hyg, fun u hu => ?_, ?_⟩ .nil)
                · rw [upd_ne hp4q, upd_ne (fun e => by rw [e, s8 _ _ hD3'] at hp4; cases hp4), upd_same, List.map_append]
                  rfl
                · rcases List.mem_append.1 hu with hu | hu
                  · exact hpS u hu
                  · rw [List.mem_singleton.1 hu]; exact hyS
                · rw [List.length_append, List.length_singleton]
                  omega
              · rw [List.nodup_append]
                exact ⟨hnd3, by simp, fun a ha b hb e => cq (by rw [List.mem_singleton] at hb; rw [← hb, ← e]; exact ha)⟩
              · rcases List.mem_append.1 hu with hu | hu
                · exact hsub3 u hu
                · rw [List.mem_singleton.1 hu]; exact hyS
              · rw [etk] at hu
                rcases List.mem_append.1 hu with hu | hu
                · exact ⟨List.mem_append.2 (.inl (hall u hu).1), (hall u hu).2⟩
                · rw [List.mem_singleton.1 hu]
                  exact ⟨List.mem_append.2 (.inr (by simp)), cy⟩
      · rintro σ H3 ⟨qs2, v6', kvs2, rfl, s7, hga3, hq3, hD3', hkv3, hnd3, hsub3, ⟨ext, hext⟩, hall⟩
        rw [List.length_map, List.take_length] at hall
        have hq25 : qs2.length ≤ 5 := Nat.le_trans (nodup_len hnd3 hsub3) hS
        have hle2 : qs.length ≤ qs2.length := by rw [hext, List.length_append]; omega
        refine ⟨6 - (at_ + 1), by omega, qs2, at_ + 1, _, _, kvs2, rfl, rfl, by omega, s7, hq3, hD3', hkv3, hnd3, hsub3, by rw [hext]; exact List.mem_append.2 (.inl hoq), fun i u hi hu y hy => ?_⟩
        by_cases ci : i < at_
        · have hu' : qs[i]? = some u := by
            rw [hext, List.getElem?_append_left (by omega)] at hu
            exact hu
          obtain ⟨h1, h2⟩ := hdone i u ci hu' y hy
          exact ⟨by rw [hext]; exact List.mem_append.2 (.inl h1), h2⟩
        · have ei : i = at_ := by omega
          subst ei
          rw [hext, List.getElem?_append_left c, hx] at hu
          injection hu with hu
          subst hu
          exact hall y hy
    · rw [show decide ((at_ : Int) < ((qs.length : Nat) : Int)) = false from decide_eq_false (by omega)]
      have e : at_ = qs.length := by omega
      refine iteF (q .non H2 s5 (.inl ⟨rfl, qs, hoq, fun x hx y hy => ?_⟩))
      obtain ⟨i, hi, hxi⟩ := List.mem_iff_getElem.1 hx
      exact hdone i x (by omega) (by rw [← hxi]; exact List.getElem?_eq_getElem hi) y hy)
end
end WH
set_option Elab.async false
set_option linter.all false
set_option maxRecDepth 100000
set_option maxHeartbeats 2000000
namespace WH
open PySem PySem.Spec PyProof.Rows L2 WM LamX
section
variable {P : Program} {w : World} {K : PySem.W.Frag} {mg : Str → Option Value} {base : Heap} {CL fL C fi fl fo : Addr}
theorem ws_len {ls wl : List (Lk Str)} {ws : Ws} (h : WaitsOk ls wl ws) : ws.length ≤ wl.length := by
  have := nodup_len (h.asc.nodup sLo) fun o ho => (h.keys o).1 ho
  rwa [List.length_map, List.length_map] at this
/-- whom somebody waits for stands in the table -/
theorem ws_own {ls wl : List (Lk Str)} {ws : Ws} (h : WaitsOk ls wl ws) {x y : Str} (hy : y ∈ wOf ws x) : y ∈ ls.map (·.1) := by
  by_cases c : x ∈ ws.map (·.1)
  · obtain ⟨e, he, q⟩ := List.mem_map.1 c
    have : wOf ws x = e.2 := wOf_at (h.asc.nodup sLo) (by rw [← q]; exact he)
    rw [this] at hy
    obtain ⟨_, l, _, _, hl⟩ := h.lists e he
    exact ((hl y).1 hy).owner
  · rw [wOf_none c] at hy
    cases hy
theorem ws_short {ls wl : List (Lk Str)} {ws : Ws} {names : List Str} (h : WaitsOk ls wl ws) (hn : names.length ≤ 5) (ho : ∀ l ∈ ls, l.1 ∈ names) (x : Str) : (wOf ws x).length ≤ 5 := by
  by_cases c : x ∈ ws.map (·.1)
  · obtain ⟨e, he, q⟩ := List.mem_map.1 c
    have q2 : wOf ws x = e.2 := wOf_at (h.asc.nodup sLo) (by rw [← q]; exact he)
    refine Nat.le_trans (nodup_len (m := names) (by rw [q2]; exact ((h.lists e he).1).nodup sLo) fun y hy => ?_) hn
    obtain ⟨l, hl, e'⟩ := List.mem_map.1 (ws_own h hy)
    exact e' ▸ ho l hl
  · rw [wOf_none c]
    exact Nat.zero_le _
def sp_end_order (C : Addr) : Sp := fun vs H Q _ => ∃ (tv : V) (wa : Addr) (xs : List V) (tb : Tb Str) (ls wl : List (Lk Str)) (names : List Str) (n : Nat), vs = [tv, .ref wa] ∧ TbI C H tv tb ∧ TbG tb ls names n ∧ n ≤ 100000 ∧ (H wa = some (.lst xs) ∨ H wa = some (.tup xs)) ∧ Paired (rLkA H) xs wl ∧ WtOk wl ∧ (∀ l ∈ wl, l.1 ∈ names) ∧
  (∀ ws, WaitsOk ls wl ws → ∀ all, (∀ o, o ∈ all ↔ o ∈ ls.map (·.1) ∨ o ∈ wl.map (·.1)) → ¬ HasRing (wOf ws) all) ∧ ∀ a H', Same H H' → Q (.ref a) H'
theorem ok_end_order {f : Addr} {fd : FuncData} (D : Df K mg "end_order" s_end_order ["table", "wants"] f fd) (T : Bl mg) (G_is_part : Dn P w K mg base CX0 1 "is_part" ["one", "other"] (sp_is_part K)) (G_waits_for : Dn P w K mg base (L2.CX P w) 6 "waits_for" ["table", "wants"] (sp_waits_for C CL)) (G_all_owners : Dn P w K mg base CX0 2 "all_owners" ["table", "waiting"] (sp_all_owners C)) :
    Dn P w K mg base (L2.CX P w) 7 "end_order" ["table", "wants"] (sp_end_order C) := .of D (by
  refine D.fn.okX sc_end_order (fun vs H Q E h => ?_) (fun cdv A outer s H vs Q E hr h => ?_)
  · obtain ⟨tv, wa, xs, tb, ls, wl, names, n, rfl, _⟩ := h
    rfl
  · obtain ⟨tv, wa, xs, tb, ls, wl, names, n, rfl, htv, G, hn, hwa, hwp, wok, hwn, hring, q⟩ := h
    have hu := hu_of hr
    refine ⟨_, (pss_cons (ps_set (i := 2) sc_end_order.nd rfl (Or.inr rfl) (pe_clX (E := E) G_waits_for (hr.mono (by decide)) (takes_of rfl rfl rfl rfl) (fun _ _ _ _ h => h) (pa_cons (pv 0) (pa_cons (pv 1) pa_nil))))
      (pss_cons (ps_asg (pe_tup (pa_cons (pe_cl G_all_owners (hr.mono (by decide)) (pa_cons (pv 0) (pa_cons (pv 2) pa_nil))) (pa_cons (pe_lst pa_nil) pa_nil))) (tupG K (n := 2) rfl (pgs_cons (pg_name (i := 3) sc_end_order.nd rfl (Or.inl rfl)) (pgs_cons (pg_name (i := 4) sc_end_order.nd rfl (Or.inr rfl)) pgs_nil))))
      (pss_cons (ps_while (passes_of rfl) (pt_cmpR (neE K hr.units) (pv 3) (pe_lst pa_nil) (nomark _)) (pss_cons (ps_setLc (i := 5) (own := [("owner", 6)]) rfl sc_end_order.nd rfl rfl (sw_true rfl rfl rfl (by decide +kernel)) (pil K (pv 3)) (blkOk_by (N := ["table", "wants", "waiting", "left", "found", "able", "owner"]) (sc := defScope s_end_order) (by decide +kernel)) (fun _ _ _ _ _ => pg_name (i := 6) sc_end_order.nd rfl (Or.inl rfl)) (fun _ _ _ _ _ => pts_one (pt_val (pe_cl G_is_part (hr.mono (by decide)) (pa_cons (pe_dget2 hu (pv 2) (pv 6) (pe_lst pa_nil) ⟨rfl, rfl, rfl, rfl⟩) (pa_cons (pv 4) pa_nil))))) (fun _ _ _ _ _ => pv 6))
        (pss_cons (ps_if (pt_cmpR (eqE K hr.units) (pv 5) (pe_lst pa_nil) (nomark _)) (pss_one (ps_ret (pe_non))) pss_nil)
        (pss_cons (ps_expr (bmK K PySem.F.plainAttrs_list PySem.F.slot_list_append PySem.F.type_list_append mt_append (pv 4) (pa_cons (pe_ix (ixL K) (pv 5) (pe_int) (fun _ _ => rfl)) pa_nil)))
        (pss_one (ps_expr (bmK K PySem.F.plainAttrs_list PySem.F.slot_list_remove PySem.F.type_list_remove mt_removeS (pv 3) (pa_cons (pe_ix (ixL K) (pv 5) (pe_int) (fun _ _ => rfl)) pa_nil))))))))
      (pss_one (ps_ret (pv 4)))))), ?_⟩
    refine ⟨_, rfl, _, rfl, tv, wa, xs, tb, ls, names, n, rfl, htv, G, hn, hwa, .inl ⟨wl, hwp, wok, fun d Hw ws hd sw hws hok => ?_⟩⟩
    have htw := htv.kg (Kg.of sw)
    obtain ⟨kvs, hdk, hkv⟩ := id hws
    refine ⟨_, rfl, _, rfl, tv, d, tb, kvs, ws.map (·.1), names, rfl, htw, G.tbl.nd, hdk, kvS_keys hkv, by have := ws_len hok; have := wok.len; rw [List.length_map]; omega, G.few, fun o ho => ?_, fun o ho => ?_, fun p H2 os hp s2 hp2 hos mem len => ?_⟩
    · obtain ⟨l, hl, e⟩ := List.mem_map.1 ((G.tbl.keys o).1 ho)
      exact e ▸ G.own l hl
    · obtain ⟨l, hl, e⟩ := List.mem_map.1 ((hok.keys o).1 ho)
      exact e ▸ hwn l hl
    · have hall : ¬ HasRing (wOf ws) os := hring ws hok os fun o => by rw [mem, G.tbl.keys, hok.keys]
      refine ⟨Nat.zero_le _, fun F hF => ?_⟩
      refine ⟨sz2, fun t ht => ?_⟩
      have s3 : Same H2 (upd (upd H2 F (.lst [])) t (.tup [.ref p, .ref F])) := (same_upd hF).trans (same_upd ht)
      have hF2 : upd (upd H2 F (.lst [])) t (.tup [.ref p, .ref F]) F = some (.lst []) := same_upd ht _ _ upd_same
      have hFw : Hw F = none := s2.free hF
      have hpF : p ≠ F := ne_new hp2 hF
      refine ⟨t, _, rfl, SqT.of upd_same, rfl, _, _, rfl, _, _, rfl, rfl, ?_⟩
      refine ⟨fun m σ H3 => ∃ (left found : List Str) (v5 v6 : Option V), σ = [some tv, some (.ref wa), some (.ref d), some (.ref p), some (.ref F), v5, v6] ∧ m = left.length ∧ Same Hw H3 ∧ H3 p = some (.lst (left.map V.str)) ∧ H3 F = some (.lst (found.map V.str)) ∧ (∀ x ∈ left, x ∈ os) ∧ left.length + found.length ≤ 5 ∧ ∀ x ∈ os, x ∈ left ∨ x ∈ found,
        ⟨os.length, os, [], none, none, rfl, rfl, s2.trans s3, s3 _ _ hp2, hF2, fun x hx => hx, by simpa using len, fun x hx => .inl hx⟩, ?_⟩
      rintro m σ H3 ⟨left, found, v5, v6, rfl, rfl, s4, hp3, hF3, hsub, hlen, hcov⟩
      refine ⟨_, rfl, Nat.zero_le _, fun q0 hq0 => ⟨p, q0, _, rfl, rfl, SqL.of (same_upd hq0 _ _ hp3), SqL.of upd_same, _, rfl, ?_⟩⟩
      have s5 : Same H3 (upd H3 q0 (.lst [])) := same_upd hq0
      rw [if_pos rfl]
      by_cases c : left = []
      · subst c
        exact iteF ⟨_, rfl, q F _ (sw.trans (s4.trans s5))⟩
      · have hne : (!(left.map V.str).isEmpty) = true := by
          cases left with
          | nil => exact absurd rfl c
          | cons => rfl
        rw [hne]
        refine iteT ⟨fun σ' H' => ∃ m', m' < left.length ∧ ∃ (left found : List Str) (v5 v6 : Option V), σ' = [some tv, some (.ref wa), some (.ref d), some (.ref p), some (.ref F), v5, v6] ∧ m' = left.length ∧ Same Hw H' ∧ H' p = some (.lst (left.map V.str)) ∧ H' F = some (.lst (found.map V.str)) ∧ (∀ x ∈ left, x ∈ os) ∧ left.length + found.length ≤ 5 ∧ ∀ x ∈ os, x ∈ left ∨ x ∈ found, fun _ _ h => h, ?_⟩
        have s45 := s4.trans s5
        refine ⟨_, rfl, p, rfl, ⟨_, SqL.of (s5 _ _ hp3)⟩, fun D1 hD1 => lc_L (R := rS) (S := rS) (as := left) rV_mono rV_gr (fun x => if isPart (wOf ws x) found = true then some x else none) hD1 (SqL.of (s5 _ _ hp3)) (rV_paired left) (by rw [List.length_map]; omega) (fun i y x hx H4 s6 hy N Z hN hZ => ?_) fun H4 ys s6 hy hyp => ?_⟩
        · rw [show y = V.str x from hy]
          obtain ⟨kw, hdw, hkw⟩ := hws.kg (Kg.of (s45.trans s6))
          refine ⟨rfl, _, rfl, d, rfl, .inl ⟨kw, .inl hdw⟩, _, rfl, Nat.zero_le _, fun z hz => ?_⟩
          have s7 : Same H4 (upd H4 z (.lst [])) := same_upd hz
          have hrow : ∃ ga : Addr, (valV kw (Sum.inr x)).getD (.ref z) = .ref ga ∧ upd H4 z (.lst []) ga = some (.lst ((wOf ws x).map V.str)) := by
            by_cases c : x ∈ ws.map (·.1)
            · obtain ⟨v, hv, ga, rfl, h1⟩ := (kvS_val (o := x) hkw).1 c
              exact ⟨ga, by rw [hv]; rfl, s7 _ _ h1⟩
            · exact ⟨z, by rw [(kvS_val (o := x) hkw).2 c]; rfl, by rw [upd_same, wOf_none c]; rfl⟩
          obtain ⟨ga, ega, hga⟩ := hrow
          refine ⟨_, DGet.k (k := Sum.inr x) (s7 _ _ hdw), ?_⟩
          rw [ega]
          have hFx : upd H4 z (.lst []) F = some (.lst (found.map V.str)) := s7 _ _ (s6 _ _ (s5 _ _ hF3))
          refine ⟨_, rfl, ga, F, wOf ws x, found, rfl, .inl (SqL.of hga), .inl (SqL.of hFx), by have := ws_short hok G.few G.own x; omega, fun H5 s8 => ⟨_, rfl, ?_⟩⟩
          by_cases c : isPart (wOf ws x) found = true
          · rw [c]
            exact iteT ⟨_, rfl, hN _ _ _ (s7.trans s8) (if_pos c) rfl⟩
          · have c2 := c
            rw [Bool.not_eq_true] at c
            rw [c]
            exact iteF (hZ _ (s7.trans s8) (if_neg c2))
        · have eys := paired_rV hyp
          have hab := can_end (found := found) hall hsub (fun x hx y hy => hcov y ?_) c
          · have eab : left.filterMap (fun x => if isPart (wOf ws x) found = true then some x else none) = left.filter fun x => isPart (wOf ws x) found := by
              have := filterMap_if (fun x : Str => isPart (wOf ws x) found) id left
              rw [List.map_id] at this
              exact this.symm
            rw [eab] at eys
            obtain ⟨x0, rest, ex0⟩ : ∃ x r, (left.filter fun x => isPart (wOf ws x) found) = x :: r := by
              cases e : left.filter fun x => isPart (wOf ws x) found with
              | nil => exact absurd e hab
              | cons x r => exact ⟨x, r, rfl⟩
            have hx0l : x0 ∈ left := (List.mem_filter.1 (by rw [ex0]; simp : x0 ∈ left.filter fun x => isPart (wOf ws x) found)).1
            rw [ex0] at eys
            subst eys
            refine ⟨_, rfl, Nat.zero_le _, fun q1 hq1 => ⟨D1, q1, _, rfl, rfl, SqL.of (same_upd hq1 _ _ hy), SqL.of upd_same, _, rfl, iteF ?_⟩⟩
            have s7 : Same H4 (upd H4 q1 (.lst [])) := same_upd hq1
            have hD7 := s7 _ _ hy
            have sA := s5.trans (s6.trans s7)
            have hF7 := sA _ _ hF3
            have hp7 := sA _ _ hp3
            have hDF : D1 ≠ F := fun e => by rw [e, s5 _ _ hF3] at hD1; cases hD1
            refine ⟨_, rfl, .inl ⟨rfl, _, SqL.of hF7⟩, _, rfl, D1, _, _, _, rfl, rfl, SqL.of hD7, atI_nat (j := 0) rfl, F, _, _, rfl, rfl, hF7, by rw [List.length_map, sizeLine_eq]; omega, ?_⟩
            have hp8 : upd (upd H4 q1 (.lst [])) F (.lst (found.map V.str ++ [V.str x0])) p = some (.lst (left.map V.str)) := by rw [upd_ne hpF]; exact hp7
            have hD8 : upd (upd H4 q1 (.lst [])) F (.lst (found.map V.str ++ [V.str x0])) D1 = some (.lst ((x0 :: rest).map V.str)) := by rw [upd_ne hDF]; exact hD7
            refine ⟨_, rfl, .inl ⟨rfl, _, SqL.of hp8⟩, _, rfl, D1, _, _, _, rfl, rfl, SqL.of hD8, atI_nat (j := 0) rfl, p, left, x0, rfl, rfl, hp8, hx0l, ?_⟩
            have hel : (left.erase x0).length = left.length - 1 := List.length_erase_of_mem hx0l
            have hpos : 0 < left.length := List.length_pos_of_mem hx0l
            refine ⟨left.length - 1, by omega, left.erase x0, found ++ [x0], _, _, rfl, by rw [hel], Same.own (Same.own (s4.trans sA) hFw) hp, upd_same, ?_, fun x hx => hsub x (List.mem_of_mem_erase hx), by rw [List.length_append, List.length_singleton, hel]; omega, fun x hx => ?_⟩
            · rw [upd_ne hpF.symm, upd_same, List.map_append]
              rfl
            · by_cases e : x = x0
              · exact .inr (List.mem_append.2 (.inr (by simp [e])))
              · rcases hcov x hx with h | h
                · exact .inl ((List.mem_erase_of_ne e).2 h)
                · exact .inr (List.mem_append.2 (.inl h))
          · rw [mem]
            exact .inl ((G.tbl.keys y).2 (ws_own hok hy)))
end
end WH
set_option Elab.async false
set_option linter.all false
set_option maxRecDepth 100000
set_option maxHeartbeats 2000000
namespace WH
open PySem PySem.Spec PyProof.Rows L2 WM LamX
abbrev s_least_rings : Stmt := topS 45
theorem sc_least_rings : FnScope ["table", "wants", "waiting", "found", "one", "within", "owner", "other", "some"] ["table", "wants"] (defScope s_least_rings) := ⟨rfl, rfl, rfl, by decide +kernel, rfl, by decide +kernel, by decide +kernel⟩
/-- within a set: whom of the set one waits for -/
def inner (ws : Ws) (one : List Str) : Ws := one.map fun o => (o, (wOf ws o).filter fun y => decide (y ∈ one))
theorem inner_keys (ws : Ws) (one : List Str) : (inner ws one).map (·.1) = one := by
  unfold inner
  rw [List.map_map]
  exact List.map_id _
theorem inner_at {ws : Ws} {one : List Str} (hn : one.Nodup) {x : Str} (hx : x ∈ one) : wOf (inner ws one) x = (wOf ws x).filter fun y => decide (y ∈ one) :=
  wOf_at (by rw [inner_keys]; exact hn) (List.mem_map.2 ⟨x, hx, rfl⟩)
theorem inner_ring {ws : Ws} {one : List Str} (hn : one.Nodup) : HasRing (wOf (inner ws one)) one ↔ HasRing (wOf ws) one := by
  constructor
  · exact fun h => h.mono (fun x hx => hx) fun x hx y hy => by
      rw [inner_at hn hx] at hy
      exact (List.mem_filter.1 hy).1
  · rintro ⟨T, h1, h2, h3⟩
    refine ⟨T, h1, h2, fun x hx => ?_⟩
    obtain ⟨y, hy, hyT⟩ := h3 x hx
    refine ⟨y, ?_, hyT⟩
    rw [inner_at hn (h1 x hx)]
    exact List.mem_filter.2 ⟨hy, decide_eq_true (h1 y hyT)⟩
/-- the truths told of each of a set -/
def rRg (g : Str → List Str) (one : List Str) : Rep Str := fun _ v o => ∃ b, v = .bl b ∧ (b = true → HasRing g one) ∧ (b = false → NoWay g o)
theorem rRg_gr {g : Str → List Str} {one : List Str} : Gr (rRg g one) := ⟨fun _ _ _ _ _ h => h, fun _ _ _ _ _ _ _ h => h⟩
theorem rRg_all {g : Str → List Str} {one : List Str} {H : Hp} : ∀ {ys : List V} {os : List Str}, Paired (rRg g one H) ys os → ∃ bs : List Bool, ys = bs.map V.bl ∧ (bs.any id = true → HasRing g one) ∧ (bs.any id = false → ∀ o ∈ os, NoWay g o)
  | _, _, .nil => ⟨[], rfl, (fun h => by cases h), fun _ _ h => nomatch h⟩
  | _, _, .cons h t => by
    obtain ⟨b, e, h1, h2⟩ := h
    obtain ⟨bs, e', g1, g2⟩ := rRg_all t
    refine ⟨b :: bs, by rw [e, e']; rfl, fun h => ?_, fun h o ho => ?_⟩
    · rw [List.any_cons, Bool.or_eq_true] at h
      exact h.elim h1 g1
    · rw [List.any_cons, Bool.or_eq_false_iff] at h
      rcases List.mem_cons.1 ho with rfl | ho
      · exact h2 h.1
      · exact g2 h.2 o ho
section
variable {P : Program} {w : World} {K : PySem.W.Frag} {mg : Str → Option Value} {base : Heap} {CL fL C fi fl fo : Addr}
def sp_least_rings (C CL : Addr) : Sp := fun vs H Q E => ∃ (tv : V) (wa : Addr) (xs : List V) (tb : Tb Str) (ls : List (Lk Str)) (names : List Str) (n : Nat), vs = [tv, .ref wa] ∧ TbI C H tv tb ∧ TbG tb ls names n ∧ n ≤ 100000 ∧ (H wa = some (.lst xs) ∨ H wa = some (.tup xs)) ∧ (∀ x ∈ names, okS x = true) ∧
  ((∃ wl, Paired (rLkA H) xs wl ∧ WtOk wl ∧ (∀ l ∈ wl, l.1 ∈ names) ∧ ∀ p H' vs ws, H p = none → Same H H' → WaitsOk ls wl ws → H' p = some (.lst vs) → Paired (rSet H') vs (rings sLt (wOf ws) (ws.map (·.1))) → Q (.ref p) H') ∨ BadW CL H xs E)
theorem ok_least_rings {f : Addr} {fd : FuncData} (D : Df K mg "least_rings" s_least_rings ["table", "wants"] f fd) (T : Bl mg) (G_is_part : Dn P w K mg base CX0 1 "is_part" ["one", "other"] (sp_is_part K)) (G_waits_for : Dn P w K mg base (L2.CX P w) 6 "waits_for" ["table", "wants"] (sp_waits_for C CL)) (G_all_sets : Dn P w K mg base CX0 1 "all_sets" ["names"] (sp_all_sets K)) (G_ring_from : Dn P w K mg base CX0 1 "ring_from" ["waiting", "owner"] sp_ring_from) :
    Dn P w K mg base (L2.CX P w) 7 "least_rings" ["table", "wants"] (sp_least_rings C CL) := .of D (by
  refine D.fn.okX sc_least_rings (fun vs H Q E h => ?_) (fun cdv A outer s H vs Q E hr h => ?_)
  · obtain ⟨tv, wa, xs, tb, ls, names, n, rfl, _⟩ := h
    rfl
  · obtain ⟨tv, wa, xs, tb, ls, names, n, rfl, htv, G, hn, hwa, hok, q⟩ := h
    have hu := hu_of hr
    refine ⟨_, (pss_cons (ps_asg (pe_tup (pa_cons (pe_clX (E := E) G_waits_for (hr.mono (by decide)) (takes_of rfl rfl rfl rfl) (fun _ _ _ _ h => h) (pa_cons (pv 0) (pa_cons (pv 1) pa_nil))) (pa_cons (pe_lst pa_nil) pa_nil))) (tupG K (n := 2) rfl (pgs_cons (pg_name (i := 2) sc_least_rings.nd rfl (Or.inr rfl)) (pgs_cons (pg_name (i := 3) sc_least_rings.nd rfl (Or.inl rfl)) pgs_nil))))
      (pss_cons (ps_for (passes_of rfl) rfl (pil K (pe_cl G_all_sets (hr.mono (by decide)) (pa_cons (pe_callTy ((call_listD rfl)) (by rfl) T.b_list (by decide +kernel) (pa_cons (pv 2) pa_nil)) pa_nil))) (pg_name (i := 4) sc_least_rings.nd rfl (Or.inr rfl))
        (pss_cons (ps_set (i := 5) sc_least_rings.nd rfl (Or.inr rfl) (pe_dc (own := [("owner", 6)]) rfl sc_least_rings.nd (pit K (pv 4)) (blkOk_by (N := ["table", "wants", "waiting", "found", "one", "within", "owner", "other", "some"]) (sc := defScope s_least_rings) (by decide +kernel)) (fun _ _ _ _ _ => pg_name (i := 6) sc_least_rings.nd rfl (Or.inl rfl)) (fun _ _ _ _ _ => pts_nil) (fun _ _ _ _ _ => pv 6) (fun _ _ _ _ _ => pe_lc (own := [("other", 7)]) rfl sc_least_rings.nd (pil K (pe_dget hu (pv 2) (pv 6) (fun _ _ => rfl))) (blkOk_by (N := ["table", "wants", "waiting", "found", "one", "within", "owner", "other", "some"]) (sc := { kind := .function, names := [(".0", .local), ("owner", .local), ("one", .cell), ("waiting", .cell)], isGenerator := false, isCoroutine := false }) (by decide +kernel)) (fun _ _ _ _ _ => pg_name (i := 7) sc_least_rings.nd rfl (Or.inl rfl)) (fun _ _ _ _ _ => pts_one (pt_cmpR (inSq K) (pv 7) (pv 4) rfl)) (fun _ _ _ _ _ => pv 7))))
        (pss_one (ps_if (pt_not (pt_val (pe_callB (anyK K) (by rfl) T.b_any (by decide +kernel) (pa_cons (pe_lc (own := [("some", 8)]) rfl sc_least_rings.nd (pil K (pv 3)) (blkOk_by (N := ["table", "wants", "waiting", "found", "one", "within", "owner", "other", "some"]) (sc := defScope s_least_rings) (by decide +kernel)) (fun _ _ _ _ _ => pg_name (i := 8) sc_least_rings.nd rfl (Or.inl rfl)) (fun _ _ _ _ _ => pts_nil) (fun _ _ _ _ _ => pe_cl G_is_part (hr.mono (by decide)) (pa_cons (pv 8) (pa_cons (pv 4) pa_nil)))) pa_nil)))) (pss_one (ps_if (pt_val (pe_callB (anyK K) (by rfl) T.b_any (by decide +kernel) (pa_cons (pe_lc (own := [("owner", 6)]) rfl sc_least_rings.nd (pit K (pv 4)) (blkOk_by (N := ["table", "wants", "waiting", "found", "one", "within", "owner", "other", "some"]) (sc := defScope s_least_rings) (by decide +kernel)) (fun _ _ _ _ _ => pg_name (i := 6) sc_least_rings.nd rfl (Or.inl rfl)) (fun _ _ _ _ _ => pts_nil) (fun _ _ _ _ _ => pe_cmpR op_notN (pe_cl G_ring_from (hr.mono (by decide)) (pa_cons (pv 5) (pa_cons (pv 6) pa_nil))) (pe_non) (nomark _))) pa_nil))) (pss_one (ps_expr (bmK K PySem.F.plainAttrs_list PySem.F.slot_list_append PySem.F.type_list_append mt_append (pv 3) (pa_cons (pv 4) pa_nil)))) pss_nil)) pss_nil))))
      (pss_one (ps_ret (pv 3))))), ?_⟩
    rcases q with ⟨wl, hwp, wok, hwn, q⟩ | hbad
    case inr => exact ⟨_, rfl, _, rfl, tv, wa, xs, tb, ls, names, n, rfl, htv, G, hn, hwa, .inr hbad⟩
    refine ⟨_, rfl, _, rfl, tv, wa, xs, tb, ls, names, n, rfl, htv, G, hn, hwa, .inl ⟨wl, hwp, wok, fun d Hw ws hd sw hws hokw => ?_⟩⟩
    refine ⟨Nat.zero_le _, fun F hF => ⟨sz2, fun t ht => ?_⟩⟩
    have s1 : Same Hw (upd (upd Hw F (.lst [])) t (.tup [.ref d, .ref F])) := (same_upd hF).trans (same_upd ht)
    have hF1 : upd (upd Hw F (.lst [])) t (.tup [.ref d, .ref F]) F = some (.lst []) := same_upd ht _ _ upd_same
    refine ⟨t, _, rfl, SqT.of upd_same, rfl, _, _, rfl, _, _, rfl, rfl, ?_⟩
    obtain ⟨kvs, hdk, hkv⟩ := id hws
    have hkn := hokw.asc
    have hks : ∀ x ∈ ws.map (·.1), x ∈ names := fun x hx => by
      obtain ⟨l, hl, e⟩ := List.mem_map.1 ((hokw.keys x).1 hx)
      exact e ▸ hwn l hl
    have hkl : (ws.map (·.1)).length ≤ 5 := Nat.le_trans (nodup_len (hkn.nodup sLo) hks) G.few
    have ek : (kvs.map fun kv => kV kv.1) = (ws.map (·.1)).map V.str := by
      have := congrArg (List.map kV) (kvS_keys hkv)
      rw [List.map_map, List.map_map] at this
      exact this
    refine ⟨_, rfl, d, kvs, rfl, .inl (s1 _ _ hdk), fun l hl => ?_⟩
    refine ⟨l, ws.map (·.1), rfl, SqL.of (by rw [upd_same, ek]), hkl, fun x hx => hok x (hks x hx), fun p H2 vs hp s2 hp2 hvp => ?_⟩
    have sH2 : Same Hw H2 := s1.trans ((same_upd hl).trans s2)
    have hF2 : H2 F = some (.lst []) := s2 _ _ (same_upd hl _ _ hF1)
    have hpF : p ≠ F := fun e => by rw [e, same_upd hl _ _ hF1] at hp; cases hp
    generalize hkeys : ws.map (·.1) = keys at hkn hks hkl hvp q
    refine ⟨p, rfl, ⟨_, SqL.of hp2⟩, for_list (K := K) (a := p) (xs := vs) (fun i σ H3 => (∃ v4 v5 v6 v7 v8, σ = [some tv, some (.ref wa), some (.ref d), some (.ref F), v4, v5, v6, v7, v8]) ∧ Same Hw H3 ∧ H3 p = some (.lst vs) ∧ Paired (rSet H3) vs (allSets sLt keys) ∧ ∃ ys, H3 F = some (.lst ys) ∧ Paired (rSet H3) ys (leastOf (((allSets sLt keys).take i).filter (ringB (wOf ws)))))
      ⟨⟨none, none, none, none, none, rfl⟩, sH2, hp2, hvp, [], hF2, .nil⟩ (fun i σ H3 _ ⟨_, _, h, _⟩ => SqL.of h) ?_ ?_⟩
    · rintro i y σ H3 hi ⟨⟨v4, v5, v6, v7, v8, rfl⟩, s3, hp3, hvp3, ys, hy, hyp⟩
      obtain ⟨one, hone, oa, rfl, hoa⟩ := paired_get hvp3 hi
      have hom := List.mem_of_getElem? hone
      obtain ⟨oasc, osub⟩ := mem_sets hom
      have ond := oasc.nodup sLo
      have hol : one.length ≤ 5 := Nat.le_trans (asc_len oasc osub) hkl
      have hyl : ys.length ≤ 7776 := by
        rw [hyp.length]
        exact Nat.le_trans (leastOf_sub _).1 (Nat.le_trans (List.length_filter_le _ _) (by rw [List.length_take]; have := len_all hkl; omega))
      have etk : (allSets sLt keys).take (i + 1) = (allSets sLt keys).take i ++ [one] := by rw [List.take_add_one, hone]; rfl
      -- within
      refine ⟨_, rfl, oa, rfl, ⟨_, SqT.of hoa⟩, fun D1 hD1 => dc_tup (K := K) (a := oa) (xs := one.map V.str) (fun j H4 => Same H3 H4 ∧ ∃ kw, H4 D1 = some (.dK kw) ∧ Paired (KvS H4) kw ((one.take j).map fun o => (o, (wOf ws o).filter fun y => decide (y ∈ one)))) ⟨same_upd hD1, [], upd_same, .nil⟩ (fun j H4 _ ⟨s4, _⟩ => SqT.of (s4 _ _ hoa)) ?_ ?_⟩
      · rintro j y H4 hj ⟨s4, kw, hk4, hkp4⟩
        rw [List.getElem?_map] at hj
        cases eo : one[j]? with
        | none => rw [eo] at hj; cases hj
        | some o =>
          rw [eo] at hj
          injection hj with hj
          subst hj
          have hok' : o ∈ ws.map (·.1) := by rw [hkeys]; exact osub o (List.mem_of_getElem? eo)
          obtain ⟨kw2, hdw, hkw⟩ := hws.kg (Kg.of (s3.trans s4))
          obtain ⟨v, hv, ga, rfl, hga⟩ := (kvS_val (o := o) hkw).1 hok'
          have hgl := ws_short hokw G.few G.own o
          have hkwl : kw.length ≤ 5 := by
            rw [hkp4.length, List.length_map, List.length_take]
            omega
          refine ⟨rfl, ty ⟨_, rfl, _, rfl, _, rfl, d, _, rfl, hv ▸ DGet.k (k := Sum.inr o) hdw, ga, rfl, ⟨_, SqL.of hga⟩, fun D2 hD2 => lc_L (R := rS) (S := rS) (as := wOf ws o) rV_mono rV_gr (fun y => if decide (y ∈ one) = true then some y else none) hD2 (SqL.of hga) (rV_paired _) (by rw [List.length_map]; omega) (fun m y u hu' H5 s5 hy N Z hN hZ => ?_) fun H5 zs s5 hz hzp => ?_⟩⟩
          · rw [show y = V.str u from hy]
            refine ⟨rfl, _, rfl, _, rfl, oa, _, rfl, .inr (SqT.of (s5 _ _ (s4 _ _ hoa))), rfl, strs_flat one, _, rfl, ?_⟩
            rw [if_neg Bool.false_ne_true, inV_strs]
            by_cases c : decide (u ∈ one) = true
            · rw [c]
              exact iteT ⟨_, rfl, hN _ _ _ (Same.refl _) (if_pos c) rfl⟩
            · have c2 := c
              rw [Bool.not_eq_true] at c
              rw [c]
              exact iteF (hZ _ (Same.refl _) (if_neg c2))
          · have ez := paired_rV hzp
            have efl : (wOf ws o).filterMap (fun y => if decide (y ∈ one) = true then some y else none) = (wOf ws o).filter fun y => decide (y ∈ one) := by
              have := filterMap_if (fun y : Str => decide (y ∈ one)) id (wOf ws o)
              rw [List.map_id] at this
              exact this.symm
            rw [efl] at ez
            have hk5 := s5 _ _ hk4
            refine ⟨kw, Sum.inr o, rfl, hk5, by rw [sizeLine_eq]; omega, Same.own (s4.trans s5) hD1, _, upd_same, ?_⟩
            have hnew : Sum.inr o ∉ kw.map (·.1) := by
              have e1 : ((one.take j).map fun o => (o, (wOf ws o).filter fun y => decide (y ∈ one))).map (·.1) = one.take j := by
                rw [List.map_map]
                exact List.map_id _
              rw [kvS_keys hkp4, e1]
              intro z
              have z := inr_mem.1 z
              have h1 := ond
              rw [← List.take_append_drop j one, List.nodup_append] at h1
              have h2 : o ∈ one.drop j := by
                rw [List.mem_iff_getElem?]
                exact ⟨0, by rw [List.getElem?_drop]; exact eo⟩
              exact h1.2.2 _ z _ h2 rfl
            rw [putK_new hnew, List.take_add_one, eo, Option.toList_some, List.map_append]
            exact Paired.app (Paired.mapP (Paired.mapP hkp4 fun _ _ => KvS.kg (Kg.of s5)) fun _ _ => KvS.updD hk5) (.cons (KvS.updD hk5 ⟨rfl, D2, rfl, by rw [hz, ez]⟩) .nil)
      · rintro H4 ⟨s4, kw, hk4, hkp4⟩
        rw [List.length_map, List.take_length] at hkp4
        have hin : WsAt H4 D1 (inner ws one) := ⟨kw, hk4, hkp4⟩
        -- a ring known is a part of it
        refine ⟨_, rfl, F, rfl, ⟨_, SqL.of (s4 _ _ hy)⟩, fun D3 hD3 => lc_L (R := rSet) (S := rV V.bl) (as := leastOf (((allSets sLt keys).take i).filter (ringB (wOf ws)))) rSet_mono rV_gr (fun e => some (isPart e one)) hD3 (SqL.of (s4 _ _ hy)) (rSet_mono.all (Kg.of s4) hyp) (by omega) (fun j x b hb H5 s5 hx N Z hN hZ => ?_) fun H5 zs s5 hz hzp => ?_⟩
        · obtain ⟨p1, rfl, e1⟩ := hx
          have hbm := List.mem_of_mem_take (List.mem_filter.1 ((leastOf_sub _).2 b (List.mem_of_getElem? hb))).1
          have hbl : b.length ≤ 5 := Nat.le_trans (asc_len (mem_sets hbm).1 (mem_sets hbm).2) hkl
          exact ⟨rfl, ty ⟨_, rfl, _, rfl, p1, oa, b, one, rfl, .inr (SqT.of e1), .inr (SqT.of (s5 _ _ (s4 _ _ hoa))), by omega, fun H6 s6 => hN _ _ _ s6 rfl rfl⟩⟩
        · refine ⟨D3, _, rfl, SqL.of (by rw [hz, paired_rV hzp]), ?_⟩
          rw [filterMap_some]
          refine ⟨_, rfl, ?_⟩
          have eb : ((leastOf (((allSets sLt keys).take i).filter (ringB (wOf ws)))).map fun e => isPart e one).any id = (leastOf (((allSets sLt keys).take i).filter (ringB (wOf ws)))).any fun e => isPart e one := by
            rw [List.any_map]
            rfl
          rw [eb]
          have sA := s4.trans s5
          have est : leastOf (((allSets sLt keys).take (i + 1)).filter (ringB (wOf ws))) = if ringB (wOf ws) one = true then leastStep (leastOf (((allSets sLt keys).take i).filter (ringB (wOf ws)))) one else leastOf (((allSets sLt keys).take i).filter (ringB (wOf ws))) := by
            rw [etk, List.filter_append]
            by_cases c : ringB (wOf ws) one = true
            · rw [if_pos c, List.filter_cons_of_pos c, List.filter_nil, leastOf_snoc]
            · rw [if_neg c, List.filter_cons_of_neg c, List.filter_nil, List.append_nil]
          by_cases hb : ((leastOf (((allSets sLt keys).take i).filter (ringB (wOf ws)))).any fun e => isPart e one) = true
          · rw [hb]
            refine iteF ⟨⟨_, _, _, _, _, rfl⟩, s3.trans sA, sA _ _ hp3, rSet_mono.all (Kg.of sA) hvp3, ys, sA _ _ hy, ?_⟩
            rw [est]
            have : leastStep (leastOf (((allSets sLt keys).take i).filter (ringB (wOf ws)))) one = leastOf (((allSets sLt keys).take i).filter (ringB (wOf ws))) := if_pos hb
            rw [this, ite_self]
            exact rSet_mono.all (Kg.of sA) hyp
          · have hb2 := hb
            rw [Bool.not_eq_true] at hb
            rw [hb]
            refine iteT ?_
            -- a ring in it
            refine ⟨_, rfl, oa, rfl, ⟨_, SqT.of (sA _ _ hoa)⟩, fun D4 hD4 => lc_T (R := rS) (S := rRg (wOf (inner ws one)) one) (as := one) rV_mono rRg_gr some hD4 (SqT.of (sA _ _ hoa)) (rV_paired one) (by rw [List.length_map]; omega) (fun j x o ho H6 s6 hx N Z hN hZ => ?_) fun H6 us s6 hu6 hup => ?_⟩
            · rw [show x = V.str o from hx]
              have hoo := List.mem_of_getElem? ho
              refine ⟨rfl, ty ⟨_, rfl, _, rfl, D1, o, inner ws one, one, rfl, hin.kg (Kg.of (s5.trans s6)), hoo, hol, fun x hx => ?_, fun v H7 s7 hv => ⟨rfl, hN _ _ _ s7 rfl ?_⟩⟩⟩
              · rw [inner_at ond hx]
                refine ⟨fun y hy => of_decide_eq_true (List.mem_filter.1 hy).2, ?_⟩
                have h1 := List.length_filter_le (fun y => decide (y ∈ one)) (wOf ws x)
                have h2 := ws_short hokw G.few G.own x
                omega
              · rcases hv with ⟨rfl, hno⟩ | ⟨a, T, rfl, h1, h2, h3⟩
                · exact ⟨false, rfl, (fun z => nomatch z), fun _ => hno⟩
                · exact ⟨true, rfl, fun _ => ⟨T, h1, h2⟩, fun z => nomatch z⟩
            · rw [List.filterMap_some] at hup
              obtain ⟨bs, ebs, g1, g2⟩ := rRg_all hup
              refine ⟨D4, bs, rfl, SqL.of (by rw [hu6, ebs]), _, rfl, ?_⟩
              have sB := sA.trans s6
              have erg : ringB (wOf ws) one = bs.any id := by
                cases e : bs.any id with
                | true => exact ringB_iff.2 ((inner_ring ond).1 (g1 e))
                | false => exact ringB_not.2 fun z => noWay_noRing (g2 e) ((inner_ring ond).2 z)
              by_cases c : bs.any id = true
              · rw [c]
                refine iteT ⟨_, rfl, .inl ⟨rfl, _, SqL.of (sB _ _ hy)⟩, _, rfl, F, ys, _, rfl, rfl, sB _ _ hy, by rw [sizeLine_eq]; omega, ?_⟩
                refine ⟨⟨_, _, _, _, _, rfl⟩, Same.own (s3.trans sB) hF, by rw [upd_ne hpF]; exact sB _ _ hp3, rSet_fl.all (sB _ _ hy) (rSet_mono.all (Kg.of sB) hvp3), _, upd_same, ?_⟩
                rw [est, if_pos (erg.trans c), leastStep, if_neg hb2]
                exact rSet_fl.all (sB _ _ hy) (Paired.app (rSet_mono.all (Kg.of sB) hyp) (.cons ⟨oa, rfl, sB _ _ hoa⟩ .nil))
              · have c2 := c
                rw [Bool.not_eq_true] at c
                rw [c]
                refine iteF ⟨⟨_, _, _, _, _, rfl⟩, s3.trans sB, sB _ _ hp3, rSet_mono.all (Kg.of sB) hvp3, ys, sB _ _ hy, ?_⟩
                rw [est, if_neg (by rw [erg]; exact c2)]
                exact rSet_mono.all (Kg.of sB) hyp
    · rintro σ H3 ⟨⟨v4, v5, v6, v7, v8, rfl⟩, s3, hp3, hvp3, ys, hy, hyp⟩
      rw [hvp.length, List.take_length] at hyp
      exact ⟨_, rfl, q F H3 ys ws (sw.free hF) (sw.trans s3) hokw hy (by rw [hkeys]; exact hyp)⟩)
end
end WH
set_option Elab.async false
set_option linter.all false
set_option maxRecDepth 100000
set_option maxHeartbeats 2000000
namespace WH
open PySem PySem.Spec PyProof.Rows L2 WM LamX
abbrev s_least_stops : Stmt := topS 46
theorem sc_least_stops : FnScope ["table", "wants"] ["table", "wants"] (defScope s_least_stops) := ⟨rfl, rfl, rfl, by decide +kernel, rfl, by decide +kernel, by decide +kernel⟩
abbrev s_cheapest_stops : Stmt := topS 47
theorem sc_cheapest_stops : FnScope ["table", "wants", "prices", "sets"] ["table", "wants", "prices"] (defScope s_cheapest_stops) := ⟨rfl, rfl, rfl, by decide +kernel, rfl, by decide +kernel, by decide +kernel⟩
theorem PB.same {K : PySem.W.Frag} {H H' : Hp} {v : V} {names : List Str} {t : V} (s : Same H H') (h : PB K H v names t) : PB K H' v names t := by
  rcases h with ⟨n, h1, h2, h3⟩ | ⟨d, kvs, i, x, y, h1, h2, h3, h4, h5, h6⟩ | ⟨d, kvs, i, x, h1, h2, r⟩
  · exact .inl ⟨n, TyX.same s h1, h2, h3⟩
  · refine .inr (.inl ⟨d, kvs, i, x, y, h1, s _ _ h2, h3, h4, h5, h6.imp id fun ⟨g1, g2, g3⟩ => ⟨g1, g2, fun H'' k => g3 H'' fun b o hb e => k b o hb (s _ _ e)⟩⟩)
  · exact .inr (.inr ⟨d, kvs, i, x, h1, s _ _ h2, r⟩)
section
variable {P : Program} {w : World} {K : PySem.W.Frag} {mg : Str → Option Value} {base : Heap} {CL fL CP fP C fi fl fo : Addr}
/-- a set of all names, ascending -/
structure AllN (all : List Str) (ls wl : List (Lk Str)) : Prop where
  asc : Asc sLt all
  few : all.length ≤ 5
  mem : ∀ o, o ∈ all ↔ o ∈ ls.map (·.1) ∨ o ∈ wl.map (·.1)
theorem AllN.keys {all : List Str} {ls wl : List (Lk Str)} {ws : Ws} (A : AllN all ls wl) (h : WaitsOk ls wl ws) : ∀ x ∈ ws.map (·.1), x ∈ all := fun x hx => (A.mem x).2 (.inr ((h.keys x).1 hx))
theorem rings_all {all : List Str} {ls wl : List (Lk Str)} {ws : Ws} (A : AllN all ls wl) (h : WaitsOk ls wl ws) : rings sLt (wOf ws) (ws.map (·.1)) = rings sLt (wOf ws) all :=
  rings_keys sLo A.asc h.asc (A.keys h) fun x hx => wOf_none hx
def sp_least_stops (C CL : Addr) : Sp := fun vs H Q E => ∃ (tv : V) (wa : Addr) (xs : List V) (tb : Tb Str) (ls : List (Lk Str)) (names : List Str) (n : Nat), vs = [tv, .ref wa] ∧ TbI C H tv tb ∧ TbG tb ls names n ∧ n ≤ 100000 ∧ (H wa = some (.lst xs) ∨ H wa = some (.tup xs)) ∧ (∀ x ∈ names, okS x = true) ∧
  ((∃ wl all, Paired (rLkA H) xs wl ∧ WtOk wl ∧ (∀ l ∈ wl, l.1 ∈ names) ∧ AllN all ls wl ∧ ∀ p H' vs ws, H p = none → Same H H' → WaitsOk ls wl ws → H' p = some (.lst vs) → Paired (rSet H') vs (stops sLt (wOf ws) all) → Q (.ref p) H') ∨ BadW CL H xs E)
theorem ok_least_stops {f : Addr} {fd : FuncData} (D : Df K mg "least_stops" s_least_stops ["table", "wants"] f fd) (G_least_rings : Dn P w K mg base (L2.CX P w) 7 "least_rings" ["table", "wants"] (sp_least_rings C CL)) (G_least_hitting : Dn P w K mg base CX0 3 "least_hitting" ["lots"] (sp_least_hitting K)) :
    Dn P w K mg base (L2.CX P w) 8 "least_stops" ["table", "wants"] (sp_least_stops C CL) := .of D (by
  refine D.fn.okX sc_least_stops (fun vs H Q E h => ?_) (fun cdv A outer s H vs Q E hr h => ?_)
  · obtain ⟨tv, wa, xs, tb, ls, names, n, rfl, _⟩ := h
    rfl
  · obtain ⟨tv, wa, xs, tb, ls, names, n, rfl, htv, G, hn, hwa, hok, q⟩ := h
    refine ⟨_, (pss_one (ps_ret (pe_cl G_least_hitting (hr.mono (by decide)) (pa_cons (pe_clX (E := E) G_least_rings (hr.mono (by decide)) (takes_of rfl rfl rfl rfl) (fun _ _ _ _ h => h) (pa_cons (pv 0) (pa_cons (pv 1) pa_nil))) pa_nil)))), ?_⟩
    rcases q with ⟨wl, all, hwp, wok, hwn, hA, q⟩ | hbad
    case inr => exact ⟨_, rfl, _, rfl, tv, wa, xs, tb, ls, names, n, rfl, htv, G, hn, hwa, hok, .inr hbad⟩
    refine ⟨_, rfl, _, rfl, tv, wa, xs, tb, ls, names, n, rfl, htv, G, hn, hwa, hok, .inl ⟨wl, hwp, wok, hwn, fun p H1 vs ws hp s1 hws hp1 hvp => ?_⟩⟩
    rw [rings_all hA hws] at hvp
    refine ⟨p, vs, _, all, rfl, SqL.of hp1, hvp, hA.asc, hA.few, fun l hl => ?_, fun p2 H2 vs2 hp2 s2 hp2' hvp2 => ?_⟩
    · obtain ⟨a, b, _⟩ := leastSets_mem sLo hA.asc hl
      exact ⟨a, b⟩
    · rw [stops_hitting sLo hA.asc] at hvp2
      exact q p2 H2 vs2 ws (s1.free hp2) (s1.trans s2) hws hp2' hvp2)
def GoodPr (H : Hp) (d : Addr) (all : List Str) (pr : Str → Int) : Prop := PrOk H d all pr ∧ ∃ kvs, H d = some (.dK kvs) ∧ ∀ kv ∈ kvs, GoodKv all kv ∧ valV kvs kv.1 = some kv.2
def sp_cheapest (K : PySem.W.Frag) (C CL CP : Addr) : Sp := fun vs H Q E => ∃ (tv prv : V) (wa : Addr) (xs : List V) (tb : Tb Str) (ls : List (Lk Str)) (names : List Str) (n : Nat), vs = [tv, .ref wa, prv] ∧ TbI C H tv tb ∧ TbG tb ls names n ∧ n ≤ 100000 ∧ (H wa = some (.lst xs) ∨ H wa = some (.tup xs)) ∧ (∀ x ∈ names, okS x = true) ∧
  ((∃ wl all, Paired (rLkA H) xs wl ∧ WtOk wl ∧ (∀ l ∈ wl, l.1 ∈ names) ∧ AllN all ls wl ∧
     ((∃ d pr, prv = .ref d ∧ GoodPr H d all pr ∧ ∀ p H' ws j m s, H p = none → Same H H' → WaitsOk ls wl ws → firstMin ((stops sLt (wOf ws) all).map fun s => (s.map pr).sum) j m → (stops sLt (wOf ws) all)[j]? = some s → H' p = some (.lst (s.map V.str)) → Q (.ref p) H') ∨
      ∃ t, PB K H prv all t ∧ ∀ dd H', (∀ b o, (prv = .ref b → ∀ kvs, o ≠ .dK kvs) → H b = some o → H' b = some o) → H' dd = some (.xd [("thing", t)]) → E (.ref CP) (some dd) H')) ∨ BadW CL H xs E)
theorem ok_cheapest {f : Addr} {fd : FuncData} (D : Df K mg "cheapest_stops" s_cheapest_stops ["table", "wants", "prices"] f fd) (G_least_stops : Dn P w K mg base (L2.CX P w) 8 "least_stops" ["table", "wants"] (sp_least_stops C CL)) (G_all_owners : Dn P w K mg base CX0 2 "all_owners" ["table", "waiting"] (sp_all_owners C)) (G_checked_wants : Dn P w K mg base (L2.CX P w) 5 "checked_wants" ["wants"] (sp_checked_wants CL))
    (G_checked_prices : Dn P w K mg base (L2.CX P w) 3 "checked_prices" ["names", "prices"] (sp_checked_prices K CP)) (G_cheapest_of : Dn P w K mg base CX0 2 "cheapest_of" ["sets", "prices"] (sp_cheapest_of K)) :
    Dn P w K mg base (L2.CX P w) 9 "cheapest_stops" ["table", "wants", "prices"] (sp_cheapest K C CL CP) := .of D (by
  refine D.fn.okX sc_cheapest_stops (fun vs H Q E h => ?_) (fun cdv A outer s H vs Q E hr h => ?_)
  · obtain ⟨tv, prv, wa, xs, tb, ls, names, n, rfl, _⟩ := h
    rfl
  · obtain ⟨tv, prv, wa, xs, tb, ls, names, n, rfl, htv, G, hn, hwa, hok, q⟩ := h
    refine ⟨_, (pss_cons (ps_set (i := 3) sc_cheapest_stops.nd rfl (Or.inl rfl) (pe_clX (E := E) G_least_stops (hr.mono (by decide)) (takes_of rfl rfl rfl rfl) (fun _ _ _ _ h => h) (pa_cons (pv 0) (pa_cons (pv 1) pa_nil))))
      (pss_cons (ps_expr (pe_clX (E := E) G_checked_prices (hr.mono (by decide)) (takes_of rfl rfl rfl rfl) (fun _ _ _ _ h => h) (pa_cons (pe_cl G_all_owners (hr.mono (by decide)) (pa_cons (pv 0) (pa_cons (pe_clX (E := E) G_checked_wants (hr.mono (by decide)) (takes_of rfl rfl rfl rfl) (fun _ _ _ _ h => h) (pa_cons (pv 1) pa_nil)) pa_nil))) (pa_cons (pv 2) pa_nil))))
      (pss_one (ps_ret (pe_cl G_cheapest_of (hr.mono (by decide)) (pa_cons (pv 3) (pa_cons (pv 2) pa_nil))))))), ?_⟩
    rcases q with ⟨wl, all, hwp, wok, hwn, hA, q⟩ | hbad
    case inr => exact ⟨_, rfl, _, rfl, tv, wa, xs, tb, ls, names, n, rfl, htv, G, hn, hwa, hok, .inr hbad⟩
    refine ⟨_, rfl, _, rfl, tv, wa, xs, tb, ls, names, n, rfl, htv, G, hn, hwa, hok, .inl ⟨wl, all, hwp, wok, hwn, hA, fun p H1 vs ws hp s1 hws hp1 hvp => ?_⟩⟩
    refine ⟨_, rfl, _, rfl, wa, xs, rfl, hwa.imp (s1 _ _) (s1 _ _), .inl ⟨wl, rLkA_mono.all (Kg.of s1) hwp, wok, fun p2 H2 kvs ms hp2 s2 hk hkv hperm hasc => ?_⟩⟩
    have s12 := s1.trans s2
    have hmsl : ms.length ≤ 60 := by rw [hperm.length_eq]; exact wok.len
    refine ⟨tv, p2, tb, kvs, ms.map (·.1), names, rfl, htv.kg (Kg.of s12), G.tbl.nd, hk, kvL_keys hkv, by rw [List.length_map]; exact hmsl, G.few, fun o ho => ?_, fun o ho => ?_, fun p3 H3 os hp3 s3 hp3' asc mem len => ?_⟩
    · obtain ⟨l, hl, e⟩ := List.mem_map.1 ((G.tbl.keys o).1 ho)
      exact e ▸ G.own l hl
    · obtain ⟨l, hl, e⟩ := List.mem_map.1 ((hperm.map (·.1)).mem_iff.1 ho)
      exact e ▸ hwn l hl
    · have eo : os = all := Asc.ext sLo asc hA.asc fun o => by rw [mem, hA.mem, G.tbl.keys, (hperm.map (·.1)).mem_iff]
      subst eo
      have s13 := s12.trans s3
      refine ⟨_, rfl, p3, prv, os, rfl, hp3', by omega, ?_⟩
      rcases q with ⟨d, pr, rfl, ⟨hpr, kvs2, hd, hall⟩, q⟩ | ⟨t, hb, hE⟩
      · refine .inl ⟨d, pr, rfl, hpr.kg (Kg.of s13), ⟨kvs2, s13 _ _ hd, hall⟩, fun H4 s4 => ?_⟩
        have sA := (s2.trans s3).trans s4
        have hvp4 := rSet_mono.all (Kg.of sA) hvp
        refine ⟨_, rfl, _, rfl, p, d, vs, _, os, pr, rfl, sA _ _ hp1, hvp4, stops_ne sLo hA.asc, Nat.le_trans (len_least hA.few _) (by decide), hpr.kg (Kg.of (s1.trans sA)), fun s hs => ?_, fun p5 H5 j m s hp5 s5 hf hj hp5' => ?_⟩
        · obtain ⟨a, b, _⟩ := leastSets_mem sLo hA.asc hs
          exact ⟨b, by have := asc_len a b; have := hA.few; omega⟩
        · exact q p5 H5 ws j m s ((s1.trans sA).free hp5) ((s1.trans sA).trans s5) hws hf hj hp5'
      · refine .inr ⟨t, hb.same s13, fun dd H' k hd => hE dd H' (fun b o hb e => k b o hb (s13 _ _ e)) hd⟩)
end
end WH
set_option Elab.async false
set_option linter.all false
set_option maxRecDepth 100000
set_option maxHeartbeats 2000000
/-! The stream of the drawn: two lists, kept as opaque objects; a def's promise seen through either way. -/
namespace WH
open PySem PySem.Spec PyProof.Rows L2 WM
/-- the lists of the stream -/
def strmO (S L : Addr) (m : Nat) : HO := .ext fun h => ∃ (c1 c2 c3 : Int) (u : List Value) (n : Nat), Vals [.ref L, .int c1, .int c2, .int c3] u ∧ h.get? S = some { cls := .type "list", data := .seq u.toArray n } ∧ 0 ≤ c1 ∧ 0 ≤ c2 ∧ c2 ≤ m ∧ 0 ≤ c3 ∧ c3 < 2147483647
def intsO (L : Addr) : HO := .ext fun h => ∃ (ns : List Int) (u : List Value) (n : Nat), Vals (ns.map V.int) u ∧ h.get? L = some { cls := .type "list", data := .seq u.toArray n } ∧ ns.length ≤ sizeLine
/-- the stream stands at S, L, at most n draws made -/
def Dr (S L : Addr) (H : Hp) (n : Nat) : Prop := ∃ m, m ≤ n ∧ H S = some (strmO S L m) ∧ H L = some (intsO L)
theorem Dr.up {S L : Addr} {H : Hp} {m n : Nat} (h : m ≤ n) : Dr S L H m → Dr S L H n := fun ⟨k, h1, h2⟩ => ⟨k, Nat.le_trans h1 h, h2⟩
/-- all but the stream stays -/
def KD (S L : Addr) (H H' : Hp) : Prop := ∀ b o, b ≠ S → b ≠ L → H b = some o → H' b = some o
/-- whether two things at an address look alike from outside -/
def Alike : Option HO → Option HO → Prop
  | none, none => True
  | some (.tup xs), some (.tup ys) => xs = ys
  | some (.own x), some (.own y) => x = y
  | some (.frz o u), some (.frz o' u') => o = o' ∧ u = u'
  | some (.tbl p), some (.tbl q) => p = q
  | some (.lst _), some (.ext _) => True
  | some (.ext _), some (.lst _) => True
  | a, b => a = b
theorem Alike.refl (a : Option HO) : Alike a a := by
  cases a with
  | none => trivial
  | some o => cases o <;> simp [Alike]
theorem Alike.symm {a b : Option HO} (h : Alike a b) : Alike b a := by
  cases a with
  | none => cases b with
    | none => trivial
    | some o => cases o <;> simp_all [Alike]
  | some o => cases b with
    | none => cases o <;> simp_all [Alike]
    | some p => cases o <;> cases p <;> simp_all [Alike]
def Vw (H H2 : Hp) : Prop := ∀ b, Alike (H b) (H2 b)
theorem Vw.symm {H H2 : Hp} (v : Vw H H2) : Vw H2 H := fun b => (v b).symm
theorem Alike.none {a b : Option HO} (h : Alike a b) (e : a = Option.none) : b = Option.none := by
  subst e
  cases b with
  | none => rfl
  | some o => cases o <;> simp [Alike] at h
theorem Alike.tup {a b : Option HO} (h : Alike a b) {xs : List V} (e : a = some (.tup xs)) : b = some (.tup xs) := by
  subst e
  cases b with
  | none => simp [Alike] at h
  | some o => cases o <;> simp_all [Alike]
theorem Alike.own {a b : Option HO} (h : Alike a b) {x : Addr} (e : a = some (.own x)) : b = some (.own x) := by
  subst e
  cases b with
  | none => simp [Alike] at h
  | some o => cases o <;> simp_all [Alike]
theorem Alike.frz {a b : Option HO} (h : Alike a b) {o : Obj} {u : HO} (e : a = some (.frz o u)) : b = some (.frz o u) := by
  subst e
  cases b with
  | none => simp [Alike] at h
  | some o => cases o <;> simp_all [Alike]
theorem Alike.tbl {a b : Option HO} (h : Alike a b) {p : Array Value} (e : a = some (.tbl p)) : b = some (.tbl p) := by
  subst e
  cases b with
  | none => simp [Alike] at h
  | some o => cases o <;> simp_all [Alike]
theorem Vw.un {fs : List Addr} {H H' H2 H2' : Hp} {h h' : Heap} (v : Vw H H2) (v' : Vw H2' H') (u : Un fs [] H2 H2' h h') : Un fs [] H H' h h' where
  keep := fun b o e n hb hx => u.keep b o e ((v b).none n) hb hx
  slot := fun b o e n hb hx => u.slot b o e ((v b).none n) hb hx
  free := fun b o e n hx => (v' b).none (u.free b o e ((v b).none n) hx)
  there := u.there
  tups := fun b xs e => (v' b).tup (u.tups b xs ((v b).tup e))
  frzs := fun b o x e => (v' b).frz (u.frzs b o x ((v b).frz e))
  tbls := fun b ps e => by
    obtain ⟨more, q⟩ := u.tbls b ps ((v b).tbl e)
    exact ⟨more, (v' b).tbl q⟩
theorem Vw.obj {P : Program} {w : World} {H H2 : Hp} {h : Heap} (v : Vw H H2) {a : Addr} : ∀ {o : HO}, ObjOk P w H h a o → ObjOk P w H2 h a o := by
  intro o
  induction o with
  | dT kvs =>
    rintro ⟨h1, h2, xs, h3, r⟩
    exact ⟨h1, h2, xs, Paired.mapP h3 fun _ _ ⟨g1, g2, g3⟩ => ⟨g1, (v _).tup g2, g3⟩, r⟩
  | ins C dx fs =>
    rintro ⟨h1, r⟩
    exact ⟨(v _).own h1, r⟩
  | frz ob u ih =>
    rintro ⟨h1, h2⟩
    exact ⟨h1, ih h2⟩
  | lst xs => exact fun h => h
  | tup xs => exact fun h => h
  | dK kvs => exact fun h => h
  | set S n => exact fun h => h
  | own x => exact fun h => h
  | xd fs => exact fun h => h
  | met f x => exact fun h => h
  | rng lo hi => exact fun h => h
  | tbl ps => exact fun h => h
  | ext φ => exact fun h => h
theorem Vw.env0 {P : Program} {w : World} {K : PySem.W.Frag} {mg : Str → Option Value} {base : Heap} {A : Around} {outer : List Env} {s : Shared} {H H2 : Hp} (v : Vw H H2) (hok : HOk P w H2 s.heap) (e : Env0 P w K mg base A outer s H) : Env0 P w K mg base A outer s H2 :=
  ⟨e.frames, e.mod, fun b o q => ⟨(e.bs b o q).1, (v b).none (e.bs b o q).2⟩, e.bsz, e.funs, fun b hb => (v b).none (e.frf b hb), hok, e.bare⟩
theorem vw_upd {H : Hp} {a : Addr} {o u : HO} (h : H a = some o) (e : Alike (some o) (some u)) : Vw H (upd H a u) := fun b => by
  by_cases c : b = a
  · rw [c, upd_same, h]
    exact e
  · rw [upd_ne c]
    exact Alike.refl _
/-- a promise kept from one view of the heap is kept from another -/
theorem fn_view {P : Program} {w : World} {K : PySem.W.Frag} {mg : Str → Option Value} {base : Heap} {k : Nat} {f : Addr} {fd : FuncData} {ps : List Str} {sp0 sp1 : Sp} (F : FnOk P w K mg base CX0 k f fd ps sp0) (len : ∀ vs H Q E, sp1 vs H Q E → vs.length = ps.length)
    (conv : ∀ vs H Q E (h : Heap), HOk P w H h → sp1 vs H Q E → ∃ (H2 : Hp) (Q2 : VK), Vw H H2 ∧ HOk P w H2 h ∧ sp0 vs H2 Q2 E ∧ ∀ v H2' h', HOk P w H2' h' → Q2 v H2' → ∃ H', Vw H2' H' ∧ HOk P w H' h' ∧ Q v H') : FnOk P w K mg base CX0 k f fd ps sp1 :=
  ⟨len, fun A outer s H args us vs Q E hr he hb hv hsp => by
    obtain ⟨H2, Q2, v1, hok2, hsp0, back⟩ := conv vs H Q E s.heap he.hok hsp
    refine codeAny_mono (F.run A outer s H2 args us vs Q2 E hr (v1.env0 hok2 he) hb hv hsp0) fun r s' hq => ?_
    cases r with
    | error e => exact hq
    | ok fl =>
      cases fl with
      | ret u =>
        obtain ⟨v, H2', h1, h2, h3, h4, h5, h6⟩ := hq
        obtain ⟨H', v2, hok', q⟩ := back v H2' s'.heap h4 h6
        exact ⟨v, H', h1, h2, v1.un v2 h3, hok', h5, q⟩
      | next => exact hq
      | brk => exact hq
      | cont => exact hq⟩
theorem strm_ok {P : Program} {w : World} {H : Hp} {h : Heap} {S L : Addr} {m : Nat} {c1 c2 c3 : Int} {u : List Value} {n : Nat} (r : Vals [.ref L, .int c1, .int c2, .int c3] u) (e : h.get? S = some { cls := .type "list", data := .seq u.toArray n }) (h1 : 0 ≤ c1) (h2 : 0 ≤ c2) (h3 : c2 ≤ m) (h4 : 0 ≤ c3) (h5 : c3 < 2147483647) :
    ObjOk P w H h S (strmO S L m) := ⟨⟨c1, c2, c3, u, n, r, e, h1, h2, h3, h4, h5⟩, ⟨_, e⟩, fun _ _ ⟨a, b, c, u, n, r, e, q⟩ k => ⟨a, b, c, u, n, r, k _ e, q⟩⟩
theorem ints_ok {P : Program} {w : World} {H : Hp} {h : Heap} {L : Addr} {ns : List Int} {u : List Value} {n : Nat} (r : Vals (ns.map V.int) u) (e : h.get? L = some { cls := .type "list", data := .seq u.toArray n }) (hz : ns.length ≤ sizeLine) :
    ObjOk P w H h L (intsO L) := ⟨⟨ns, u, n, r, e, hz⟩, ⟨_, e⟩, fun _ _ ⟨ns, u, n, r, e, q⟩ k => ⟨ns, u, n, r, k _ e, q⟩⟩
/-- from lists to the stream -/
theorem to_strm {P : Program} {w : World} {H : Hp} {h : Heap} (hok : HOk P w H h) {S L : Addr} {c1 c2 c3 : Int} {ns : List Int} {m : Nat} (hS : H S = some (.lst [.ref L, .int c1, .int c2, .int c3])) (hL : H L = some (.lst (ns.map V.int))) (h1 : 0 ≤ c1) (h2 : 0 ≤ c2) (h3 : c2 ≤ m) (h4 : 0 ≤ c3) (h5 : c3 < 2147483647) :
    Vw H (upd (upd H S (strmO S L m)) L (intsO L)) ∧ HOk P w (upd (upd H S (strmO S L m)) L (intsO L)) h ∧ S ≠ L := by
  have hne : S ≠ L := fun e => by
    rw [e, hL] at hS
    injection hS with hS
    injection hS with hS
    cases ns with
    | nil => cases hS
    | cons n ns => injection hS with a b; cases a
  have v : Vw H (upd (upd H S (strmO S L m)) L (intsO L)) := fun b => by
    by_cases cL : b = L
    · rw [cL, upd_same, hL]
      trivial
    · rw [upd_ne cL]
      by_cases cS : b = S
      · rw [cS, upd_same, hS]
        trivial
      · rw [upd_ne cS]
        exact Alike.refl _
  refine ⟨v, fun a o e => ?_, hne⟩
  by_cases cL : a = L
  · subst cL
    rw [upd_same] at e
    injection e with e
    subst e
    obtain ⟨z, its, n, r, q⟩ := hok _ _ hL
    exact ints_ok r q (by rw [List.length_map] at z; exact z)
  · rw [upd_ne cL] at e
    by_cases cS : a = S
    · subst cS
      rw [upd_same] at e
      injection e with e
      subst e
      obtain ⟨z, its, n, r, q⟩ := hok _ _ hS
      exact strm_ok r q h1 h2 h3 h4 h5
    · rw [upd_ne cS] at e
      exact v.obj (hok a o e)
/-- from the stream to lists -/
theorem of_strm {P : Program} {w : World} {H : Hp} {h : Heap} (hok : HOk P w H h) {S L : Addr} {n : Nat} (d : Dr S L H n) : ∃ (c1 c2 c3 : Int) (ns : List Int), 0 ≤ c1 ∧ 0 ≤ c2 ∧ c2 ≤ n ∧ 0 ≤ c3 ∧ c3 < 2147483647 ∧ S ≠ L ∧
    Vw H (upd (upd H S (.lst [.ref L, .int c1, .int c2, .int c3])) L (.lst (ns.map V.int))) ∧ HOk P w (upd (upd H S (.lst [.ref L, .int c1, .int c2, .int c3])) L (.lst (ns.map V.int))) h := by
  obtain ⟨m, hm, hS, hL⟩ := d
  obtain ⟨⟨c1, c2, c3, u, k, r, e, g1, g2, g3, g4, g5⟩, _, _⟩ := hok _ _ hS
  obtain ⟨⟨ns, u2, k2, r2, e2, z⟩, _, _⟩ := hok _ _ hL
  have hne : S ≠ L := fun q => by
    rw [q, e2] at e
    injection e with e
    injection e with _ _ e _
    injection e with e _
    have : u2 = u := by simpa using e
    subst this
    cases ns with
    | nil => cases r2; cases r
    | cons n ns =>
      cases r2 with
      | cons a b =>
        obtain ⟨t, rfl⟩ := a
        cases r with
        | cons a' b' => exact nomatch (show Value.int n t = Value.ref L from a')
  refine ⟨c1, c2, c3, ns, g1, g2, by omega, g4, g5, hne, ?_, ?_⟩
  · intro b
    by_cases cL : b = L
    · rw [cL, upd_same, hL]
      trivial
    · rw [upd_ne cL]
      by_cases cS : b = S
      · rw [cS, upd_same, hS]
        trivial
      · rw [upd_ne cS]
        exact Alike.refl _
  · have v : Vw H (upd (upd H S (.lst [.ref L, .int c1, .int c2, .int c3])) L (.lst (ns.map V.int))) := by
      intro b
      by_cases cL : b = L
      · rw [cL, upd_same, hL]
        trivial
      · rw [upd_ne cL]
        by_cases cS : b = S
        · rw [cS, upd_same, hS]
          trivial
        · rw [upd_ne cS]
          exact Alike.refl _
    intro a o q
    by_cases cL : a = L
    · subst cL
      rw [upd_same] at q
      injection q with q
      subst q
      exact ⟨by rw [List.length_map]; exact z, u2, k2, r2, e2⟩
    · rw [upd_ne cL] at q
      by_cases cS : a = S
      · subst cS
        rw [upd_same] at q
        injection q with q
        subst q
        exact ⟨by rw [sizeLine_eq]; simp, u, k, r, e⟩
      · rw [upd_ne cS] at q
        exact v.obj (hok a o q)
end WH
set_option Elab.async false
set_option linter.all false
set_option maxRecDepth 100000
set_option maxHeartbeats 2000000
namespace WH
open PySem PySem.Spec PyProof.Rows L2 WM LamX
abbrev s__law_start : Stmt := topS 65
theorem sc__law_start : FnScope ["_law_script"] ["_law_script"] (defScope s__law_start) := ⟨rfl, rfl, rfl, by decide +kernel, rfl, by decide +kernel, by decide +kernel⟩
abbrev s__law_draw : Stmt := topS 66
theorem sc__law_draw : FnScope ["_law_stream", "_law_many", "_law_cell", "_law_digit", "_law_mixed_here"] ["_law_stream", "_law_many"] (defScope s__law_draw) := ⟨rfl, rfl, rfl, by decide +kernel, rfl, by decide +kernel, by decide +kernel⟩
abbrev s__law_pick : Stmt := topS 67
theorem sc__law_pick : FnScope ["_law_stream", "_law_some"] ["_law_stream", "_law_some"] (defScope s__law_pick) := ⟨rfl, rfl, rfl, by decide +kernel, rfl, by decide +kernel, by decide +kernel⟩
abbrev s__law_mixed : Stmt := topS 68
theorem sc__law_mixed : FnScope ["_law_stream", "_law_some", "_law_left", "_law_k"] ["_law_stream", "_law_some"] (defScope s__law_mixed) := ⟨rfl, rfl, rfl, by decide +kernel, rfl, by decide +kernel, by decide +kernel⟩
/-- what stands behind the loop of _law_draw -/
def drawPost (K : PySem.W.Frag) : TS := tSeq
            (tIfS
              (tTest (tOp (rI0 fun i j => V.bl (decide (j < i))) (tOp (rIxL K) (tVar 0) (tC (V.int 1))) (tC (V.int 0))))
              (tSeq
                (tAsg
                  (tOp (rI (fun x j => 0 < j) fun i j => V.int (i % j))
                    (tCB
                      (fun xs H Q =>
                        (∃ i, xs = [V.int i] ∧ Q (V.int i) H) ∨
                          ∃ k, xs = [V.bl k] ∧ Q (V.int (if k = true then 1 else 0)) H)
                      (tCons (tOp (rIxL K) (tVar 0) (tC (V.int 1))) tNil))
                    (tVar 1))
                  (gName 3))
                (tSeq
                  (tAsg (tOp (rI CDiv fun i j => V.int (i / j)) (tOp (rIxL K) (tVar 0) (tC (V.int 1))) (tVar 1))
                    (gSub (tVar 0) (tC (V.int 1)) rSetL))
                  (tRet (tVar 3))))
              tNext)
            (tSeq
              (tAsg
                (tOp (rI (fun x j => 0 < j) fun i j => V.int (i % j))
                  (tCB
                    (fun xs H Q =>
                      (∃ i, xs = [V.int i] ∧ Q (V.int i) H) ∨
                        ∃ k, xs = [V.bl k] ∧ Q (V.int (if k = true then 1 else 0)) H)
                    (tCons
                      (tOp (rI CPow fun i j => V.int (i ^ j.toNat))
                        (tOp (rI0 fun i j => V.int (i + j))
                          (tOp (rI0 fun i j => V.int (i + j)) (tOp (rIxL K) (tVar 0) (tC (V.int 3)))
                            (tOp (rI CMul fun i j => V.int (i * j)) (tC (V.int 7919))
                              (tOp (rIxL K) (tVar 0) (tC (V.int 2)))))
                          (tC (V.int 104729)))
                        (tC (V.int 5)))
                      tNil))
                  (tC (V.int 2147483629)))
                (gName 4))
              (tRet
                (tOp (rI (fun x j => 0 < j) fun i j => V.int (i % j))
                  (tOp (rI (fun x j => 0 < j) fun i j => V.int (i % j))
                    (tCB
                      (fun xs H Q =>
                        (∃ i, xs = [V.int i] ∧ Q (V.int i) H) ∨
                          ∃ k, xs = [V.bl k] ∧ Q (V.int (if k = true then 1 else 0)) H)
                      (tCons
                        (tOp (rI CPow fun i j => V.int (i ^ j.toNat))
                          (tOp (rI0 fun i j => V.int (i + j))
                            (tOp (rI0 fun i j => V.int (i + j))
                              (tOp (rI CMul fun i j => V.int (i * j)) (tVar 4) (tC (V.int 48271)))
                              (tOp (rI CMul fun i j => V.int (i * j)) (tC (V.int 30011))
                                (tOp (rIxL K) (tVar 0) (tC (V.int 2)))))
                            (tC (V.int 29)))
                          (tC (V.int 3)))
                        tNil))
                    (tC (V.int 1000000007)))
                  (tVar 1))))
section
variable {P : Program} {w : World} {K : PySem.W.Frag} {mg : Str → Option Value} {base : Heap}
/-! ### _law_start -/
def sp_start (K : PySem.W.Frag) : Sp := fun vs H Q _ => ∃ (a : Addr) (ns : List Int), vs = [.ref a] ∧ SqL K H a (ns.map V.int) ∧ ∀ S L H', H S = none → H L = none → Same H H' → Dr S L H' 0 → Q (.ref S) H'
theorem ok__law_start {f : Addr} {fd : FuncData} (D : Df K mg "_law_start" s__law_start ["_law_script"] f fd) (T : Bl mg) : Dn P w K mg base CX0 1 "_law_start" ["_law_script"] (sp_start K) := .of D (by
  have F : FnOk P w K mg base CX0 1 f fd ["_law_script"] (fun vs H Q _ => ∃ (a : Addr) (ns : List Int), vs = [.ref a] ∧ SqL K H a (ns.map V.int) ∧ ∀ S L H', H S = none → H L = none → S ≠ L → Same H H' → H' S = some (.lst [.ref L, .int 0, .int 0, .int 11]) → H' L = some (.lst (ns.map V.int)) → Q (.ref S) H') := by
    refine D.fn.ok sc__law_start (fun vs H Q E h => ?_) (fun cdv A outer s H vs Q E hr h => ?_)
    · obtain ⟨a, ns, rfl, _⟩ := h
      rfl
    · obtain ⟨a, ns, rfl, ha, q⟩ := h
      refine ⟨_, (pss_one (ps_ret (pe_lst (pa_cons (pe_callTy (listOf K) (by rfl) T.b_list (by decide +kernel) (pa_cons (pv 0) pa_nil)) (pa_cons (pe_int) (pa_cons (pe_int) (pa_cons (pe_int) pa_nil))))))), ?_⟩
      refine ⟨_, rfl, a, _, rfl, .inl ha, fun L hL => ?_⟩
      refine ⟨sz4, fun S hS => ?_⟩
      have hne : S ≠ L := fun e => by rw [e, upd_same] at hS; cases hS
      exact q S L _ (Same.none (same_upd hL) hS) hL hne ((same_upd hL).trans (same_upd hS)) upd_same (by rw [upd_ne hne.symm, upd_same])
  refine fn_view F (fun vs H Q E h => ?_) fun vs H Q E h hok hsp => ?_
  · obtain ⟨a, ns, rfl, _⟩ := h
    rfl
  · obtain ⟨a, ns, rfl, ha, q⟩ := hsp
    refine ⟨H, fun v H2' => ∃ S L, v = .ref S ∧ H S = none ∧ H L = none ∧ Same H H2' ∧ H2' S = some (.lst [.ref L, .int 0, .int 0, .int 11]) ∧ H2' L = some (.lst (ns.map V.int)), fun b => Alike.refl _, hok, ⟨a, ns, rfl, ha, fun S L H' h1 h2 _ h3 h4 h5 => ⟨S, L, rfl, h1, h2, h3, h4, h5⟩⟩, ?_⟩
    rintro v H2' h' hok' ⟨S, L, rfl, h1, h2, h3, h4, h5⟩
    obtain ⟨v1, v2, hne⟩ := to_strm (m := 0) hok' h4 h5 (by decide) (by decide) (by decide) (by decide) (by decide)
    exact ⟨_, v1, v2, q S L _ h1 h2 (fun b o e => by rw [upd_ne (ne_of_none e h2), upd_ne (ne_of_none e h1)]; exact h3 _ _ e) ⟨0, Nat.le_refl _, by rw [upd_ne hne, upd_same], upd_same⟩⟩)
/-! ### _law_draw -/
def sp_draw : Sp := fun vs H Q _ => ∃ (S L : Addr) (k n : Nat), vs = [.ref S, .int (k : Nat)] ∧ Dr S L H n ∧ n ≤ 1000000 ∧ 1 ≤ k ∧ k ≤ 100000 ∧ ∀ (d : Nat) H', d < k → KD S L H H' → Dr S L H' (n + 1) → Q (.int (d : Nat)) H'
theorem ok__law_draw {f : Addr} {fd : FuncData} (D : Df K mg "_law_draw" s__law_draw ["_law_stream", "_law_many"] f fd) (T : Bl mg) : Dn P w K mg base CX0 1 "_law_draw" ["_law_stream", "_law_many"] sp_draw := .of D (by
  have F : FnOk P w K mg base CX0 1 f fd ["_law_stream", "_law_many"] (fun vs H Q _ => ∃ (S L : Addr) (c1 c2 c3 : Int) (ns : List Int) (k : Nat), vs = [.ref S, .int (k : Nat)] ∧ H S = some (.lst [.ref L, .int c1, .int c2, .int c3]) ∧ H L = some (.lst (ns.map V.int)) ∧ S ≠ L ∧ 0 ≤ c1 ∧ 0 ≤ c2 ∧ c2 ≤ 1000000 ∧ 0 ≤ c3 ∧ c3 < 2147483647 ∧ 1 ≤ k ∧ k ≤ 100000 ∧
      ∀ (d : Nat) (H' : Hp) (c1' c3' : Int) (ns' : List Int), d < k → KD S L H H' → H' S = some (.lst [.ref L, .int c1', .int (c2 + 1), .int c3']) → H' L = some (.lst (ns'.map V.int)) → 0 ≤ c1' → 0 ≤ c3' → c3' < 2147483647 → Q (.int (d : Nat)) H') := by
    refine D.fn.ok sc__law_draw (fun vs H Q E h => ?_) (fun cdv A outer s H vs Q E hr h => ?_)
    · obtain ⟨S, L, c1, c2, c3, ns, k, rfl, _⟩ := h
      rfl
    · obtain ⟨S, L, c1, c2, c3, ns, k, rfl, hS, hL, hne, h1, h2, h2', h3, h3', hk, hk', q⟩ := h
      refine ⟨_, (pss_cons (ps_asg (pe_op op_add (pe_ix (ixL K) (pv 0) (pe_int) (fun _ _ => rfl)) (pe_int)) (pg_sub (pv 0) (pe_int) set_list))
      (pss_cons (ps_while PassesOwn.never (PW.pt (pw_and (pt_cmpR op_eq (pe_ix (ixL K) (pv 0) (pe_int) (fun _ _ => rfl)) (pe_int) (nomark _)) (pw_and1 (pt_cmpR (neE K hr.units) (pe_ix (ixL K) (pv 0) (pe_int) (fun _ _ => rfl)) (pe_lst pa_nil) (nomark _))))) (pss_cons (ps_set (i := 2) sc__law_draw.nd rfl (Or.inl rfl) (bmK K PySem.F.plainAttrs_list PySem.F.slot_list_pop PySem.F.type_list_pop mt_popAt (pe_ix (ixL K) (pv 0) (pe_int) (fun _ _ => rfl)) (pa_cons (pe_int) pa_nil)))
        (pss_cons (ps_asg (pe_op op_mod (pe_callTy (call_int1) (by rfl) T.b_int (by decide +kernel) (pa_cons (pe_op op_add (pe_op op_add (pe_op op_mul (pe_ix (ixL K) (pv 0) (pe_int) (fun _ _ => rfl)) (pe_int)) (pv 2)) (pe_int)) pa_nil)) (pe_int)) (pg_sub (pv 0) (pe_int) set_list))
        (pss_one (ps_asg (pe_ifExp (pt_cmpR op_ge (pv 2) (pe_op op_pow (pe_int) (pe_int)) (nomark _)) (pv 2) (pe_int)) (pg_sub (pv 0) (pe_int) set_list))))))
      (pss_cons (ps_if (pt_cmpR op_gt (pe_ix (ixL K) (pv 0) (pe_int) (fun _ _ => rfl)) (pe_int) (nomark _)) (pss_cons (ps_set (i := 3) sc__law_draw.nd rfl (Or.inl rfl) (pe_op op_mod (pe_callTy (call_int1) (by rfl) T.b_int (by decide +kernel) (pa_cons (pe_ix (ixL K) (pv 0) (pe_int) (fun _ _ => rfl)) pa_nil)) (pv 1)))
        (pss_cons (ps_asg (pe_op op_fdiv (pe_ix (ixL K) (pv 0) (pe_int) (fun _ _ => rfl)) (pv 1)) (pg_sub (pv 0) (pe_int) set_list))
        (pss_one (ps_ret (pv 3))))) pss_nil)
      (pss_cons (ps_set (i := 4) sc__law_draw.nd rfl (Or.inl rfl) (pe_op op_mod (pe_callTy (call_int1) (by rfl) T.b_int (by decide +kernel) (pa_cons (pe_op op_pow (pe_op op_add (pe_op op_add (pe_ix (ixL K) (pv 0) (pe_int) (fun _ _ => rfl)) (pe_op op_mul (pe_int) (pe_ix (ixL K) (pv 0) (pe_int) (fun _ _ => rfl)))) (pe_int)) (pe_int)) pa_nil)) (pe_int)))
      (pss_one (ps_ret (pe_op op_mod (pe_op op_mod (pe_callTy (call_int1) (by rfl) T.b_int (by decide +kernel) (pa_cons (pe_op op_pow (pe_op op_add (pe_op op_add (pe_op op_mul (pv 4) (pe_int)) (pe_op op_mul (pe_int) (pe_ix (ixL K) (pv 0) (pe_int) (fun _ _ => rfl)))) (pe_int)) (pe_int)) pa_nil)) (pe_int)) (pv 1)))))))), ?_⟩
      have put : ∀ {H' : Hp} {xs ys : List V}, KD S L H H' → KD S L H (upd H' S (.lst ys)) := fun kd b o e1 e2 e => by
        rw [upd_ne e1]
        exact kd b o e1 e2 e
      have putL : ∀ {H' : Hp} {ys : List V}, KD S L H H' → KD S L H (upd H' L (.lst ys)) := fun kd b o e1 e2 e => by
        rw [upd_ne e2]
        exact kd b o e1 e2 e
      have kdS : ∀ {H' H'' : Hp}, KD S L H H' → Same H' H'' → KD S L H H'' := fun kd s b o e1 e2 e => s _ _ (kd b o e1 e2 e)
      have kd0 : KD S L H H := fun b o _ _ e => e
      refine ⟨_, rfl, S, _, _, _, rfl, rfl, SqL.of hS, rfl, _, _, rfl, rfl, _, rfl, S, _, _, _, rfl, rfl, hS, rfl, ?_⟩
      refine ⟨fun m σ H2 => ∃ (ns : List Int) (c1 c3 : Int) (v2 : Option V), σ = [some (.ref S), some (.int (k : Nat)), v2, none, none] ∧ m = ns.length ∧ KD S L H H2 ∧ H2 S = some (.lst [.ref L, .int c1, .int (c2 + 1), .int c3]) ∧ H2 L = some (.lst (ns.map V.int)) ∧ 0 ≤ c1 ∧ 0 ≤ c3 ∧ c3 < 2147483647,
        ⟨ns.length, ns, c1, c3, none, rfl, rfl, put (xs := []) kd0, upd_same, by rw [upd_ne hne.symm]; exact hL, h1, h3, h3'⟩, ?_⟩
      clear hS hL h1 h3 h3'
      rintro m σ H2 ⟨ns, c1, c3, v2, rfl, rfl, kd, hS, hL, h1, h3, h3'⟩
      refine (fun (fin : ∀ H1 : Hp, Same H2 H1 → drawPost K { nx := fun x H' => Q V.non H', rt := Q } [some (V.ref S), some (V.int (k : Nat)), v2, none, none] H1) => ?main) ?fin
      case main =>
        by_cases c : c1 = 0
        · subst c
          refine ⟨_, rfl, S, _, _, _, rfl, rfl, SqL.of hS, rfl, rfl, _, rfl, ?_⟩
          refine iteT ⟨_, rfl, S, _, _, _, rfl, rfl, SqL.of hS, rfl, Nat.zero_le _, fun q0 hq0 => ⟨L, q0, _, rfl, rfl, SqL.of (same_upd hq0 _ _ hL), SqL.of upd_same, _, rfl, ?_⟩⟩
          have s1 : Same H2 (upd H2 q0 (.lst [])) := same_upd hq0
          rw [if_pos rfl]
          cases ns with
          | nil => exact iteF (fin _ s1)
          | cons x ns =>
            refine iteT ⟨fun σ' H' => ∃ m', m' < (x :: ns).length ∧ ∃ (ns : List Int) (c1 c3 : Int) (v2 : Option V), σ' = [some (.ref S), some (.int (k : Nat)), v2, none, none] ∧ m' = ns.length ∧ KD S L H H' ∧ H' S = some (.lst [.ref L, .int c1, .int (c2 + 1), .int c3]) ∧ H' L = some (.lst (ns.map V.int)) ∧ 0 ≤ c1 ∧ 0 ≤ c3 ∧ c3 < 2147483647, fun _ _ h => h, ?_⟩
            have hS1 := s1 _ _ hS
            have hL1 := s1 _ _ hL
            refine ⟨_, rfl, S, _, _, _, rfl, rfl, SqL.of hS1, rfl, .inl ⟨rfl, _, SqL.of hL1⟩, L, _, 0, 0, _, rfl, rfl, hL1, by decide, by decide, by unfold seqIndex?; simp, rfl, ?_⟩
            have hS2 : upd (upd H2 q0 (.lst [])) L (.lst (ns.map V.int)) S = some (.lst [.ref L, .int 0, .int (c2 + 1), .int c3]) := by rw [upd_ne hne]; exact hS1
            refine ⟨_, rfl, S, _, _, _, rfl, rfl, SqL.of hS2, rfl, _, _, rfl, rfl, .inr ⟨by decide, by decide⟩, _, rfl, _, _, rfl, rfl, _, _, rfl, rfl, .inl ⟨_, rfl, _, _, rfl, rfl, (by show (0 : Int) < 2147483647; decide), _, rfl, S, _, _, _, rfl, rfl, hS2, rfl, ?_⟩⟩
            have p1 : 0 ≤ (c3 * 8191 + x + 3) % 2147483647 := Int.emod_nonneg _ (by decide)
            have p2 : (c3 * 8191 + x + 3) % 2147483647 < 2147483647 := Int.emod_lt_of_pos _ (by decide)
            refine ⟨_, rfl, _, _, rfl, rfl, ⟨by decide, by decide, by decide⟩, _, _, rfl, rfl, _, rfl, ?_⟩
            have last : ∀ (z : Int), 0 ≤ z → ∃ m', m' < (x :: ns).length ∧ ∃ (ns' : List Int) (c1 c3' : Int) (v2 : Option V), [some (V.ref S), some (V.int (k : Nat)), some (V.int x), none, none] = [some (.ref S), some (.int (k : Nat)), v2, none, none] ∧ m' = ns'.length ∧ KD S L H (upd (upd (upd (upd H2 q0 (.lst [])) L (.lst (ns.map V.int))) S (.lst [.ref L, .int 0, .int (c2 + 1), .int ((c3 * 8191 + x + 3) % 2147483647)])) S (.lst [.ref L, .int z, .int (c2 + 1), .int ((c3 * 8191 + x + 3) % 2147483647)])) ∧
                (upd (upd (upd (upd H2 q0 (.lst [])) L (.lst (ns.map V.int))) S (.lst [.ref L, .int 0, .int (c2 + 1), .int ((c3 * 8191 + x + 3) % 2147483647)])) S (.lst [.ref L, .int z, .int (c2 + 1), .int ((c3 * 8191 + x + 3) % 2147483647)])) S = some (.lst [.ref L, .int c1, .int (c2 + 1), .int c3']) ∧
                (upd (upd (upd (upd H2 q0 (.lst [])) L (.lst (ns.map V.int))) S (.lst [.ref L, .int 0, .int (c2 + 1), .int ((c3 * 8191 + x + 3) % 2147483647)])) S (.lst [.ref L, .int z, .int (c2 + 1), .int ((c3 * 8191 + x + 3) % 2147483647)])) L = some (.lst (ns'.map V.int)) ∧ 0 ≤ c1 ∧ 0 ≤ c3' ∧ c3' < 2147483647 := fun z hz =>
              ⟨ns.length, by simp, ns, z, _, _, rfl, rfl, put (xs := []) (put (xs := []) (putL (kdS kd s1))), upd_same, by rw [upd_ne hne.symm, upd_ne hne.symm, upd_same], hz, p1, p2⟩
            by_cases cx : decide ((10 : Int) ^ (18 : Int).toNat ≤ x) = true
            · rw [cx]
              refine iteT ⟨_, rfl, _, rfl, S, _, _, _, rfl, rfl, upd_same, rfl, last x ?_⟩
              have := of_decide_eq_true cx
              exact Int.le_trans (by decide) this
            · rw [Bool.not_eq_true] at cx
              rw [cx]
              exact iteF ⟨_, rfl, S, _, _, _, rfl, rfl, upd_same, rfl, last 0 (Int.le_refl 0)⟩
        · refine ⟨_, rfl, S, _, _, _, rfl, rfl, SqL.of hS, rfl, rfl, _, rfl, ?_⟩
          rw [decide_eq_false fun e => c (by injection e)]
          exact iteF (fin H2 (Same.refl _))
      case fin =>
        intro H3 s1
        have hS3 := s1 _ _ hS
        have hL3 := s1 _ _ hL
        have kd3 := kdS kd s1
        have hk0 : (0 : Int) < (k : Nat) := by omega
        refine ⟨_, rfl, S, _, _, _, rfl, rfl, SqL.of hS3, rfl, _, _, rfl, rfl, _, rfl, ?_⟩
        by_cases c : decide ((0 : Int) < c1) = true
        · rw [c]
          have p1 : 0 ≤ c1 % (k : Nat) := Int.emod_nonneg _ (by omega)
          have p2 : c1 % (k : Nat) < (k : Nat) := Int.emod_lt_of_pos _ hk0
          refine iteT ⟨_, rfl, S, _, _, _, rfl, rfl, SqL.of hS3, rfl, .inl ⟨_, rfl, _, rfl, _, _, rfl, rfl, hk0, ?_⟩⟩
          refine ⟨_, rfl, S, _, _, _, rfl, rfl, SqL.of hS3, rfl, _, rfl, _, _, rfl, rfl, ⟨hk0, by omega⟩, _, rfl, S, _, _, _, rfl, rfl, hS3, rfl, _, rfl, ?_⟩
          have e : (V.int (c1 % (k : Nat))) = V.int ((c1 % (k : Nat)).toNat : Nat) := by rw [Int.toNat_of_nonneg p1]
          show Q (V.int (c1 % (k : Nat))) _
          rw [e]
          exact q _ _ (c1 / (k : Nat)) c3 ns (by omega) (put (xs := []) kd3) upd_same (by rw [upd_ne hne.symm]; exact hL3) (Int.ediv_nonneg h1 (by omega)) h3 h3'
        · rw [Bool.not_eq_true] at c
          rw [c]
          have b1 : ((c3 + 7919 * (c2 + 1) + 104729 : Int)).natAbs < 2 ^ 64 := by
            have e : (c3 + 7919 * (c2 + 1) + 104729).natAbs = (c3 + 7919 * (c2 + 1) + 104729).toNat := by omega
            have h : (2 : Nat) ^ 64 = 18446744073709551616 := by decide
            rw [h]
            omega
          refine iteF ⟨_, rfl, S, _, _, _, rfl, rfl, SqL.of hS3, rfl, _, rfl, S, _, _, _, rfl, rfl, SqL.of hS3, rfl, _, _, rfl, rfl, .inl ⟨by decide, by decide⟩, _, _, rfl, rfl, _, _, rfl, rfl, _, _, rfl, rfl, ⟨by decide, by decide, b1⟩, .inl ⟨_, rfl, _, _, rfl, rfl, (by show (0 : Int) < 2147483629; decide), ?_⟩⟩
          have b2 : ∀ mx : Int, 0 ≤ mx → mx < 2147483629 → ((mx * 48271 + 30011 * (c2 + 1) + 29 : Int)).natAbs < 2 ^ 64 := fun mx m1 m2 => by
            have e : (mx * 48271 + 30011 * (c2 + 1) + 29).natAbs = (mx * 48271 + 30011 * (c2 + 1) + 29).toNat := by omega
            have h : (2 : Nat) ^ 64 = 18446744073709551616 := by decide
            rw [h]
            omega
          have fin3 : ∀ mz : Int, Q (.int (mz % (k : Nat))) H3 := fun mz => by
            have p1 : 0 ≤ mz % (k : Nat) := Int.emod_nonneg _ (by omega)
            have p2 : mz % (k : Nat) < (k : Nat) := Int.emod_lt_of_pos _ hk0
            have e : (V.int (mz % (k : Nat))) = V.int ((mz % (k : Nat)).toNat : Nat) := by rw [Int.toNat_of_nonneg p1]
            rw [e]
            exact q _ _ c1 c3 ns (by omega) kd3 hS3 hL3 h1 h3 h3'
          refine ⟨_, rfl, _, _, rfl, rfl, .inr ⟨by decide, by decide⟩, _, rfl, S, _, _, _, rfl, rfl, SqL.of hS3, rfl, _, _, rfl, rfl, .inl ⟨by decide, by decide⟩, _, _, rfl, rfl, _, _, rfl, rfl, _, _, rfl, rfl, ⟨by decide, by decide, b2 _ (Int.emod_nonneg _ (by decide)) (Int.emod_lt_of_pos _ (by decide))⟩, .inl ⟨_, rfl, _, _, rfl, rfl, (by show (0 : Int) < 1000000007; decide), _, rfl, _, _, rfl, rfl, hk0, fin3 _⟩⟩
  refine fn_view F (fun vs H Q E h => ?_) fun vs H Q E h hok hsp => ?_
  · obtain ⟨S, L, k, n, rfl, _⟩ := h
    rfl
  · obtain ⟨S, L, k, n, rfl, hd, hn, hk, hk', q⟩ := hsp
    obtain ⟨c1, c2, c3, ns, g1, g2, g3, g4, g5, hne, v1, v2⟩ := of_strm hok hd
    refine ⟨_, fun v H2' => ∃ (d : Nat) (c1' c3' : Int) (ns' : List Int), v = .int (d : Nat) ∧ d < k ∧ KD S L (upd (upd H S (.lst [.ref L, .int c1, .int c2, .int c3])) L (.lst (ns.map V.int))) H2' ∧ H2' S = some (.lst [.ref L, .int c1', .int (c2 + 1), .int c3']) ∧ H2' L = some (.lst (ns'.map V.int)) ∧ 0 ≤ c1' ∧ 0 ≤ c3' ∧ c3' < 2147483647, v1, v2,
      ⟨S, L, c1, c2, c3, ns, k, rfl, by rw [upd_ne hne, upd_same], upd_same, hne, g1, g2, by omega, g4, g5, hk, hk', fun d H' c1' c3' ns' a1 a2 a3 a4 a5 a6 a7 => ⟨d, c1', c3', ns', rfl, a1, a2, a3, a4, a5, a6, a7⟩⟩, ?_⟩
    rintro v H2' h' hok' ⟨d, c1', c3', ns', rfl, a1, a2, a3, a4, a5, a6, a7⟩
    obtain ⟨w1, w2, _⟩ := to_strm (m := n + 1) hok' a3 a4 a5 (by omega) (by omega) a6 a7
    refine ⟨_, w1, w2, q d _ a1 (fun b o e1 e2 e => ?_) ⟨n + 1, Nat.le_refl _, by rw [upd_ne hne, upd_same], upd_same⟩⟩
    rw [upd_ne e2, upd_ne e1]
    exact a2 b o e1 e2 (by rw [upd_ne e2, upd_ne e1]; exact e))
end
end WH
set_option Elab.async false
set_option linter.all false
set_option maxRecDepth 100000
set_option maxHeartbeats 2000000
namespace WH
open PySem PySem.Spec PyProof.Rows L2 WM LamX
theorem KD.trans {S L : Addr} {H H1 H2 : Hp} (a : KD S L H H1) (b : KD S L H1 H2) : KD S L H H2 := fun c o h1 h2 e => b c o h1 h2 (a c o h1 h2 e)
theorem KD.of {S L : Addr} {H H' : Hp} (s : Same H H') : KD S L H H' := fun b o _ _ e => s b o e
theorem KD.refl {S L : Addr} {H : Hp} : KD S L H H := fun b o _ _ e => e
theorem KD.own {S L : Addr} {H H' : Hp} {p : Addr} {o : HO} (k : KD S L H H') (h : H p = none) : KD S L H (upd H' p o) := fun b x h1 h2 e => by
  rw [upd_ne (ne_of_none e h)]
  exact k b x h1 h2 e
theorem Dr.nS {S L : Addr} {H : Hp} {n : Nat} (d : Dr S L H n) {b : Addr} {o : HO} (h : H b = some o) (he : ∀ φ, o ≠ .ext φ) : b ≠ S ∧ b ≠ L := by
  obtain ⟨m, _, h1, h2⟩ := d
  refine ⟨fun e => ?_, fun e => ?_⟩
  · rw [e, h1] at h
    injection h with h
    exact he _ h.symm
  · rw [e, h2] at h
    injection h with h
    exact he _ h.symm
theorem Dr.same {S L : Addr} {H H' : Hp} {n : Nat} (d : Dr S L H n) (s : Same H H') : Dr S L H' n := let ⟨m, h, h1, h2⟩ := d; ⟨m, h, s _ _ h1, s _ _ h2⟩
theorem Dr.new {S L : Addr} {H : Hp} {n : Nat} (d : Dr S L H n) {p : Addr} (h : H p = none) : p ≠ S ∧ p ≠ L := by
  obtain ⟨m, _, h1, h2⟩ := d
  exact ⟨(fun e => by rw [e, h1] at h; cases h), fun e => by rw [e, h2] at h; cases h⟩
theorem Dr.upd {S L : Addr} {H : Hp} {n : Nat} (d : Dr S L H n) {p : Addr} {o : HO} (h1 : p ≠ S) (h2 : p ≠ L) : Dr S L (upd H p o) n := let ⟨m, h, g1, g2⟩ := d; ⟨m, h, by rw [upd_ne h1.symm]; exact g1, by rw [upd_ne h2.symm]; exact g2⟩
theorem Dr.kg {S L : Addr} {H H' : Hp} {n : Nat} (d : Dr S L H n) (k : KD S L H H') : Kg H H' := fun b o g e => by
  obtain ⟨h1, h2⟩ := d.nS e fun φ z => by rw [z] at g; exact g
  exact k b o h1 h2 e
theorem Dr.ext {S L : Addr} {H H' : Hp} {n : Nat} (d : Dr S L H n) (e : ExtN H H') : Dr S L H' n := let ⟨m, h, h1, h2⟩ := d; ⟨m, h, e _ _ h1 (fun _ z => nomatch z), e _ _ h2 (fun _ z => nomatch z)⟩
theorem Dr.free {S L : Addr} {H H' : Hp} {n : Nat} (d : Dr S L H n) (k : KD S L H H') {n' : Nat} (d' : Dr S L H' n') {p : Addr} (h : H' p = none) : H p = none := by
  cases e : H p with
  | none => rfl
  | some o =>
    obtain ⟨h1, h2⟩ := d'.new h
    rw [k p o h1 h2 e] at h
    cases h
theorem heap_at (n : Nat) (o : Obj) (hf : o.isFreed = false) : ∃ h : Heap, h.get? n = some o := by
  have sz : ∃ h : Heap, h.objs.size = n := by
    induction n with
    | zero => exact ⟨{}, rfl⟩
    | succ n ih =>
      obtain ⟨h, e⟩ := ih
      exact ⟨h.push o, by rw [Heap.size_push, e]⟩
  obtain ⟨h, e⟩ := sz
  exact ⟨h.push o, by rw [← e]; exact Heap.get?_push_size _ hf⟩
theorem strm_code {S L c : Addr} {m : Nat} {q : Str} {H : Hp} (h1 : H S = some (strmO S L m)) (h2 : H c = some (CodeO c q)) : c ≠ S := fun e => by
  subst e
  rw [h1] at h2
  injection h2 with h2
  injection h2 with h2
  obtain ⟨h, hg⟩ := heap_at c { cls := .type "list", data := .seq ([Value.ref L, .int 0 0, .int 0 0, .int 0 0] : List Value).toArray 0 } rfl
  have t : (fun h => ∃ (c1 c2 c3 : Int) (u : List Value) (n : Nat), Vals [.ref L, .int c1, .int c2, .int c3] u ∧ h.get? c = some { cls := .type "list", data := .seq u.toArray n } ∧ 0 ≤ c1 ∧ 0 ≤ c2 ∧ c2 ≤ m ∧ 0 ≤ c3 ∧ c3 < 2147483647) h :=
    ⟨0, 0, 0, _, 0, .cons rfl (.cons ⟨_, rfl⟩ (.cons ⟨_, rfl⟩ (.cons ⟨_, rfl⟩ .nil))), hg, by decide, by decide, by omega, by decide, by decide⟩
  rw [h2] at t
  obtain ⟨oc, vs, tk, g1, g2, g3⟩ := t
  rw [hg] at g1
  injection g1 with g1
  rw [← g1] at g2
  cases g2
theorem ints_code {L c : Addr} {q : Str} {H : Hp} (h1 : H L = some (intsO L)) (h2 : H c = some (CodeO c q)) : c ≠ L := fun e => by
  subst e
  rw [h1] at h2
  injection h2 with h2
  injection h2 with h2
  obtain ⟨h, hg⟩ := heap_at c { cls := .type "list", data := .seq ([] : List Value).toArray 0 } rfl
  have t : (fun h => ∃ (ns : List Int) (u : List Value) (n : Nat), Vals (ns.map V.int) u ∧ h.get? c = some { cls := .type "list", data := .seq u.toArray n } ∧ ns.length ≤ sizeLine) h :=
    ⟨[], [], 0, .nil, hg, Nat.zero_le _⟩
  rw [h2] at t
  obtain ⟨oc, vs, tk, g1, g2, g3⟩ := t
  rw [hg] at g1
  injection g1 with g1
  rw [← g1] at g2
  cases g2
/-- drawing keeps the code objects' tables -/
theorem tabs_kd {T : List (Addr × Str)} {S L : Addr} {H H' : Hp} {n : Nat} (t : Tabs T H) (d : Dr S L H n) (k : KD S L H H') : Tabs T H' := fun p hp => by
  obtain ⟨ps, a1, a2, a3⟩ := t p hp
  obtain ⟨n1, n2⟩ := d.nS a1 fun _ z => nomatch z
  refine ⟨ps, k _ _ n1 n2 a1, a2, fun p' cv hcv => ?_⟩
  obtain ⟨c0, e1, e2⟩ := a3 p' cv hcv
  obtain ⟨m, _, h1, h2⟩ := d
  exact ⟨c0, e1, k _ _ (strm_code h1 e2) (ints_code h2 e2) e2⟩
theorem seqIx_nat {d n : Nat} (h : d < n) : seqIndex? (d : Int) n = some d := by
  unfold seqIndex?
  have h1 : ¬ ((d : Int) < 0) := by omega
  rw [if_neg h1]
  have h2 : (decide (0 ≤ (d : Int)) && decide ((d : Int) < n)) = true := by
    rw [Bool.and_eq_true, decide_eq_true_eq, decide_eq_true_eq]
    omega
  rw [if_pos h2]
  rfl
theorem erase_perm {α : Type} : ∀ {l : List α} {i : Nat} {x : α}, l[i]? = some x → (x :: l.eraseIdx i).Perm l
  | [], _, _, h => by simp at h
  | y :: l, 0, x, h => by
    have : y = x := by simpa using h
    subst this
    exact List.Perm.refl _
  | y :: l, i + 1, x, h => by
    have h' : l[i]? = some x := by simpa using h
    exact (List.Perm.swap y x _).trans ((erase_perm h').cons y)
section
variable {P : Program} {w : World} {K : PySem.W.Frag} {mg : Str → Option Value} {base : Heap}
/-! ### _law_pick, _law_mixed -/
def sp_pick : Sp := fun vs H Q _ => ∃ (S L a : Addr) (xs : List V) (n : Nat), vs = [.ref S, .ref a] ∧ H a = some (.lst xs) ∧ xs ≠ [] ∧ xs.length ≤ 100000 ∧ Dr S L H n ∧ n ≤ 1000000 ∧ ∀ (d : Nat) x H', xs[d]? = some x → KD S L H H' → Dr S L H' (n + 1) → Q x H'
theorem ok__law_pick {f : Addr} {fd : FuncData} (D : Df K mg "_law_pick" s__law_pick ["_law_stream", "_law_some"] f fd) (T : Bl mg) (G__law_draw : Dn P w K mg base CX0 1 "_law_draw" ["_law_stream", "_law_many"] sp_draw) : Dn P w K mg base CX0 2 "_law_pick" ["_law_stream", "_law_some"] sp_pick := .of D (by
  refine D.fn.ok sc__law_pick (fun vs H Q E h => ?_) (fun cdv A outer s H vs Q E hr h => ?_)
  · obtain ⟨S, L, a, xs, n, rfl, _⟩ := h
    rfl
  · obtain ⟨S, L, a, xs, n, rfl, ha, hne, hl, hd, hn, q⟩ := h
    refine ⟨_, (pss_one (ps_ret (pe_ix (ixL K) (pv 1) (pe_cl G__law_draw (hr.mono (by decide)) (pa_cons (pv 0) (pa_cons (pe_callB (lenA K) (by rfl) T.b_len (by decide +kernel) (pa_cons (pv 1) pa_nil)) pa_nil))) (fun _ _ => rfl)))), ?_⟩
    obtain ⟨n1, n2⟩ := hd.nS ha fun _ z => nomatch z
    refine ⟨_, rfl, _, rfl, _, rfl, a, _, rfl, .inl (SqL.of ha), S, L, xs.length, n, rfl, hd, hn, List.length_pos_iff.2 hne, hl, fun d H' hlt k d' => ?_⟩
    obtain ⟨x, hx⟩ : ∃ x, xs[d]? = some x := ⟨_, List.getElem?_eq_getElem hlt⟩
    exact ⟨a, xs, _, x, rfl, rfl, SqL.of (k _ _ n1 n2 ha), atI_nat hx, q d x H' hx k d'⟩)
def sp_mixed : Sp := fun vs H Q _ => ∃ (S L a : Addr) (xs : List V) (n : Nat), vs = [.ref S, .ref a] ∧ H a = some (.lst xs) ∧ xs.length ≤ 1000 ∧ Dr S L H n ∧ n ≤ 900000 ∧ ∀ p H' ys, H p = none → ys.Perm xs → H' p = some (.lst ys) → KD S L H H' → Dr S L H' (n + xs.length) → Q (.ref p) H'
theorem ok__law_mixed {f : Addr} {fd : FuncData} (D : Df K mg "_law_mixed" s__law_mixed ["_law_stream", "_law_some"] f fd) (T : Bl mg) (G__law_draw : Dn P w K mg base CX0 1 "_law_draw" ["_law_stream", "_law_many"] sp_draw) : Dn P w K mg base CX0 2 "_law_mixed" ["_law_stream", "_law_some"] sp_mixed := .of D (by
  refine D.fn.ok sc__law_mixed (fun vs H Q E h => ?_) (fun cdv A outer s H vs Q E hr h => ?_)
  · obtain ⟨S, L, a, xs, n, rfl, _⟩ := h
    rfl
  · obtain ⟨S, L, a, xs, n, rfl, ha, hl, hd, hn, q⟩ := h
    refine ⟨_, (pss_cons (ps_set (i := 2) sc__law_mixed.nd rfl (Or.inr rfl) (pe_callTy (listOf K) (by rfl) T.b_list (by decide +kernel) (pa_cons (pv 1) pa_nil)))
      (pss_one (ps_ret (pe_lc (own := [("_law_k", 3)]) rfl sc__law_mixed.nd (pi_range1 (by rfl) T.b_range (pa_cons (pe_callB (lenA K) (by rfl) T.b_len (by decide +kernel) (pa_cons (pv 2) pa_nil)) pa_nil)) (blkOk_by (N := ["_law_stream", "_law_some", "_law_left", "_law_k"]) (sc := defScope s__law_mixed) (by decide +kernel)) (fun _ _ _ _ _ => pg_name (i := 3) sc__law_mixed.nd rfl (Or.inl rfl)) (fun _ _ _ _ _ => pts_nil) (fun _ _ _ _ _ => bmK K PySem.F.plainAttrs_list PySem.F.slot_list_pop PySem.F.type_list_pop mt_popAt (pv 2) (pa_cons (pe_cl G__law_draw (hr.mono (by decide)) (pa_cons (pv 0) (pa_cons (pe_callB (lenA K) (by rfl) T.b_len (by decide +kernel) (pa_cons (pv 2) pa_nil)) pa_nil))) pa_nil)))))), ?_⟩
    refine ⟨_, rfl, a, xs, rfl, .inl (SqL.of ha), fun B hB => ?_⟩
    have hdB : Dr S L (upd H B (.lst xs)) n := hd.same (same_upd hB)
    obtain ⟨b1, b2⟩ := hd.new hB
    refine ⟨_, rfl, B, _, rfl, .inl (SqL.of upd_same), _, rfl, by omega, by omega, fun D1 hD1 => ?_⟩
    obtain ⟨c1, c2⟩ := hdB.new hD1
    have hBD : B ≠ D1 := ne_new upd_same hD1
    have hD0 : H D1 = none := Same.none (same_upd hB) hD1
    rw [show ((xs.length : Nat) : Int).toNat = xs.length from Int.toNat_natCast _]
    refine lc_range (lo := 0) (n := xs.length) (fun i H2 => KD S L H H2 ∧ Dr S L H2 (n + i) ∧ ∃ acc rest, H2 D1 = some (.lst acc) ∧ H2 B = some (.lst rest) ∧ acc.length = i ∧ (acc ++ rest).Perm xs)
      ⟨KD.of ((same_upd hB).trans (same_upd hD1)), hdB.same (same_upd hD1), [], xs, upd_same, by rw [upd_ne hBD, upd_same], rfl, List.Perm.refl _⟩ ?_ ?_
    · rintro i H2 hi ⟨kd, dr, acc, rest, hacc, hrest, hal, hperm⟩
      have hrl : rest.length = xs.length - i := by
        have := hperm.length_eq
        rw [List.length_append] at this
        omega
      refine ⟨rfl, ty ⟨_, rfl, .inl ⟨rfl, _, SqL.of hrest⟩, _, rfl, _, rfl, B, _, rfl, .inl (SqL.of hrest), S, L, rest.length, n + i, rfl, dr, by omega, by omega, by omega, fun d H3 hlt k3 d3 => ?_⟩⟩
      have hr3 := k3 _ _ b1 b2 hrest
      have ha3 := k3 _ _ c1 c2 hacc
      obtain ⟨x, hx⟩ : ∃ x, rest[d]? = some x := ⟨_, List.getElem?_eq_getElem hlt⟩
      refine ⟨B, rest, _, d, x, rfl, rfl, hr3, by omega, ?_, seqIx_nat hlt, hx, acc, by rw [upd_ne hBD.symm]; exact ha3, by rw [sizeLine_eq]; omega, ?_⟩
      · have h : (2 : Int) ^ 63 = 9223372036854775808 := by decide
        rw [h]
        omega
      · refine ⟨KD.own (KD.own (kd.trans k3) hB) hD0, (d3.upd b1 b2).upd c1 c2, acc ++ [x], rest.eraseIdx d, upd_same, by rw [upd_ne hBD, upd_same], by rw [List.length_append, List.length_singleton, hal], ?_⟩
        rw [List.append_assoc]
        exact ((erase_perm hx).append_left acc).trans hperm
    · rintro H2 ⟨kd, dr, acc, rest, hacc, hrest, hal, hperm⟩
      have hr0 : rest = [] := by
        have := hperm.length_eq
        rw [List.length_append] at this
        exact List.length_eq_zero_iff.1 (by omega)
      subst hr0
      rw [List.append_nil] at hperm
      exact q D1 H2 acc hD0 hperm hacc kd dr)
end
end WH
set_option Elab.async false
set_option linter.all false
set_option maxRecDepth 100000
set_option maxHeartbeats 2000000
namespace WH
open PySem PySem.Spec PyProof.Rows L2 WM LamX
abbrev s__law_lk_has : Stmt := topS 55
theorem sc__law_lk_has : FnScope ["_law_lock", "_law_place"] ["_law_lock", "_law_place"] (defScope s__law_lk_has) := ⟨rfl, rfl, rfl, by decide +kernel, rfl, by decide +kernel, by decide +kernel⟩
abbrev s__law_lk_clash : Stmt := topS 56
theorem sc__law_lk_clash : FnScope ["_law_one", "_law_other", "_law_last"] ["_law_one", "_law_other"] (defScope s__law_lk_clash) := ⟨rfl, rfl, rfl, by decide +kernel, rfl, by decide +kernel, by decide +kernel⟩
abbrev s__law_lk_far : Stmt := topS 64
theorem sc__law_lk_far : FnScope ["_law_locks", "_law_scale", "_law_found", "_law_owner", "_law_begin", "_law_end", "_law_kind"] ["_law_locks", "_law_scale"] (defScope s__law_lk_far) := ⟨rfl, rfl, rfl, by decide +kernel, rfl, by decide +kernel, by decide +kernel⟩
abbrev s__law_lk_scale : Stmt := topS 63
theorem sc__law_lk_scale : FnScope ["_law_stream"] ["_law_stream"] (defScope s__law_lk_scale) := ⟨rfl, rfl, rfl, by decide +kernel, rfl, by decide +kernel, by decide +kernel⟩
abbrev s__law_each_once : Stmt := topS 70
theorem sc__law_each_once : FnScope ["_law_things", "_law_found", "_law_thing"] ["_law_things"] (defScope s__law_each_once) := ⟨rfl, rfl, rfl, by decide +kernel, rfl, by decide +kernel, by decide +kernel⟩
abbrev s__law_x_cost : Stmt := topS 53
theorem sc__law_x_cost : FnScope ["_law_names", "_law_prices", "_law_name"] ["_law_names", "_law_prices"] (defScope s__law_x_cost) := ⟨rfl, rfl, rfl, by decide +kernel, rfl, by decide +kernel, by decide +kernel⟩
section
variable {P : Program} {w : World} {K : PySem.W.Frag} {mg : Str → Option Value} {base : Heap}
def sp_has : Sp := fun vs H Q _ => ∃ (a : Addr) (l : Lk Str) (p : Int), vs = [.ref a, .int p] ∧ H a = some (.tup (lkV l)) ∧ Q (.bl (hasB l.2 p)) H
theorem ok__law_lk_has {f : Addr} {fd : FuncData} (D : Df K mg "_law_lk_has" s__law_lk_has ["_law_lock", "_law_place"] f fd) : Dn P w K mg base CX0 1 "_law_lk_has" ["_law_lock", "_law_place"] sp_has := .of D (by
  refine D.fn.ok sc__law_lk_has (fun vs H Q E h => ?_) (fun cdv A outer s H vs Q E hr h => ?_)
  · obtain ⟨a, l, p, rfl, _⟩ := h
    rfl
  · obtain ⟨a, ⟨o, b, e, k⟩, p, rfl, ha, q⟩ := h
    refine ⟨_, (pss_one (ps_ret (pe_and (pe_cmpR op_le (pe_ix (ixT K) (pv 0) (pe_int) (fun _ _ => rfl)) (pv 1) (nomark _)) (pe_one (pe_or (pe_cmpR op_isN (pe_ix (ixT K) (pv 0) (pe_int) (fun _ _ => rfl)) (pe_non) (nomark _)) (pe_one (pe_cmpR op_lt (pv 1) (pe_ix (ixT K) (pv 0) (pe_int) (fun _ _ => rfl)) (nomark _)))))))), ?_⟩
    refine ⟨_, rfl, _, _, _, _, rfl, rfl, SqT.of ha, rfl, _, rfl, _, _, rfl, rfl, _, rfl, ?_⟩
    unfold hasB at q
    by_cases c : b ≤ p
    · rw [decide_eq_true c]
      rw [show decide ((b, e, k).1 ≤ p) = true from decide_eq_true c, Bool.true_and] at q
      refine iteT ⟨_, rfl, _, _, _, _, rfl, rfl, SqT.of ha, rfl, ⟨rfl, _, rfl, ?_⟩⟩
      rw [eV_non]
      cases e with
      | none => exact iteT q
      | some z => exact iteF ⟨_, rfl, _, rfl, _, _, _, _, rfl, rfl, SqT.of ha, rfl, _, _, rfl, rfl, q⟩
    · rw [decide_eq_false c]
      rw [show decide ((b, e, k).1 ≤ p) = false from decide_eq_false c, Bool.false_and] at q
      exact iteF q)
def sp_clash : Sp := fun vs H Q _ => ∃ (a b : Addr) (l m : Lk Str), vs = [.ref a, .ref b] ∧ H a = some (.tup (lkV l)) ∧ H b = some (.tup (lkV m)) ∧ ∀ H', Same H H' → Q (.bl (lawClash l m)) H'
theorem max_if (i j : Int) : (if j > i then j else i) = max i j := by
  rw [Int.max_def]
  split <;> split <;> omega
theorem ok__law_lk_clash {f : Addr} {fd : FuncData} (D : Df K mg "_law_lk_clash" s__law_lk_clash ["_law_one", "_law_other"] f fd) (T : Bl mg) (G__law_lk_has : Dn P w K mg base CX0 1 "_law_lk_has" ["_law_lock", "_law_place"] sp_has) : Dn P w K mg base CX0 2 "_law_lk_clash" ["_law_one", "_law_other"] sp_clash := .of D (by
  refine D.fn.ok sc__law_lk_clash (fun vs H Q E h => ?_) (fun cdv A outer s H vs Q E hr h => ?_)
  · obtain ⟨a, b, l, m, rfl, _⟩ := h
    rfl
  · obtain ⟨a, b, l, m, rfl, ha, hb, q⟩ := h
    refine ⟨_, (pss_cons (ps_if (PW.pt (pw_or (pt_cmpR op_eq (pe_ix (ixT K) (pv 0) (pe_int) (fun _ _ => rfl)) (pe_ix (ixT K) (pv 1) (pe_int) (fun _ _ => rfl)) (nomark _)) (pw_or1 (pt_cmpR (ninSq K) (pe_str) (pe_tup (pa_cons (pe_ix (ixT K) (pv 0) (pe_int) (fun _ _ => rfl)) (pa_cons (pe_ix (ixT K) (pv 1) (pe_int) (fun _ _ => rfl)) pa_nil))) rfl)))) (pss_one (ps_ret (pe_bl))) pss_nil)
      (pss_cons (ps_set (i := 2) sc__law_lk_clash.nd rfl (Or.inl rfl) (pe_callB (call_max2 rfl) (by rfl) T.b_max (by decide +kernel) (pa_cons (pe_ix (ixT K) (pv 0) (pe_int) (fun _ _ => rfl)) (pa_cons (pe_ix (ixT K) (pv 1) (pe_int) (fun _ _ => rfl)) pa_nil))))
      (pss_one (ps_ret (pe_and (pe_cl G__law_lk_has (hr.mono (by decide)) (pa_cons (pv 0) (pa_cons (pv 2) pa_nil))) (pe_one (pe_cl G__law_lk_has (hr.mono (by decide)) (pa_cons (pv 1) (pa_cons (pv 2) pa_nil))))))))), ?_⟩
    by_cases c : l.1 = m.1
    · have e : decide (V.str l.1 = V.str m.1) = true := by rw [c]; simp
      have := q H (Same.refl H)
      unfold lawClash at this
      rw [show decide (l.1 ≠ m.1) = false from decide_eq_false (fun z => z c), Bool.false_and, Bool.false_and] at this
      refine ⟨_, rfl, _, _, _, _, rfl, rfl, SqT.of ha, rfl, ⟨_, rfl, _, _, _, _, rfl, rfl, SqT.of hb, rfl, ⟨rfl, _, rfl, ?_⟩⟩⟩
      rw [e]
      exact this
    · have e : decide (V.str l.1 = V.str m.1) = false := decide_eq_false fun z => c (by injection z)
      refine ⟨_, rfl, _, _, _, _, rfl, rfl, SqT.of ha, rfl, ⟨_, rfl, _, _, _, _, rfl, rfl, SqT.of hb, rfl, ⟨rfl, _, rfl, ?_⟩⟩⟩
      rw [e]
      refine iteF ?_
      refine ⟨_, rfl, _, _, _, _, rfl, rfl, SqT.of ha, rfl, ⟨_, rfl, _, _, _, _, rfl, rfl, SqT.of hb, rfl, ⟨sz2, fun p hp => ?_⟩⟩⟩
      refine ⟨p, _, rfl, .inr (SqT.of upd_same), rfl, rfl, _, rfl, ?_⟩
      rw [if_pos rfl, kS_two]
      have ha' := same_upd (o := .tup [.str (kS l.2.2.2), .str (kS m.2.2.2)]) hp _ _ ha
      have hb' := same_upd (o := .tup [.str (kS l.2.2.2), .str (kS m.2.2.2)]) hp _ _ hb
      have q := q _ (same_upd (o := .tup [.str (kS l.2.2.2), .str (kS m.2.2.2)]) hp)
      unfold lawClash at q
      rw [show decide (l.1 ≠ m.1) = true from decide_eq_true c, Bool.true_and] at q
      by_cases c2 : (l.2.2.2 || m.2.2.2) = true
      · rw [c2]
        rw [c2, Bool.true_and] at q
        refine iteF ⟨_, rfl, _, _, _, _, rfl, rfl, SqT.of ha', rfl, _, rfl, _, _, _, _, rfl, rfl, SqT.of hb', rfl, l.2.1, m.2.1, rfl, ?_⟩
        rw [max_if]
        refine ⟨_, rfl, _, rfl, a, l, _, rfl, ha', _, rfl, ?_⟩
        by_cases c3 : hasB l.2 (max l.2.1 m.2.1) = true
        · rw [c3, Bool.true_and] at q
          rw [c3]
          exact iteT ⟨_, rfl, _, rfl, b, m, _, rfl, hb', q⟩
        · rw [Bool.not_eq_true] at c3
          rw [c3, Bool.false_and] at q
          rw [c3]
          exact iteF q
      · rw [Bool.not_eq_true] at c2
        rw [c2]
        rw [c2, Bool.false_and] at q
        exact iteT q)
/-! ### each once, the cost -/
theorem onceStep_len (xs : List Str) (i : Nat) : (onceL (xs.take i)).length ≤ xs.length := Nat.le_trans (onceL_len _) (by rw [List.length_take]; omega)
def sp_once (K : PySem.W.Frag) : Sp := fun vs H Q _ => ∃ (a : Addr) (xs : List Str), vs = [.ref a] ∧ SqL K H a (xs.map V.str) ∧ xs.length ≤ 100000 ∧
  ∀ p H', H p = none → Same H H' → H' p = some (.lst ((onceL xs).map V.str)) → Q (.ref p) H'
theorem ok__law_each_once {f : Addr} {fd : FuncData} (D : Df K mg "_law_each_once" s__law_each_once ["_law_things"] f fd) : Dn P w K mg base CX0 1 "_law_each_once" ["_law_things"] (sp_once K) := .of D (by
  refine D.fn.ok sc__law_each_once (fun vs H Q E h => ?_) (fun cdv A outer s H vs Q E hr h => ?_)
  · obtain ⟨a, xs, rfl, _⟩ := h
    rfl
  · obtain ⟨a, xs, rfl, ha, hz, q⟩ := h
    refine ⟨_, (pss_cons (ps_set (i := 1) sc__law_each_once.nd rfl (Or.inl rfl) (pe_lst pa_nil))
      (pss_cons (ps_for PassesOwn.never rfl (pil K (pv 0)) (pg_name (i := 2) sc__law_each_once.nd rfl (Or.inl rfl))
        (pss_one (ps_if (pt_cmpR (ninSq K) (pv 2) (pv 1) rfl) (pss_one (ps_expr (bmK K PySem.F.plainAttrs_list PySem.F.slot_list_append PySem.F.type_list_append mt_append (pv 1) (pa_cons (pv 2) pa_nil)))) pss_nil)))
      (pss_one (ps_ret (pv 1))))), ?_⟩
    refine ⟨Nat.zero_le _, fun d hd => ?_⟩
    refine ⟨_, rfl, a, rfl, ⟨_, (Kg.of (same_upd hd)).seq ha⟩, for_list (K := K) (a := a) (xs := xs.map V.str) (fun i σ H2 => ∃ v, σ = [some (.ref a), some (.ref d), v] ∧ Same H H2 ∧ H2 d = some (.lst ((onceL (xs.take i)).map V.str)))
      ⟨none, rfl, same_upd hd, upd_same⟩ (fun i σ H2 _ ⟨_, _, s2, _⟩ => (Kg.of s2).seq ha) ?_ ?_⟩
    · rintro i y σ H2 hi ⟨v, rfl, s2, hk⟩
      rw [List.getElem?_map] at hi
      cases e : xs[i]? with
      | none => rw [e] at hi; cases hi
      | some x =>
        rw [e] at hi
        injection hi with hi
        subst hi
        have hl := onceStep_len xs i
        have step : onceL (xs.take (i + 1)) = onceStep (onceL (xs.take i)) x := by rw [List.take_add_one, e, Option.toList_some, onceL_snoc]
        refine ⟨_, rfl, _, rfl, d, _, rfl, .inl (SqL.of hk), rfl, strs_flat _, _, rfl, ?_⟩
        rw [if_pos rfl, inV_strs]
        by_cases c : x ∈ onceL (xs.take i)
        · rw [decide_eq_true c]
          exact iteF ⟨some (.str x), rfl, s2, by rw [step, onceStep, if_pos c]; exact hk⟩
        · rw [decide_eq_false c]
          refine iteT ⟨_, rfl, .inl ⟨rfl, _, SqL.of hk⟩, _, rfl, d, _, _, rfl, rfl, hk, by rw [List.length_map, sizeLine_eq]; omega, some (.str x), rfl, Same.own s2 hd, ?_⟩
          rw [upd_same, step, onceStep, if_neg c, List.map_append]
          rfl
    · rintro σ H2 ⟨v, rfl, s2, hk⟩
      rw [List.length_map, List.take_length] at hk
      exact ⟨_, rfl, q d _ hd s2 hk⟩)
def sp_x_cost (K : PySem.W.Frag) : Sp := fun vs H Q _ => ∃ (a d : Addr) (s names : List Str) (pr : Str → Int), vs = [.ref a, .ref d] ∧ H a = some (.tup (s.map V.str)) ∧ PrOk H d names pr ∧ (∀ x ∈ s, x ∈ names) ∧ s.length ≤ 100000 ∧
  ∀ H', Same H H' → Q (.int (s.map pr).sum) H'
theorem ok__law_x_cost {f : Addr} {fd : FuncData} (D : Df K mg "_law_x_cost" s__law_x_cost ["_law_names", "_law_prices"] f fd) (T : Bl mg) : Dn P w K mg base CX0 1 "_law_x_cost" ["_law_names", "_law_prices"] (sp_x_cost K) := .of D (by
  refine D.fn.ok sc__law_x_cost (fun vs H Q E h => ?_) (fun cdv A outer s H vs Q E hr h => ?_)
  · obtain ⟨a, d, s, names, pr, rfl, _⟩ := h
    rfl
  · obtain ⟨a, d, s, names, pr, rfl, ha, ⟨kvs, hd, hv, _, _⟩, hs, hl, q⟩ := h
    have hu := hu_of hr
    refine ⟨_, (pss_one (ps_ret (pe_callB (sumK K) (by rfl) T.b_sum (by decide +kernel) (pa_cons (pe_lc (own := [("_law_name", 2)]) rfl sc__law_x_cost.nd (pit K (pv 0)) (blkOk_by (N := ["_law_names", "_law_prices", "_law_name"]) (sc := defScope s__law_x_cost) (by decide +kernel)) (fun _ _ _ _ _ => pg_name (i := 2) sc__law_x_cost.nd rfl (Or.inl rfl)) (fun _ _ _ _ _ => pts_nil) (fun _ _ _ _ _ => pe_dget hu (pv 1) (pv 2) (fun _ _ => rfl))) pa_nil)))), ?_⟩
    refine ⟨_, rfl, a, rfl, ⟨_, SqT.of ha⟩, fun D1 hD1 => lc_T (R := rS) (S := rV V.int) (as := s) rV_mono rV_gr (fun x => some (pr x)) hD1 (SqT.of ha) (rV_paired s) (by rw [List.length_map]; exact hl) (fun i y x hx H2 s2 hy N Z hN hZ => ?_) fun H2 ys s2 hy hyp => ?_⟩
    · rw [show y = V.str x from hy]
      refine ⟨rfl, ty ⟨_, rfl, _, rfl, d, _, rfl, hv x (hs x (List.mem_of_getElem? hx)) ▸ DGet.k (k := Sum.inr x) (s2 _ _ hd), hN _ _ _ (Same.refl _) rfl rfl⟩⟩
    · rw [filterMap_some] at hyp
      refine ⟨D1, s.map pr, rfl, SqL.of (by rw [hy, paired_rV hyp]), q H2 s2⟩)
/-! ### far -/
def sp_far (K : PySem.W.Frag) : Sp := fun vs H Q _ => ∃ (a : Addr) (xs : List V) (ls : List (Lk Str)) (sc : Int), vs = [.ref a, .int sc] ∧ H a = some (.lst xs) ∧ Paired (rLk H) xs ls ∧ ls.length ≤ 100000 ∧ 0 < sc ∧ sc ≤ 10000000 ∧
  ∀ p H' ys, H p = none → Same H H' → H' p = some (.lst ys) → Paired (rLk H') ys (ls.map (farL sc)) → Q (.ref p) H'
theorem eV_map (e : Option Int) (s : Int) : eV (e.map (· * s)) = match e with | none => .non | some z => .int (z * s) := by cases e <;> rfl
theorem ok__law_lk_far {f : Addr} {fd : FuncData} (D : Df K mg "_law_lk_far" s__law_lk_far ["_law_locks", "_law_scale"] f fd) : Dn P w K mg base CX0 1 "_law_lk_far" ["_law_locks", "_law_scale"] (sp_far K) := .of D (by
  refine D.fn.ok sc__law_lk_far (fun vs H Q E h => ?_) (fun cdv A outer s H vs Q E hr h => ?_)
  · obtain ⟨a, xs, ls, sc, rfl, _⟩ := h
    rfl
  · obtain ⟨a, xs, ls, sc, rfl, ha, hp, hz, hs0, hs1, q⟩ := h
    refine ⟨_, (pss_cons (ps_set (i := 2) sc__law_lk_far.nd rfl (Or.inl rfl) (pe_lst pa_nil))
      (pss_cons (ps_for PassesOwn.never rfl (pil K (pv 0)) (tupG K (n := 4) rfl (pgs_cons (pg_name (i := 3) sc__law_lk_far.nd rfl (Or.inl rfl)) (pgs_cons (pg_name (i := 4) sc__law_lk_far.nd rfl (Or.inl rfl)) (pgs_cons (pg_name (i := 5) sc__law_lk_far.nd rfl (Or.inl rfl)) (pgs_cons (pg_name (i := 6) sc__law_lk_far.nd rfl (Or.inl rfl)) pgs_nil)))))
        (pss_one (ps_expr (bmK K PySem.F.plainAttrs_list PySem.F.slot_list_append PySem.F.type_list_append mt_append (pv 2) (pa_cons (pe_tup (pa_cons (pv 3) (pa_cons (pe_op op_mul (pv 4) (pv 1)) (pa_cons (pe_ifExp (pt_cmpR op_isN (pv 5) (pe_non) (nomark _)) (pe_non) (pe_op op_mul (pv 5) (pv 1))) (pa_cons (pv 6) pa_nil))))) pa_nil)))))
      (pss_one (ps_ret (pv 2))))), ?_⟩
    refine ⟨Nat.zero_le _, fun d hd => ?_⟩
    have hxl : xs.length = ls.length := hp.length
    refine ⟨_, rfl, a, rfl, ⟨_, SqL.of (same_upd hd _ _ ha)⟩, for_list (K := K) (a := a) (xs := xs) (fun i σ H2 => ∃ v1 v2 v3 v4, σ = [some (.ref a), some (.int sc), some (.ref d), v1, v2, v3, v4] ∧ Same H H2 ∧ ∃ ys, H2 d = some (.lst ys) ∧ ys.length = i ∧ Paired (rLk H2) ys ((ls.take i).map (farL sc)))
      ⟨none, none, none, none, rfl, same_upd hd, [], upd_same, rfl, .nil⟩ (fun i σ H2 _ ⟨_, _, _, _, _, s2, _⟩ => SqL.of (s2 _ _ ha)) ?_ ?_⟩
    · rintro i y σ H2 hi ⟨v1, v2, v3, v4, rfl, s2, ys, hk, hyl, hyp⟩
      obtain ⟨⟨o, b, e, k⟩, hc, la, rfl, hla⟩ := paired_get hp hi
      have hil : i < xs.length := (List.getElem?_eq_some_iff.mp hi).1
      have hla2 := s2 _ _ hla
      refine ⟨la, _, rfl, SqT.of hla2, rfl, _, _, rfl, _, _, rfl, _, _, rfl, _, _, rfl, rfl, ?_⟩
      have fin : ∀ p : Addr, H2 p = none → ∃ F zs y, V.ref d = V.ref F ∧ [V.ref p] = [y] ∧ upd H2 p (.tup (lkV (farL sc (o, b, e, k)))) F = some (.lst zs) ∧ zs.length < sizeLine ∧ (∃ v1 v2 v3 v4, [some (.ref a), some (.int sc), some (.ref d), some (.str o), some (.int b), some (eV e), some (.str (kS k))] = [some (.ref a), some (.int sc), some (.ref d), v1, v2, v3, v4] ∧ Same H (upd (upd H2 p (.tup (lkV (farL sc (o, b, e, k))))) F (.lst (zs ++ [y]))) ∧ ∃ ys, upd (upd H2 p (.tup (lkV (farL sc (o, b, e, k))))) F (.lst (zs ++ [y])) d = some (.lst ys) ∧ ys.length = i + 1 ∧ Paired (rLk (upd (upd H2 p (.tup (lkV (farL sc (o, b, e, k))))) F (.lst (zs ++ [y])))) ys ((ls.take (i + 1)).map (farL sc))) := by
        intro p hp0
        have hpd : d ≠ p := ne_new hk hp0
        have hk4 : upd H2 p (.tup (lkV (farL sc (o, b, e, k)))) d = some (.lst ys) := by rw [upd_ne hpd]; exact hk
        refine ⟨d, ys, _, rfl, rfl, hk4, by rw [sizeLine_eq]; omega, _, _, _, _, rfl, Same.own (s2.trans (same_upd hp0)) hd, _, upd_same, by rw [List.length_append, List.length_singleton, hyl], ?_⟩
        rw [List.take_add_one, hc, Option.toList_some, List.map_append]
        refine Paired.app (rTup_gr.fl.all hk4 (rTup_gr.mono.all (Kg.of (same_upd hp0)) hyp)) (.cons ⟨p, rfl, ?_⟩ .nil)
        rw [upd_ne hpd.symm, upd_same]
      have hcm : ∀ x : Int, CMul x sc := fun x => .inr ⟨by omega, by omega⟩
      refine ⟨_, rfl, .inl ⟨rfl, _, SqL.of hk⟩, _, rfl, _, rfl, _, rfl, b, sc, rfl, rfl, hcm b, _, rfl, rfl, _, rfl, ?_⟩
      rw [eV_non]
      cases e with
      | none => exact iteT ⟨_, rfl, sz4, fun p hp0 => fin p hp0⟩
      | some z => exact iteF ⟨_, rfl, _, rfl, z, sc, rfl, rfl, hcm z, _, rfl, sz4, fun p hp0 => fin p hp0⟩
    · rintro σ H2 ⟨v1, v2, v3, v4, rfl, s2, ys, hk, hyl, hyp⟩
      rw [hxl, List.take_length] at hyp
      exact ⟨_, rfl, q d _ ys hd s2 hk hyp⟩)
end
end WH
set_option Elab.async false
set_option linter.all false
set_option maxRecDepth 100000
set_option maxHeartbeats 2000000
namespace WH
open PySem PySem.Spec PyProof.Rows L2 WM LamX
abbrev s__law_lk_lock : Stmt := topS 54
theorem sc__law_lk_lock : FnScope ["_law_stream", "_law_owners", "_law_ends", "_law_begin", "_law_end"] ["_law_stream", "_law_owners", "_law_ends"] (defScope s__law_lk_lock) := ⟨rfl, rfl, rfl, by decide +kernel, rfl, by decide +kernel, by decide +kernel⟩
section
variable {P : Program} {w : World} {K : PySem.W.Frag} {mg : Str → Option Value} {base : Heap}
theorem CPow_ok {i j : Int} (h1 : 0 ≤ j) (h2 : j ≤ 1000000) (h3 : i.natAbs < 100000) : CPow i j := ⟨h1, h2, Nat.lt_of_lt_of_le h3 (by decide)⟩
/-- one of a list of scalars: the walk of _law_pick over a list just made -/
theorem pick_new {S L : Addr} {H : Hp} {n : Nat} {xs : List V} {Q : VK} {p : Addr} (hd : Dr S L H n) (hn : n ≤ 1000000) (hp : H p = none) (hne : xs ≠ []) (hl : xs.length ≤ 100000)
    (q : ∀ x H', x ∈ xs → KD S L (upd H p (.lst xs)) H' → KD S L H H' → Dr S L H' (n + 1) → Q x H') : sp_pick [.ref S, .ref p] (upd H p (.lst xs)) Q E0 :=
  ⟨S, L, p, xs, n, rfl, upd_same, hne, hl, hd.same (same_upd hp), hn, fun d x H' hx k d' => q x H' (List.mem_of_getElem? hx) k ((KD.of (same_upd hp)).trans k) d'⟩
def LkIn (os : List Str) (l : Lk Str) : Prop := l.1 ∈ os ∧ Near 40 l
def sp_lk_lock : Sp := fun vs H Q _ => ∃ (S L a : Addr) (os : List Str) (n : Nat), vs = [.ref S, .ref a, .int 9] ∧ H a = some (.lst (os.map V.str)) ∧ os ≠ [] ∧ os.length ≤ 100000 ∧ Dr S L H n ∧ n ≤ 900000 ∧
  ∀ p l H' n', H p = none → H' p = some (.tup (lkV l)) → LkIn os l → KD S L H H' → n' ≤ n + 10 → Dr S L H' n' → Q (.ref p) H'
theorem kS_pick {x : V} (h : x ∈ [V.str "read", V.str "read", V.str "write"]) : ∃ k, x = .str (kS k) := by
  simp only [List.mem_cons, List.not_mem_nil, or_false] at h
  rcases h with rfl | rfl | rfl
  · exact ⟨false, rfl⟩
  · exact ⟨false, rfl⟩
  · exact ⟨true, rfl⟩
theorem ok__law_lk_lock {f : Addr} {fd : FuncData} (D : Df K mg "_law_lk_lock" s__law_lk_lock ["_law_stream", "_law_owners", "_law_ends"] f fd) (G__law_draw : Dn P w K mg base CX0 1 "_law_draw" ["_law_stream", "_law_many"] sp_draw) (G__law_pick : Dn P w K mg base CX0 2 "_law_pick" ["_law_stream", "_law_some"] sp_pick) : Dn P w K mg base CX0 3 "_law_lk_lock" ["_law_stream", "_law_owners", "_law_ends"] sp_lk_lock := .of D (by
  refine D.fn.ok sc__law_lk_lock (fun vs H Q E h => ?_) (fun cdv A outer s H vs Q E hr h => ?_)
  · obtain ⟨S, L, a, os, n, rfl, _⟩ := h
    rfl
  · obtain ⟨S, L, a, os, n, rfl, ha, hne, hl, hd, hn, q⟩ := h
    refine ⟨_, (pss_cons (ps_set (i := 3) sc__law_lk_lock.nd rfl (Or.inl rfl) (pe_cl G__law_draw (hr.mono (by decide)) (pa_cons (pv 0) (pa_cons (pe_int) pa_nil))))
      (pss_cons (ps_set (i := 4) sc__law_lk_lock.nd rfl (Or.inl rfl) (pe_ifExp (pt_cmpR op_eq (pe_cl G__law_draw (hr.mono (by decide)) (pa_cons (pv 0) (pa_cons (pv 2) pa_nil))) (pe_int) (nomark _)) (pe_non) (pe_op op_add (pe_op op_add (pv 3) (pe_int)) (pe_cl G__law_draw (hr.mono (by decide)) (pa_cons (pv 0) (pa_cons (pe_int) pa_nil))))))
      (pss_one (ps_ret (pe_tup (pa_cons (pe_cl G__law_pick (hr.mono (by decide)) (pa_cons (pv 0) (pa_cons (pv 1) pa_nil))) (pa_cons (pv 3) (pa_cons (pv 4) (pa_cons (pe_cl G__law_pick (hr.mono (by decide)) (pa_cons (pv 0) (pa_cons (pe_lst (pa_cons (pe_str) (pa_cons (pe_str) (pa_cons (pe_str) pa_nil)))) pa_nil))) pa_nil))))))))), ?_⟩
    obtain ⟨a1, a2⟩ := hd.nS ha fun _ z => nomatch z
    refine ⟨_, rfl, S, L, 12, n, rfl, hd, by omega, by decide, by decide, fun b H1 hb k1 d1 => ?_⟩
    refine ⟨_, rfl, _, rfl, S, L, 9, n + 1, rfl, d1, by omega, by decide, by decide, fun c H2 hc k2 d2 => ?_⟩
    have post : ∀ (e : Option Int) (H3 : Hp) (n3 : Nat), (∀ z, e = some z → (b : Int) < z ∧ z ≤ 40) → KD S L H H3 → n3 ≤ n + 5 → Dr S L H3 n3 → tRet
      (tTup
        (tCons (tCall sp_pick [] E0 (tCons (tVar 0) (tCons (tVar 1) tNil)))
          (tCons (tVar 3)
            (tCons (tVar 4)
              (tCons
                (tCall sp_pick [] E0
                  (tCons (tVar 0)
                    (tCons (tLst (tCons (tC (V.str "read")) (tCons (tC (V.str "read")) (tCons (tC (V.str "write")) tNil))))
                      tNil)))
                tNil))))) { nx := fun x H' => Q V.non H', rt := Q } [some (.ref S), some (.ref a), some (.int 9), some (.int b), some (eV e)] H3 := by
      intro e H3 n3 he k3 hn3 d3
      refine ⟨_, rfl, _, rfl, S, L, a, _, n3, rfl, k3 _ _ a1 a2 ha, by simpa using hne, by rw [List.length_map]; exact hl, d3, by omega, fun i x H4 hx k4 d4 => ?_⟩
      obtain ⟨o, ho, rfl⟩ := List.mem_map.1 (List.mem_of_getElem? hx)
      refine ⟨_, rfl, _, rfl, _, rfl, sz3, fun p hp => pick_new d4 (by omega) hp (by decide) (by decide) fun y H5 hy _ k5 d5 => ?_⟩
      obtain ⟨k, rfl⟩ := kS_pick hy
      refine ⟨sz4, fun p2 hp2 => ?_⟩
      have k5' : KD S L H H5 := (k3.trans k4).trans k5
      have hp0 : H p2 = none := hd.free k5' d5 hp2
      obtain ⟨p1, p2'⟩ := d5.new hp2
      refine q p2 (o, b, e, k) _ (n3 + 1 + 1) hp0 upd_same ⟨ho, ⟨⟨by show (0 : Int) ≤ b; omega, fun z hz => (he z hz).1⟩, by show (b : Int) ≤ _; omega, fun z hz => (he z hz).2⟩⟩ (k5'.own hp0) (by omega) (d5.upd p1 p2')
    refine ⟨rfl, _, rfl, ?_⟩
    by_cases c0 : decide (V.int (c : Int) = .int 0) = true
    · rw [c0]
      exact iteT (post none H2 _ (fun z hz => nomatch hz) (k1.trans k2) (by omega) d2)
    · rw [Bool.not_eq_true] at c0
      rw [c0]
      refine iteF ⟨_, rfl, _, _, rfl, rfl, _, rfl, S, L, 8, n + 1 + 1, rfl, d2, by omega, by decide, by decide, fun z H3 hz k3 d3 => ?_⟩
      exact ⟨_, _, rfl, rfl, post (some _) H3 _ (fun w hw => by injection hw with hw; omega) ((k1.trans k2).trans k3) (by omega) d3⟩)
def sp_scale : Sp := fun vs H Q _ => ∃ (S L : Addr) (n : Nat), vs = [.ref S] ∧ Dr S L H n ∧ n ≤ 900000 ∧ ∀ (sc : Int) H', 0 < sc → sc ≤ 10000000 → KD S L H H' → Dr S L H' (n + 1) → Q (.int sc) H'
theorem ok__law_lk_scale {f : Addr} {fd : FuncData} (D : Df K mg "_law_lk_scale" s__law_lk_scale ["_law_stream"] f fd) (G__law_pick : Dn P w K mg base CX0 2 "_law_pick" ["_law_stream", "_law_some"] sp_pick) : Dn P w K mg base CX0 3 "_law_lk_scale" ["_law_stream"] sp_scale := .of D (by
  refine D.fn.ok sc__law_lk_scale (fun vs H Q E h => ?_) (fun cdv A outer s H vs Q E hr h => ?_)
  · obtain ⟨S, L, n, rfl, _⟩ := h
    rfl
  · obtain ⟨S, L, n, rfl, hd, hn, q⟩ := h
    refine ⟨_, (pss_one (ps_ret (pe_cl G__law_pick (hr.mono (by decide)) (pa_cons (pv 0) (pa_cons (pe_lst (pa_cons (pe_int) (pa_cons (pe_int) (pa_cons (pe_int) (pa_cons (pe_int) (pa_cons (pe_int) (pa_cons (pe_op op_pow (pe_int) (pe_int)) pa_nil))))))) pa_nil))))), ?_⟩
    refine ⟨_, rfl, _, _, rfl, rfl, CPow_ok (by decide) (by decide) (by decide), by rw [sizeLine_eq]; decide, fun p hp => pick_new hd (by omega) hp (by decide) (by decide) fun x H' hx _ k d => ?_⟩
    simp only [List.mem_cons, List.not_mem_nil, or_false] at hx
    rcases hx with rfl | rfl | rfl | rfl | rfl | rfl <;> exact q _ H' (by decide) (by decide) k d)
end
end WH
set_option Elab.async false
set_option linter.all false
set_option maxRecDepth 100000
set_option maxHeartbeats 2000000
namespace WH
open PySem PySem.Spec PyProof.Rows L2 WM LamX
abbrev s__law_x_prices : Stmt := topS 52
theorem sc__law_x_prices : FnScope ["_law_stream", "_law_names", "_law_some", "_law_name"] ["_law_stream", "_law_names"] (defScope s__law_x_prices) := ⟨rfl, rfl, rfl, by decide +kernel, rfl, by decide +kernel, by decide +kernel⟩
theorem Kg.l {H H' : Hp} (k : Kg H H') {b : Addr} {xs : List V} (h : H b = some (.lst xs)) : H' b = some (.lst xs) := k _ _ trivial h
theorem Kg.t {H H' : Hp} (k : Kg H H') {b : Addr} {xs : List V} (h : H b = some (.tup xs)) : H' b = some (.tup xs) := k _ _ trivial h
theorem Kg.d {H H' : Hp} (k : Kg H H') {b : Addr} {kvs : List (Key × V)} (h : H b = some (.dK kvs)) : H' b = some (.dK kvs) := k _ _ trivial h
theorem merge_new : ∀ {kvs acc : List (Key × V)}, ((acc ++ kvs).map (·.1)).Nodup → mergeK acc kvs = acc ++ kvs
  | [], acc, _ => by rw [List.append_nil]; rfl
  | kv :: kvs, acc, h => by
    have e : acc ++ kv :: kvs = (acc ++ [kv]) ++ kvs := by simp
    rw [e] at h ⊢
    have hk : kv.1 ∉ acc.map (·.1) := by
      rw [List.map_append, List.map_append, List.nodup_append, List.nodup_append] at h
      intro hm
      exact h.1.2.2 _ hm kv.1 (by simp) rfl
    show mergeK (putK acc kv.1 kv.2) kvs = _
    rw [putK_new hk]
    exact merge_new h
theorem valV_nd {kvs : List (Key × V)} (hn : (kvs.map (·.1)).Nodup) {kv : Key × V} (h : kv ∈ kvs) : valV kvs kv.1 = some kv.2 := by
  induction kvs with
  | nil => cases h
  | cons e kvs ih =>
    rw [List.map_cons, List.nodup_cons] at hn
    obtain ⟨k, v⟩ := e
    rw [valV_cons]
    rcases List.mem_cons.1 h with rfl | h
    · rw [if_pos rfl]
    · rw [if_neg fun z => hn.1 (by rw [z]; exact List.mem_map.2 ⟨kv, h, rfl⟩)]
      exact ih hn.2 h
/-- a dict of names and prices, told by the list of both -/
theorem goodPr {H : Hp} {d : Addr} {all : List Str} {l : List (Str × Int)} (hd : H d = some (.dK (l.map fun e => (Sum.inr e.1, V.int e.2)))) (hn : (l.map (·.1)).Nodup) (hm : ∀ x, x ∈ all ↔ x ∈ l.map (·.1)) (h0 : ∀ e ∈ l, 0 ≤ e.2) (hl : l.length ≤ 1000) :
    ∃ pr, GoodPr H d all pr ∧ ∀ e ∈ l, pr e.1 = e.2 := by
  have hnd : ((l.map fun e => ((Sum.inr e.1 : Key), V.int e.2)).map (·.1)).Nodup := by
    have : (l.map fun e => ((Sum.inr e.1 : Key), V.int e.2)).map (·.1) = (l.map (·.1)).map Sum.inr := by simp
    rw [this, List.nodup_iff_pairwise_ne, List.pairwise_map]
    exact (List.nodup_iff_pairwise_ne.1 hn).imp fun h z => h (Sum.inr.inj z)
  have uniq : ∀ e ∈ l, ∀ e' ∈ l, e.1 = e'.1 → e = e' := by
    clear hd hm h0 hl hnd
    induction l with
    | nil => intro e he; cases he
    | cons a l ih =>
      rw [List.map_cons, List.nodup_cons] at hn
      intro e he e' he' q
      rcases List.mem_cons.1 he with e1 | he <;> rcases List.mem_cons.1 he' with e2 | he'
      · rw [e1, e2]
      · exact absurd (List.mem_map.2 ⟨_, he', by rw [← q, e1]⟩) hn.1
      · exact absurd (List.mem_map.2 ⟨_, he, by rw [q, e2]⟩) hn.1
      · exact ih hn.2 e he e' he' q
  obtain ⟨pr, hpr⟩ : ∃ pr : Str → Int, ∀ e ∈ l, pr e.1 = e.2 := by
    refine ⟨fun x => ((l.find? fun e => decide (e.1 = x)).map (·.2)).getD 0, fun e he => ?_⟩
    show ((l.find? fun e' => decide (e'.1 = e.1)).map (·.2)).getD 0 = e.2
    cases q : l.find? fun e' => decide (e'.1 = e.1) with
    | none =>
      have := List.find?_eq_none.1 q e he
      simp at this
    | some e' =>
      have h1 := List.mem_of_find?_eq_some q
      have h2 : e'.1 = e.1 := by simpa using List.find?_some q
      rw [uniq e' h1 e he h2]
      rfl
  refine ⟨pr, ⟨⟨_, hd, fun x hx => ?_, fun kv hkv => ?_, fun x hx => ?_, by rw [List.length_map]; exact hl⟩, _, hd, fun kv hkv => ?_⟩, hpr⟩
  · obtain ⟨e, he, rfl⟩ := List.mem_map.1 ((hm x).1 hx)
    rw [valV_nd hnd (List.mem_map_of_mem (f := fun e : Str × Int => ((Sum.inr e.1 : Key), V.int e.2)) he), hpr e he]
  · obtain ⟨e, he, rfl⟩ := List.mem_map.1 hkv
    exact ⟨e.1, (hm _).2 (List.mem_map_of_mem he), rfl⟩
  · obtain ⟨e, he, rfl⟩ := List.mem_map.1 ((hm x).1 hx)
    rw [hpr e he]
    exact h0 e he
  · refine ⟨?_, valV_nd hnd hkv⟩
    obtain ⟨e, he, rfl⟩ := List.mem_map.1 hkv
    exact ⟨e.1, e.2, rfl, (hm _).2 (List.mem_map_of_mem he), h0 e he⟩
theorem perm_strs {ys : List V} {names : List Str} (h : ys.Perm (names.map V.str)) : ∃ os : List Str, ys = os.map V.str ∧ os.Perm names := by
  have hf : ∀ l : List Str, (l.map V.str).filterMap (fun v => match v with | .str s => some s | _ => none) = l := by
    intro l
    induction l with
    | nil => rfl
    | cons x l ih => rw [List.map_cons, List.filterMap_cons]; simp [ih]
  have hall : ∀ (zs : List V), (∀ z ∈ zs, ∃ x, z = V.str x) → ∃ os : List Str, zs = os.map V.str := by
    intro zs
    induction zs with
    | nil => exact fun _ => ⟨[], rfl⟩
    | cons z zs ih =>
      intro hz
      obtain ⟨x, rfl⟩ := hz z (by simp)
      obtain ⟨os, rfl⟩ := ih fun z hz' => hz z (by simp [hz'])
      exact ⟨x :: os, rfl⟩
  obtain ⟨os, rfl⟩ := hall ys fun z hz => by
    obtain ⟨x, _, rfl⟩ := List.mem_map.1 (h.mem_iff.1 hz)
    exact ⟨x, rfl⟩
  refine ⟨os, rfl, ?_⟩
  have := h.filterMap (fun v => match v with | .str s => some s | _ => none)
  rwa [hf, hf] at this
theorem Paired.mapR {α β γ : Type} {F : α → β → Prop} {G : α → γ → Prop} (f : β → γ) (h : ∀ a b, F a b → G a (f b)) : ∀ {l : List α} {m : List β}, Paired F l m → Paired G l (m.map f)
  | _, _, .nil => .nil
  | _, _, .cons a t => .cons (h _ _ a) (Paired.mapR f h t)
theorem inr_nodup {l : List (Str × Int)} (hn : (l.map (·.1)).Nodup) : ((l.map fun e => ((Sum.inr e.1 : Key), V.int e.2)).map (·.1)).Nodup := by
  have : (l.map fun e => ((Sum.inr e.1 : Key), V.int e.2)).map (·.1) = (l.map (·.1)).map Sum.inr := by simp
  rw [this, List.nodup_iff_pairwise_ne, List.pairwise_map]
  exact (List.nodup_iff_pairwise_ne.1 hn).imp fun h z => h (Sum.inr.inj z)
section
variable {P : Program} {w : World} {K : PySem.W.Frag} {mg : Str → Option Value} {base : Heap}
def sp_x_prices : Sp := fun vs H Q _ => ∃ (S L a : Addr) (names : List Str) (n : Nat), vs = [.ref S, .ref a] ∧ H a = some (.lst (names.map V.str)) ∧ names.Nodup ∧ names.length ≤ 5 ∧ Dr S L H n ∧ n ≤ 800000 ∧
  ∀ p pr H' n', H p = none → GoodPr H' p names pr → KD S L H H' → n' ≤ n + 100 → Dr S L H' n' → Q (.ref p) H'
theorem ok__law_x_prices {f : Addr} {fd : FuncData} (D : Df K mg "_law_x_prices" s__law_x_prices ["_law_stream", "_law_names"] f fd) (T : Bl mg) (G__law_mixed : Dn P w K mg base CX0 2 "_law_mixed" ["_law_stream", "_law_some"] sp_mixed) (G__law_pick : Dn P w K mg base CX0 2 "_law_pick" ["_law_stream", "_law_some"] sp_pick) : Dn P w K mg base CX0 3 "_law_x_prices" ["_law_stream", "_law_names"] sp_x_prices := .of D (by
  refine D.fn.ok sc__law_x_prices (fun vs H Q E h => ?_) (fun cdv A outer s H vs Q E hr h => ?_)
  · obtain ⟨S, L, a, os, n, rfl, _⟩ := h
    rfl
  · obtain ⟨S, L, a, names, n, rfl, ha, hnd, hl, hd, hn, q⟩ := h
    refine ⟨_, (pss_cons (ps_set (i := 2) sc__law_x_prices.nd rfl (Or.inr rfl) (pe_cl G__law_pick (hr.mono (by decide)) (pa_cons (pv 0) (pa_cons (pe_lst (pa_cons (pe_lst (pa_cons (pe_int) pa_nil)) (pa_cons (pe_lst (pa_cons (pe_int) (pa_cons (pe_int) (pa_cons (pe_int) (pa_cons (pe_int) pa_nil))))) (pa_cons (pe_lst (pa_cons (pe_int) (pa_cons (pe_int) (pa_cons (pe_int) (pa_cons (pe_int) (pa_cons (pe_int) pa_nil)))))) (pa_cons (pe_lst (pa_cons (pe_int) (pa_cons (pe_op op_pow (pe_int) (pe_int)) (pa_cons (pe_int) pa_nil)))) pa_nil))))) pa_nil))))
      (pss_one (ps_ret (pe_callTy (call_dictP rfl) (by rfl) T.b_dict (by decide +kernel) (pa_cons (pe_lc (own := [("_law_name", 3)]) rfl sc__law_x_prices.nd (pil K (pe_cl G__law_mixed (hr.mono (by decide)) (pa_cons (pv 0) (pa_cons (pv 1) pa_nil)))) (blkOk_by (N := ["_law_stream", "_law_names", "_law_some", "_law_name"]) (sc := defScope s__law_x_prices) (by decide +kernel)) (fun _ _ _ _ _ => pg_name (i := 3) sc__law_x_prices.nd rfl (Or.inl rfl)) (fun _ _ _ _ _ => pts_nil) (fun _ _ _ _ _ => pe_tup (pa_cons (pv 3) (pa_cons (pe_cl G__law_pick (hr.mono (by decide)) (pa_cons (pv 0) (pa_cons (pv 2) pa_nil))) pa_nil)))) pa_nil))))), ?_⟩
    obtain ⟨a1, a2⟩ := hd.nS ha fun _ z => nomatch z
    refine ⟨_, rfl, sz1, fun p1 hp1 => ⟨by rw [sizeLine_eq]; decide, fun p2 hp2 => ⟨by rw [sizeLine_eq]; decide, fun p3 hp3 => ⟨_, _, rfl, rfl, CPow_ok (by decide) (by decide) (by decide), sz3, fun p4 hp4 => ⟨sz4, fun p hp => ?_⟩⟩⟩⟩⟩
    have h6 : (fun i j : Int => V.int (i ^ j.toNat)) 10 6 = V.int 1000000 := rfl
    rw [h6] at hp ⊢
    have e1 := same_upd (o := .lst [.int 1]) hp1
    have e2 := same_upd (o := .lst [.int 0, .int 1, .int 2, .int 5]) hp2
    have e3 := same_upd (o := .lst [.int 1, .int 2, .int 3, .int 4, .int 7]) hp3
    have e4 := same_upd (o := .lst [.int 0, .int 1000000, .int 5]) hp4
    have e5 := same_upd (o := .lst [.ref p1, .ref p2, .ref p3, .ref p4]) hp
    have e14 : Same H _ := e1.trans (e2.trans (e3.trans e4))
    refine pick_new (hd.same e14) (by omega) hp (by simp) (by show 4 ≤ 100000; decide) fun x H1 hx k1 _ d1 => ?_
    have kk : KD S L H H1 := (KD.of (e14.trans e5)).trans k1
    have g1 := (hd.same (e14.trans e5)).kg k1
    obtain ⟨c, js, rfl, hj, hjl, hj0, hc⟩ : ∃ (c : Addr) (js : List Int), x = .ref c ∧ js ≠ [] ∧ js.length ≤ 5 ∧ (∀ j ∈ js, 0 ≤ j) ∧ H1 c = some (.lst (js.map V.int)) := by
      simp only [List.mem_cons, List.not_mem_nil, or_false] at hx
      rcases hx with rfl | rfl | rfl | rfl
      · exact ⟨p1, [1], rfl, by decide, by decide, by decide, g1 _ _ trivial ((e2.trans (e3.trans (e4.trans e5))) _ _ upd_same)⟩
      · exact ⟨p2, [0, 1, 2, 5], rfl, by decide, by decide, by decide, g1 _ _ trivial ((e3.trans (e4.trans e5)) _ _ upd_same)⟩
      · exact ⟨p3, [1, 2, 3, 4, 7], rfl, by decide, by decide, by decide, g1 _ _ trivial ((e4.trans e5) _ _ upd_same)⟩
      · exact ⟨p4, [0, 1000000, 5], rfl, by decide, by decide, by decide, g1 _ _ trivial (e5 _ _ upd_same)⟩
    have ha1 := kk _ _ a1 a2 ha
    refine ⟨_, rfl, _, rfl, S, L, a, _, n + 1, rfl, ha1, by rw [List.length_map]; omega, d1, by omega, fun B H2 ys hB hperm hB2 k2 d2 => ?_⟩
    rw [List.length_map] at d2
    obtain ⟨os, rfl, hos⟩ := perm_strs hperm
    have hol : os.length = names.length := hos.length_eq
    have g2 := d1.kg k2
    have hc2 : H2 c = some (.lst (js.map V.int)) := g2 _ _ trivial hc
    refine ⟨B, rfl, ⟨_, SqL.of hB2⟩, fun D1 hD1 => ?_⟩
    have dD := d2.same (same_upd (o := .lst []) hD1)
    refine lc_list (xs := os.map V.str) (fun i H3 => KD S L H H3 ∧ Dr S L H3 (n + 1 + names.length + i) ∧ H3 B = some (.lst (os.map V.str)) ∧ H3 c = some (.lst (js.map V.int)) ∧ ∃ (ps : List Addr) (l : List (Str × Int)), H3 D1 = some (.lst (ps.map V.ref)) ∧ l.map (·.1) = os.take i ∧ (∀ e ∈ l, 0 ≤ e.2) ∧ Paired (fun (p : Addr) (e : Str × Int) => H3 p = some (.tup [.str e.1, .int e.2])) ps l)
      ⟨(kk.trans k2).trans (KD.of (same_upd hD1)), dD, same_upd hD1 _ _ hB2, same_upd hD1 _ _ hc2, [], [], upd_same, rfl, (fun e he => nomatch he), .nil⟩ (fun i H3 _ h => SqL.of h.2.2.1) ?_ ?_
    · rintro i y H3 hi ⟨k3, d3, hB3, hc3, ps, l, hD3, hlm, hl0, hpl⟩
      rw [List.getElem?_map] at hi
      cases ei : os[i]? with
      | none => rw [ei] at hi; cases hi
      | some o =>
        rw [ei] at hi
        injection hi with hi
        subst hi
        have hil : i < os.length := (List.getElem?_eq_some_iff.mp ei).1
        refine ⟨rfl, ty ⟨_, rfl, _, rfl, _, rfl, S, L, c, _, _, rfl, hc3, by simpa using hj, by rw [List.length_map]; omega, d3, by omega, fun j x H4 hx k4 d4 => ?_⟩⟩
        obtain ⟨v, hv, rfl⟩ := List.mem_map.1 (List.mem_of_getElem? hx)
        have g4 := d3.kg k4
        refine ⟨sz2, fun t ht => ?_⟩
        have hD4 := same_upd (o := .tup [.str o, .int v]) ht _ _ (g4.l hD3)
        have hDt : D1 ≠ t := ne_new (g4.l hD3) ht
        have hpsl : ps.length ≤ 5 := by
          have h1 := congrArg List.length hlm
          rw [List.length_map, List.length_take] at h1
          rw [hpl.length, h1]
          omega
        obtain ⟨t1, t2⟩ := d4.new ht
        have kH := (k3.trans k4).trans (KD.of (same_upd (o := .tup [.str o, .int v]) ht))
        have hD0 : H D1 = none := hd.free (kk.trans k2) d2 hD1
        obtain ⟨D1S, D1L⟩ := d2.new hD1
        refine ⟨_, hD4, by rw [List.length_map, sizeLine_eq]; omega, kH.own hD0, ((d4.upd t1 t2).upd D1S D1L), ?_, ?_, ps ++ [t], l ++ [(o, v)], ?_, ?_, ?_, ?_⟩
        · rw [upd_ne (ne_new hB2 hD1), upd_ne (ne_new (g4.l hB3) ht)]
          exact g4.l hB3
        · rw [upd_ne (ne_new hc2 hD1), upd_ne (ne_new (g4.l hc3) ht)]
          exact g4.l hc3
        · rw [upd_same, List.map_append]
          rfl
        · rw [List.map_append, hlm, List.take_add_one, ei]
          rfl
        · intro e he
          rcases List.mem_append.1 he with he | he
          · exact hl0 e he
          · rw [List.mem_singleton] at he
            subst he
            exact hj0 v hv
        · refine Paired.app (Paired.mapP hpl fun p e h => ?_) (.cons ?_ .nil)
          · rw [upd_ne (ne_of h hD3 (fun z => nomatch z)), upd_ne (ne_new (g4.t h) ht)]
            exact g4.t h
          · rw [upd_ne hDt.symm, upd_same]
    · rintro H3 ⟨k3, d3, hB3, hc3, ps, l, hD3, hlm, hl0, hpl⟩
      rw [List.length_map, List.take_length] at hlm
      refine ⟨D1, ps, l.map fun e => (Sum.inr e.1, V.int e.2), rfl, SqL.of hD3, ?_, fun p hp => ?_⟩
      · exact Paired.mapR (fun e : Str × Int => ((Sum.inr e.1 : Key), V.int e.2)) (fun p e h => SqT.of h) hpl
      · have hn' : (l.map (·.1)).Nodup := by rw [hlm]; exact hos.symm.nodup hnd
        have hm : mergeK [] (l.map fun e => ((Sum.inr e.1 : Key), V.int e.2)) = l.map fun e => ((Sum.inr e.1 : Key), V.int e.2) := by
          rw [merge_new (by rw [List.nil_append]; exact inr_nodup hn'), List.nil_append]
        rw [hm]
        have hll : l.length = names.length := by
          have := congrArg List.length hlm
          rw [List.length_map] at this
          omega
        obtain ⟨pr, hg, _⟩ := goodPr (H := upd H3 p (.dK (l.map fun e => ((Sum.inr e.1 : Key), V.int e.2)))) (d := p) (all := names) upd_same hn' (fun x => by rw [hlm]; exact hos.symm.mem_iff) hl0 (by omega)
        obtain ⟨p1', p2'⟩ := d3.new hp
        have hp0 := hd.free k3 d3 hp
        exact q p pr _ _ hp0 hg (k3.own hp0) (by rw [List.length_map]; omega) (d3.upd p1' p2'))
end
end WH
set_option Elab.async false
set_option linter.all false
set_option maxRecDepth 100000
set_option maxHeartbeats 2000000
namespace WH
open PySem PySem.Spec PyProof.Rows L2 WM LamX
abbrev s__law_lk_normal : Stmt := topS 57
theorem sc__law_lk_normal : FnScope ["_law_locks", "_law_most", "_law_found", "_law_owner", "_law_rows", "_law_begun", "_law_place", "_law_told", "_law_kind", "_law_lock"] ["_law_locks", "_law_most"] (defScope s__law_lk_normal) := ⟨rfl, rfl, rfl, by decide +kernel, rfl, by decide +kernel, by decide +kernel⟩
def kOf : Option Bool → Str
  | none => ""
  | some k => kS k
theorem lastCov_told (ls : List (Lk Str)) (o : Str) (p : Int) : lastCov ls o p = (((ls.filter fun l => decide (l.1 = o)).filter fun l => hasB l.2 p).getLast?).map fun l => l.2.2.2 := by
  induction ls using WM.snocInd with
  | h0 => rfl
  | h1 ls l ih =>
    rw [lastCov_snoc, List.filter_append, List.filter_append, ih]
    by_cases c1 : l.1 = o
    · have e1 : [l].filter (fun l => decide (l.1 = o)) = [l] := by simp [c1]
      rw [e1]
      by_cases c2 : inR l.2.1 l.2.2.1 p
      · rw [if_pos ⟨c1, c2⟩]
        have e2 : [l].filter (fun l => hasB l.2 p) = [l] := by simp [hasB_iff.2 c2]
        rw [e2, List.getLast?_append]
        rfl
      · rw [if_neg fun z => c2 z.2]
        have e2 : [l].filter (fun l => hasB l.2 p) = [] := by
          have : ¬ hasB l.2 p = true := fun z => c2 (hasB_iff.1 z)
          simp [this]
        rw [e2, List.append_nil]
    · rw [if_neg fun z => c1 z.1]
      have e1 : [l].filter (fun l => decide (l.1 = o)) = [] := by simp [c1]
      rw [e1, List.filter_nil, List.append_nil]
def begV (H : Hp) (v : V) : Option (Int × Bool) → Prop
  | none => v = .non
  | some (b, k) => ∃ t, v = .ref t ∧ H t = some (.tup [.int b, .str (kS k)])
theorem begV.kg {H H' : Hp} (k : Kg H H') {v : V} {ob : Option (Int × Bool)} (h : begV H v ob) : begV H' v ob := by
  match ob, h with
  | none, h => exact h
  | some (b, kk), ⟨t, e, h⟩ => exact ⟨t, e, k.t h⟩
theorem nRun_len (m : Nat) (lc : Int → Option Bool) : ∀ n, (nRun m lc n).1.length ≤ n
  | 0 => Nat.zero_le _
  | n + 1 => by
    have ih := nRun_len m lc n
    rw [nRun_succ]
    unfold nStep
    simp only
    repeat' split
    all_goals first | (simp only [List.length_append, List.length_singleton]; omega) | omega
theorem filter_fm {α : Type} (p : α → Bool) (l : List α) : l.filterMap (fun x => if p x = true then some x else none) = l.filter p := by
  induction l with
  | nil => rfl
  | cons x l ih =>
    rw [List.filterMap_cons, List.filter_cons]
    by_cases c : p x = true
    · rw [if_pos c, if_pos c, ih]
    · rw [if_neg c, if_neg c, ih]
theorem filter_fmap {α β : Type} (p : α → Bool) (f : α → β) (l : List α) : l.filterMap (fun x => if p x = true then some (f x) else none) = (l.filter p).map f := by
  induction l with
  | nil => rfl
  | cons x l ih =>
    rw [List.filterMap_cons, List.filter_cons]
    by_cases c : p x = true
    · rw [if_pos c, if_pos c, ih]
      rfl
    · rw [if_neg c, if_neg c, ih]
def nS1 (most : Nat) (lc : Option Bool) (st : NSt) (i : Nat) : NSt := match st.2 with
  | some bk => if i > most ∨ lc ≠ some bk.2 then (st.1 ++ [(bk.1, if i > most then none else some (i : Int), bk.2)], none) else st
  | none => st
def nS2 (most : Nat) (lc : Option Bool) (st : NSt) (i : Nat) : NSt := match st.2 with
  | some _ => st
  | none => match lc with
    | some k => if i ≤ most then (st.1, some ((i : Int), k)) else st
    | none => st
theorem nStep_eq (most : Nat) (lc : Int → Option Bool) (st : NSt) (i : Nat) : nStep most lc st i = nS2 most (lc i) (nS1 most (lc i) st i) i := rfl
structure NI (H : Hp) (D3 D4 F : Addr) (owners : List Str) (rws : List V) (fl pre : List (Lk Str)) (o : Str) (vb : V) (st : NSt) (H8 : Hp) : Prop where
  same : Same H H8
  d3 : H8 D3 = some (.lst (owners.map V.str))
  d4 : H8 D4 = some (.lst rws)
  rw : Paired (rLk H8) rws fl
  beg : begV H8 vb st.2
  ys : ∃ ys, H8 F = some (.lst ys) ∧ Paired (rLk H8) ys (pre ++ st.1.map fun r => (o, r))
theorem NI.ext {H : Hp} {D3 D4 F : Addr} {owners : List Str} {rws : List V} {fl pre : List (Lk Str)} {o : Str} {vb : V} {st : NSt} {H8 H9 : Hp} (h : NI H D3 D4 F owners rws fl pre o vb st H8) (s : Same H8 H9) : NI H D3 D4 F owners rws fl pre o vb st H9 :=
  ⟨h.same.trans s, s _ _ h.d3, s _ _ h.d4, rTup_gr.mono.all (Kg.of s) h.rw, h.beg.kg (Kg.of s), let ⟨ys, a, b⟩ := h.ys; ⟨ys, s _ _ a, rTup_gr.mono.all (Kg.of s) b⟩⟩
def nlIf1 (K : PySem.W.Frag) : TS := tIfS
                    (tAnd (tTest (tOp (fun x y H Q => y = V.non ∧ Q (V.bl !decide (x = V.non)) H) (tVar 5) (tC V.non)))
                      (tOr (tTest (tOp (rI0 fun i j => V.bl (decide (j < i))) (tVar 6) (tVar 1)))
                        (tTest (tOp rNe (tVar 8) (tOp (rIxT K) (tVar 5) (tC (V.int 1)))))))
                    (tSeq
                      (tDrop
                        (tBM K "list" rAppend (tVar 2)
                          (tCons
                            (tTup
                              (tCons (tVar 3)
                                (tCons (tOp (rIxT K) (tVar 5) (tC (V.int 0)))
                                  (tCons
                                    (tIf (tTest (tOp (rI0 fun i j => V.bl (decide (j < i))) (tVar 6) (tVar 1)))
                                      (tC V.non) (tVar 6))
                                    (tCons (tOp (rIxT K) (tVar 5) (tC (V.int 1))) tNil)))))
                            tNil)))
                      (tAsg (tC V.non) (gName 5)))
                    tNext
def nlIf2 : TS := tIfS
                    (tAnd (tTest (tOp (fun x y H Q => y = V.non ∧ Q (V.bl (decide (x = V.non))) H) (tVar 5) (tC V.non)))
                      (tAnd (tTest (tOp rNe (tVar 8) (tC (V.str (Str.ofString "")))))
                        (tTest (tOp (rI0 fun i j => V.bl (decide (i ≤ j))) (tVar 6) (tVar 1)))))
                    (tAsg (tTup (tCons (tVar 6) (tCons (tVar 8) tNil))) (gName 5)) tNext
theorem nl2 {H : Hp} {D3 D4 F : Addr} {owners : List Str} {rws : List V} {fl pre : List (Lk Str)} {o : Str} {vb : V} {st : NSt} {H8 : Hp} {Dd : Ends} {va v7 v9 : Option V} {m j : Nat} {lc : Option Bool} (h : NI H D3 D4 F owners rws fl pre o vb st H8)
    (nx : ∀ vb' H9, NI H D3 D4 F owners rws fl pre o vb' (nS2 m lc st j) H9 → Dd.nx [va, some (.int (m : Nat)), some (.ref F), some (.str o), some (.ref D4), some vb', some (.int (j : Nat)), v7, some (.str (kOf lc)), v9] H9) :
    nlIf2 Dd [va, some (.int (m : Nat)), some (.ref F), some (.str o), some (.ref D4), some vb, some (.int (j : Nat)), v7, some (.str (kOf lc)), v9] H8 := by
  obtain ⟨f2, ob⟩ := st
  refine ⟨_, rfl, rfl, _, rfl, ?_⟩
  cases ob with
  | some bk =>
    obtain ⟨t, rfl, ht⟩ := h.beg
    exact iteF (iteF (nx _ _ h))
  | none =>
    have e : vb = .non := h.beg
    subst e
    refine iteT ⟨_, rfl, rfl, _, rfl, ?_⟩
    cases lc with
    | none => exact iteF (iteF (nx _ _ h))
    | some k =>
      have e : (!decide (V.str (kOf (some k)) = V.str (Str.ofString ""))) = true := by cases k <;> decide +kernel
      rw [e]
      refine iteT ⟨_, rfl, _, rfl, _, _, rfl, rfl, _, rfl, ?_⟩
      by_cases c : j ≤ m
      · rw [decide_eq_true (by omega : (j : Int) ≤ (m : Int))]
        refine iteT ⟨_, rfl, _, rfl, sz2, fun p hp => nx _ _ ?_⟩
        have h' := h.ext (same_upd (o := .tup [.int (j : Nat), .str (kS k)]) hp)
        have e2 : nS2 m (some k) (f2, none) j = (f2, some ((j : Int), k)) := if_pos c
        rw [e2]
        exact ⟨h'.same, h'.d3, h'.d4, h'.rw, ⟨p, rfl, upd_same⟩, h'.ys⟩
      · rw [decide_eq_false (by omega : ¬ (j : Int) ≤ (m : Int))]
        have e2 : nS2 m (some k) (f2, none) j = (f2, none) := if_neg c
        rw [e2] at nx
        exact iteF (nx _ _ h)
theorem nl1 {K : PySem.W.Frag} {H : Hp} {D3 D4 F : Addr} {owners : List Str} {rws : List V} {fl pre : List (Lk Str)} {o : Str} {vb : V} {st : NSt} {H8 : Hp} {Dd : Ends} {va v7 v9 : Option V} {m j : Nat} {lc : Option Bool} (h : NI H D3 D4 F owners rws fl pre o vb st H8) (hF : H F = none) (hF3 : F ≠ D3) (hF4 : F ≠ D4)
    (hl : (pre ++ st.1.map fun r => (o, r)).length ≤ 200000)
    (nx : ∀ vb' H9, NI H D3 D4 F owners rws fl pre o vb' (nS1 m lc st j) H9 → Dd.nx [va, some (.int (m : Nat)), some (.ref F), some (.str o), some (.ref D4), some vb', some (.int (j : Nat)), v7, some (.str (kOf lc)), v9] H9) :
    nlIf1 K Dd [va, some (.int (m : Nat)), some (.ref F), some (.str o), some (.ref D4), some vb, some (.int (j : Nat)), v7, some (.str (kOf lc)), v9] H8 := by
  obtain ⟨f2, ob⟩ := st
  refine ⟨_, rfl, rfl, _, rfl, ?_⟩
  cases ob with
  | none =>
    have e : vb = .non := h.beg
    subst e
    exact iteF (iteF (nx _ _ h))
  | some bk =>
    obtain ⟨b, k⟩ := bk
    obtain ⟨t, rfl, ht⟩ := h.beg
    obtain ⟨ys, hy, hyp⟩ := h.ys
    have go : (j > m ∨ lc ≠ some k) → tSeq
                      (tDrop
                        (tBM K "list" rAppend (tVar 2)
                          (tCons
                            (tTup
                              (tCons (tVar 3)
                                (tCons (tOp (rIxT K) (tVar 5) (tC (V.int 0)))
                                  (tCons
                                    (tIf (tTest (tOp (rI0 fun i j => V.bl (decide (j < i))) (tVar 6) (tVar 1)))
                                      (tC V.non) (tVar 6))
                                    (tCons (tOp (rIxT K) (tVar 5) (tC (V.int 1))) tNil)))))
                            tNil)))
                      (tAsg (tC V.non) (gName 5)) Dd [va, some (.int (m : Nat)), some (.ref F), some (.str o), some (.ref D4), some (.ref t), some (.int (j : Nat)), v7, some (.str (kOf lc)), v9] H8 := by
      intro hc
      have e2 : nS1 m lc (f2, some (b, k)) j = (f2 ++ [(b, if j > m then none else some (j : Int), k)], none) := if_pos hc
      rw [e2] at nx
      have fin : ∀ (e : Option Int), (if j > m then none else some (j : Int)) = e → ∀ p : Addr, H8 p = none → rAppend (.ref F) [.ref p] (upd H8 p (.tup [.str o, .int b, eV e, .str (kS k)])) fun _ H9 => Dd.nx [va, some (.int (m : Nat)), some (.ref F), some (.str o), some (.ref D4), some .non, some (.int (j : Nat)), v7, some (.str (kOf lc)), v9] H9 := by
        intro e he p hp
        have s2 := same_upd (o := .tup [.str o, .int b, eV e, .str (kS k)]) hp
        have h' := h.ext s2
        have hy' := s2 _ _ hy
        have hyp' := rTup_gr.mono.all (Kg.of s2) hyp
        refine ⟨F, ys, _, rfl, rfl, hy', by rw [hyp.length, sizeLine_eq]; omega, nx _ _ ?_⟩
        refine ⟨Same.own h'.same hF, by rw [upd_ne hF3.symm]; exact h'.d3, by rw [upd_ne hF4.symm]; exact h'.d4, rTup_gr.fl.all hy' h'.rw, rfl, _, upd_same, ?_⟩
        rw [List.map_append, ← List.append_assoc]
        refine Paired.app (rTup_gr.fl.all hy' hyp') (.cons ⟨p, rfl, ?_⟩ .nil)
        rw [upd_ne (ne_new hy hp).symm, upd_same, he]
        rfl
      refine ⟨_, rfl, .inl ⟨rfl, _, SqL.of hy⟩, _, rfl, _, rfl, _, _, _, _, rfl, rfl, SqT.of ht, rfl, _, rfl, _, rfl, _, _, rfl, rfl, _, rfl, ?_⟩
      by_cases c : j > m
      · rw [decide_eq_true (by omega : (m : Int) < (j : Int))]
        exact iteT ⟨_, rfl, _, _, _, _, rfl, rfl, SqT.of ht, rfl, sz4, fun p hp => fin none (if_pos c) p hp⟩
      · rw [decide_eq_false (by omega : ¬ (m : Int) < (j : Int))]
        exact iteF ⟨_, rfl, _, rfl, _, _, _, _, rfl, rfl, SqT.of ht, rfl, sz4, fun p hp => fin (some (j : Int)) (if_neg c) p hp⟩
    refine iteT ⟨_, rfl, _, rfl, _, _, rfl, rfl, _, rfl, ?_⟩
    by_cases c : j > m
    · rw [decide_eq_true (by omega : (m : Int) < (j : Int))]
      exact iteT (go (.inl c))
    · rw [decide_eq_false (by omega : ¬ (m : Int) < (j : Int))]
      refine iteF ⟨_, rfl, _, rfl, _, _, _, _, rfl, rfl, SqT.of ht, rfl, rfl, _, rfl, ?_⟩
      by_cases c2 : lc = some k
      · subst c2
        have e2 : nS1 m (some k) (f2, some (b, k)) j = (f2, some (b, k)) := if_neg fun z => z.elim c fun z => z rfl
        rw [e2] at nx
        have e3 : (!decide (V.str (kOf (some k)) = V.str (kS k))) = false := by simp [kOf]
        rw [e3]
        exact iteF (nx _ _ h)
      · have e3 : (!decide (V.str (kOf lc) = V.str (kS k))) = true := by
          cases lc with
          | none => cases k <;> decide +kernel
          | some k' =>
            cases k <;> cases k' <;> first | exact absurd rfl c2 | decide +kernel
        rw [e3]
        exact iteT (go (.inr c2))
theorem nl12 {K : PySem.W.Frag} {H : Hp} {D3 D4 F : Addr} {owners : List Str} {rws : List V} {fl pre : List (Lk Str)} {o : Str} {vb : V} {st : NSt} {H8 : Hp} {Dd : Ends} {va v7 v9 : Option V} {m j : Nat} (lc : Option Bool) (h : NI H D3 D4 F owners rws fl pre o vb st H8) (hF : H F = none) (hF3 : F ≠ D3) (hF4 : F ≠ D4)
    (hl : (pre ++ st.1.map fun r => (o, r)).length ≤ 200000)
    (nx : ∀ vb' H9, NI H D3 D4 F owners rws fl pre o vb' (nS2 m lc (nS1 m lc st j) j) H9 → Dd.nx [va, some (.int (m : Nat)), some (.ref F), some (.str o), some (.ref D4), some vb', some (.int (j : Nat)), v7, some (.str (kOf lc)), v9] H9) :
    tSeq (nlIf1 K) nlIf2 Dd [va, some (.int (m : Nat)), some (.ref F), some (.str o), some (.ref D4), some vb, some (.int (j : Nat)), v7, some (.str (kOf lc)), v9] H8 := nl1 h hF hF3 hF4 hl fun _ _ h2 => nl2 h2 nx
section
variable {P : Program} {w : World} {K : PySem.W.Frag} {mg : Str → Option Value} {base : Heap}
def sp_normal : Sp := fun vs H Q _ => ∃ (a : Addr) (xs : List V) (ls : List (Lk Str)) (m : Nat), vs = [.ref a, .int (m : Nat)] ∧ H a = some (.lst xs) ∧ Paired (rLk H) xs ls ∧ ls.length ≤ 60 ∧ m ≤ 1000 ∧
  ∀ p H' ys owners, H p = none → Same H H' → H' p = some (.lst ys) → Paired (rLk H') ys (normal m owners ls) → (∀ o, o ∈ owners ↔ o ∈ ls.map (·.1)) → Asc sLt owners → Q (.ref p) H'
theorem ok__law_lk_normal {f : Addr} {fd : FuncData} (D : Df K mg "_law_lk_normal" s__law_lk_normal ["_law_locks", "_law_most"] f fd) (T : Bl mg) (G__law_each_once : Dn P w K mg base CX0 1 "_law_each_once" ["_law_things"] (sp_once K)) (G__law_lk_has : Dn P w K mg base CX0 1 "_law_lk_has" ["_law_lock", "_law_place"] sp_has) : Dn P w K mg base CX0 2 "_law_lk_normal" ["_law_locks", "_law_most"] sp_normal := .of D (by
  refine D.fn.ok sc__law_lk_normal (fun vs H Q E h => ?_) (fun cdv A outer s H vs Q E hr h => ?_)
  · obtain ⟨a, xs, ls, m, rfl, _⟩ := h
    rfl
  · obtain ⟨a, xs, ls, m, rfl, ha, hp, hz, hm, q⟩ := h
    refine ⟨_, (pss_cons (ps_set (i := 2) sc__law_lk_normal.nd rfl (Or.inl rfl) (pe_lst pa_nil))
      (pss_cons (ps_for PassesOwn.never rfl (pil K (pe_callB (sortS K) (by rfl) T.b_sorted (by decide +kernel) (pa_cons (pe_cl G__law_each_once (hr.mono (by decide)) (pa_cons (pe_lc (own := [("_law_lock", 9)]) rfl sc__law_lk_normal.nd (pil K (pv 0)) (blkOk_by (N := ["_law_locks", "_law_most", "_law_found", "_law_owner", "_law_rows", "_law_begun", "_law_place", "_law_told", "_law_kind", "_law_lock"]) (sc := defScope s__law_lk_normal) (by decide +kernel)) (fun _ _ _ _ _ => pg_name (i := 9) sc__law_lk_normal.nd rfl (Or.inl rfl)) (fun _ _ _ _ _ => pts_nil) (fun _ _ _ _ _ => pe_ix (ixT K) (pv 9) (pe_int) (fun _ _ => rfl))) pa_nil)) pa_nil))) (pg_name (i := 3) sc__law_lk_normal.nd rfl (Or.inr rfl))
        (pss_cons (ps_par (i := 4) (j := 5) rfl sc__law_lk_normal.nd rfl rfl (by decide) rfl rfl (pa_cons (pe_lc (own := [("_law_lock", 9)]) rfl sc__law_lk_normal.nd (pil K (pv 0)) (blkOk_by (N := ["_law_locks", "_law_most", "_law_found", "_law_owner", "_law_rows", "_law_begun", "_law_place", "_law_told", "_law_kind", "_law_lock"]) (sc := defScope s__law_lk_normal) (by decide +kernel)) (fun _ _ _ _ _ => pg_name (i := 9) sc__law_lk_normal.nd rfl (Or.inl rfl)) (fun _ _ _ _ _ => pts_one (pt_cmpR op_eq (pe_ix (ixT K) (pv 9) (pe_int) (fun _ _ => rfl)) (pv 3) (nomark _))) (fun _ _ _ _ _ => pv 9)) (pa_cons (pe_non) pa_nil)) rfl)
        (pss_one (ps_for PassesOwn.never rfl (pi_range1 (by rfl) T.b_range (pa_cons (pe_op op_add (pv 1) (pe_int)) pa_nil)) (pg_name (i := 6) sc__law_lk_normal.nd rfl (Or.inr rfl))
          (pss_cons (ps_setLc (i := 7) (own := [("_law_lock", 9)]) rfl sc__law_lk_normal.nd rfl rfl (sw_true rfl rfl rfl (by decide +kernel)) (pil K (pv 4)) (blkOk_by (N := ["_law_locks", "_law_most", "_law_found", "_law_owner", "_law_rows", "_law_begun", "_law_place", "_law_told", "_law_kind", "_law_lock"]) (sc := defScope s__law_lk_normal) (by decide +kernel)) (fun _ _ _ _ _ => pg_name (i := 9) sc__law_lk_normal.nd rfl (Or.inl rfl)) (fun _ _ _ _ _ => pts_one (pt_val (pe_cl G__law_lk_has (hr.mono (by decide)) (pa_cons (pv 9) (pa_cons (pv 6) pa_nil))))) (fun _ _ _ _ _ => pe_ix (ixT K) (pv 9) (pe_int) (fun _ _ => rfl)))
          (pss_cons (ps_set (i := 8) sc__law_lk_normal.nd rfl (Or.inl rfl) (pe_ifExp (pt_cmpR (neE K hr.units) (pv 7) (pe_lst pa_nil) (nomark _)) (pe_ix (ixL K) (pv 7) (pe_un un_neg (pe_int)) (fun _ _ => rfl)) (pe_str)))
          (pss_cons (ps_if (PW.pt (pw_and (pt_cmpR op_notN (pv 5) (pe_non) (nomark _)) (pw_and1 (PW.pt (pw_or (pt_cmpR op_gt (pv 6) (pv 1) (nomark _)) (pw_or1 (pt_cmpR op_ne (pv 8) (pe_ix (ixT K) (pv 5) (pe_int) (fun _ _ => rfl)) (nomark _)))))))) (pss_cons (ps_expr (bmK K PySem.F.plainAttrs_list PySem.F.slot_list_append PySem.F.type_list_append mt_append (pv 2) (pa_cons (pe_tup (pa_cons (pv 3) (pa_cons (pe_ix (ixT K) (pv 5) (pe_int) (fun _ _ => rfl)) (pa_cons (pe_ifExp (pt_cmpR op_gt (pv 6) (pv 1) (nomark _)) (pe_non) (pv 6)) (pa_cons (pe_ix (ixT K) (pv 5) (pe_int) (fun _ _ => rfl)) pa_nil))))) pa_nil)))
            (pss_one (ps_set (i := 5) sc__law_lk_normal.nd rfl (Or.inl rfl) (pe_non)))) pss_nil)
          (pss_one (ps_if (PW.pt (pw_and (pt_cmpR op_isN (pv 5) (pe_non) (nomark _)) (pw_and (pt_cmpR op_ne (pv 8) (pe_str) (nomark _)) (pw_and1 (pt_cmpR op_le (pv 6) (pv 1) (nomark _)))))) (pss_one (ps_set (i := 5) sc__law_lk_normal.nd rfl (Or.inl rfl) (pe_tup (pa_cons (pv 6) (pa_cons (pv 8) pa_nil))))) pss_nil)))))))))
      (pss_one (ps_ret (pv 2))))), ?_⟩
    have hxl : xs.length = ls.length := hp.length
    refine ⟨Nat.zero_le _, fun F hF => ?_⟩
    have s1 := same_upd (o := .lst []) hF
    refine ⟨_, rfl, a, rfl, ⟨_, SqL.of (s1 _ _ ha)⟩, fun D1 hD1 => lc_L (R := rLk) (S := rS) (as := ls) rTup_gr.mono rV_gr (fun l => some l.1) hD1 (SqL.of (s1 _ _ ha)) (rTup_gr.mono.all (Kg.of s1) hp) (by omega) (fun i y l hl H2 s2 hy N Z hN hZ => ?_) fun H2 os s2 ho hop => ?_⟩
    · obtain ⟨t, rfl, ht⟩ := hy
      exact ⟨rfl, ty ⟨_, rfl, _, _, _, _, rfl, rfl, SqT.of ht, rfl, hN _ _ _ (Same.refl _) rfl rfl⟩⟩
    · rw [filterMap_some] at hop
      rw [paired_rV hop] at ho
      have hol : (onceL (ls.map (·.1))).length ≤ 60 := Nat.le_trans (onceL_len _) (by rw [List.length_map]; exact hz)
      refine ⟨D1, ls.map (·.1), rfl, SqL.of ho, by rw [List.length_map]; omega, fun D2 H3 hD2 s3 hD2' => ?_⟩
      refine ⟨D2, onceL (ls.map (·.1)), rfl, SqL.of hD2', by omega, fun owners D3 hperm hsort hD3 => ?_⟩
      have hasc : Asc sLt owners := sorted_asc hsort (hperm.symm.nodup (onceL_ok _).1)
      have hown : ∀ o, o ∈ owners ↔ o ∈ ls.map (·.1) := fun o => hperm.mem_iff.trans ((onceL_ok _).2 o)
      have s13 : Same H (upd H3 D3 (.lst (owners.map V.str))) := s1.trans (s2.trans (s3.trans (same_upd hD3)))
      have hF3 : upd H3 D3 (.lst (owners.map V.str)) F = some (.lst []) := (s2.trans (s3.trans (same_upd hD3))) _ _ upd_same
      have hown_l : owners.length ≤ 60 := by rw [hperm.length_eq]; exact hol
      refine ⟨D3, rfl, ⟨_, SqL.of upd_same⟩, for_list (K := K) (a := D3) (xs := owners.map V.str) (fun i σ H4 => ∃ v3 v4 v5 v6 v7 v8 v9, σ = [some (.ref a), some (.int (m : Nat)), some (.ref F), v3, v4, v5, v6, v7, v8, v9] ∧ Same H H4 ∧ H4 D3 = some (.lst (owners.map V.str)) ∧ ∃ ys, H4 F = some (.lst ys) ∧ Paired (rLk H4) ys (normal m (owners.take i) ls))
        ⟨_, _, _, _, _, _, _, rfl, s13, upd_same, [], hF3, .nil⟩ (fun i σ H4 _ ⟨_, _, _, _, _, _, _, _, _, h, _⟩ => SqL.of h) ?_ ?_⟩
      · rintro i y σ H4 hi ⟨v3, v4, v5, v6, v7, v8, v9, rfl, s4, h3, ys, hy, hyp⟩
        rw [List.getElem?_map] at hi
        cases ei : owners[i]? with
        | none => rw [ei] at hi; cases hi
        | some o =>
          rw [ei] at hi
          injection hi with hi
          subst hi
          have ha4 := s4 _ _ ha
          refine ⟨_, rfl, a, rfl, ⟨_, SqL.of ha4⟩, fun D4 hD4 => lc_L (R := rLk) (S := rLk) (as := ls) rTup_gr.mono rTup_gr (fun l => if decide (l.1 = o) = true then some l else none) hD4 (SqL.of ha4) (rTup_gr.mono.all (Kg.of s4) hp) (by omega) (fun j y l hl H5 s5 hy5 N Z hN hZ => ?_) fun H5 rws s5 hr5 hrp => ?_⟩
          · obtain ⟨t, rfl, ht⟩ := hy5
            refine ⟨rfl, _, rfl, _, _, _, _, rfl, rfl, SqT.of ht, rfl, _, rfl, rfl, _, rfl, ?_⟩
            have e : decide (V.str l.1 = V.str o) = decide (l.1 = o) := by
              by_cases c : l.1 = o
              · rw [c]; simp
              · rw [decide_eq_false c, decide_eq_false fun z => c (by injection z)]
            rw [e]
            by_cases c : decide (l.1 = o) = true
            · rw [c]
              exact iteT ⟨_, rfl, hN _ _ _ (Same.refl _) (if_pos c) ⟨t, rfl, ht⟩⟩
            · rw [Bool.not_eq_true] at c
              rw [c]
              exact iteF (hZ _ (Same.refl _) (if_neg (by rw [c]; exact Bool.false_ne_true)))
          · rw [filter_fm] at hrp
            have s05 := s4.trans s5
            refine ⟨_, _, rfl, _, rfl, _, _, rfl, rfl, _, rfl, by omega, by omega, ?_⟩
            rw [show ((m : Int) + 2).toNat = m + 2 from by omega]
            refine for_range (lo := 0) (n := m + 2) (fun j σ H6 => ∃ vb v6 v7 v8 v9, σ = [some (.ref a), some (.int (m : Nat)), some (.ref F), some (.str o), some (.ref D4), some vb, v6, v7, v8, v9] ∧ Same H H6 ∧ H6 D3 = some (.lst (owners.map V.str)) ∧ H6 D4 = some (.lst rws) ∧ Paired (rLk H6) rws (ls.filter fun l => decide (l.1 = o)) ∧ begV H6 vb (nRun m (lastCov ls o) j).2 ∧ ∃ ys, H6 F = some (.lst ys) ∧ Paired (rLk H6) ys (normal m (owners.take i) ls ++ (nRun m (lastCov ls o) j).1.map fun r => (o, r)))
              ⟨_, _, _, _, _, rfl, s05, s5 _ _ h3, hr5, hrp, rfl, ys, s5 _ _ hy, ?_⟩ ?_ ?_
            · rw [show (nRun m (lastCov ls o) 0).1 = [] from rfl, List.map_nil, List.append_nil]
              exact rTup_gr.mono.all (Kg.of s5) hyp
            · rintro j σ H6 hj ⟨vb, v6, v7, v8, v9, rfl, s6, h3, hD4', hrp, hb, ys, hy, hyp⟩
              refine ⟨_, rfl, D4, rfl, ⟨_, SqL.of hD4'⟩, fun D5 hD5 => lc_L (R := rLk) (S := rS) (as := ls.filter fun l => decide (l.1 = o)) rTup_gr.mono rV_gr (fun l => if hasB l.2 j = true then some (kS l.2.2.2) else none) hD5 (SqL.of hD4') hrp (by rw [hrp.length]; exact Nat.le_trans (List.length_filter_le _ _) (by omega)) (fun j2 y l hl H7 s7 hy5 N Z hN hZ => ?_) fun H7 tls s7 ht7 htp => ?_⟩
              · obtain ⟨t, rfl, ht⟩ := hy5
                refine ⟨rfl, _, rfl, _, rfl, t, l, _, rfl, ht, _, rfl, ?_⟩
                rw [Int.zero_add]
                by_cases c : hasB l.2 j = true
                · rw [c]
                  exact iteT ⟨_, rfl, _, _, _, _, rfl, rfl, SqT.of ht, rfl, hN _ _ _ (Same.refl _) (if_pos c) rfl⟩
                · rw [Bool.not_eq_true] at c
                  rw [c]
                  exact iteF (hZ _ (Same.refl _) (if_neg (by rw [c]; exact Bool.false_ne_true)))
              · have e1 : (ls.filter fun l => decide (l.1 = o)).filterMap (fun l => if hasB l.2 j = true then some (kS l.2.2.2) else none) = (((ls.filter fun l => decide (l.1 = o)).filter fun l => hasB l.2 j).map fun l => kS l.2.2.2) := by
                  exact filter_fmap (fun l : Lk Str => hasB l.2 j) (fun l => kS l.2.2.2) _
                rw [e1] at htp
                have et := paired_rV htp
                have elc := lastCov_told ls o j
                rw [Int.zero_add]
                have ni : NI H D3 D4 F owners rws (ls.filter fun l => decide (l.1 = o)) (normal m (owners.take i) ls) o vb (nRun m (lastCov ls o) j) H7 := NI.ext ⟨s6, h3, hD4', hrp, hb, ys, hy, hyp⟩ s7
                have hF3' : F ≠ D3 := fun e => by rw [e] at hF3; exact absurd hF3 (by rw [← e] at hD3; intro z; have := (s2.trans s3) _ _ (upd_same (H := H) (a := F) (o := .lst [])); rw [hD3] at this; cases this)
                have hF4' : F ≠ D4 := ne_new (by assumption) hD4
                have hlen : (normal m (owners.take i) ls ++ (nRun m (lastCov ls o) j).1.map fun r => (o, r)).length ≤ 200000 := by
                  have h1 := len_flatR (fun o => (normRows m (lastCov ls o)).map fun r => (o, r)) 1002 (owners.take i) fun x _ => by
                    rw [List.length_map]
                    exact Nat.le_trans (nRun_len m _ (m + 2)) (by omega)
                  have h2 := nRun_len m (lastCov ls o) j
                  have h3 : (owners.take i).length ≤ 60 := by rw [List.length_take]; omega
                  rw [List.length_append, List.length_map]
                  have h4 : (normal m (owners.take i) ls).length ≤ (owners.take i).length * 1002 := h1
                  omega
                have stepq : ∀ lc, lastCov ls o j = lc → nS2 m lc (nS1 m lc (nRun m (lastCov ls o) j) j) j = nRun m (lastCov ls o) (j + 1) := fun lc h => by rw [nRun_succ, nStep_eq, h]
                generalize hfl : ((ls.filter fun l => decide (l.1 = o)).filter fun l => hasB l.2 j) = fl2 at htp et elc
                refine ⟨_, rfl, Nat.zero_le _, fun p hp => ⟨D5, p, tls, rfl, rfl, SqL.of (same_upd hp _ _ ht7), SqL.of upd_same, _, rfl, ?_⟩⟩
                have ni2 := ni.ext (same_upd (o := .lst []) hp)
                by_cases ce : fl2 = []
                · subst ce
                  rw [et]
                  have elc' : lastCov ls o j = none := elc
                  refine iteF (nl12 none ni2 hF hF3' hF4' hlen fun vb' H9 n9 => ?_)
                  rw [stepq none elc'] at n9
                  exact ⟨vb', _, _, _, _, rfl, n9.same, n9.d3, n9.d4, n9.rw, n9.beg, n9.ys⟩
                · obtain ⟨fi, l, rfl⟩ : ∃ fi l, fl2 = fi ++ [l] := ⟨_, _, (List.dropLast_concat_getLast ce).symm⟩
                  have elc' : lastCov ls o j = some l.2.2.2 := by rw [elc, List.getLast?_append]; rfl
                  have et' : tls = (fi.map fun l => V.str (kS l.2.2.2)) ++ [V.str (kS l.2.2.2)] := by
                    rw [et, List.map_map, List.map_append]
                    rfl
                  subst et'
                  have ee : (!((fi.map fun l => V.str (kS l.2.2.2)) ++ [V.str (kS l.2.2.2)]).isEmpty) = true := by simp
                  rw [if_pos rfl, ee]
                  refine iteT ⟨_, rfl, _, rfl, D5, _, _, _, rfl, rfl, SqL.of (same_upd hp _ _ ht7), atI_last _ _, nl12 (some l.2.2.2) ni2 hF hF3' hF4' hlen fun vb' H9 n9 => ?_⟩
                  rw [stepq _ elc'] at n9
                  exact ⟨vb', _, _, _, _, rfl, n9.same, n9.d3, n9.d4, n9.rw, n9.beg, n9.ys⟩
            · rintro σ H6 ⟨vb, v6, v7, v8, v9, rfl, s6, h3, hD4', hrp, hb, ys, hy, hyp⟩
              refine ⟨_, _, _, _, _, _, _, rfl, s6, h3, ys, hy, ?_⟩
              rw [List.take_add_one, ei]
              unfold normal
              rw [Option.toList_some, List.flatMap_append, List.flatMap_singleton]
              exact hyp
      · rintro σ H4 ⟨v3, v4, v5, v6, v7, v8, v9, rfl, s4, h3, ys, hy, hyp⟩
        rw [List.length_map, List.take_length] at hyp
        exact ⟨_, rfl, q F H4 ys owners hF s4 hy hyp hown hasc⟩)
end
end WH
set_option Elab.async false
set_option linter.all false
set_option maxRecDepth 100000
set_option maxHeartbeats 2000000
namespace WH
open PySem PySem.Spec PyProof.Rows L2 WM LamX
abbrev s__law_lk_drawn : Stmt := topS 58
theorem sc__law_lk_drawn : FnScope ["_law_stream", "_law_owners", "_law_many", "_law_found", "_law_k", "_law_lock", "_law_standing"] ["_law_stream", "_law_owners", "_law_many"] (defScope s__law_lk_drawn) := ⟨rfl, rfl, rfl, by decide +kernel, rfl, by decide +kernel, by decide +kernel⟩
structure LsIn (os : List Str) (ls : List (Lk Str)) : Prop where
  mem : ∀ l ∈ ls, LkIn os l
  ok : AllOk ls
  few : ls.length ≤ 10
theorem normal_len {m : Nat} {owners : List Str} {ls : List (Lk Str)} (ha : Asc sLt owners) (ho : ∀ o, o ∈ owners ↔ o ∈ ls.map (·.1)) (hl : ls.length ≤ 60) (hm : m ≤ 1000) : (normal m owners ls).length ≤ 100000 := by
  have h1 := len_flatR (fun o => (normRows m (lastCov ls o)).map fun r => (o, r)) 1002 owners fun x _ => by
    rw [List.length_map]
    exact Nat.le_trans (nRun_len m _ (m + 2)) (by omega)
  have h2 : owners.length ≤ (ls.map (·.1)).length := nodup_len (ha.nodup sLo) fun x hx => (ho x).1 hx
  rw [List.length_map] at h2
  have h4 : (normal m owners ls).length ≤ owners.length * 1002 := h1
  omega
section
variable {P : Program} {w : World} {K : PySem.W.Frag} {mg : Str → Option Value} {base : Heap}
def sp_drawn : Sp := fun vs H Q _ => ∃ (S L a : Addr) (os : List Str) (n : Nat), vs = [.ref S, .ref a, .int 8] ∧ H a = some (.lst (os.map V.str)) ∧ os ≠ [] ∧ os.length ≤ 5 ∧ Dr S L H n ∧ n ≤ 800000 ∧
  ∀ p ys ls H' n', H p = none → H' p = some (.lst ys) → Paired (rLk H') ys ls → LsIn os ls → KD S L H H' → n' ≤ n + 100 → Dr S L H' n' → Q (.ref p) H'
theorem ok__law_lk_drawn {f : Addr} {fd : FuncData} (D : Df K mg "_law_lk_drawn" s__law_lk_drawn ["_law_stream", "_law_owners", "_law_many"] f fd) (T : Bl mg) (G__law_lk_clash : Dn P w K mg base CX0 2 "_law_lk_clash" ["_law_one", "_law_other"] sp_clash) (G__law_lk_lock : Dn P w K mg base CX0 3 "_law_lk_lock" ["_law_stream", "_law_owners", "_law_ends"] sp_lk_lock) (G__law_lk_normal : Dn P w K mg base CX0 2 "_law_lk_normal" ["_law_locks", "_law_most"] sp_normal) : Dn P w K mg base CX0 4 "_law_lk_drawn" ["_law_stream", "_law_owners", "_law_many"] sp_drawn := .of D (by
  refine D.fn.ok sc__law_lk_drawn (fun vs H Q E h => ?_) (fun cdv A outer s H vs Q E hr h => ?_)
  · obtain ⟨S, L, a, os, n, rfl, _⟩ := h
    rfl
  · obtain ⟨S, L, a, os, n, rfl, ha, hne, hl, hd, hn, q⟩ := h
    refine ⟨_, (pss_cons (ps_set (i := 3) sc__law_lk_drawn.nd rfl (Or.inl rfl) (pe_lst pa_nil))
      (pss_cons (ps_for PassesOwn.never rfl (pi_range1 (by rfl) T.b_range (pa_cons (pv 2) pa_nil)) (pg_name (i := 4) sc__law_lk_drawn.nd rfl (Or.inl rfl))
        (pss_cons (ps_set (i := 5) sc__law_lk_drawn.nd rfl (Or.inr rfl) (pe_cl G__law_lk_lock (hr.mono (by decide)) (pa_cons (pv 0) (pa_cons (pv 1) (pa_cons (pe_int) pa_nil)))))
        (pss_one (ps_if (pt_not (pt_val (pe_callB (anyK K) (by rfl) T.b_any (by decide +kernel) (pa_cons (pe_lc (own := [("_law_standing", 6)]) rfl sc__law_lk_drawn.nd (pil K (pe_cl G__law_lk_normal (hr.mono (by decide)) (pa_cons (pv 3) (pa_cons (pe_int) pa_nil)))) (blkOk_by (N := ["_law_stream", "_law_owners", "_law_many", "_law_found", "_law_k", "_law_lock", "_law_standing"]) (sc := defScope s__law_lk_drawn) (by decide +kernel)) (fun _ _ _ _ _ => pg_name (i := 6) sc__law_lk_drawn.nd rfl (Or.inl rfl)) (fun _ _ _ _ _ => pts_nil) (fun _ _ _ _ _ => pe_cl G__law_lk_clash (hr.mono (by decide)) (pa_cons (pv 6) (pa_cons (pv 5) pa_nil)))) pa_nil)))) (pss_one (ps_expr (bmK K PySem.F.plainAttrs_list PySem.F.slot_list_append PySem.F.type_list_append mt_append (pv 3) (pa_cons (pv 5) pa_nil)))) pss_nil))))
      (pss_one (ps_ret (pv 3))))), ?_⟩
    refine ⟨Nat.zero_le _, fun F hF => ?_⟩
    obtain ⟨a1, a2⟩ := hd.nS ha fun _ z => nomatch z
    obtain ⟨F1, F2⟩ := hd.new hF
    refine ⟨_, rfl, _, rfl, by omega, by omega, ?_⟩
    refine for_range (lo := 0) (n := 8) (fun j σ H6 => ∃ v4 v5 v6, σ = [some (.ref S), some (.ref a), some (.int 8), some (.ref F), v4, v5, v6] ∧ KD S L H H6 ∧ ∃ n6, n6 ≤ n + 10 * j ∧ Dr S L H6 n6 ∧ ∃ ys ls, H6 F = some (.lst ys) ∧ Paired (rLk H6) ys ls ∧ (∀ l ∈ ls, LkIn os l) ∧ AllOk ls ∧ ls.length ≤ j)
      ⟨_, _, _, rfl, KD.of (same_upd hF), n, by omega, hd.same (same_upd hF), [], [], upd_same, .nil, (fun l hl => nomatch hl), allOk_nil, Nat.zero_le _⟩ ?_ ?_
    · rintro j σ H6 hj ⟨v4, v5, v6, rfl, k6, n6, hn6, d6, ys, ls, hy, hyp, hls, hok, hll⟩
      refine ⟨_, rfl, _, rfl, S, L, a, os, n6, rfl, k6 _ _ a1 a2 ha, hne, by omega, d6, by omega, fun p l H7 n7 hp6 hp7 hin k7 hn7 d7 => ?_⟩
      have g7 := d6.kg k7
      have hy7 := g7.l hy
      have hyp7 := rTup_gr.mono.all g7 hyp
      refine ⟨_, rfl, F, ys, ls, 40, rfl, hy7, hyp7, by omega, by omega, fun N H8 zs owners hN8 s8 hN hzp hown hasc => ?_⟩
      refine ⟨N, rfl, ⟨_, SqL.of hN⟩, fun D1 hD1 => lc_L (R := rLk) (S := rV V.bl) (as := normal 40 owners ls) rTup_gr.mono rV_gr (fun l' => some (lawClash l' l)) hD1 (SqL.of hN) hzp ?_ (fun i y l' hl' H9 s9 hy9 N Z hN hZ => ?_) fun H9 bs s9 hb hbp => ?_⟩
      · rw [hzp.length]
        exact normal_len hasc hown (by omega) (by omega)
      · obtain ⟨t, rfl, ht⟩ := hy9
        exact ⟨rfl, ty ⟨_, rfl, _, rfl, t, p, l', l, rfl, ht, s9 _ _ (s8 _ _ hp7), fun H10 s10 => hN _ _ _ s10 rfl rfl⟩⟩
      · rw [filterMap_some] at hbp
        have hbe := paired_rV hbp
        have s79 := s8.trans s9
        have hy9 := s79 _ _ hy7
        have hyp9 := rTup_gr.mono.all (Kg.of s79) hyp7
        have k9 : KD S L H H9 := (k6.trans k7).trans (KD.of s79)
        refine ⟨D1, (normal 40 owners ls).map fun l' => lawClash l' l, rfl, SqL.of (by rw [hb, hbe]), _, rfl, ?_⟩
        by_cases c : ((normal 40 owners ls).map fun l' => lawClash l' l).any id = true
        · rw [c]
          exact iteF ⟨_, _, _, rfl, k9, n7, by omega, d7.same s79, ys, ls, hy9, hyp9, hls, hok, by omega⟩
        · rw [Bool.not_eq_true] at c
          rw [c]
          have hnc : ∀ s ∈ normal 40 owners ls, lawClash s l = false := fun s hs => by
            rw [List.any_map, List.any_eq_false] at c
            have := c s hs
            simpa using this
          have hnext := law_next (fun l hl => (hls l hl).2) hown hnc
          refine iteT ⟨_, rfl, .inl ⟨rfl, _, SqL.of hy9⟩, _, rfl, F, ys, _, rfl, rfl, hy9, by rw [hyp9.length, sizeLine_eq]; omega, _, _, _, rfl, k9.own hF, n7, by omega, (d7.same s79).upd F1 F2, _, ls ++ [l], upd_same, ?_, ?_, allOk_snoc.2 ⟨hok, hnext⟩, by rw [List.length_append, List.length_singleton]; omega⟩
          · refine Paired.app (rTup_gr.fl.all hy9 hyp9) (.cons ⟨p, rfl, ?_⟩ .nil)
            rw [upd_ne (ne_of (s79 _ _ hp7) hy9 (fun z => nomatch z))]
            exact s79 _ _ hp7
          · intro x hx
            rcases List.mem_append.1 hx with hx | hx
            · exact hls x hx
            · rw [List.mem_singleton] at hx
              exact hx ▸ hin
    · rintro σ H6 ⟨v4, v5, v6, rfl, k6, n6, hn6, d6, ys, ls, hy, hyp, hls, hok, hll⟩
      exact ⟨_, rfl, q F ys ls H6 n6 hF hy hyp ⟨hls, hok, by omega⟩ k6 (by omega) d6⟩)
end
end WH
set_option Elab.async false
set_option linter.all false
set_option maxRecDepth 100000
set_option maxHeartbeats 2000000
namespace WH
open PySem PySem.Spec PyProof.Rows L2 WM LamX
abbrev s__law_lk_spread : Stmt := topS 59
theorem sc__law_lk_spread : FnScope ["_law_stream", "_law_owners", "_law_found", "_law_number", "_law_owner", "_law_begin"] ["_law_stream", "_law_owners"] (defScope s__law_lk_spread) := ⟨rfl, rfl, rfl, by decide +kernel, rfl, by decide +kernel, by decide +kernel⟩
def SpA (os : List Str) (l : Lk Str) : Prop := (∃ (k : Nat) (z : Int), os[k]? = some l.1 ∧ k < 5 ∧ l.2.1 = 4 * (k : Int) ∧ l.2.2.1 = some z ∧ 4 * (k : Int) < z ∧ z ≤ 4 * (k : Int) + 4) ∨ (l.2.2.2 = false ∧ l.1 ∈ os ∧ 28 ≤ l.2.1 ∧ l.2.1 ≤ 30 ∧ (l.2.2.1 = none ∨ l.2.2.1 = some 33))
theorem SpA.ok {os : List Str} {l : Lk Str} (h : SpA os l) : LkIn os l := by
  obtain ⟨o, b, e, k⟩ := l
  rcases h with ⟨j, z, h1, h2, rfl, rfl, h5, h6⟩ | ⟨h1, h0, h2, h3, h4⟩
  · refine ⟨List.mem_of_getElem? h1, ⟨⟨by show (0 : Int) ≤ 4 * (j : Int); omega, fun y hy => ?_⟩, by show 4 * (j : Int) ≤ ((40 : Nat) : Int); omega, fun y hy => ?_⟩⟩
    · injection hy with hy
      show 4 * (j : Int) < y
      omega
    · injection hy with hy
      omega
  · refine ⟨h0, ⟨⟨by show (0 : Int) ≤ b; simp only at h2; omega, fun y hy => ?_⟩, by show b ≤ ((40 : Nat) : Int); simp only at h3; omega, fun y hy => ?_⟩⟩
    · simp only at h2 h3 h4 hy
      rcases h4 with rfl | rfl
      · cases hy
      · injection hy with hy
        show b < y
        omega
    · simp only at h4 hy
      rcases h4 with rfl | rfl
      · cases hy
      · injection hy with hy
        omega
theorem spA_pair {os : List Str} {ls : List (Lk Str)} (h : ∀ l ∈ ls, SpA os l) : PairOk ls := by
  intro l hl m hm hne p hp hq
  obtain ⟨o, b, e, k⟩ := l
  obtain ⟨o2, b2, e2, k2⟩ := m
  rcases h _ hl with ⟨j, z, h1, h2, h3, h4, h5, h6⟩ | ⟨h1, h0, h2, h3, h4⟩ <;> rcases h _ hm with ⟨j', z', h1', h2', h3', h4', h5', h6'⟩ | ⟨h1', h0', h2', h3', h4'⟩
  · simp only at h1 h3 h4 h1' h3' h4' hp hq hne
    subst h3 h4 h3' h4'
    rw [inR_some] at hp hq
    have : j = j' := by omega
    subst this
    rw [h1] at h1'
    injection h1' with h1'
    exact absurd h1' hne
  · simp only at h1 h3 h4 h1' h3' h4' hp hq hne h2'
    subst h3 h4
    rw [inR_some] at hp
    have := hq.1
    omega
  · simp only at h1 h3 h4 h1' h3' h4' hp hq hne h2
    subst h3' h4'
    rw [inR_some] at hq
    have := hp.1
    omega
  · exact ⟨h1, h1'⟩
theorem Paired.perm {α β : Type} {F : α → β → Prop} : ∀ {xs ys : List α}, ys.Perm xs → ∀ {ls : List β}, Paired F xs ls → ∃ ms, ms.Perm ls ∧ Paired F ys ms := by
  intro xs ys h
  induction h with
  | nil => intro ls p; exact ⟨ls, .refl _, p⟩
  | cons x h ih =>
    intro ls p
    cases p with
    | cons a t =>
      obtain ⟨ms, q, r⟩ := ih t
      exact ⟨_ :: ms, q.cons _, .cons a r⟩
  | swap x y l =>
    intro ls p
    cases p with
    | cons a t =>
      cases t with
      | cons b t => exact ⟨_ :: _ :: _, .swap _ _ _, .cons b (.cons a t)⟩
  | trans h1 h2 ih1 ih2 =>
    intro ls p
    obtain ⟨ms, q, r⟩ := ih2 p
    obtain ⟨ns, q2, r2⟩ := ih1 r
    exact ⟨ns, q2.trans q, r2⟩
section
variable {P : Program} {w : World} {K : PySem.W.Frag} {mg : Str → Option Value} {base : Heap}
def sp_spread : Sp := fun vs H Q _ => ∃ (S L a : Addr) (os : List Str) (n : Nat), vs = [.ref S, .ref a] ∧ H a = some (.lst (os.map V.str)) ∧ os ≠ [] ∧ os.length ≤ 5 ∧ Dr S L H n ∧ n ≤ 800000 ∧
  ∀ p ys ls H' n', H p = none → H' p = some (.lst ys) → Paired (rLk H') ys ls → LsIn os ls → KD S L H H' → n' ≤ n + 100 → Dr S L H' n' → Q (.ref p) H'
theorem ok__law_lk_spread {f : Addr} {fd : FuncData} (D : Df K mg "_law_lk_spread" s__law_lk_spread ["_law_stream", "_law_owners"] f fd) (T : Bl mg) (G__law_draw : Dn P w K mg base CX0 1 "_law_draw" ["_law_stream", "_law_many"] sp_draw) (G__law_mixed : Dn P w K mg base CX0 2 "_law_mixed" ["_law_stream", "_law_some"] sp_mixed) (G__law_pick : Dn P w K mg base CX0 2 "_law_pick" ["_law_stream", "_law_some"] sp_pick) : Dn P w K mg base CX0 3 "_law_lk_spread" ["_law_stream", "_law_owners"] sp_spread := .of D (by
  refine D.fn.ok sc__law_lk_spread (fun vs H Q E h => ?_) (fun cdv A outer s H vs Q E hr h => ?_)
  · obtain ⟨S, L, a, os, n, rfl, _⟩ := h
    rfl
  · obtain ⟨S, L, a, os, n, rfl, ha, hne, hl, hd, hn, q⟩ := h
    refine ⟨_, (pss_cons (ps_set (i := 2) sc__law_lk_spread.nd rfl (Or.inl rfl) (pe_lst pa_nil))
      (pss_cons (ps_for PassesOwn.never rfl (enumA K (by rfl) T.b_enumerate (pa_cons (pe_cl G__law_mixed (hr.mono (by decide)) (pa_cons (pv 0) (pa_cons (pv 1) pa_nil))) pa_nil)) (tupG K (n := 2) rfl (pgs_cons (pg_name (i := 3) sc__law_lk_spread.nd rfl (Or.inl rfl)) (pgs_cons (pg_name (i := 4) sc__law_lk_spread.nd rfl (Or.inl rfl)) pgs_nil)))
        (pss_cons (ps_set (i := 5) sc__law_lk_spread.nd rfl (Or.inl rfl) (pe_op op_mul (pe_int) (pv 3)))
        (pss_cons (ps_expr (bmK K PySem.F.plainAttrs_list PySem.F.slot_list_append PySem.F.type_list_append mt_append (pv 2) (pa_cons (pe_tup (pa_cons (pv 4) (pa_cons (pv 5) (pa_cons (pe_op op_add (pe_op op_add (pv 5) (pe_int)) (pe_cl G__law_draw (hr.mono (by decide)) (pa_cons (pv 0) (pa_cons (pe_int) pa_nil)))) (pa_cons (pe_cl G__law_pick (hr.mono (by decide)) (pa_cons (pv 0) (pa_cons (pe_lst (pa_cons (pe_str) (pa_cons (pe_str) pa_nil))) pa_nil))) pa_nil))))) pa_nil)))
        (pss_one (ps_if (pt_cmpR op_eq (pe_cl G__law_draw (hr.mono (by decide)) (pa_cons (pv 0) (pa_cons (pe_int) pa_nil))) (pe_int) (nomark _)) (pss_one (ps_expr (bmK K PySem.F.plainAttrs_list PySem.F.slot_list_append PySem.F.type_list_append mt_append (pv 2) (pa_cons (pe_tup (pa_cons (pv 4) (pa_cons (pe_op op_add (pe_int) (pe_cl G__law_draw (hr.mono (by decide)) (pa_cons (pv 0) (pa_cons (pe_int) pa_nil)))) (pa_cons (pe_cl G__law_pick (hr.mono (by decide)) (pa_cons (pv 0) (pa_cons (pe_lst (pa_cons (pe_non) (pa_cons (pe_int) pa_nil))) pa_nil))) (pa_cons (pe_str) pa_nil))))) pa_nil)))) pss_nil)))))
      (pss_one (ps_ret (pe_cl G__law_mixed (hr.mono (by decide)) (pa_cons (pv 0) (pa_cons (pv 2) pa_nil))))))), ?_⟩
    refine ⟨Nat.zero_le _, fun F hF => ?_⟩
    obtain ⟨a1, a2⟩ := hd.nS ha fun _ z => nomatch z
    obtain ⟨F1, F2⟩ := hd.new hF
    refine ⟨_, rfl, _, rfl, S, L, a, _, n, rfl, same_upd hF _ _ ha, by rw [List.length_map]; omega, hd.same (same_upd hF), by omega, fun B H2 ys hB hperm hB2 k2 d2 => ?_⟩
    rw [List.length_map] at d2
    obtain ⟨os', rfl, hos⟩ := perm_strs hperm
    have hol : os'.length = os.length := hos.length_eq
    have hF2 : H2 F = some (.lst []) := k2 _ _ F1 F2 upd_same
    have kk := (KD.of (same_upd (o := .lst []) hF)).trans k2
    refine ⟨B, rfl, for_enumA (xs := os'.map V.str) (fun i σ H6 => ∃ v3 v4 v5, σ = [some (.ref S), some (.ref a), some (.ref F), v3, v4, v5] ∧ KD S L H H6 ∧ H6 B = some (.lst (os'.map V.str)) ∧ ∃ n6, n6 ≤ n + os.length + 10 * i ∧ Dr S L H6 n6 ∧ ∃ ys ls, H6 F = some (.lst ys) ∧ Paired (rLk H6) ys ls ∧ (∀ l ∈ ls, SpA os' l) ∧ ls.length ≤ 2 * i)
      (.inl fun i σ H6 ⟨_, _, _, _, _, h, _⟩ => SqL.of h) ⟨_, _, _, rfl, kk, hB2, _, by omega, d2, [], [], hF2, .nil, (fun l hl => nomatch hl), Nat.zero_le _⟩ ?_ ?_⟩
    · rintro i y σ H6 t hi ⟨v3, v4, v5, rfl, k6, hB6, n6, hn6, d6, ys, ls, hy, hyp, hls, hll⟩ ht
      rw [List.getElem?_map] at hi
      cases ei : os'[i]? with
      | none => rw [ei] at hi; cases hi
      | some o =>
        rw [ei] at hi
        injection hi with hi
        subst hi
        have hil : i < os'.length := (List.getElem?_eq_some_iff.mp ei).1
        have st := same_upd (o := .tup [.int (i : Nat), .str o]) ht
        have hcm : CMul 4 (i : Int) := .inl ⟨by decide, by decide⟩
        obtain ⟨B1', B2'⟩ := d2.nS hB2 fun _ z => nomatch z
        have d6 := d6.same st
        have hy := st _ _ hy
        have hyp := rTup_gr.mono.all (Kg.of st) hyp
        have k6 := k6.trans (KD.of st)
        have hB6 := st _ _ hB6
        refine ⟨t, _, rfl, SqT.of upd_same, rfl, _, _, rfl, _, _, rfl, rfl, _, rfl, _, _, rfl, rfl, hcm, ?_⟩
        refine ⟨_, rfl, .inl ⟨rfl, _, SqL.of hy⟩, _, rfl, _, rfl, _, rfl, _, _, rfl, rfl, _, rfl, S, L, 4, n6, rfl, d6, by omega, by decide, by decide, fun e H7 he k7 d7 => ?_⟩
        refine ⟨_, _, rfl, rfl, _, rfl, sz2, fun p hp => pick_new d7 (by omega) hp (by simp) (by simp) fun x H8 hx _ k8 d8 => ?_⟩
        obtain ⟨k, rfl⟩ : ∃ k, x = .str (kS k) := by
          simp only [List.mem_cons, List.not_mem_nil, or_false] at hx
          rcases hx with rfl | rfl
          · exact ⟨false, rfl⟩
          · exact ⟨true, rfl⟩
        have k68 := k7.trans k8
        have g68 := d6.kg k68
        -- after the first of both is added
        refine ⟨sz4, fun p2 hp2 => ?_⟩
        generalize hl1 : ((o, 4 * (i : Int), some (4 * (i : Int) + 1 + (e : Int)), k) : Lk Str) = l1
        have hl1v : [V.str o, V.int (4 * (i : Int)), V.int (4 * (i : Int) + 1 + (e : Int)), V.str (kS k)] = lkV l1 := by rw [← hl1]; rfl
        rw [hl1v]
        have s2 := same_upd (o := .tup (lkV l1)) hp2
        have hy8 := s2 _ _ (g68.l hy)
        have hyp8 := rTup_gr.mono.all (Kg.of s2) (rTup_gr.mono.all g68 hyp)
        have hyl : ys.length ≤ 10 := by rw [hyp.length]; omega
        refine ⟨F, ys, _, rfl, rfl, hy8, by rw [sizeLine_eq]; omega, ?_⟩
        obtain ⟨q1, q2⟩ := d8.new hp2
        have hBF : B ≠ F := fun z => by rw [z, hF2] at hB2; cases os' with
          | nil => simp at hil
          | cons _ _ => cases hB2
        have d9 : Dr S L (upd (upd H8 p2 (.tup (lkV l1))) F (.lst (ys ++ [.ref p2]))) (n6 + 1 + 1) := (d8.upd q1 q2).upd F1 F2
        have k9 : KD S L H (upd (upd H8 p2 (.tup (lkV l1))) F (.lst (ys ++ [.ref p2]))) := ((k6.trans k68).trans (KD.of s2)).own hF
        have hB9 : upd (upd H8 p2 (.tup (lkV l1))) F (.lst (ys ++ [.ref p2])) B = some (.lst (os'.map V.str)) := by
          rw [upd_ne hBF]
          exact s2 _ _ (g68.l hB6)
        have hF9 : upd (upd H8 p2 (.tup (lkV l1))) F (.lst (ys ++ [.ref p2])) F = some (.lst (ys ++ [.ref p2])) := upd_same
        have hp9 : Paired (rLk (upd (upd H8 p2 (.tup (lkV l1))) F (.lst (ys ++ [.ref p2])))) (ys ++ [.ref p2]) (ls ++ [l1]) := by
          refine Paired.app (rTup_gr.fl.all hy8 hyp8) (.cons ⟨p2, rfl, ?_⟩ .nil)
          rw [upd_ne (ne_new (g68.l hy) hp2).symm, upd_same]
        have hsp1 : ∀ l ∈ ls ++ [l1], SpA os' l := by
          intro l hl
          rcases List.mem_append.1 hl with hl | hl
          · exact hls l hl
          · rw [List.mem_singleton] at hl
            subst hl
            rw [← hl1]
            exact .inl ⟨i, _, ei, by omega, rfl, rfl, by omega, by omega⟩
        generalize upd (upd H8 p2 (.tup (lkV l1))) F (.lst (ys ++ [.ref p2])) = H9 at d9 k9 hB9 hF9 hp9
        have hyl9 : (ys ++ [V.ref p2]).length = ys.length + 1 := by rw [List.length_append]; rfl
        have hll9 : (ls ++ [l1]).length = ls.length + 1 := by rw [List.length_append]; rfl
        refine ⟨_, rfl, S, L, 2, n6 + 1 + 1, rfl, d9, by omega, by decide, by decide, fun c H10 hc k10 d10 => ?_⟩
        refine ⟨rfl, _, rfl, ?_⟩
        have g10 := d9.kg k10
        by_cases c0 : decide (V.int (c : Int) = .int 0) = true
        · rw [c0]
          refine iteT ⟨_, rfl, .inl ⟨rfl, _, SqL.of (g10.l hF9)⟩, _, rfl, _, rfl, S, L, 3, _, rfl, d10, by omega, by decide, by decide, fun b H11 hb k11 d11 => ?_⟩
          refine ⟨_, _, rfl, rfl, _, rfl, sz2, fun p3 hp3 => pick_new d11 (by omega) hp3 (by simp) (by simp) fun x H12 hx _ k12 d12 => ?_⟩
          obtain ⟨en, rfl, hen⟩ : ∃ en : Option Int, x = eV en ∧ (en = none ∨ en = some 33) := by
            simp only [List.mem_cons, List.not_mem_nil, or_false] at hx
            rcases hx with rfl | rfl
            · exact ⟨none, rfl, .inl rfl⟩
            · exact ⟨some 33, rfl, .inr rfl⟩
          have k912 := (k10.trans k11).trans k12
          have g912 := d9.kg k912
          refine ⟨sz4, fun p4 hp4 => ?_⟩
          have s4 := same_upd (o := .tup (lkV (o, 28 + (b : Int), en, false))) hp4
          have hy12 := s4 _ _ (g912.l hF9)
          obtain ⟨q3, q4⟩ := d12.new hp4
          refine ⟨F, _, _, rfl, rfl, hy12, by rw [hyl9, sizeLine_eq]; omega, _, _, _, rfl, ((k9.trans k912).trans (KD.of s4)).own hF, ?_, _, ?_, (d12.upd q3 q4).upd F1 F2, _, _, upd_same, Paired.app (rTup_gr.fl.all hy12 (rTup_gr.mono.all (Kg.of s4) (rTup_gr.mono.all g912 hp9))) (.cons ⟨p4, rfl, ?_⟩ .nil), (?_ : ∀ l ∈ (ls ++ [l1]) ++ [(o, 28 + (b : Int), en, false)], SpA os' l), ?_⟩
          · rw [upd_ne hBF]
            exact s4 _ _ (g912.l hB9)
          · omega
          · rw [upd_ne (ne_new (g912.l hF9) hp4).symm, upd_same]
            rfl
          · intro l hl
            rcases List.mem_append.1 hl with hl | hl
            · exact hsp1 l hl
            · rw [List.mem_singleton] at hl
              subst hl
              exact .inr ⟨rfl, List.mem_of_getElem? ei, by show (28 : Int) ≤ 28 + (b : Int); omega, by show 28 + (b : Int) ≤ 30; omega, hen⟩
          · rw [List.length_append, hll9]
            show ls.length + 1 + 1 ≤ _
            omega
        · rw [Bool.not_eq_true] at c0
          rw [c0]
          exact iteF ⟨_, _, _, rfl, k9.trans k10, g10.l hB9, _, by omega, d10, _, _, g10.l hF9, rTup_gr.mono.all g10 hp9, hsp1, by omega⟩
    · rintro σ H6 ⟨v3, v4, v5, rfl, k6, hB6, n6, hn6, d6, ys, ls, hy, hyp, hls, hll⟩
      rw [List.length_map] at hn6 hll
      refine ⟨_, rfl, _, rfl, S, L, F, ys, n6, rfl, hy, by rw [hyp.length]; omega, d6, by omega, fun B2 H7 zs hB2 hperm2 hz k7 d7 => ?_⟩
      obtain ⟨ms, hms, hzp⟩ := Paired.perm hperm2 (rTup_gr.mono.all (d6.kg k7) hyp)
      have hsp : ∀ l ∈ ms, SpA os' l := fun l hl => hls l (hms.mem_iff.1 hl)
      refine q B2 zs ms H7 _ (hd.free k6 d6 hB2) hz hzp ⟨fun l hl => ?_, pairOk_allOk (spA_pair hsp), by rw [hms.length_eq]; omega⟩ (k6.trans k7) ?_ d7
      · have := (hsp l hl).ok
        exact ⟨hos.mem_iff.1 this.1, this.2⟩
      · rw [hyp.length]
        omega)
end
end WH
set_option Elab.async false
set_option linter.all false
set_option maxRecDepth 100000
set_option maxHeartbeats 2000000
namespace WH
open PySem PySem.Spec PyProof.Rows L2 WM LamX
abbrev s__law_lk_wants : Stmt := topS 60
theorem sc__law_lk_wants : FnScope ["_law_stream", "_law_owners", "_law_locks", "_law_found", "_law_owner", "_law_lock", "_law_others"] ["_law_stream", "_law_owners", "_law_locks"] (defScope s__law_lk_wants) := ⟨rfl, rfl, rfl, by decide +kernel, rfl, by decide +kernel, by decide +kernel⟩
structure WsIn (os : List Str) (wl : List (Lk Str)) : Prop where
  mem : ∀ l ∈ wl, LkIn os l
  nd : (wl.map (·.1)).Nodup
  few : wl.length ≤ 5
def wI (H : Hp) (S L a b B F : Addr) (os os' : List Str) (n i : Nat) (σ : L2.St) (H6 : Hp) : Prop := ∃ v4 v5 v6, σ = [some (.ref S), some (.ref a), some (.ref b), some (.ref F), v4, v5, v6] ∧ KD S L H H6 ∧ H6 B = some (.lst (os'.map V.str)) ∧ ∃ n6, n6 ≤ n + os.length + 15 * i ∧ Dr S L H6 n6 ∧ ∃ ys wl, H6 F = some (.lst ys) ∧ Paired (rLk H6) ys wl ∧ (∀ l ∈ wl, LkIn os l) ∧ (∀ l ∈ wl, l.1 ∈ os'.take i) ∧ (wl.map (·.1)).Nodup ∧ wl.length ≤ i
theorem wI_add {H : Hp} {S L a b B F : Addr} {os os' : List Str} {n i : Nat} {v4 v5 v6 : Option V} {H8 : Hp} {n8 : Nat} {ys : List V} {wl : List (Lk Str)} {l : Lk Str} {p2 : Addr} (hF : H F = none) (hBF : B ≠ F) (F1 : F ≠ S) (F2 : F ≠ L) (k8 : KD S L H H8) (hB : H8 B = some (.lst (os'.map V.str))) (hn : n8 ≤ n + os.length + 15 * (i + 1)) (d8 : Dr S L H8 n8)
    (hy : H8 F = some (.lst ys)) (hyp : Paired (rLk H8) ys wl) (hwl : ∀ l ∈ wl, LkIn os l) (hwi : ∀ l ∈ wl, l.1 ∈ os'.take i) (hwn : (wl.map (·.1)).Nodup) (hwll : wl.length ≤ i) (hi : i ≤ 100) (hnd : os'.Nodup) (ei : os'[i]? = some l.1) (hl : LkIn os l) (hp : H8 p2 = some (.tup (lkV l))) :
    rAppend (.ref F) [.ref p2] H8 fun _ H9 => wI H S L a b B F os os' n (i + 1) [some (.ref S), some (.ref a), some (.ref b), some (.ref F), v4, v5, v6] H9 := by
  have hyl := hyp.length
  have tk : os'.take (i + 1) = os'.take i ++ [l.1] := by rw [List.take_add_one, ei]; rfl
  have hno : l.1 ∉ os'.take i := fun hm => by
    have h := hnd.sublist (List.take_sublist (i + 1) os')
    rw [tk, List.nodup_append] at h
    exact h.2.2 _ hm _ (by simp) rfl
  refine ⟨F, ys, _, rfl, rfl, hy, by rw [sizeLine_eq]; omega, v4, v5, v6, rfl, k8.own hF, by rw [upd_ne hBF]; exact hB, n8, hn, d8.upd F1 F2, _, wl ++ [l], upd_same, ?_, ?_, ?_, ?_, by rw [List.length_append, List.length_singleton]; omega⟩
  · refine Paired.app (rTup_gr.fl.all hy hyp) (.cons ⟨p2, rfl, ?_⟩ .nil)
    rw [upd_ne (ne_of hp hy (fun z => nomatch z))]
    exact hp
  · intro x hx
    rcases List.mem_append.1 hx with hx | hx
    · exact hwl x hx
    · rw [List.mem_singleton] at hx
      exact hx ▸ hl
  · intro x hx
    rw [tk]
    rcases List.mem_append.1 hx with hx | hx
    · exact List.mem_append_left _ (hwi x hx)
    · rw [List.mem_singleton] at hx
      subst hx
      exact List.mem_append_right _ (by simp)
  · rw [List.map_append, List.nodup_append]
    refine ⟨hwn, by simp, fun x hx y hy => ?_⟩
    obtain ⟨l', hl', rfl⟩ := List.mem_map.1 hx
    rw [List.map_singleton, List.mem_singleton] at hy
    subst hy
    exact fun e => hno (e ▸ hwi l' hl')
theorem wI_keep {H : Hp} {S L a b B F : Addr} {os os' : List Str} {n i : Nat} {v4 v5 v6 : Option V} {H8 : Hp} {n8 : Nat} {ys : List V} {wl : List (Lk Str)} (k8 : KD S L H H8) (hB : H8 B = some (.lst (os'.map V.str))) (hn : n8 ≤ n + os.length + 15 * (i + 1)) (d8 : Dr S L H8 n8)
    (hy : H8 F = some (.lst ys)) (hyp : Paired (rLk H8) ys wl) (hwl : ∀ l ∈ wl, LkIn os l) (hwi : ∀ l ∈ wl, l.1 ∈ os'.take i) (hwn : (wl.map (·.1)).Nodup) (hwll : wl.length ≤ i) : wI H S L a b B F os os' n (i + 1) [some (.ref S), some (.ref a), some (.ref b), some (.ref F), v4, v5, v6] H8 :=
  ⟨v4, v5, v6, rfl, k8, hB, n8, hn, d8, ys, wl, hy, hyp, hwl, fun l hl => by
    rw [List.take_add_one]
    exact List.mem_append_left _ (hwi l hl), hwn, by omega⟩
section
variable {P : Program} {w : World} {K : PySem.W.Frag} {mg : Str → Option Value} {base : Heap}
def sp_wants : Sp := fun vs H Q _ => ∃ (S L a b : Addr) (os : List Str) (xs : List V) (ls : List (Lk Str)) (n : Nat), vs = [.ref S, .ref a, .ref b] ∧ H a = some (.lst (os.map V.str)) ∧ os.Nodup ∧ os.length ≤ 5 ∧ H b = some (.lst xs) ∧ Paired (rLk H) xs ls ∧ ls.length ≤ 60 ∧ (∀ l ∈ ls, LkIn os l) ∧ Dr S L H n ∧ n ≤ 800000 ∧
  ∀ p ys wl H' n', H p = none → H' p = some (.lst ys) → Paired (rLk H') ys wl → WsIn os wl → KD S L H H' → n' ≤ n + 100 → Dr S L H' n' → Q (.ref p) H'
theorem ok__law_lk_wants {f : Addr} {fd : FuncData} (D : Df K mg "_law_lk_wants" s__law_lk_wants ["_law_stream", "_law_owners", "_law_locks"] f fd) (T : Bl mg) (G__law_draw : Dn P w K mg base CX0 1 "_law_draw" ["_law_stream", "_law_many"] sp_draw) (G__law_mixed : Dn P w K mg base CX0 2 "_law_mixed" ["_law_stream", "_law_some"] sp_mixed) (G__law_pick : Dn P w K mg base CX0 2 "_law_pick" ["_law_stream", "_law_some"] sp_pick) (G__law_lk_lock : Dn P w K mg base CX0 3 "_law_lk_lock" ["_law_stream", "_law_owners", "_law_ends"] sp_lk_lock) : Dn P w K mg base CX0 4 "_law_lk_wants" ["_law_stream", "_law_owners", "_law_locks"] sp_wants := .of D (by
  refine D.fn.ok sc__law_lk_wants (fun vs H Q E h => ?_) (fun cdv A outer s H vs Q E hr h => ?_)
  · obtain ⟨S, L, a, b, os, xs, ls, n, rfl, _⟩ := h
    rfl
  · obtain ⟨S, L, a, b, os, xs, ls, n, rfl, ha, hnd, hl, hb, hbp, hbl, hbm, hd, hn, q⟩ := h
    refine ⟨_, (pss_cons (ps_set (i := 3) sc__law_lk_wants.nd rfl (Or.inl rfl) (pe_lst pa_nil))
      (pss_cons (ps_for PassesOwn.never rfl (pil K (pe_cl G__law_mixed (hr.mono (by decide)) (pa_cons (pv 0) (pa_cons (pv 1) pa_nil)))) (pg_name (i := 4) sc__law_lk_wants.nd rfl (Or.inr rfl))
        (pss_cons (ps_setLc (i := 6) (own := [("_law_lock", 5)]) rfl sc__law_lk_wants.nd rfl rfl (sw_true rfl rfl rfl (by decide +kernel)) (pil K (pv 2)) (blkOk_by (N := ["_law_stream", "_law_owners", "_law_locks", "_law_found", "_law_owner", "_law_lock", "_law_others"]) (sc := defScope s__law_lk_wants) (by decide +kernel)) (fun _ _ _ _ _ => pg_name (i := 5) sc__law_lk_wants.nd rfl (Or.inl rfl)) (fun _ _ _ _ _ => pts_one (pt_cmpR op_ne (pe_ix (ixT K) (pv 5) (pe_int) (fun _ _ => rfl)) (pv 4) (nomark _))) (fun _ _ _ _ _ => pv 5))
        (pss_one (ps_if (PW.pt (pw_and (pt_cmpR op_gt (pe_cl G__law_draw (hr.mono (by decide)) (pa_cons (pv 0) (pa_cons (pe_int) pa_nil))) (pe_int) (nomark _)) (pw_and1 (pt_cmpR (neE K hr.units) (pv 6) (pe_lst pa_nil) (nomark _))))) (pss_cons (ps_set (i := 5) sc__law_lk_wants.nd rfl (Or.inl rfl) (pe_cl G__law_pick (hr.mono (by decide)) (pa_cons (pv 0) (pa_cons (pv 6) pa_nil))))
          (pss_one (ps_expr (bmK K PySem.F.plainAttrs_list PySem.F.slot_list_append PySem.F.type_list_append mt_append (pv 3) (pa_cons (pe_tup (pa_cons (pv 4) (pa_cons (pe_ix (ixT K) (pv 5) (pe_int) (fun _ _ => rfl)) (pa_cons (pe_ix (ixT K) (pv 5) (pe_int) (fun _ _ => rfl)) (pa_cons (pe_cl G__law_pick (hr.mono (by decide)) (pa_cons (pv 0) (pa_cons (pe_lst (pa_cons (pe_str) (pa_cons (pe_str) (pa_cons (pe_str) pa_nil)))) pa_nil))) pa_nil))))) pa_nil))))) (pss_one (ps_if (pt_cmpR op_eq (pe_cl G__law_draw (hr.mono (by decide)) (pa_cons (pv 0) (pa_cons (pe_int) pa_nil))) (pe_int) (nomark _)) (pss_one (ps_expr (bmK K PySem.F.plainAttrs_list PySem.F.slot_list_append PySem.F.type_list_append mt_append (pv 3) (pa_cons (pe_cl G__law_lk_lock (hr.mono (by decide)) (pa_cons (pv 0) (pa_cons (pe_lst (pa_cons (pv 4) pa_nil)) (pa_cons (pe_int) pa_nil)))) pa_nil)))) pss_nil))))))
      (pss_one (ps_ret (pv 3))))), ?_⟩
    refine ⟨Nat.zero_le _, fun F hF => ?_⟩
    obtain ⟨a1, a2⟩ := hd.nS ha fun _ z => nomatch z
    obtain ⟨F1, F2⟩ := hd.new hF
    refine ⟨_, rfl, _, rfl, S, L, a, _, n, rfl, same_upd hF _ _ ha, by rw [List.length_map]; omega, hd.same (same_upd hF), by omega, fun B H2 ys hB hperm hB2 k2 d2 => ?_⟩
    rw [List.length_map] at d2
    obtain ⟨os', rfl, hos⟩ := perm_strs hperm
    have hol : os'.length = os.length := hos.length_eq
    have hF2 : H2 F = some (.lst []) := k2 _ _ F1 F2 upd_same
    have kk := (KD.of (same_upd (o := .lst []) hF)).trans k2
    have hnd' : os'.Nodup := hos.symm.nodup hnd
    refine ⟨B, rfl, ⟨_, SqL.of hB2⟩, for_list (K := K) (a := B) (xs := os'.map V.str) (wI H S L a b B F os os' n)
      ⟨_, _, _, rfl, kk, hB2, _, by omega, d2, [], [], hF2, .nil, (fun l hl => nomatch hl), (fun l hl => nomatch hl), by simp, Nat.zero_le _⟩ (fun i σ H6 _ ⟨_, _, _, _, _, h, _⟩ => SqL.of h) ?_ ?_⟩
    · rintro i y σ H6 hi ⟨v4, v5, v6, rfl, k6, hB6, n6, hn6, d6, ys, wl, hy, hyp, hwl, hwi, hwn, hwll⟩
      rw [List.getElem?_map] at hi
      cases ei : os'[i]? with
      | none => rw [ei] at hi; cases hi
      | some o =>
        rw [ei] at hi
        injection hi with hi
        subst hi
        have hil : i < os'.length := (List.getElem?_eq_some_iff.mp ei).1
        obtain ⟨b1, b2⟩ := hd.nS hb fun _ z => nomatch z
        have hb6 := k6 _ _ b1 b2 hb
        have hbp6 := rTup_gr.mono.all (hd.kg k6) hbp
        refine ⟨_, rfl, b, rfl, ⟨_, SqL.of hb6⟩, fun D4 hD4 => lc_L (R := rLk) (S := rLk) (as := ls) rTup_gr.mono rTup_gr (fun l => if (!decide (l.1 = o)) = true then some l else none) hD4 (SqL.of hb6) hbp6 (by rw [hbp6.length]; omega) (fun j y l hl H5 s5 hy5 N Z hN hZ => ?_) fun H7 rws s7 hr7 hrp => ?_⟩
        · obtain ⟨t, rfl, ht⟩ := hy5
          refine ⟨rfl, _, rfl, _, _, _, _, rfl, rfl, SqT.of ht, rfl, _, rfl, rfl, _, rfl, ?_⟩
          have e : decide (V.str l.1 = V.str o) = decide (l.1 = o) := by
            by_cases c : l.1 = o
            · rw [c]; simp
            · rw [decide_eq_false c, decide_eq_false fun z => c (by injection z)]
          rw [e]
          by_cases c : (!decide (l.1 = o)) = true
          · rw [c]
            exact iteT ⟨_, rfl, hN _ _ _ (Same.refl _) (if_pos c) ⟨t, rfl, ht⟩⟩
          · rw [Bool.not_eq_true] at c
            rw [c]
            exact iteF (hZ _ (Same.refl _) (if_neg (by rw [c]; exact Bool.false_ne_true)))
        · rw [filter_fm] at hrp
          have hBF : B ≠ F := fun z => by
            rw [z, hF2] at hB2
            cases os' with
            | nil => simp at hil
            | cons _ _ => cases hB2
          have k7 := k6.trans (KD.of s7)
          have d7 := d6.same s7
          have hB7 := s7 _ _ hB6
          have hy7 := s7 _ _ hy
          have hyp7 := rTup_gr.mono.all (Kg.of s7) hyp
          have hbm' : ∀ l ∈ ls.filter (fun l => !decide (l.1 = o)), LkIn os l := fun l hl => hbm l (List.mem_filter.1 hl).1
          have hoin : o ∈ os := hos.mem_iff.1 (List.mem_of_getElem? ei)
          have hrl : rws.length ≤ 100 := by
            rw [hrp.length]
            exact Nat.le_trans (List.length_filter_le _ _) (by omega)
          have other : ∀ H8 n8, KD S L H7 H8 → Dr S L H8 n8 → n8 ≤ n6 + 2 → tIfS
                  (tTest (tOp rEq (tCall sp_draw [] E0 (tCons (tVar 0) (tCons (tC (V.int 2)) tNil))) (tC (V.int 0))))
                  (tDrop
                    (tBM K "list" rAppend (tVar 3)
                      (tCons
                        (tCall sp_lk_lock [] E0
                          (tCons (tVar 0) (tCons (tLst (tCons (tVar 4) tNil)) (tCons (tC (V.int 9)) tNil))))
                        tNil)))
                  tNext { nx := wI H S L a b B F os os' n (i + 1), ct := wI H S L a b B F os os' n (i + 1), rt := Q, bk := fun _ _ => True } [some (.ref S), some (.ref a), some (.ref b), some (.ref F), some (.str o), v5, some (.ref D4)] H8 := by
            intro H8 n8 k8 d8 hn8
            refine ⟨_, rfl, S, L, 2, n8, rfl, d8, by omega, by decide, by decide, fun c H9 hc k9 d9 => ⟨rfl, _, rfl, ?_⟩⟩
            have g9 := d7.kg (k8.trans k9)
            by_cases c0 : decide (V.int (c : Int) = .int 0) = true
            · rw [c0]
              refine iteT ⟨_, rfl, .inl ⟨rfl, _, SqL.of (g9.l hy7)⟩, _, rfl, _, rfl, sz1, fun p hp => ?_⟩
              have sp := same_upd (o := .lst [.str o]) hp
              refine ⟨S, L, p, [o], n8 + 1, rfl, upd_same, by simp, by simp, d9.same sp, by omega, fun p2 l H10 n10 hp2 hl10 hin k10 hn10 d10 => ?_⟩
              have k710 := ((k8.trans k9).trans (KD.of sp)).trans k10
              have g10 := d7.kg k710
              have ho : l.1 = o := by simpa using hin.1
              exact wI_add hF hBF F1 F2 (k7.trans k710) (g10.l hB7) (by omega) d10 (g10.l hy7) (rTup_gr.mono.all g10 hyp7) hwl hwi hwn hwll (by omega) hnd' (by rw [ho]; exact ei) ⟨by rw [ho]; exact hoin, hin.2⟩ hl10
            · rw [Bool.not_eq_true] at c0
              rw [c0]
              exact iteF (wI_keep (k7.trans (k8.trans k9)) (g9.l hB7) (by omega) d9 (g9.l hy7) (rTup_gr.mono.all g9 hyp7) hwl hwi hwn hwll)
          refine ⟨_, rfl, S, L, 5, n6, rfl, d7, by omega, by decide, by decide, fun c H8 hc k8 d8 => ⟨_, _, rfl, rfl, _, rfl, ?_⟩⟩
          have g8 := d7.kg k8
          by_cases c0 : (0 : Int) < (c : Int)
          · rw [decide_eq_true c0]
            refine iteT ⟨_, rfl, Nat.zero_le _, fun p hp => ⟨D4, p, rws, rfl, rfl, SqL.of (same_upd hp _ _ (g8.l hr7)), SqL.of upd_same, _, rfl, ?_⟩⟩
            have sp := same_upd (o := .lst []) hp
            cases hrw : rws with
            | nil =>
              exact iteF (other _ _ (k8.trans (KD.of sp)) (d8.same sp) (by omega))
            | cons r0 rr =>
              have d8' := d8.same sp
              refine iteT ⟨_, rfl, _, rfl, S, L, D4, rws, n6 + 1, rfl, sp _ _ (g8.l hr7), by rw [hrw]; simp, by omega, d8', by omega, fun j x H9 hx k9 d9 => ?_⟩
              obtain ⟨l, hl, t, rfl, ht⟩ := paired_get hrp hx
              have k79 := (k8.trans (KD.of sp)).trans k9
              have g9 := d7.kg k79
              have ht9 := g9.t ht
              refine ⟨_, rfl, .inl ⟨rfl, _, SqL.of (g9.l hy7)⟩, _, rfl, _, rfl, _, _, _, _, rfl, rfl, SqT.of ht9, rfl, _, rfl, _, _, _, _, rfl, rfl, SqT.of ht9, rfl, _, rfl, sz3, fun p3 hp3 => pick_new d9 (by omega) hp3 (by simp) (by simp) fun x H10 hx10 _ k10 d10 => ?_⟩
              obtain ⟨k, rfl⟩ : ∃ k, x = .str (kS k) := by
                simp only [List.mem_cons, List.not_mem_nil, or_false] at hx10
                rcases hx10 with rfl | rfl | rfl
                · exact ⟨true, rfl⟩
                · exact ⟨true, rfl⟩
                · exact ⟨false, rfl⟩
              refine ⟨sz4, fun p4 hp4 => ?_⟩
              have k710 := k79.trans k10
              have g10 := d7.kg k710
              have s4 := same_upd (o := .tup [.str o, .int l.2.1, eV l.2.2.1, .str (kS k)]) hp4
              have hlin := hbm' l (List.mem_of_getElem? hl)
              obtain ⟨q1, q2⟩ := d10.new hp4
              exact wI_add (l := (o, l.2.1, l.2.2.1, k)) hF hBF F1 F2 ((k7.trans k710).trans (KD.of s4)) (s4 _ _ (g10.l hB7)) (by omega) (d10.upd q1 q2) (s4 _ _ (g10.l hy7)) (rTup_gr.mono.all (Kg.of s4) (rTup_gr.mono.all g10 hyp7)) hwl hwi hwn hwll (by omega) hnd' ei ⟨hoin, hlin.2⟩ upd_same
          · rw [decide_eq_false c0]
            exact iteF (other _ _ k8 d8 (by omega))
    · rintro σ H6 ⟨v4, v5, v6, rfl, k6, hB6, n6, hn6, d6, ys, wl, hy, hyp, hwl, hwi, hwn, hwll⟩
      rw [List.length_map] at hn6 hwll
      exact ⟨_, rfl, q F ys wl H6 n6 hF hy hyp ⟨hwl, hwn, by omega⟩ k6 (by omega) d6⟩)
end
end WH
set_option Elab.async false
set_option linter.all false
set_option maxRecDepth 100000
set_option maxHeartbeats 2000000
namespace WH
open PySem PySem.Spec PyProof.Rows L2 WM LamX
abbrev s__law_lk_waits : Stmt := topS 61
theorem sc__law_lk_waits : FnScope ["_law_locks", "_law_wants", "_law_found", "_law_standing", "_law_want", "_law_some", "_law_lock"] ["_law_locks", "_law_wants"] (defScope s__law_lk_waits) := ⟨rfl, rfl, rfl, by decide +kernel, rfl, by decide +kernel, by decide +kernel⟩
theorem paired_refs {β : Type} {f : β → List V} {H : Hp} : ∀ {ys : List V} {wl : List β}, Paired (rTup f H) ys wl → ∃ as : List (Addr × β), as.map (·.2) = wl ∧ ys = as.map (fun z => V.ref z.1) ∧ ∀ z ∈ as, H z.1 = some (.tup (f z.2))
  | _, _, .nil => ⟨[], rfl, rfl, fun _ h => nomatch h⟩
  | _, _, .cons (b := b) h t => by
    obtain ⟨a, rfl, ha⟩ := h
    obtain ⟨as, rfl, rfl, has⟩ := paired_refs t
    refine ⟨(a, b) :: as, rfl, rfl, fun z hz => ?_⟩
    rcases List.mem_cons.1 hz with rfl | hz
    · exact ha
    · exact has z hz
theorem perm_of_map {α β : Type} (g : β → α) {ys : List α} {l : List β} (h : ys.Perm (l.map g)) : ∃ m : List β, ys = m.map g ∧ m.Perm l := by
  obtain ⟨m, hm, hp⟩ := Paired.perm h (Paired.of_map (F := fun a b => a = g b) g fun _ _ => rfl)
  exact ⟨m, Paired.eq_map hp, hm⟩
theorem asc_of {α : Type} (f : α → Str) : ∀ {l : List α}, l.Pairwise (fun x y => sLt (f y) (f x) = false) → (l.map f).Nodup → Asc sLt (l.map f)
  | [], _, _ => .nil
  | x :: l, h, hn => by
    rw [List.map_cons, List.nodup_cons] at hn
    rw [List.pairwise_cons] at h
    rw [List.map_cons]
    refine List.pairwise_cons.2 ⟨fun y hy => ?_, asc_of f h.2 hn.2⟩
    obtain ⟨z, hz, rfl⟩ := List.mem_map.1 hy
    cases e : sLt (f x) (f z) with
    | true => rfl
    | false => exact absurd (sLo.tot _ _ e (h.1 z hz) ▸ hy) hn.1
theorem waits_unique {ls wl ls' wl' : List (Lk Str)} {ws ws' : Ws} (h : WaitsOk ls wl ws) (h' : WaitsOk ls' wl' ws') (hn : (wl.map (·.1)).Nodup) (hn' : (wl'.map (·.1)).Nodup) (hk : ∀ o, o ∈ wl.map (·.1) ↔ o ∈ wl'.map (·.1)) (hw : ∀ l ∈ wl, ∃ l' ∈ wl', l'.1 = l.1 ∧ ∀ x, Wt ls l x ↔ Wt ls' l' x) : ws = ws' := by
  have hm : ws.map (·.1) = ws'.map (·.1) := h.asc.ext sLo h'.asc fun x => by rw [h.keys, h'.keys, hk]
  have uq : ∀ {wl : List (Lk Str)}, (wl.map (·.1)).Nodup → ∀ l ∈ wl, ∀ m ∈ wl, l.1 = m.1 → l = m := by
    intro wl
    induction wl with
    | nil => intro _ l hl; cases hl
    | cons a wl ih =>
      intro hn l hl m hm' e
      rw [List.map_cons, List.nodup_cons] at hn
      rcases List.mem_cons.1 hl with e1 | hl <;> rcases List.mem_cons.1 hm' with e2 | hm'
      · rw [e1, e2]
      · exact absurd (List.mem_map.2 ⟨_, hm', by rw [← e, e1]⟩) hn.1
      · exact absurd (List.mem_map.2 ⟨_, hl, by rw [e, e2]⟩) hn.1
      · exact ih hn.2 l hl m hm' e
  have key : ∀ e ∈ ws, ∀ e' ∈ ws', e.1 = e'.1 → e = e' := by
    intro e he e' he' q
    obtain ⟨a1, l, hl, hl1, hx⟩ := h.lists e he
    obtain ⟨a2, l', hl', hl1', hx'⟩ := h'.lists e' he'
    obtain ⟨l2, hl2, e2, hw2⟩ := hw l hl
    have : l2 = l' := uq hn' l2 hl2 l' hl' (by rw [e2, hl1, hl1', q])
    subst this
    have : e.2 = e'.2 := a1.ext sLo a2 fun x => by rw [hx, hx', hw2]
    exact Prod.ext q this
  clear hk hw uq
  have lenE : ws.length = ws'.length := by
    have := congrArg List.length hm
    rwa [List.length_map, List.length_map] at this
  refine List.ext_getElem? fun i => ?_
  have hmi : (ws.map (·.1))[i]? = (ws'.map (·.1))[i]? := by rw [hm]
  rw [List.getElem?_map, List.getElem?_map] at hmi
  cases e1 : ws[i]? with
  | none =>
    rw [e1] at hmi
    cases e2 : ws'[i]? with
    | none => rfl
    | some y => rw [e2] at hmi; cases hmi
  | some x =>
    rw [e1] at hmi
    cases e2 : ws'[i]? with
    | none => rw [e2] at hmi; cases hmi
    | some y =>
      rw [e2] at hmi
      injection hmi with hmi
      rw [key x (List.mem_of_getElem? e1) y (List.mem_of_getElem? e2) hmi]
section
variable {P : Program} {w : World} {K : PySem.W.Frag} {mg : Str → Option Value} {base : Heap}
def sp_lkwaits : Sp := fun vs H Q _ => ∃ (a b : Addr) (xs ys : List V) (ls wl : List (Lk Str)), vs = [.ref a, .ref b] ∧ H a = some (.lst xs) ∧ Paired (rLk H) xs ls ∧ ls.length ≤ 60 ∧ (∀ l ∈ ls, Near 40 l) ∧ H b = some (.lst ys) ∧ Paired (rLk H) ys wl ∧ (wl.map (·.1)).Nodup ∧ wl.length ≤ 60 ∧
  ∀ p H' ws, H p = none → Same H H' → WsAt H' p ws → WaitsOk ls wl ws → Q (.ref p) H'
theorem ok__law_lk_waits {f : Addr} {fd : FuncData} (D : Df K mg "_law_lk_waits" s__law_lk_waits ["_law_locks", "_law_wants"] f fd) (T : Bl mg) (G__law_each_once : Dn P w K mg base CX0 1 "_law_each_once" ["_law_things"] (sp_once K)) (G__law_lk_clash : Dn P w K mg base CX0 2 "_law_lk_clash" ["_law_one", "_law_other"] sp_clash) (G__law_lk_normal : Dn P w K mg base CX0 2 "_law_lk_normal" ["_law_locks", "_law_most"] sp_normal) : Dn P w K mg base CX0 3 "_law_lk_waits" ["_law_locks", "_law_wants"] sp_lkwaits := .of D (by
  refine D.fn.ok sc__law_lk_waits (fun vs H Q E h => ?_) (fun cdv A outer s H vs Q E hr h => ?_)
  · obtain ⟨a, b, xs, ys, ls, wl, rfl, _⟩ := h
    rfl
  · obtain ⟨a, b, xs, ys, ls, wl, rfl, ha, hap, hal, hnear, hb, hbp, hwn, hwl, q⟩ := h
    have hu := hu_of hr
    refine ⟨_, (pss_cons (ps_par (i := 2) (j := 3) rfl sc__law_lk_waits.nd rfl rfl (by decide) rfl rfl (pa_cons (pe_dnewK) (pa_cons (pe_cl G__law_lk_normal (hr.mono (by decide)) (pa_cons (pv 0) (pa_cons (pe_int) pa_nil))) pa_nil)) rfl)
      (pss_cons (ps_for PassesOwn.never rfl (pil K (pe_callB (cr_sortW) (by rfl) T.b_sorted (by decide +kernel) (pa_cons (pv 1) pa_nil))) (pg_name (i := 4) sc__law_lk_waits.nd rfl (Or.inr rfl))
        (pss_cons (ps_set (i := 5) sc__law_lk_waits.nd rfl (Or.inl rfl) (pe_cl G__law_each_once (hr.mono (by decide)) (pa_cons (pe_lc (own := [("_law_lock", 6)]) rfl sc__law_lk_waits.nd (pil K (pv 3)) (blkOk_by (N := ["_law_locks", "_law_wants", "_law_found", "_law_standing", "_law_want", "_law_some", "_law_lock"]) (sc := defScope s__law_lk_waits) (by decide +kernel)) (fun _ _ _ _ _ => pg_name (i := 6) sc__law_lk_waits.nd rfl (Or.inl rfl)) (fun _ _ _ _ _ => pts_one (pt_val (pe_cl G__law_lk_clash (hr.mono (by decide)) (pa_cons (pv 6) (pa_cons (pv 4) pa_nil))))) (fun _ _ _ _ _ => pe_ix (ixT K) (pv 6) (pe_int) (fun _ _ => rfl))) pa_nil)))
        (pss_one (ps_dput hu (pv 2) (pe_ix (ixT K) (pv 4) (pe_int) (fun _ _ => rfl)) (pe_callB (sortS K) (by rfl) T.b_sorted (by decide +kernel) (pa_cons (pv 5) pa_nil)) rfl))))
      (pss_one (ps_ret (pv 2))))), ?_⟩
    intro d hd
    have sd := same_upd (o := .dK []) hd
    refine ⟨_, rfl, a, xs, ls, 40, rfl, sd _ _ ha, rTup_gr.mono.all (Kg.of sd) hap, hal, by omega, fun N H2 ns owners hN s2 hN2 hnp hown hasc => ?_⟩
    have s02 := sd.trans s2
    obtain ⟨as, hasm, rfl, hast⟩ := paired_refs (rTup_gr.mono.all (Kg.of s02) hbp)
    refine ⟨_, _, rfl, _, rfl, b, as.map fun z => (z.1, z.2.1, rowV z.2.2), rfl, SqL.of ?_, fun z hz => ?_, ?_, ?_, fun p ys' hperm hsort hp => ?_⟩
    · rw [List.map_map]
      exact s02 _ _ hb
    · obtain ⟨y, hy, rfl⟩ := List.mem_map.1 hz
      exact hast y hy
    · rw [List.map_map]
      rw [← hasm, List.map_map] at hwn
      exact hwn
    · rw [List.length_map]
      have := congrArg List.length hasm
      rw [List.length_map] at this
      omega
    · obtain ⟨bs, rfl, hbs⟩ := perm_of_map _ hperm
      rw [List.map_map]
      have sp := same_upd (o := .lst (bs.map ((fun z : Rw => V.ref z.1) ∘ fun z : Addr × Lk Str => (z.1, z.2.1, rowV z.2.2)))) hp
      have hbn : (bs.map fun z => z.2.1).Nodup := by
        rw [← hasm, List.map_map] at hwn
        exact (hbs.map _).symm.nodup hwn
      have hbasc : Asc sLt (bs.map fun z => z.2.1) := asc_of _ (by rw [List.pairwise_map] at hsort; exact hsort) hbn
      have hbl : bs.length = wl.length := by
        rw [hbs.length_eq, ← hasm, List.length_map]
      have hd2 := s2 _ _ (upd_same (H := H) (a := d) (o := .dK []))
      have hcp : upd H2 p (.lst (bs.map ((fun z : Rw => V.ref z.1) ∘ fun z : Addr × Lk Str => (z.1, z.2.1, rowV z.2.2)))) p = some (.lst (bs.map fun z => V.ref z.1)) := upd_same
      refine ⟨p, rfl, ⟨_, SqL.of hcp⟩, for_list (K := K) (a := p) (xs := bs.map fun z => V.ref z.1) (fun i σ H6 => ∃ v4 v5 v6, σ = [some (.ref a), some (.ref b), some (.ref d), some (.ref N), v4, v5, v6] ∧ Same H H6 ∧ H6 p = some (.lst (bs.map fun z => V.ref z.1)) ∧ H6 N = some (.lst ns) ∧ Paired (rLk H6) ns (normal 40 owners ls) ∧ (∀ z ∈ bs, H6 z.1 = some (.tup (lkV z.2))) ∧
          ∃ kw ws, H6 d = some (.dK kw) ∧ Paired (KvS H6) kw ws ∧ ws.map (·.1) = (bs.take i).map (fun z => z.2.1) ∧ ∀ e ∈ ws, Asc sLt e.2 ∧ ∃ l ∈ wl, l.1 = e.1 ∧ ∀ x, x ∈ e.2 ↔ Wt ls l x)
        ⟨_, _, _, rfl, s02.trans sp, hcp, sp _ _ hN2, rTup_gr.mono.all (Kg.of sp) hnp, fun z hz => sp _ _ (hast z (hbs.mem_iff.1 hz)), [], [], sp _ _ hd2, .nil, rfl, fun _ h => nomatch h⟩ (fun i σ H6 _ ⟨_, _, _, _, _, h, _⟩ => SqL.of h) ?_ ?_⟩
      · rintro i y σ H6 hi ⟨v4, v5, v6, rfl, s6, hp6, hN6, hnp6, hbt, kw, ws, hkw, hws, hkeys, hlists⟩
        rw [List.getElem?_map] at hi
        cases ei : bs[i]? with
        | none => rw [ei] at hi; cases hi
        | some z0 =>
          obtain ⟨ta, m⟩ := z0
          rw [ei] at hi
          injection hi with hi
          subst hi
          have hmb : (ta, m) ∈ bs := List.mem_of_getElem? ei
          have hmw : m ∈ wl := by
            rw [← hasm]
            exact List.mem_map.2 ⟨_, hbs.mem_iff.1 hmb, rfl⟩
          have hta := hbt _ hmb
          have hil : i < bs.length := (List.getElem?_eq_some_iff.mp ei).1
          refine ⟨_, rfl, N, rfl, ⟨_, SqL.of hN6⟩, fun D1 hD1 => lc_L (R := rLk) (S := rS) (as := normal 40 owners ls) rTup_gr.mono rV_gr (fun st => if lawClash st m = true then some st.1 else none) hD1 (SqL.of hN6) hnp6 (by rw [hnp6.length]; exact normal_len hasc hown hal (by omega)) (fun j x st hst H7 s7 hx N' Z hN' hZ => ?_) fun H7 ys7 s7 hw7 hwp7 => ?_⟩
          · obtain ⟨sa, rfl, hsa⟩ := hx
            refine ⟨rfl, _, rfl, _, rfl, sa, ta, st, m, rfl, hsa, s7 _ _ hta, fun H8 s8 => ⟨_, rfl, ?_⟩⟩
            by_cases c : lawClash st m = true
            · rw [c]
              exact iteT ⟨_, rfl, _, _, _, _, rfl, rfl, SqT.of (s8 _ _ hsa), rfl, hN' _ _ _ s8 (if_pos c) rfl⟩
            · have c2 := c
              rw [Bool.not_eq_true] at c
              rw [c]
              exact iteF (hZ _ s8 (if_neg c2))
          · have eys := paired_rV hwp7
            have hoth : ∀ x, x ∈ (normal 40 owners ls).filterMap (fun st => if lawClash st m = true then some st.1 else none) ↔ Wt ls m x := by
              intro x
              rw [← law_waits hnear hown, List.mem_filterMap]
              constructor
              · rintro ⟨st, h1, h2⟩
                by_cases c : lawClash st m = true
                · rw [if_pos c] at h2
                  injection h2 with h2
                  subst h2
                  exact ⟨st.2, h1, c⟩
                · rw [if_neg c] at h2
                  cases h2
              · rintro ⟨r, h1, h2⟩
                exact ⟨(x, r), h1, if_pos h2⟩
            have hol : ((normal 40 owners ls).filterMap (fun st => if lawClash st m = true then some st.1 else none)).length ≤ 100000 := Nat.le_trans (List.length_filterMap_le _ _) (normal_len hasc hown hal (by omega))
            generalize (normal 40 owners ls).filterMap (fun st => if lawClash st m = true then some st.1 else none) = oth at eys hoth hwp7 hol
            refine ⟨D1, oth, rfl, SqL.of (by rw [hw7, eys]), hol, fun p8 H8 hp8 s8 hw8 => ?_⟩
            obtain ⟨ond, omem⟩ := onceL_ok oth
            have ofew : (onceL oth).length ≤ 60 := by
              refine Nat.le_trans (nodup_len ond (m := ls.map (·.1)) fun x hx => ((hoth x).1 ((omem x).1 hx)).owner) (by rw [List.length_map]; exact hal)
            refine ⟨_, rfl, p8, _, rfl, SqL.of hw8, by omega, fun zs p9 hz9 hso hp9 => ?_⟩
            have sA : Same H6 (upd H8 p9 (.lst (zs.map V.str))) := s7.trans (s8.trans (same_upd hp9))
            have hkwl : kw.length ≤ 60 := by
              have h1 := congrArg List.length hkeys
              rw [List.length_map, List.length_map, List.length_take] at h1
              rw [hws.length]
              omega
            refine ⟨_, rfl, _, rfl, _, _, _, _, rfl, rfl, SqT.of (sA _ _ hta), rfl, d, _, rfl, DPut.k (k := Sum.inr m.1) (sA _ _ hkw) (by rw [sizeLine_eq]; omega), ?_⟩
            have etk : (bs.take (i + 1)).map (fun z => z.2.1) = (bs.take i).map (fun z => z.2.1) ++ [m.1] := by rw [List.take_add_one, ei, List.map_append]; rfl
            have hnew : Sum.inr m.1 ∉ kw.map (·.1) := by
              rw [kvS_keys hws, hkeys]
              intro z
              have hm1 := inr_mem.1 z
              have h1 := hbn.sublist ((List.take_sublist (i + 1) bs).map fun z => z.2.1)
              rw [etk, List.nodup_append] at h1
              exact h1.2.2 _ hm1 _ (by simp) rfl
            have hpd : p ≠ d := fun z => by rw [z, hkw] at hp6; cases hp6
            have hNd : N ≠ d := fun z => by rw [z, hkw] at hN6; cases hN6
            refine ⟨_, _, _, rfl, Same.own (s6.trans sA) hd, by rw [upd_ne hpd]; exact sA _ _ hp6, by rw [upd_ne hNd]; exact sA _ _ hN6, rTup_updD (sA _ _ hkw) (rTup_gr.mono.all (Kg.of sA) hnp6), fun z hz => ?_, _, ws ++ [(m.1, zs)], upd_same, ?_, ?_, fun e he => ?_⟩
            · rw [upd_ne (ne_of (hbt z hz) hkw (fun z => nomatch z))]
              exact sA _ _ (hbt z hz)
            · rw [putK_new hnew]
              have hkd := sA _ _ hkw
              exact Paired.app (Paired.mapP (Paired.mapP hws fun _ _ => KvS.kg (Kg.of sA)) fun _ _ => KvS.updD hkd) (.cons (KvS.updD hkd ⟨rfl, p9, rfl, upd_same⟩) .nil)
            · rw [List.map_append, hkeys, etk]
              rfl
            · rcases List.mem_append.1 he with he | he
              · exact hlists e he
              · rw [List.mem_singleton.1 he]
                refine ⟨sorted_asc hso (hz9.nodup_iff.2 ond), m, hmw, rfl, fun x => ?_⟩
                rw [hz9.mem_iff, omem, hoth]
      · rintro σ H6 ⟨v4, v5, v6, rfl, s6, hp6, hN6, hnp6, hbt, kw, ws, hkw, hws, hkeys, hlists⟩
        rw [List.length_map, List.take_length] at hkeys
        refine ⟨_, rfl, q d H6 ws hd s6 ⟨kw, hkw, hws⟩ ⟨fun o => ?_, by rw [hkeys]; exact hbasc, hlists⟩⟩
        rw [hkeys, ← hasm, List.map_map]
        exact (hbs.map _).mem_iff)
end
end WH
set_option Elab.async false
set_option linter.all false
set_option maxRecDepth 100000
set_option maxHeartbeats 2000000
namespace WH
open PySem PySem.Spec PyProof.Rows L2 WM LamX
abbrev s__law_lk_has_ring : Stmt := topS 62
theorem sc__law_lk_has_ring : FnScope ["_law_waits", "_law_owners", "_law_left", "_law_k", "_law_one", "_law_other"] ["_law_waits", "_law_owners"] (defScope s__law_lk_has_ring) := ⟨rfl, rfl, rfl, by decide +kernel, rfl, by decide +kernel, by decide +kernel⟩
theorem elim_len {w : Str → List Str} : ∀ (k : Nat) (S : List Str), (elimN w k S).length ≤ S.length
  | 0, _ => Nat.le_refl _
  | k + 1, S => by
    rw [elimN_succ]
    exact Nat.le_trans (List.length_filter_le _ _) (elim_len k S)
theorem wOf_mem (ws : Ws) (o : Str) : wOf ws o = [] ∨ (o, wOf ws o) ∈ ws := by
  unfold wOf
  cases e : ws.find? fun e => decide (e.1 = o) with
  | none => exact .inl rfl
  | some x =>
    have h1 := List.mem_of_find?_eq_some e
    have h2 : x.1 = o := by simpa using List.find?_some e
    subst h2
    exact .inr h1
section
variable {P : Program} {w : World} {K : PySem.W.Frag} {mg : Str → Option Value} {base : Heap}
def sp_has_ring : Sp := fun vs H Q _ => ∃ (d a : Addr) (ws : Ws) (S : List Str), vs = [.ref d, .ref a] ∧ WsAt H d ws ∧ (∀ e ∈ ws, e.2.length ≤ 100000) ∧ (H a = some (.tup (S.map V.str)) ∨ H a = some (.lst (S.map V.str))) ∧ S.length ≤ 100000 ∧ ∀ H', Same H H' → Q (.bl (ringB (wOf ws) S)) H'
theorem ok__law_lk_has_ring {f : Addr} {fd : FuncData} (D : Df K mg "_law_lk_has_ring" s__law_lk_has_ring ["_law_waits", "_law_owners"] f fd) (T : Bl mg) : Dn P w K mg base CX0 1 "_law_lk_has_ring" ["_law_waits", "_law_owners"] sp_has_ring := .of D (by
  refine D.fn.ok sc__law_lk_has_ring (fun vs H Q E h => ?_) (fun cdv A outer s H vs Q E hr h => ?_)
  · obtain ⟨d, a, ws, S, rfl, _⟩ := h
    rfl
  · obtain ⟨d, a, ws, S, rfl, hws, hwl, ha, hl, q⟩ := h
    have hu := hu_of hr
    refine ⟨_, (pss_cons (ps_set (i := 2) sc__law_lk_has_ring.nd rfl (Or.inr rfl) (pe_callTy (listOf K) (by rfl) T.b_list (by decide +kernel) (pa_cons (pv 1) pa_nil)))
      (pss_cons (ps_for PassesOwn.never rfl (pi_range1 (by rfl) T.b_range (pa_cons (pe_callB (lenA K) (by rfl) T.b_len (by decide +kernel) (pa_cons (pv 1) pa_nil)) pa_nil)) (pg_name (i := 3) sc__law_lk_has_ring.nd rfl (Or.inl rfl))
        (pss_one (ps_set (i := 2) sc__law_lk_has_ring.nd rfl (Or.inr rfl) (pe_lc (own := [("_law_one", 4)]) rfl sc__law_lk_has_ring.nd (pil K (pv 2)) (blkOk_by (N := ["_law_waits", "_law_owners", "_law_left", "_law_k", "_law_one", "_law_other"]) (sc := defScope s__law_lk_has_ring) (by decide +kernel)) (fun _ _ _ _ _ => pg_name (i := 4) sc__law_lk_has_ring.nd rfl (Or.inl rfl)) (fun _ _ _ _ _ => pts_one (pt_val (pe_callB (anyK K) (by rfl) T.b_any (by decide +kernel) (pa_cons (pe_lc (own := [("_law_other", 5)]) rfl sc__law_lk_has_ring.nd (pil K (pe_dget2 hu (pv 0) (pv 4) (pe_lst pa_nil) ⟨rfl, rfl, rfl, rfl⟩)) (blkOk_by (N := ["_law_waits", "_law_owners", "_law_left", "_law_k", "_law_one", "_law_other"]) (sc := { kind := .function, names := [(".0", .local), ("_law_one", .local), ("any", .globalImplicit), ("_law_left", .cell), ("_law_waits", .cell)], isGenerator := false, isCoroutine := false }) (by decide +kernel)) (fun _ _ _ _ _ => pg_name (i := 5) sc__law_lk_has_ring.nd rfl (Or.inl rfl)) (fun _ _ _ _ _ => pts_nil) (fun _ _ _ _ _ => pe_cmpR (inSq K) (pv 5) (pv 2) rfl)) pa_nil)))) (fun _ _ _ _ _ => pv 4)))))
      (pss_one (ps_ret (pe_cmpR (neE K hr.units) (pv 2) (pe_lst pa_nil) (nomark _)))))), ?_⟩
    have haq : SqL K H a (S.map V.str) ∨ SqT K H a (S.map V.str) := ha.symm.imp (fun h => SqL.of h) (fun h => SqT.of h)
    refine ⟨_, rfl, a, _, rfl, haq, fun l hl0 => ?_⟩
    have s1 := same_upd (o := .lst (S.map V.str)) hl0
    refine ⟨_, rfl, a, _, rfl, ha.symm.imp (fun h => SqL.of (s1 _ _ h)) (fun h => SqT.of (s1 _ _ h)), _, rfl, by omega, by rw [List.length_map]; omega, ?_⟩
    rw [List.length_map, show ((S.length : Nat) : Int).toNat = S.length from Int.toNat_natCast _]
    refine for_range (lo := 0) (n := S.length) (fun i σ H6 => ∃ l v3 v4 v5, σ = [some (.ref d), some (.ref a), some (.ref l), v3, v4, v5] ∧ Same H H6 ∧ H6 l = some (.lst ((elimN (wOf ws) i S).map V.str)))
      ⟨l, _, _, _, rfl, s1, upd_same⟩ ?_ ?_
    · rintro i σ H6 hi ⟨l, v3, v4, v5, rfl, s6, hl6⟩
      have hel := elim_len (w := wOf ws) i S
      refine ⟨_, rfl, l, rfl, ⟨_, SqL.of hl6⟩, fun D1 hD1 => lc_L (R := rS) (S := rS) (as := elimN (wOf ws) i S) rV_mono rV_gr (fun x => if ((wOf ws x).any fun y => decide (y ∈ elimN (wOf ws) i S)) = true then some x else none) hD1 (SqL.of hl6) (rV_paired _) (by rw [List.length_map]; omega) (fun j x o hst H7 s7 hx N Z hN hZ => ?_) fun H7 ys7 s7 hw7 hwp7 => ?_⟩
      · rw [show x = V.str o from hx]
        obtain ⟨kvs, hd7, hp7⟩ := hws.kg (Kg.of (s6.trans s7))
        refine ⟨rfl, ?_⟩
        have hlo : (wOf ws o).length ≤ 100000 := by
          rcases wOf_mem ws o with e | e
          · rw [e]; exact Nat.zero_le _
          · exact hwl _ e
        refine ⟨_, rfl, d, rfl, .inl ⟨kvs, .inl hd7⟩, _, rfl, Nat.zero_le _, fun z hz => ?_⟩
        have s8 := same_upd (o := .lst []) hz
        obtain ⟨ga, hga, hgl⟩ : ∃ ga : Addr, (valV kvs (Sum.inr o)).getD (.ref z) = .ref ga ∧ upd H7 z (.lst []) ga = some (.lst ((wOf ws o).map V.str)) := by
          by_cases c : o ∈ ws.map (·.1)
          · obtain ⟨v, hv, ga, rfl, h1⟩ := (kvS_val (o := o) hp7).1 c
            exact ⟨ga, by rw [hv]; rfl, s8 _ _ h1⟩
          · rw [(kvS_val (o := o) hp7).2 c, wOf_none c]
            exact ⟨z, rfl, upd_same⟩
        refine ⟨_, DGet.k (k := Sum.inr o) (s8 _ _ hd7), ?_⟩
        rw [hga]
        have hl8 := s8 _ _ (s7 _ _ hl6)
        refine ⟨ga, rfl, ⟨_, SqL.of hgl⟩, fun D2 hD2 => lc_L (R := rS) (S := rV V.bl) (as := wOf ws o) rV_mono rV_gr (fun y => some (decide (y ∈ elimN (wOf ws) i S))) hD2 (SqL.of hgl) (rV_paired _) (by rw [List.length_map]; exact hlo) (fun j2 x2 o2 hst2 H9 s9 hx2 N2 Z2 hN2 hZ2 => ?_) fun H9 bs s9 hb hbp => ?_⟩
        · rw [show x2 = V.str o2 from hx2]
          refine ⟨rfl, ty ⟨_, rfl, _, rfl, l, _, rfl, .inl (SqL.of (s9 _ _ hl8)), rfl, strs_flat _, hN2 _ _ _ (Same.refl _) rfl ?_⟩⟩
          show V.bl (inV _ _) = _
          rw [inV_strs]
        · rw [filterMap_some] at hbp
          refine ⟨D2, _, rfl, SqL.of (by rw [hb, paired_rV hbp]), _, rfl, ?_⟩
          have e : ((wOf ws o).map fun y => decide (y ∈ elimN (wOf ws) i S)).any id = (wOf ws o).any fun y => decide (y ∈ elimN (wOf ws) i S) := by
            rw [List.any_map]
            rfl
          rw [e]
          by_cases c : ((wOf ws o).any fun y => decide (y ∈ elimN (wOf ws) i S)) = true
          · rw [c]
            exact iteT ⟨_, rfl, hN _ _ _ (s8.trans s9) (if_pos c) rfl⟩
          · have c2 := c
            rw [Bool.not_eq_true] at c
            rw [c]
            exact iteF (hZ _ (s8.trans s9) (if_neg c2))
      · rw [filter_fm] at hwp7
        refine ⟨D1, _, _, _, rfl, s6.trans s7, ?_⟩
        rw [hw7, paired_rV hwp7, elimN_succ]
        rfl
    · rintro σ H6 ⟨l, v3, v4, v5, rfl, s6, hl6⟩
      refine ⟨_, rfl, Nat.zero_le _, fun p hp => ⟨l, p, _, rfl, rfl, SqL.of (same_upd hp _ _ hl6), SqL.of upd_same, ?_⟩⟩
      have := q _ (s6.trans (same_upd (o := .lst []) hp))
      have e : ringB (wOf ws) S = (!((elimN (wOf ws) S.length S).map V.str).isEmpty) := by
        unfold ringB
        cases elimN (wOf ws) S.length S <;> simp
      rw [e] at this
      exact this)
end
end WH
set_option Elab.async false
set_option linter.all false
set_option maxRecDepth 100000
set_option maxHeartbeats 2000000
namespace WH
open PySem PySem.Spec PyProof.Rows L2 WM LamX
abbrev s__law_stopped : Stmt := topS 73
theorem sc__law_stopped : FnScope ["_law_table", "_law_wants", "_law_owners", "_law_owner", "_law_want"] ["_law_table", "_law_wants", "_law_owners"] (defScope s__law_stopped) := ⟨rfl, rfl, rfl, by decide +kernel, rfl, by decide +kernel, by decide +kernel⟩
theorem kgN {H H' : Hp} (e : ExtN H H') : Kg H H' := fun b o g h => e b o h fun x z => by rw [z] at g; exact g
section
variable {P : Program} {w : World} {K : PySem.W.Frag} {mg : Str → Option Value} {base : Heap} {C fi fl fo : Addr} {TT : List (Addr × Str)}
def sp_stopped (K : PySem.W.Frag) (TT : List (Addr × Str)) (C : Addr) : Sp := fun vs H Q _ => ∃ (tv : V) (wa oa : Addr) (tb : Tb Str) (ls : List (Lk Str)) (names : List Str) (n : Nat) (xs : List V) (wl : List (Lk Str)) (s : List Str), vs = [tv, .ref wa, .ref oa] ∧ TbI C H tv tb ∧ TbG tb ls names n ∧ n ≤ 1000 ∧ H wa = some (.lst xs) ∧ Paired (rLk H) xs wl ∧ wl.length ≤ 60 ∧ H oa = some (.tup (s.map V.str)) ∧ s.length ≤ 5 ∧ (∀ x ∈ s, nameOk x = true) ∧ Tabs TT H ∧
  ∀ p tv' wb H' tb' ls' ys, H' p = some (.tup [tv', .ref wb]) → ExtN H H' → Tabs TT H' → TbI C H' tv' tb' → TbG tb' ls' names 32000 → (∀ o q, lastCov ls' o q = if o ∈ s then none else lastCov ls o q) → H' wb = some (.lst ys) → Paired (rLk H') ys (wl.filter fun l => !decide (l.1 ∈ s)) → Q (.ref p) H'
theorem ok__law_stopped {f : Addr} {fd : FuncData} (D : Df K mg "_law_stopped" s__law_stopped ["_law_table", "_law_wants", "_law_owners"] f fd) (T : Bl mg) (G_lift_lock : Dn P w K mg base CX0 8 "lift_lock" ["table", "owner", "where"] (sp_lift TT C)) : Dn P w K mg base CX0 9 "_law_stopped" ["_law_table", "_law_wants", "_law_owners"] (sp_stopped K TT C) := .of D (by
  refine D.fn.ok sc__law_stopped (fun vs H Q E h => ?_) (fun cdv A outer s H vs Q E hr h => ?_)
  · obtain ⟨tv, wa, oa, tb, ls, names, n, xs, wl, s, rfl, _⟩ := h
    rfl
  · obtain ⟨tv, wa, oa, tb, ls, names, n, xs, wl, s, rfl, ht, G, hn, hwa, hwp, hwl, hoa, hsl, hsn, hT, q⟩ := h
    refine ⟨_, (pss_cons (ps_for PassesOwn.never rfl (pit K (pv 2)) (pg_name (i := 3) sc__law_stopped.nd rfl (Or.inl rfl))
        (pss_one (ps_set (i := 0) sc__law_stopped.nd rfl (Or.inl rfl) (pe_cl G_lift_lock (hr.mono (by decide)) (pa_cons (pv 0) (pa_cons (pv 3) (pa_cons (pe_tup (pa_cons (pe_int) (pa_cons (pe_non) pa_nil))) pa_nil)))))))
      (pss_one (ps_ret (pe_tup (pa_cons (pv 0) (pa_cons (pe_lc (own := [("_law_want", 4)]) rfl sc__law_stopped.nd (pil K (pv 1)) (blkOk_by (N := ["_law_table", "_law_wants", "_law_owners", "_law_owner", "_law_want"]) (sc := defScope s__law_stopped) (by decide +kernel)) (fun _ _ _ _ _ => pg_name (i := 4) sc__law_stopped.nd rfl (Or.inl rfl)) (fun _ _ _ _ _ => pts_one (pt_cmpR (ninSq K) (pe_ix (ixT K) (pv 4) (pe_int) (fun _ _ => rfl)) (pv 2) rfl)) (fun _ _ _ _ _ => pv 4)) pa_nil)))))), ?_⟩
    refine ⟨_, rfl, oa, rfl, ⟨_, SqT.of hoa⟩, for_tup (K := K) (a := oa) (xs := s.map V.str) (fun i σ H6 => ∃ tv' v3 v4 tb' ls', σ = [some tv', some (.ref wa), some (.ref oa), v3, v4] ∧ ExtN H H6 ∧ Tabs TT H6 ∧ TbI C H6 tv' tb' ∧ TbG tb' ls' names (n * 2 ^ i) ∧ ∀ o q, lastCov ls' o q = if o ∈ s.take i then none else lastCov ls o q)
      ⟨tv, _, _, tb, ls, rfl, .of (Same.refl _), hT, ht, by rw [Nat.pow_zero, Nat.mul_one]; exact G, fun o q => by simp⟩ (fun i σ H6 _ ⟨_, _, _, _, _, _, e, _⟩ => SqT.of ((kgN e).t hoa)) ?_ ?_⟩
    · rintro i y σ H6 hi ⟨tv', v3, v4, tb', ls', rfl, e6, T6, ht6, G6, hlc⟩
      rw [List.getElem?_map] at hi
      cases ei : s[i]? with
      | none => rw [ei] at hi; cases hi
      | some o =>
        rw [ei] at hi
        injection hi with hi
        subst hi
        have hil : i < s.length := (List.getElem?_eq_some_iff.mp ei).1
        have hpow : n * 2 ^ i ≤ 16000 := by
          have h1 : 2 ^ i ≤ 2 ^ 4 := Nat.pow_le_pow_right (by decide) (by omega)
          have h2 := Nat.mul_le_mul hn h1
          omega
        refine ⟨_, rfl, _, rfl, sz2, fun p hp => ?_⟩
        have sp := same_upd (o := .tup [.int 0, .non]) hp
        refine ⟨tv', o, p, tb', ls', names, n * 2 ^ i, rfl, ht6.kg (Kg.of sp), G6, by omega, hsn o (List.mem_of_getElem? ei), upd_same, T6.ext sp, fun v2 H7 tb2 ls2 e7 T7 ht7 G7 hlc7 => ?_⟩
        refine ⟨v2, _, _, tb2, ls2, rfl, (e6.trans (.of sp)).trans e7, T7, ht7, by rw [Nat.pow_succ, ← Nat.mul_assoc, Nat.mul_comm (n * 2 ^ i) 2]; exact G7, fun o' q' => ?_⟩
        have hm : o' ∈ s.take (i + 1) ↔ o' ∈ s.take i ∨ o' = o := by
          rw [List.take_add_one, ei]
          simp
        rw [hlc7, hlc]
        by_cases c : o' = o
        · rw [if_pos c, if_pos (hm.2 (.inr c))]
        · rw [if_neg c]
          by_cases c2 : o' ∈ s.take i
          · rw [if_pos c2, if_pos (hm.2 (.inl c2))]
          · rw [if_neg c2, if_neg fun z => (hm.1 z).elim c2 c]
    · rintro σ H6 ⟨tv', v3, v4, tb', ls', rfl, e6, T6, ht6, G6, hlc⟩
      rw [List.length_map] at G6 hlc
      rw [List.take_length] at hlc
      have hw6 := (kgN e6).l hwa
      have hwp6 := rTup_gr.mono.all (kgN e6) hwp
      refine ⟨_, rfl, _, rfl, wa, rfl, ⟨_, SqL.of hw6⟩, fun D1 hD1 => lc_L (R := rLk) (S := rLk) (as := wl) rTup_gr.mono rTup_gr (fun l => if (!decide (l.1 ∈ s)) = true then some l else none) hD1 (SqL.of hw6) hwp6 (by rw [hwp6.length]; omega) (fun j y l hl H5 s5 hy5 N Z hN hZ => ?_) fun H7 rws s7 hr7 hrp => ?_⟩
      · obtain ⟨t, rfl, ht⟩ := hy5
        refine ⟨rfl, _, rfl, _, _, _, _, rfl, rfl, SqT.of ht, rfl, _, rfl, oa, _, rfl, .inr (SqT.of (s5 _ _ ((kgN e6).t hoa))), rfl, strs_flat _, _, rfl, ?_⟩
        rw [if_pos rfl, inV_strs]
        by_cases c : (!decide (l.1 ∈ s)) = true
        · rw [c]
          exact iteT ⟨_, rfl, hN _ _ _ (Same.refl _) (if_pos c) ⟨t, rfl, ht⟩⟩
        · rw [Bool.not_eq_true] at c
          rw [c]
          exact iteF (hZ _ (Same.refl _) (if_neg (by rw [c]; exact Bool.false_ne_true)))
      · rw [filter_fm] at hrp
        refine ⟨sz2, fun p hp => ?_⟩
        have sp := same_upd (o := .tup [tv', .ref D1]) hp
        have hpow : n * 2 ^ s.length ≤ 32000 := by
          have h1 : 2 ^ s.length ≤ 2 ^ 5 := Nat.pow_le_pow_right (by decide) hsl
          have h2 := Nat.mul_le_mul hn h1
          omega
        exact q p tv' D1 _ tb' ls' rws upd_same (e6.trans (.of (s7.trans sp))) (T6.ext (s7.trans sp)) (ht6.kg (Kg.of (s7.trans sp))) ⟨G6.tbl, TbD.mono G6.dj hpow, G6.few, G6.own, G6.ok, G6.all⟩ hlc (sp _ _ hr7) (rTup_gr.mono.all (Kg.of sp) hrp))
end
end WH
set_option Elab.async false
set_option linter.all false
set_option maxRecDepth 100000
set_option maxHeartbeats 2000000
namespace WH
open PySem PySem.Spec PyProof.Rows L2 WM LamX
abbrev s__law_same : Stmt := topS 69
theorem sc__law_same : FnScope ["_law_found", "_law_due", "_law_x", "_law_y"] ["_law_found", "_law_due"] (defScope s__law_same) := ⟨rfl, rfl, rfl, by decide +kernel, rfl, by decide +kernel, by decide +kernel⟩
theorem walk_zipT {K : PySem.W.Frag} {a b : Addr} {xs ys : List V} {n : Nat} (hn : n = min xs.length ys.length) : Walk (RZ.ItzT K a b) n (fun H => SqT K H a xs ∧ SqT K H b ys) (YPair (fun i => xs[i]?) fun i => ys[i]?) where
  goes i H hi h := ⟨xs, ys, _, _, h.1, h.2, List.getElem?_eq_getElem (by omega), List.getElem?_eq_getElem (by omega)⟩
  stops H h := ⟨xs, ys, h.1, h.2, by omega⟩
  yields i H v H' hi h y := by
    obtain ⟨T, x, y, e, h1, h2, h3, h4⟩ := y
    exact ⟨T, x, y, e, h1, h2, h3 xs h.1, h4 ys h.2⟩
/-- two values that tell the same, lists and tuples no deeper than n -/
def SameD : Nat → Hp → V → V → Prop
  | 0, _, x, y => x = y ∧ ((∃ s, x = .str s) ∨ (∃ i, x = .int i) ∨ (∃ b, x = .bl b) ∨ x = .non)
  | n + 1, H, x, y => SameD n H x y ∨ ∃ a b xs ys, x = .ref a ∧ y = .ref b ∧ ((H a = some (.lst xs) ∧ H b = some (.lst ys)) ∨ (H a = some (.tup xs) ∧ H b = some (.tup ys))) ∧ Paired (SameD n H) xs ys ∧ xs.length ≤ 100000
theorem SameD.kg {H H' : Hp} (k : Kg H H') : ∀ {n : Nat} {x y : V}, SameD n H x y → SameD n H' x y
  | 0, _, _, h => h
  | n + 1, _, _, h => h.imp (SameD.kg k) fun ⟨a, b, xs, ys, h1, h2, h3, h4, h5⟩ => ⟨a, b, xs, ys, h1, h2, h3.imp (fun h => ⟨k.l h.1, k.l h.2⟩) (fun h => ⟨k.t h.1, k.t h.2⟩), Paired.mapP h4 fun _ _ => SameD.kg k, h5⟩
theorem SameD.up {H : Hp} {n : Nat} {x y : V} (h : SameD n H x y) : SameD (n + 1) H x y := .inl h
theorem SameD.cases {H : Hp} : ∀ {n : Nat} {x y : V}, SameD n H x y → (x = y ∧ ((∃ s, x = .str s) ∨ (∃ i, x = .int i) ∨ (∃ b, x = .bl b) ∨ x = .non)) ∨ ∃ m a b xs ys, n = m + 1 ∧ x = .ref a ∧ y = .ref b ∧ ((H a = some (.lst xs) ∧ H b = some (.lst ys)) ∨ (H a = some (.tup xs) ∧ H b = some (.tup ys))) ∧ Paired (SameD m H) xs ys ∧ xs.length ≤ 100000
  | 0, _, _, h => .inl h
  | n + 1, x, y, h => by
    rcases h with h | ⟨a, b, xs, ys, h⟩
    · rcases SameD.cases h with h | ⟨m, a, b, xs, ys, h1, h2, h3, h4, h5, h6⟩
      · exact .inl h
      · exact .inr ⟨n, a, b, xs, ys, rfl, h2, h3, h4, by subst h1; exact Paired.mapP h5 fun _ _ h => .inl h, h6⟩
    · exact .inr ⟨n, a, b, xs, ys, rfl, h⟩
section
variable {P : Program} {w : World} {K : PySem.W.Frag} {mg : Str → Option Value} {base : Heap}
def sp_same (n : Nat) : Sp := fun vs H Q _ => ∃ x y, vs = [x, y] ∧ SameD n H x y ∧ ∀ H', Same H H' → Q (.bl true) H'
def sp_no : Sp := fun _ _ _ _ => False
theorem isiK1 {K : PySem.W.Frag} {H : Hp} {x : V} {n m : String} {b : Bool} {Q : VK} (ht : TyX K H x (.type n)) (hk : kitB n m = some b) (q : Q (.bl b) H) : rIsi K [x, .ty m] H Q := ⟨x, _, _, _, b, rfl, .ty _, ht, kit_ty hk, q⟩
theorem tyx_scal {K : PySem.W.Frag} {H : Hp} {x : V} (h : (∃ s, x = .str s) ∨ (∃ i, x = .int i) ∨ (∃ b, x = .bl b) ∨ x = .non) : ∃ n, TyX K H x (.type n) ∧ (n = "str" ∧ (∃ s, x = .str s) ∨ n = "int" ∧ (∃ i, x = .int i) ∨ n = "bool" ∧ (∃ b, x = .bl b) ∨ n = "NoneType" ∧ x = .non) := by
  rcases h with ⟨s, rfl⟩ | ⟨i, rfl⟩ | ⟨b, rfl⟩ | rfl
  · exact ⟨_, .base (.str s), .inl ⟨rfl, _, rfl⟩⟩
  · exact ⟨_, .base (.int i), .inr (.inl ⟨rfl, _, rfl⟩)⟩
  · exact ⟨_, .base (.bl b), .inr (.inr (.inl ⟨rfl, _, rfl⟩))⟩
  · exact ⟨_, .base .non, .inr (.inr (.inr ⟨rfl, rfl⟩))⟩
theorem same_step {n k : Nat} {sp : Sp} (hsp : ∀ m, n = m + 1 → sp = sp_same m) {f : Addr} {fd : FuncData} (D : Df K mg "_law_same" s__law_same ["_law_found", "_law_due"] f fd) (T : Bl mg) (G__law_same : Dn P w K mg base CX0 k "_law_same" ["_law_found", "_law_due"] sp) : Dn P w K mg base CX0 (k + 1) "_law_same" ["_law_found", "_law_due"] (sp_same n) := .of D (by
  refine D.fn.ok sc__law_same (fun vs H Q E h => ?_) (fun cdv A outer s H vs Q E hr h => ?_)
  · obtain ⟨x, y, rfl, _⟩ := h
    rfl
  · obtain ⟨x, y, rfl, hs, q⟩ := h
    refine ⟨_, (pss_cons (ps_if (pt_val (pe_callB (isiT K) (by rfl) T.b_isinstance (by decide +kernel) (pa_cons (pv 1) (pa_cons (pe_tup (pa_cons (pe_bltn (v := .ty "list") (by rfl) T.b_list (by decide +kernel) rfl) (pa_cons (pe_bltn (v := .ty "tuple") (by rfl) T.b_tuple (by decide +kernel) rfl) pa_nil))) pa_nil)))) (pss_cons (ps_if (PW.pt (pw_or (pt_cmpR op_ne (pe_callB (isiK K) (by rfl) T.b_isinstance (by decide +kernel) (pa_cons (pv 0) (pa_cons (pe_bltn (v := .ty "list") (by rfl) T.b_list (by decide +kernel) rfl) pa_nil))) (pe_callB (isiK K) (by rfl) T.b_isinstance (by decide +kernel) (pa_cons (pv 1) (pa_cons (pe_bltn (v := .ty "list") (by rfl) T.b_list (by decide +kernel) rfl) pa_nil))) (nomark _)) (pw_or1 (pt_cmpR op_ne (pe_callB (isiK K) (by rfl) T.b_isinstance (by decide +kernel) (pa_cons (pv 0) (pa_cons (pe_bltn (v := .ty "tuple") (by rfl) T.b_tuple (by decide +kernel) rfl) pa_nil))) (pe_callB (isiK K) (by rfl) T.b_isinstance (by decide +kernel) (pa_cons (pv 1) (pa_cons (pe_bltn (v := .ty "tuple") (by rfl) T.b_tuple (by decide +kernel) rfl) pa_nil))) (nomark _))))) (pss_one (ps_ret (pe_bl))) pss_nil)
        (pss_one (ps_ret (pe_and (pe_cmpR op_eq (pe_callB ((lenA K)) (by rfl) T.b_len (by decide +kernel) (pa_cons (pv 0) pa_nil)) (pe_callB ((lenA K)) (by rfl) T.b_len (by decide +kernel) (pa_cons (pv 1) pa_nil)) (nomark _)) (pe_one (pe_callB (allK K) (by rfl) T.b_all (by decide +kernel) (pa_cons (pe_lc (own := [("_law_x", 2), ("_law_y", 3)]) rfl sc__law_same.nd (RZ.pi_zipA (by rfl) T.b_zip (pa_cons (pv 0) (pa_cons (pv 1) pa_nil))) (blkOk_by (N := ["_law_found", "_law_due", "_law_x", "_law_y"]) (sc := defScope s__law_same) (by decide +kernel)) (fun _ _ _ _ _ => tupG K (n := 2) rfl (pgs_cons (pg_name (i := 2) sc__law_same.nd rfl (Or.inl rfl)) (pgs_cons (pg_name (i := 3) sc__law_same.nd rfl (Or.inl rfl)) pgs_nil))) (fun _ _ _ _ _ => pts_nil) (fun _ _ _ _ _ => pe_cl G__law_same (hr.mono (Nat.le_refl _)) (pa_cons (pv 2) (pa_cons (pv 3) pa_nil)))) pa_nil))))))) pss_nil)
      (pss_cons (ps_if (pt_val (pe_callB (isiK K) (by rfl) T.b_isinstance (by decide +kernel) (pa_cons (pv 1) (pa_cons (pe_bltn (v := .ty "dict") (by rfl) T.b_dict (by decide +kernel) rfl) pa_nil)))) (pss_one (ps_never)) pss_nil)
      (pss_cons (ps_if (pt_val (pe_callB (isiK K) (by rfl) T.b_isinstance (by decide +kernel) (pa_cons (pv 1) (pa_cons (pe_bltn (v := .ty "int") (by rfl) T.b_int (by decide +kernel) rfl) pa_nil)))) (pss_one (ps_ret (pe_and (pe_callB (isiK K) (by rfl) T.b_isinstance (by decide +kernel) (pa_cons (pv 0) (pa_cons (pe_bltn (v := .ty "int") (by rfl) T.b_int (by decide +kernel) rfl) pa_nil))) (pe_and (pe_cmpR op_eq (pe_callB (isiK K) (by rfl) T.b_isinstance (by decide +kernel) (pa_cons (pv 0) (pa_cons (pe_bltn (v := .ty "bool") (by rfl) T.b_bool (by decide +kernel) rfl) pa_nil))) (pe_callB (isiK K) (by rfl) T.b_isinstance (by decide +kernel) (pa_cons (pv 1) (pa_cons (pe_bltn (v := .ty "bool") (by rfl) T.b_bool (by decide +kernel) rfl) pa_nil))) (nomark _)) (pe_one (pe_cmpR op_eq (pv 0) (pv 1) (nomark _))))))) pss_nil)
      (pss_one (ps_ret (pe_and (pe_not (pe_callB (isiT K) (by rfl) T.b_isinstance (by decide +kernel) (pa_cons (pv 0) (pa_cons (pe_tup (pa_cons (pe_bltn (v := .ty "int") (by rfl) T.b_int (by decide +kernel) rfl) (pa_cons (pe_bltn (v := .ty "list") (by rfl) T.b_list (by decide +kernel) rfl) (pa_cons (pe_bltn (v := .ty "tuple") (by rfl) T.b_tuple (by decide +kernel) rfl) (pa_cons (pe_bltn (v := .ty "dict") (by rfl) T.b_dict (by decide +kernel) rfl) pa_nil))))) pa_nil)))) (pe_one (pe_cmpR op_eq (pv 0) (pv 1) (nomark _))))))))), ?_⟩
    rcases hs.cases with ⟨rfl, hx⟩ | ⟨m, a, b, xs, ys, rfl, rfl, rfl, hab, hp, hl⟩
    · refine ⟨_, rfl, by decide, fun p hp => ?_⟩
      have s1 := same_upd (o := .tup [.ty "list", .ty "tuple"]) hp
      obtain ⟨n', hk, ht, hsc, h4⟩ : ∃ n', (kitB n' "list" = some false ∧ kitB n' "tuple" = some false ∧ kitB n' "dict" = some false) ∧ (∀ H', TyX K H' x (.type n')) ∧ scal x x = true ∧ (kitB n' "int" = some false ∨ ∃ b, kitB n' "int" = some true ∧ kitB n' "bool" = some b) := by
        rcases hx with ⟨s, rfl⟩ | ⟨i, rfl⟩ | ⟨b, rfl⟩ | rfl
        · exact ⟨"str", by decide +kernel, fun H' => .base (.str s), rfl, .inl (by decide +kernel)⟩
        · exact ⟨"int", by decide +kernel, fun H' => .base (.int i), rfl, .inr ⟨false, by decide +kernel⟩⟩
        · exact ⟨"bool", by decide +kernel, fun H' => .base (.bl b), rfl, .inr ⟨true, by decide +kernel⟩⟩
        · exact ⟨"NoneType", by decide +kernel, fun H' => .base .non, rfl, .inl (by decide +kernel)⟩
      have eqx : decide (x = x) = true := decide_eq_true rfl
      refine ⟨_, p, _, _, _, false, rfl, upd_same, .cons (.ty _) (.cons (.ty _) .nil), ht _, kSeq_no hk.1 hk.2.1, _, rfl, iteF ?_⟩
      refine ⟨_, rfl, _, _, _, _, _, rfl, .ty _, (ht _), kit_ty hk.2.2, _, rfl, iteF ?_⟩
      rcases h4 with hi | ⟨b, hi, hb⟩
      · refine ⟨_, rfl, _, _, _, _, _, rfl, .ty _, (ht _), kit_ty hi, _, rfl, iteF ?_⟩
        refine ⟨_, rfl, by decide, fun p2 hp2 => ?_⟩
        have s2 := same_upd (o := .tup [.ty "int", .ty "list", .ty "tuple", .ty "dict"]) hp2
        refine ⟨_, p2, _, _, _, false, rfl, upd_same, .cons (.ty _) (.cons (.ty _) (.cons (.ty _) (.cons (.ty _) .nil))), ht _, kitAny_cons (kit_ty hi) (fun _ => kitAny_cons (kit_ty hk.1) (fun _ => kitAny_cons (kit_ty hk.2.1) (fun _ => kitAny_cons (kit_ty hk.2.2) (fun _ => kitAny_nil) (fun z => nomatch z)) (fun z => nomatch z)) (fun z => nomatch z)) (fun z => nomatch z), false, rfl, _, rfl, iteT ⟨_, rfl, _, rfl, hsc, ?_⟩⟩
        rw [eqx]
        exact q _ (s1.trans s2)
      · refine ⟨_, rfl, _, _, _, _, _, rfl, .ty _, (ht _), kit_ty hi, _, rfl, iteT ?_⟩
        refine ⟨_, rfl, _, _, _, _, _, rfl, .ty _, (ht _), kit_ty hi, _, rfl, iteT ?_⟩
        refine ⟨_, rfl, _, _, _, _, _, rfl, .ty _, (ht _), kit_ty hb, _, rfl, _, _, _, _, _, rfl, .ty _, (ht _), kit_ty hb, rfl, _, rfl, ?_⟩
        rw [decide_eq_true rfl]
        refine iteT ⟨_, rfl, _, rfl, hsc, ?_⟩
        rw [eqx]
        exact q _ s1
    · have hsp' := hsp m rfl
      subst hsp'
      refine ⟨_, rfl, by decide, fun p hp0 => ?_⟩
      have s1 := same_upd (o := .tup [.ty "list", .ty "tuple"]) hp0
      have hab1 : (upd H p (.tup [.ty "list", .ty "tuple"]) a = some (.lst xs) ∧ upd H p (.tup [.ty "list", .ty "tuple"]) b = some (.lst ys)) ∨ (upd H p (.tup [.ty "list", .ty "tuple"]) a = some (.tup xs) ∧ upd H p (.tup [.ty "list", .ty "tuple"]) b = some (.tup ys)) := hab.imp (fun h => ⟨s1 _ _ h.1, s1 _ _ h.2⟩) fun h => ⟨s1 _ _ h.1, s1 _ _ h.2⟩
      obtain ⟨n', t1, t2, hy, bl, bt, hbl, hbt⟩ : ∃ n', TyX K (upd H p (.tup [.ty "list", .ty "tuple"])) (.ref a) (.type n') ∧ TyX K (upd H p (.tup [.ty "list", .ty "tuple"])) (.ref b) (.type n') ∧ kSeq K n' = some true ∧ ∃ bl bt, kitB n' "list" = some bl ∧ kitB n' "tuple" = some bt := by
        rcases hab1 with h | h
        · exact ⟨"list", .base (.lst h.1), .base (.lst h.2), kSeq_yes (.inl (by decide +kernel)), true, false, by decide +kernel⟩
        · exact ⟨"tuple", .base (.tup h.1), .base (.tup h.2), kSeq_yes (.inr (by decide +kernel)), false, true, by decide +kernel⟩
      refine ⟨_, p, _, _, _, true, rfl, upd_same, .cons (.ty _) (.cons (.ty _) .nil), t2, hy, _, rfl, iteT ?_⟩
      have hq : ∀ {c : Bool}, (!decide (V.bl c = V.bl c)) = false := fun {c} => by simp
      refine ⟨_, rfl, _, _, _, _, _, rfl, .ty _, t1, kit_ty hbl, _, rfl, _, _, _, _, _, rfl, .ty _, t2, kit_ty hbl, rfl, _, rfl, ?_⟩
      rw [hq]
      refine iteF ⟨_, rfl, _, _, _, _, _, rfl, .ty _, t1, kit_ty hbt, _, rfl, _, _, _, _, _, rfl, .ty _, t2, kit_ty hbt, rfl, _, rfl, ?_⟩
      rw [hq]
      refine iteF ?_
      have hlen := hp.length
      have s1' := s1
      generalize hH1 : upd H p (.tup [.ty "list", .ty "tuple"]) = H1 at s1' hab1 ⊢
      have hp1 : Paired (SameD m H1) xs ys := Paired.mapP hp fun _ _ => SameD.kg (Kg.of s1')
      have hla : SqL K H1 a xs ∨ SqT K H1 a xs := hab1.imp (fun h => SqL.of h.1) fun h => SqT.of h.1
      have hlb : SqL K H1 b ys ∨ SqT K H1 b ys := hab1.imp (fun h => SqL.of h.2) fun h => SqT.of h.2
      have hnz : xs.length = min xs.length ys.length := by omega
      have turn : ∀ (i : Nat) (x : V) (bb : V × V), (xs.zip ys)[i]? = some bb → TurnOf (rTup fun z : V × V => [z.1, z.2]) (rV V.bl) (fun _ => some true) (gTup K 2 (gCons (gName 2) (gCons (gName 3) gNil))) tYes (tCall (sp_same m) [] E0 (tCons (tVar 2) (tCons (tVar 3) tNil))) [2, 3] [some (.ref a), some (.ref b), none, none] H1 x bb := by
        intro i x bb hi H2 s2 hx N Z hN hZ
        obtain ⟨t, rfl, ht⟩ := hx
        obtain ⟨h1, h2⟩ := List.getElem?_zip_eq_some.1 hi
        obtain ⟨y, hy, hR⟩ := paired_get hp1 h1
        rw [h2] at hy
        injection hy with hy
        rw [← hy] at hR
        refine ⟨t, _, rfl, SqT.of ht, rfl, _, _, rfl, _, _, rfl, rfl, rfl, ty ⟨_, rfl, _, rfl, bb.1, bb.2, rfl, hR.kg (Kg.of s2), fun H3 s3 => hN _ _ _ s3 rfl rfl⟩⟩
      have yy : ∀ (i : Nat) (H2 : Hp) (x : V) (H' : Hp) (bb : V × V), Same H1 H2 → (xs.zip ys)[i]? = some bb → YPair (fun i => xs[i]?) (fun i => ys[i]?) i H2 x H' → Same H2 H' ∧ rTup (fun z : V × V => [z.1, z.2]) H' x bb := by
        rintro i H2 x H' bb s2 hb ⟨t, u, v, rfl, h1, rfl, h3, h4⟩
        obtain ⟨g1, g2⟩ := List.getElem?_zip_eq_some.1 hb
        have h3 : xs[i]? = some u := h3
        have h4 : ys[i]? = some v := h4
        rw [g1] at h3
        rw [g2] at h4
        injection h3 with h3
        injection h4 with h4
        subst h3 h4
        exact ⟨same_upd h1, t, rfl, upd_same⟩
      have fin : ∀ (D1 : Addr) (H' : Hp) (zs : List V), Same H1 H' → H' D1 = some (.lst zs) → Paired (rV V.bl H') zs ((xs.zip ys).filterMap fun _ => some true) → rAll K [.ref D1] H' Q := by
        intro D1 H' zs s' hz hp'
        refine ⟨D1, _, rfl, SqL.of (by rw [hz, paired_rV hp']), ?_⟩
        rw [filterMap_some]
        have e : ((xs.zip ys).map fun _ => true).all id = true := by
          rw [List.all_map, List.all_eq_true]
          intro _ _
          rfl
        rw [e]
        exact q _ (s1.trans (hH1 ▸ s'))
      have hzl : (xs.zip ys).length = xs.length := by rw [List.length_zip]; omega
      refine ⟨_, rfl, a, xs, rfl, hla, _, rfl, b, ys, rfl, hlb, rfl, _, rfl, ?_⟩
      rw [hlen, decide_eq_true rfl]
      refine iteT ⟨_, rfl, _, rfl, a, b, xs, ys, rfl, ?_⟩
      rcases hab1 with h | h
      · exact .inl ⟨SqL.of h.1, SqL.of h.2, fun D1 hD1 => lc_W (walk_zip hnz) rV_gr (fun _ => some true) hD1 hzl hl (fun H2 s2 => ⟨SqL.of (s2 _ _ h.1), SqL.of (s2 _ _ h.2)⟩) yy turn (fin D1)⟩
      · exact .inr ⟨SqT.of h.1, SqT.of h.2, fun D1 hD1 => lc_W (walk_zipT hnz) rV_gr (fun _ => some true) hD1 hzl hl (fun H2 s2 => ⟨SqT.of (s2 _ _ h.1), SqT.of (s2 _ _ h.2)⟩) yy turn (fin D1)⟩)
theorem same_zero {f : Addr} {fd : FuncData} (D : Df K mg "_law_same" s__law_same ["_law_found", "_law_due"] f fd) : Dn P w K mg base CX0 1 "_law_same" ["_law_found", "_law_due"] sp_no := .of D (by
  refine D.fn.ok sc__law_same (fun vs H Q E h => h.elim) (fun cdv A outer s H vs Q E hr h => h.elim))
end
end WH
set_option Elab.async false
set_option linter.all false
set_option maxRecDepth 100000
set_option maxHeartbeats 2000000
namespace WH
open PySem PySem.Spec PyProof.Rows L2 WM LamX
abbrev s__law_loose : Stmt := topS 71
theorem sc__law_loose : FnScope ["_law_stream", "_law_thing", "_law_found", "_law_part"] ["_law_stream", "_law_thing"] (defScope s__law_loose) := ⟨rfl, rfl, rfl, by decide +kernel, rfl, by decide +kernel, by decide +kernel⟩
section
variable {P : Program} {w : World} {K : PySem.W.Frag} {mg : Str → Option Value} {base : Heap}
def Scal (x : V) : Prop := (∃ s, x = .str s) ∨ (∃ i, x = .int i) ∨ (∃ b, x = .bl b) ∨ x = .non
def sp_looseA : Sp := fun vs H Q _ => ∃ s x, vs = [s, x] ∧ Scal x ∧ ∀ H', Same H H' → Q x H'
def sp_looseB : Sp := fun vs H Q _ => ∃ (S L a : Addr) (l : Lk Str) (n : Nat), vs = [.ref S, .ref a] ∧ H a = some (.tup (lkV l)) ∧ Dr S L H n ∧ n ≤ 900000 ∧
  ∀ p H' n', H p = none → (H' p = some (.tup (lkV l)) ∨ H' p = some (.lst (lkV l))) → KD S L H H' → n' ≤ n + 1 → Dr S L H' n' → Q (.ref p) H'
def sp_looseC : Sp := fun vs H Q _ => ∃ (S L a : Addr) (xs : List V) (ls : List (Lk Str)) (n : Nat), vs = [.ref S, .ref a] ∧ H a = some (.lst xs) ∧ Paired (rLk H) xs ls ∧ ls.length ≤ 60 ∧ Dr S L H n ∧ n ≤ 800000 ∧
  ∀ p ys H' n', H p = none → (H' p = some (.tup ys) ∨ H' p = some (.lst ys)) → Paired (rLkA H') ys ls → KD S L H H' → n' ≤ n + 100 → Dr S L H' n' → Q (.ref p) H'
theorem loose_zero {f : Addr} {fd : FuncData} (D : Df K mg "_law_loose" s__law_loose ["_law_stream", "_law_thing"] f fd) : Dn P w K mg base CX0 1 "_law_loose" ["_law_stream", "_law_thing"] sp_no := .of D (by
  refine D.fn.ok sc__law_loose (fun vs H Q E h => h.elim) (fun cdv A outer s H vs Q E hr h => h.elim))
theorem loose_A {f : Addr} {fd : FuncData} (D : Df K mg "_law_loose" s__law_loose ["_law_stream", "_law_thing"] f fd) (T : Bl mg) (G__law_draw : Dn P w K mg base CX0 1 "_law_draw" ["_law_stream", "_law_many"] sp_draw) (G__law_loose : Dn P w K mg base CX0 1 "_law_loose" ["_law_stream", "_law_thing"] sp_no) : Dn P w K mg base CX0 2 "_law_loose" ["_law_stream", "_law_thing"] sp_looseA := .of D (by
  refine D.fn.ok sc__law_loose (fun vs H Q E h => ?_) (fun cdv A outer s H vs Q E hr h => ?_)
  · obtain ⟨s, x, rfl, _⟩ := h
    rfl
  · obtain ⟨s, x, rfl, hx, q⟩ := h
    refine ⟨_, (pss_cons (ps_if (pt_not (pt_val (pe_callB (isiT K) (by rfl) T.b_isinstance (by decide +kernel) (pa_cons (pv 1) (pa_cons (pe_tup (pa_cons (pe_bltn (v := .ty "list") (by rfl) T.b_list (by decide +kernel) rfl) (pa_cons (pe_bltn (v := .ty "tuple") (by rfl) T.b_tuple (by decide +kernel) rfl) pa_nil))) pa_nil))))) (pss_one (ps_ret (pv 1))) pss_nil)
      (pss_cons (ps_setLc (i := 2) (own := [("_law_part", 3)]) rfl sc__law_loose.nd rfl rfl (sw_true rfl rfl rfl (by decide +kernel)) (pisq K (pv 1)) (blkOk_by (N := ["_law_stream", "_law_thing", "_law_found", "_law_part"]) (sc := defScope s__law_loose) (by decide +kernel)) (fun _ _ _ _ _ => pg_name (i := 3) sc__law_loose.nd rfl (Or.inl rfl)) (fun _ _ _ _ _ => pts_nil) (fun _ _ _ _ _ => pe_cl G__law_loose (hr.mono (Nat.le_refl _)) (pa_cons (pv 0) (pa_cons (pv 3) pa_nil))))
      (pss_one (ps_ret (pe_ifExp (pt_cmpR op_eq (pe_cl G__law_draw (hr.mono (by decide)) (pa_cons (pv 0) (pa_cons (pe_int) pa_nil))) (pe_int) (nomark _)) (pv 2) (pe_callTy (tupOf K) (by rfl) T.b_tuple (by decide +kernel) (pa_cons (pv 2) pa_nil))))))), ?_⟩
    obtain ⟨n', hk, ht⟩ : ∃ n', (kitB n' "list" = some false ∧ kitB n' "tuple" = some false) ∧ (∀ H', TyX K H' x (.type n')) := by
      rcases hx with ⟨s, rfl⟩ | ⟨i, rfl⟩ | ⟨b, rfl⟩ | rfl
      · exact ⟨"str", by decide +kernel, fun H' => .base (.str s)⟩
      · exact ⟨"int", by decide +kernel, fun H' => .base (.int i)⟩
      · exact ⟨"bool", by decide +kernel, fun H' => .base (.bl b)⟩
      · exact ⟨"NoneType", by decide +kernel, fun H' => .base .non⟩
    refine ⟨_, rfl, by decide, fun p hp => ?_⟩
    exact ⟨_, p, _, _, _, false, rfl, upd_same, .cons (.ty _) (.cons (.ty _) .nil), ht _, kSeq_no hk.1 hk.2, _, rfl, iteT ⟨_, rfl, q _ (same_upd hp)⟩⟩)
theorem loose_B {f : Addr} {fd : FuncData} (D : Df K mg "_law_loose" s__law_loose ["_law_stream", "_law_thing"] f fd) (T : Bl mg) (G__law_draw : Dn P w K mg base CX0 1 "_law_draw" ["_law_stream", "_law_many"] sp_draw) (G__law_loose : Dn P w K mg base CX0 2 "_law_loose" ["_law_stream", "_law_thing"] sp_looseA) : Dn P w K mg base CX0 3 "_law_loose" ["_law_stream", "_law_thing"] sp_looseB := .of D (by
  refine D.fn.ok sc__law_loose (fun vs H Q E h => ?_) (fun cdv A outer s H vs Q E hr h => ?_)
  · obtain ⟨S, L, a, l, n, rfl, _⟩ := h
    rfl
  · obtain ⟨S, L, a, l, n, rfl, ha, hd, hn, q⟩ := h
    refine ⟨_, (pss_cons (ps_if (pt_not (pt_val (pe_callB (isiT K) (by rfl) T.b_isinstance (by decide +kernel) (pa_cons (pv 1) (pa_cons (pe_tup (pa_cons (pe_bltn (v := .ty "list") (by rfl) T.b_list (by decide +kernel) rfl) (pa_cons (pe_bltn (v := .ty "tuple") (by rfl) T.b_tuple (by decide +kernel) rfl) pa_nil))) pa_nil))))) (pss_one (ps_ret (pv 1))) pss_nil)
      (pss_cons (ps_setLc (i := 2) (own := [("_law_part", 3)]) rfl sc__law_loose.nd rfl rfl (sw_true rfl rfl rfl (by decide +kernel)) (pisq K (pv 1)) (blkOk_by (N := ["_law_stream", "_law_thing", "_law_found", "_law_part"]) (sc := defScope s__law_loose) (by decide +kernel)) (fun _ _ _ _ _ => pg_name (i := 3) sc__law_loose.nd rfl (Or.inl rfl)) (fun _ _ _ _ _ => pts_nil) (fun _ _ _ _ _ => pe_cl G__law_loose (hr.mono (Nat.le_refl _)) (pa_cons (pv 0) (pa_cons (pv 3) pa_nil))))
      (pss_one (ps_ret (pe_ifExp (pt_cmpR op_eq (pe_cl G__law_draw (hr.mono (by decide)) (pa_cons (pv 0) (pa_cons (pe_int) pa_nil))) (pe_int) (nomark _)) (pv 2) (pe_callTy (tupOf K) (by rfl) T.b_tuple (by decide +kernel) (pa_cons (pv 2) pa_nil))))))), ?_⟩
    refine ⟨_, rfl, by decide, fun p hp => ?_⟩
    have s1 := same_upd (o := .tup [.ty "list", .ty "tuple"]) hp
    have ha1 := s1 _ _ ha
    refine ⟨_, p, _, _, _, true, rfl, upd_same, .cons (.ty _) (.cons (.ty _) .nil), .base (.tup ha1), kSeq_yes (n := "tuple") (.inr (by decide +kernel)), _, rfl, iteF ?_⟩
    have hsc : ∀ x ∈ lkV l, Scal x := by
      intro x hx
      obtain ⟨o, b, e, k⟩ := l
      simp only [lkV, rowV, List.mem_cons, List.not_mem_nil, or_false] at hx
      rcases hx with rfl | rfl | rfl | rfl
      · exact .inl ⟨_, rfl⟩
      · exact .inr (.inl ⟨_, rfl⟩)
      · cases e with
        | none => exact .inr (.inr (.inr rfl))
        | some z => exact .inr (.inl ⟨_, rfl⟩)
      · exact .inl ⟨_, rfl⟩
    refine ⟨_, rfl, a, rfl, .inr ⟨⟨_, SqT.of ha1⟩, fun D1 hD1 => lc_T (R := rV id) (S := rV id) (as := lkV l) rV_mono rV_gr (fun x => some x) hD1 (SqT.of ha1) (by have := rV_paired (g := @id V) (H := upd H p (.tup [.ty "list", .ty "tuple"])) (lkV l); rwa [List.map_id] at this) (by show 4 ≤ 100000; decide) (fun i x b hb H2 s2 hx N Z hN hZ => ?_) fun H2 ys s2 hy hyp => ?_⟩⟩
    · have hx : x = b := hx
      subst hx
      exact ⟨rfl, ty ⟨_, rfl, _, rfl, _, x, rfl, hsc x (List.mem_of_getElem? hb), fun H3 s3 => hN _ _ _ s3 rfl rfl⟩⟩
    · have ey : ys = lkV l := by
        have := paired_rV hyp
        rw [this, filterMap_some, List.map_id, List.map_id']
      subst ey
      have s12 := s1.trans s2
      have hD0 : H D1 = none := Same.none s1 hD1
      refine ⟨_, rfl, S, L, 3, n, rfl, hd.same s12, by omega, by decide, by decide, fun c H3 hc k3 d3 => ⟨rfl, _, rfl, ?_⟩⟩
      have hy3 := ((hd.same s12).kg k3).l hy
      by_cases c0 : decide (V.int (c : Int) = .int 0) = true
      · rw [c0]
        exact iteT ⟨_, rfl, q D1 H3 _ hD0 (.inr hy3) ((KD.of s12).trans k3) (Nat.le_refl _) d3⟩
      · rw [Bool.not_eq_true] at c0
        rw [c0]
        refine iteF ⟨_, rfl, D1, _, rfl, .inl ⟨SqL.of hy3, fun p2 hp2 => ?_⟩⟩
        obtain ⟨q1, q2⟩ := d3.new hp2
        exact q p2 _ _ (hd.free ((KD.of s12).trans k3) d3 hp2) (.inl upd_same) (((KD.of s12).trans k3).trans (KD.of (same_upd hp2))) (Nat.le_refl _) (d3.upd q1 q2))
theorem loose_C {f : Addr} {fd : FuncData} (D : Df K mg "_law_loose" s__law_loose ["_law_stream", "_law_thing"] f fd) (T : Bl mg) (G__law_draw : Dn P w K mg base CX0 1 "_law_draw" ["_law_stream", "_law_many"] sp_draw) (G__law_loose : Dn P w K mg base CX0 3 "_law_loose" ["_law_stream", "_law_thing"] sp_looseB) : Dn P w K mg base CX0 4 "_law_loose" ["_law_stream", "_law_thing"] sp_looseC := .of D (by
  refine D.fn.ok sc__law_loose (fun vs H Q E h => ?_) (fun cdv A outer s H vs Q E hr h => ?_)
  · obtain ⟨S, L, a, xs, ls, n, rfl, _⟩ := h
    rfl
  · obtain ⟨S, L, a, xs, ls, n, rfl, ha, hp, hl, hd, hn, q⟩ := h
    refine ⟨_, (pss_cons (ps_if (pt_not (pt_val (pe_callB (isiT K) (by rfl) T.b_isinstance (by decide +kernel) (pa_cons (pv 1) (pa_cons (pe_tup (pa_cons (pe_bltn (v := .ty "list") (by rfl) T.b_list (by decide +kernel) rfl) (pa_cons (pe_bltn (v := .ty "tuple") (by rfl) T.b_tuple (by decide +kernel) rfl) pa_nil))) pa_nil))))) (pss_one (ps_ret (pv 1))) pss_nil)
      (pss_cons (ps_setLc (i := 2) (own := [("_law_part", 3)]) rfl sc__law_loose.nd rfl rfl (sw_true rfl rfl rfl (by decide +kernel)) (pisq K (pv 1)) (blkOk_by (N := ["_law_stream", "_law_thing", "_law_found", "_law_part"]) (sc := defScope s__law_loose) (by decide +kernel)) (fun _ _ _ _ _ => pg_name (i := 3) sc__law_loose.nd rfl (Or.inl rfl)) (fun _ _ _ _ _ => pts_nil) (fun _ _ _ _ _ => pe_cl G__law_loose (hr.mono (Nat.le_refl _)) (pa_cons (pv 0) (pa_cons (pv 3) pa_nil))))
      (pss_one (ps_ret (pe_ifExp (pt_cmpR op_eq (pe_cl G__law_draw (hr.mono (by decide)) (pa_cons (pv 0) (pa_cons (pe_int) pa_nil))) (pe_int) (nomark _)) (pv 2) (pe_callTy (tupOf K) (by rfl) T.b_tuple (by decide +kernel) (pa_cons (pv 2) pa_nil))))))), ?_⟩
    refine ⟨_, rfl, by decide, fun p hp0 => ?_⟩
    have s1 := same_upd (o := .tup [.ty "list", .ty "tuple"]) hp0
    have ha1 := s1 _ _ ha
    refine ⟨_, p, _, _, _, true, rfl, upd_same, .cons (.ty _) (.cons (.ty _) .nil), .base (.lst ha1), kSeq_yes (n := "list") (.inl (by decide +kernel)), _, rfl, iteF ?_⟩
    have hxl := hp.length
    obtain ⟨a1, a2⟩ := hd.nS ha fun _ z => nomatch z
    refine ⟨_, rfl, a, rfl, .inl ⟨⟨_, SqL.of ha1⟩, fun D1 hD1 => ?_⟩⟩
    have hD0 : H D1 = none := Same.none s1 hD1
    obtain ⟨D1S, D1L⟩ := hd.new hD0
    have sD := same_upd (o := .lst []) hD1
    have haD : a ≠ D1 := ne_new ha hD0
    refine lc_list (xs := xs) (fun i H2 => KD S L H H2 ∧ ∃ n2, n2 ≤ n + i ∧ Dr S L H2 n2 ∧ ∃ ps : List Addr, H2 D1 = some (.lst (ps.map V.ref)) ∧ ps.length = i ∧ Paired (fun p l => p ≠ D1 ∧ (H2 p = some (.tup (lkV l)) ∨ H2 p = some (.lst (lkV l)))) ps (ls.take i))
      ⟨KD.of (s1.trans sD), n, by omega, hd.same (s1.trans sD), [], upd_same, rfl, .nil⟩ (fun i H2 _ ⟨k, _⟩ => SqL.of (k _ _ a1 a2 ha)) ?_ ?_
    · rintro i y H2 hi ⟨k2, n2, hn2, d2, ps, hD2, hpl, hps⟩
      obtain ⟨l, hl', t, rfl, ht⟩ := paired_get hp hi
      have hil : i < xs.length := (List.getElem?_eq_some_iff.mp hi).1
      have ht2 := (hd.kg k2).t ht
      refine ⟨rfl, ty ⟨_, rfl, _, rfl, S, L, t, l, n2, rfl, ht2, d2, by omega, fun p H3 n3 hp2 hp3 k3 hn3 d3 => ?_⟩⟩
      have g3 := d2.kg k3
      have hD3 := g3.l hD2
      have hpD : p ≠ D1 := fun z => by rw [z, hD2] at hp2; cases hp2
      refine ⟨_, hD3, by rw [List.length_map, sizeLine_eq]; omega, (k2.trans k3).own hD0, n3, by omega, d3.upd D1S D1L, ps ++ [p], by rw [upd_same, List.map_append]; rfl, by rw [List.length_append, List.length_singleton, hpl], ?_⟩
      rw [List.take_add_one, hl']
      refine Paired.app (Paired.mapP hps fun b l ⟨h1, h2⟩ => ⟨h1, ?_⟩) (.cons ⟨hpD, by rw [upd_ne hpD]; exact hp3⟩ .nil)
      rw [upd_ne h1]
      exact h2.imp g3.t g3.l
    · rintro H2 ⟨k2, n2, hn2, d2, ps, hD2, hpl, hps⟩
      rw [hxl, List.take_length] at hps
      have hA : ∀ {H3 : Hp}, Kg H2 H3 → Paired (rLkA H3) (ps.map V.ref) ls := by
        intro H3 g
        have : ∀ {ps : List Addr} {ls : List (Lk Str)}, Paired (fun p l => p ≠ D1 ∧ (H2 p = some (.tup (lkV l)) ∨ H2 p = some (.lst (lkV l)))) ps ls → Paired (rLkA H3) (ps.map V.ref) ls := by
          intro ps ls h
          induction h with
          | nil => exact .nil
          | cons h t ih => exact .cons ⟨_, rfl, h.2.imp g.t g.l⟩ ih
        exact this hps
      refine ⟨_, rfl, S, L, 3, n2, rfl, d2, by omega, by decide, by decide, fun c H3 hc k3 d3 => ⟨rfl, _, rfl, ?_⟩⟩
      have g3 := d2.kg k3
      have hy3 := g3.l hD2
      by_cases c0 : decide (V.int (c : Int) = .int 0) = true
      · rw [c0]
        exact iteT ⟨_, rfl, q D1 _ H3 _ hD0 (.inr hy3) (hA g3) (k2.trans k3) (by omega) d3⟩
      · rw [Bool.not_eq_true] at c0
        rw [c0]
        refine iteF ⟨_, rfl, D1, _, rfl, .inl ⟨SqL.of hy3, fun p2 hp2 => ?_⟩⟩
        obtain ⟨q1, q2⟩ := d3.new hp2
        exact q p2 _ _ _ (hd.free (k2.trans k3) d3 hp2) (.inl upd_same) (hA (g3.trans (Kg.of (same_upd hp2)))) ((k2.trans k3).trans (KD.of (same_upd hp2))) (by omega) (d3.upd q1 q2))
end
end WH
set_option Elab.async false
set_option linter.all false
set_option maxRecDepth 100000
set_option maxHeartbeats 2000000
namespace WH
open PySem PySem.Spec PyProof.Rows L2 WM LamX
abbrev Sx := Addr → Value → Option Addr → TS
/-- the ends behind a clause: the name in slot i is gone -/
def clr (i : Nat) (D : Ends) : Ends := { D with nx := fun q h => D.nx (q.set i none) h, bk := fun q h => D.bk (q.set i none) h, ct := fun q h => D.ct (q.set i none) h }
def wAll (K : PySem.W.Frag) (i : Nat) (Wo : WX) (D : Ends) : List (Value × Sx) → WX
  | [] => Wo
  | z :: r => fun cls d q h => ∃ b, PySem.W.exmOne K cls z.1 = some b ∧ (b = true → ∀ a, h a = none → z.2 a cls d (clr i D) (q.set i (some (.ref a))) h) ∧ (b = false → wAll K i Wo D r cls d q h)
/-- clauses that all keep the exception under one name -/
inductive HdAs (X : Cx) (n : Str) : List ExceptHandler → List (Value × Sx) → Prop
  | nil : HdAs X n [] []
  | cons {x : Str} {z : Value × Sx} {s0 : Stmt} {sr : List Stmt} {p1 p2 : Pos} {hr : List ExceptHandler} {r : List (Value × Sx)} (hz : Names X x z.1)
      (hq : ∀ (a : Addr) (ob : Obj) (cls : Value) (d : Option Addr) (pn : List (Addr × Obj)), Zc cls d ob → (∃ us, ob.data = .fields us) → PSs (X.suite a ((a, ob) :: pn)) (s0 :: sr) (z.2 a cls d)) (t : HdAs X n hr r) :
      HdAs X n (.ExceptHandler (some (.Name x p1)) (some n) (s0 :: sr) p2 :: hr) (z :: r)
theorem ps_try_alls {X : Cx} {n : Str} {i : Nat} {body : List Stmt} {h0 : ExceptHandler} {hr : List ExceptHandler} {r : List (Value × Sx)} {pos : Pos} {tb : WX → TS} {Wo : WX}
    (e1 : X.stack = X.env :: X.outer) (e2 : X.env.frame = some X.env.locals) (e3 : X.N.Nodup) (e4 : X.N[i]? = some n) (e5 : X.env.kindOf n = some .local) (e6 : Takes X Wo)
    (e7 : ∀ (W : WX) (pn : List (Addr × Obj)) (xe : Value → Shared → Prop), Takes (X.tr pn xe) W → PassesOwn (model X.prog X.w) X.A X.env xe → PSs (X.tr pn xe) body (tb W))
    (e8 : HdAs X n (h0 :: hr) r) : PS X (.Try body (h0 :: hr) [] [] pos) (fun D q h => tb (wAll X.K i Wo D r) D q h) := by
  refine ⟨fun ps s q h D I g => ?_⟩
  have okk := I.ok
  have frs0 : X.A.frames = some (X.env :: X.outer) := by rw [okk.frames, e1]
  refine wpAny_Try_except (wpAny_mono ((e7 (wAll X.K i Wo D r) (X.pn ++ ps) (fun v s₁ => wpAny (model X.prog X.w) X.A (noteFrame v X.env) (fun _ s₂ => wpAny (model X.prog X.w) X.A (setFlight v none) (fun _ s₃ => wpAny (model X.prog X.w) X.A (handleBy v X.env (h0 :: hr)) (SP X ps D) X.xe s₃) X.xe s₂) X.xe s₁) (fun u s' xx => ?_) PassesOwn.looking).run [] s q h D (I.toTry _) g) (fun f s1 fin => ?_) (fun v s1 z => z))
  · obtain ⟨a, B, sI, ps', q', h', cls, d, rfl, Jt, nb, u1, sky, na, os, ag, wish⟩ := xx
    have J : Inv X ps q' h' sI := Jt.ofTry okk
    show wpAny (model X.prog X.w) X.A (noteFrame (.ref a) X.env) _ _ _
    refine Sky.land Zc.steady frs0 e2 (by rw [← e1]; exact sky) fun hp3 fw up3 => ?_
    have J3 : Inv X ps q' h' { s' with heap := hp3 } := J.landed nb fw.1 (u1.trans up3) os ag
    obtain ⟨ob3, us3, g3, z3, d3⟩ := fw.there
    have off : a ∉ frs (X.env :: X.outer) := fun hm => by
      obtain ⟨_, o', k1, k2⟩ := fw.2.2.1.mem hm
      rw [g3] at k1
      cases k1
      exact k2 _ d3
    have offL : a ≠ X.env.locals := fun k => off (List.mem_filterMap.mpr ⟨X.env, List.mem_cons_self, by rw [e2, k]⟩)
    have offF : a ∉ X.fs := fun hm => by
      obtain ⟨v, k1, k2⟩ := List.mem_filterMap.mp hm
      exact off (List.mem_filterMap.mpr ⟨v, List.mem_cons_of_mem _ k1, k2⟩)
    have Sa := J3.suite g3 d3 na offL offF
    have all : ∀ {hs' : List ExceptHandler} {r' : List (Value × Sx)}, HdAs X n hs' r' → wAll X.K i Wo D r' cls d q' h' → wpAny (model X.prog X.w) X.A (handleBy (.ref a) X.env hs') (SP X ps D) X.xe { s' with heap := hp3 } := by
      intro hs' r' hk
      induction hk with
      | nil =>
        intro w0
        refine wpAny_handleBy_nil ?_
        obtain ⟨k1, k2, k3, ob, us, T, oT, ts', y1, y2, y3, y4, y5⟩ := id fw
        unfold PySem.passOn
        refine wpAny_bind (wpAny_field y1 y3 y4 ?_)
        rw [if_neg (by simp : ¬ ((Value.ref T == Value.none) = true))]
        have last : wpAny (model X.prog X.w) X.A (setFlight (.ref a) X.env.frame) (fun _ s4 => wpAny (model X.prog X.w) X.A (throw (.ref a) : Sem Flow) (SP X ps D) X.xe s4) X.xe { s' with heap := hp3 } := by
          rw [e2]
          exact HandSPX.setFlight_upZ fw fun hp4 f4 up4 => wpAny_throw (e6 _ _ ⟨a, B, sI, ps, q', h', cls, d, rfl, J, nb, (u1.trans up3).trans up4, .inr (.inr (by rw [e1]; exact f4)), na, os, ag, w0⟩)
        first
          | exact wpAny_bind (wpAny_pure (wpAny_bind last))
          | exact wpAny_bind last
      | @cons x z s0 sr p1 p2 hr2 r2 hz hq t ih =>
        intro w0
        obtain ⟨b, b1, yes, no⟩ := w0
        refine wpAny_handleBy_cons (codeAny_handlers_test ?_) (fun k => by cases k)
        have L1 : PySem.W.Looks (model X.prog X.w) hp3 (typeOf (.ref a)) cls := fun A Q E s k m => wpAny_typeOf_ref (k _ _ g3) (z3.1.symm ▸ m)
        have L2' := PySem.W.exm_one (M := model X.prog X.w) (J3.kIn) L1 b1
        have ask : ∀ {Q : Value → Shared → Prop} {E : Value → Shared → Prop}, Q z.1 { s' with heap := hp3 } → wpAny (model X.prog X.w) (X.A.mark (some (.ref a))) (eval (.Name x p1) X.env) Q E { s' with heap := hp3 } := fun {Q E} m => by
          rcases hz with ⟨n1, n2, n3 | ⟨n3, n4, n5⟩⟩
          · exact ld_glob (X := X.suite a ((a, ob3) :: (X.pn ++ ps))) Sa n1 n3 m n2
          · exact ld_blt (X := X.suite a ((a, ob3) :: (X.pn ++ ps))) Sa n1 n3 n4 m n5 n2
        refine ask (L2'.here ?_)
        cases b with
        | false => exact ih (no rfl)
        | true =>
          refine codeAny_handlers_suite_as (HandSPX.lands_againZ fw fun hp4 f4 up4 => ?_)
          have J4 : Inv X ps q' h' { s' with heap := hp4 } := J.landed nb f4.1 ((u1.trans up3).trans up4) os ag
          obtain ⟨ob4, us4, g4, z4, d4⟩ := f4.there
          refine store_ok (X := X.suite a ((a, ob4) :: (X.pn ++ ps))) (v := .ref a) (J4.suite g4 d4 na offL offF) e3 e4 (.inl e5) rfl (fun s5 S5 => ?_) (.inr e5)
          refine wpAny_mono ((hq a ob4 cls d (X.pn ++ ps) z4 ⟨_, d4⟩).run [] s5 _ h' _ S5 (yes rfl a na)) (fun f s6 fin => ?_) (fun _ _ k => k.elim)
          have gone : ∀ {q6 : L2.St} {h6 : Hp} {Q : Shared → Prop}, Inv (X.suite a ((a, ob4) :: (X.pn ++ ps))) [] q6 h6 s6 → (∀ s7, Inv X ps (q6.set i none) h6 s7 → Q s7) → wpAny (model X.prog X.w) X.A (do bindName X.env n .none; unbindBehindTheSuite X.env n p2) (fun _ s7 => Q s7) X.xe s6 := fun I6 m => gone_ok (I6.unsuite okk) e3 e4 e5 m
          cases f with
          | next =>
            obtain ⟨_, _, I6, m⟩ := fin
            exact gone I6 fun s7 I7 => ⟨_, _, I7, m⟩
          | brk =>
            obtain ⟨_, _, I6, m⟩ := fin
            exact gone I6 fun s7 I7 => ⟨_, _, I7, m⟩
          | cont =>
            obtain ⟨_, _, I6, m⟩ := fin
            exact gone I6 fun s7 I7 => ⟨_, _, I7, m⟩
          | ret u =>
            obtain ⟨_, _, _, I6, m1, m⟩ := fin
            exact gone I6 fun s7 I7 => ⟨_, _, _, I7, m1, m⟩
    exact all e8 wish
  · cases f with
    | next =>
      obtain ⟨_, _, I1, m⟩ := fin
      exact wpAny_execs_nil ⟨_, _, I1.ofTry okk, m⟩
    | brk =>
      obtain ⟨_, _, I1, m⟩ := fin
      exact ⟨_, _, I1.ofTry okk, m⟩
    | cont =>
      obtain ⟨_, _, I1, m⟩ := fin
      exact ⟨_, _, I1.ofTry okk, m⟩
    | ret u =>
      obtain ⟨_, _, _, I1, m1, m⟩ := fin
      exact ⟨_, _, _, I1.ofTry okk, m1, m⟩
end WH
set_option Elab.async false
set_option linter.all false
set_option maxRecDepth 100000
set_option maxHeartbeats 2000000
namespace WH
open PySem PySem.Spec PyProof.Rows L2 WM LamX
abbrev s__law_met : Stmt := topS 72
theorem sc__law_met : FnScope ["_law_ask", "e"] ["_law_ask"] (defScope s__law_met) := ⟨rfl, rfl, rfl, by decide +kernel, rfl, by decide +kernel, by decide +kernel⟩
theorem takes_len {X : Cx} {W : WX} (t : Takes X W) : Takes X (fun cls d q h => q.length = X.N.length → W cls d q h) := fun u s' ⟨a, B, sI, ps, q, h, cls, d, e, I, nb, up, sky, na, os, ag, w⟩ =>
  t u s' ⟨a, B, sI, ps, q, h, cls, d, e, I, nb, up, sky, na, os, ag, w I.len⟩
/-- what _law_met makes of a question: told, or how it is refused -/
def MetE (CL CP : Addr) (Q : VK) : XK := fun cls d H' =>
  (cls = .ref CL ∧ ∃ dd v, d = some dd ∧ H' dd = some (.xd [("index", v)]) ∧ ∀ p, H' p = none → Q (.ref p) (upd H' p (.tup [.str "bad", v]))) ∨
  (cls = .ref CP ∧ ∃ dd v, d = some dd ∧ H' dd = some (.xd [("thing", v)]) ∧ ∀ p, H' p = none → Q (.ref p) (upd H' p (.tup [.str "prices", v])))
def TTmet (CL CP : Addr) : (XK → Hp → VK → Prop) → Hp → VK → Prop := fun tl H Q => tl (MetE CL CP Q) H fun v H1 => [V.str "told", v].length ≤ sizeLine ∧ ∀ p, H1 p = none → Q (.ref p) (upd H1 p (.tup [.str "told", v]))
structure ExF (K : PySem.W.Frag) (CL CP : Addr) : Prop where
  ll : PySem.W.exmOne K (.ref CL) (.ref CL) = some true
  pl : PySem.W.exmOne K (.ref CP) (.ref CL) = some false
  pp : PySem.W.exmOne K (.ref CP) (.ref CP) = some true
def metS (C : Addr) (x f : Str) : Sx := fun a cls d => tRet (tTup (tCons (tC (V.str x)) (tCons (tXf a cls d C f (tVar 1)) tNil)))
theorem met_gives {X : Cx} {g CL CP fL fP : Addr} {cdg : Value} {q : Str} (LL : Xo X.K X.mg "BadLock" "index" CL fL) (LP : Xo X.K X.mg "BadPrices" "thing" CP fP) (Ex : ExF X.K CL CP) :
    GivesTo X ["_law_ask", "e"] "_law_met" (defScope s__law_met) g cdg (defBody s__law_met) "_law_ask" q (TTmet CL CP) := by
  intro f c' s H Q tl act hc h
  refine ⟨_, pss_one (ps_try_alls (i := 1) (X := (cxOf C8.CX0 X.prog X.w X.K X.mg X.base ["_law_ask", "e"] "_law_met" (defScope s__law_met) g cdg X.A X.stack s H C8.E0).nox) (r := [(.ref CL, metS CL "bad" "index"), (.ref CP, metS CP "prices" "thing")])
      (tb := fun W D σ H => ∃ Ec : XK, (∀ cls d σ' H', σ'.length = 2 → Ec cls d H' → W cls d σ' H') ∧ σ[0]? = some (some (.ref f)) ∧ H c' = some (CodeO c' q) ∧ tl Ec H fun v H1 => [V.str "told", v].length ≤ sizeLine ∧ ∀ p, H1 p = none → D.rt (.ref p) (upd H1 p (.tup [.str "told", v])))
      rfl rfl sc__law_met.nd rfl rfl L2.takes0 (fun W pn xe tk _ => ?_) (.cons ⟨rfl, by decide, .inl LL.gl⟩ (fun a oe cls d pn hz hf => by
        refine pss_one (ps_ret (pe_tup (pa_cons pe_str (pa_cons (pe_xf (C := CL) ?_ ?_ hz hf (pv 1)) pa_nil))))
        · exact LL.xf
        · exact LL.nf) (.cons ⟨rfl, by decide, .inl LP.gl⟩ (fun a oe cls d pn hz hf => by
        refine pss_one (ps_ret (pe_tup (pa_cons pe_str (pa_cons (pe_xf (C := CP) ?_ ?_ hz hf (pv 1)) pa_nil))))
        · exact LP.xf
        · exact LP.nf) .nil))), ?_⟩
  · refine ⟨fun pins s' σ H' D I h' => ?_⟩
    obtain ⟨Ec, hW, h1, h2, h3⟩ := h'
    have hp := act _ pn xe Ec ⟨349, 24, 349, 32⟩ ⟨349, 24, 349, 34⟩ (takes_len tk) (fun cls d σ' H' e hl => hW cls d σ' H' hl e)
    exact (pss_one (ps_ret (pe_tup (pa_cons pe_str (pa_cons hp pa_nil))))).run pins s' σ H' D I ⟨h1, h2, h3⟩
  · refine ⟨MetE CL CP Q, fun cls d σ' H' hl hE => ?_, rfl, hc, h⟩
    obtain ⟨x0, x1, rfl⟩ : ∃ x0 x1, σ' = [x0, x1] := by
      match σ', hl with
      | [x0, x1], _ => exact ⟨x0, x1, rfl⟩
    rcases hE with ⟨rfl, dd, v, rfl, hd, hq⟩ | ⟨rfl, dd, v, rfl, hd, hq⟩
    · exact ⟨true, Ex.ll, fun _ a ha => ⟨_, rfl, rfl, rfl, dd, _, v, rfl, hd, rfl, sz2, hq⟩, fun z => nomatch z⟩
    · exact ⟨false, Ex.pl, (fun z => nomatch z), fun _ => ⟨true, Ex.pp, fun _ a ha => ⟨_, rfl, rfl, rfl, dd, _, v, rfl, hd, rfl, sz2, hq⟩, fun z => nomatch z⟩⟩
end WH
set_option Elab.async false
set_option linter.all false
set_option maxRecDepth 100000
set_option maxHeartbeats 2000000
namespace WH
open PySem PySem.Spec PyProof.Rows L2 WM LamX
/-- lists of sets that tell the same -/
theorem same_set {H : Hp} {v v' : V} {s : List Str} (h : rSet H v s) (h' : rSet H v' s) (hl : s.length ≤ 100000) : SameD 1 H v v' := by
  obtain ⟨a, rfl, ha⟩ := h
  obtain ⟨b, rfl, hb⟩ := h'
  have hp : ∀ s : List Str, Paired (SameD 0 H) (s.map V.str) (s.map V.str) := by
    intro s
    induction s with
    | nil => exact .nil
    | cons x s ih => exact .cons ⟨rfl, .inl ⟨x, rfl⟩⟩ ih
  exact .inr ⟨a, b, _, _, rfl, rfl, .inr ⟨ha, hb⟩, hp s, by rw [List.length_map]; exact hl⟩
theorem same_sets {H : Hp} : ∀ {xs ys : List V} {ss : List (List Str)}, Paired (rSet H) xs ss → Paired (rSet H) ys ss → (∀ s ∈ ss, s.length ≤ 100000) → Paired (SameD 1 H) xs ys
  | _, _, _, .nil, .nil, _ => .nil
  | _, _, _, .cons h t, .cons h' t', hl => .cons (same_set h h' (hl _ (by simp))) (same_sets t t' fun s hs => hl s (by simp [hs]))
theorem same_told {H : Hp} {p q r1 r2 t1 t2 : Addr} {x1 x2 y1 y2 : List V} {s1 s2 : List (List Str)} (hp : H p = some (.lst [.ref r1, .ref r2])) (hq : H q = some (.lst [.ref t1, .ref t2])) (h1 : H r1 = some (.lst x1)) (h2 : H r2 = some (.lst x2)) (g1 : H t1 = some (.lst y1)) (g2 : H t2 = some (.lst y2))
    (p1 : Paired (rSet H) x1 s1) (p2 : Paired (rSet H) x2 s2) (q1 : Paired (rSet H) y1 s1) (q2 : Paired (rSet H) y2 s2) (l1 : ∀ s ∈ s1, s.length ≤ 100000) (l2 : ∀ s ∈ s2, s.length ≤ 100000) (n1 : s1.length ≤ 100000) (n2 : s2.length ≤ 100000) : SameD 3 H (.ref p) (.ref q) := by
  refine .inr ⟨p, q, _, _, rfl, rfl, .inl ⟨hp, hq⟩, .cons ?_ (.cons ?_ .nil), by simp⟩
  · exact .inr ⟨r1, t1, x1, y1, rfl, rfl, .inl ⟨h1, g1⟩, same_sets p1 q1 l1, by rw [p1.length]; exact n1⟩
  · exact .inr ⟨r2, t2, x2, y2, rfl, rfl, .inl ⟨h2, g2⟩, same_sets p2 q2 l2, by rw [p2.length]; exact n2⟩
end WH
set_option Elab.async false
set_option linter.all false
set_option maxRecDepth 100000
set_option maxHeartbeats 2000000
namespace WH
open PySem PySem.Spec PyProof.Rows L2 WM LamX
def srIn (K : PySem.W.Frag) : TS := tFor (iList K (tVar 9)) (gName 5)
              (tIfS
                (tNot
                  (tB
                    (tCB (rAll K)
                      (tCons
                        (tLc (iList K (tVar 10)) (gName 13) tYes
                          (tCB (rAny K)
                            (tCons
                              (tLc (iTup K (tVar 13)) (gName 12) tYes (tOp (rIn K false) (tVar 12) (tVar 5))
                                (List.map (fun x => x.snd) [(Str.ofString "_law_name", 12)]))
                              tNil))
                          (List.map (fun x => x.snd) [(Str.ofString "_law_other", 13)]))
                        tNil))))
                (tRet (tC (V.bl false))) tNext)
theorem sr_in {K : PySem.W.Frag} {H : Hp} {D : Ends} {b0 b1 b2 b3 b4 b5 b6 b7 b8 b11 b12 b13 : Option V} {x y : Addr} {xs ys : List V} {sx sy : List (List Str)} (hx : H x = some (.lst xs)) (hy : H y = some (.lst ys)) (px : Paired (rSet H) xs sx) (py : Paired (rSet H) ys sy)
    (hc : ∀ r ∈ sx, ∀ t ∈ sy, ∃ z ∈ t, z ∈ r) (ly : sy.length ≤ 100000) (lt : ∀ t ∈ sy, t.length ≤ 100000)
    (nx : ∀ v5 v12 v13 H', Same H H' → D.nx [b0, b1, b2, b3, b4, v5, b6, b7, b8, some (.ref x), some (.ref y), b11, v12, v13] H') :
    srIn K D [b0, b1, b2, b3, b4, b5, b6, b7, b8, some (.ref x), some (.ref y), b11, b12, b13] H := by
  refine ⟨_, rfl, x, rfl, ⟨_, SqL.of hx⟩, for_list (K := K) (a := x) (xs := xs) (fun i σ H2 => ∃ v5 v12 v13, σ = [b0, b1, b2, b3, b4, v5, b6, b7, b8, some (.ref x), some (.ref y), b11, v12, v13] ∧ Same H H2)
    ⟨_, _, _, rfl, Same.refl _⟩ (fun i σ H2 _ ⟨_, _, _, _, s⟩ => SqL.of (s _ _ hx)) ?_ ?_⟩
  · rintro i v σ H2 hi ⟨v5, v12, v13, rfl, s2⟩
    obtain ⟨r, hr, ra, rfl, hra⟩ := paired_get px hi
    have hrm := List.mem_of_getElem? hr
    have hra2 := s2 _ _ hra
    refine ⟨_, rfl, y, rfl, ⟨_, SqL.of (s2 _ _ hy)⟩, fun D1 hD1 => lc_L (R := rSet) (S := rV V.bl) (as := sy) rSet_mono rV_gr (fun _ => some true) hD1 (SqL.of (s2 _ _ hy)) (rSet_mono.all (Kg.of s2) py) (by rw [py.length]; exact ly) (fun j w t ht H3 s3 hw N Z hN hZ => ?_) fun H3 bs s3 hb hbp => ?_⟩
    · obtain ⟨ta, rfl, hta⟩ := hw
      have htm := List.mem_of_getElem? ht
      refine ⟨rfl, ty ⟨_, rfl, ta, rfl, ⟨_, SqT.of hta⟩, fun D2 hD2 => lc_T (R := rS) (S := rV V.bl) (as := t) rV_mono rV_gr (fun z => some (decide (z ∈ r))) hD2 (SqT.of hta) (rV_paired t) (by rw [List.length_map]; exact lt t htm) (fun k u z hz H4 s4 hu N2 Z2 hN2 hZ2 => ?_) fun H4 cs s4 hc4 hcp => ?_⟩⟩
      · rw [show u = V.str z from hu]
        refine ⟨rfl, ty ⟨_, rfl, _, rfl, ra, _, rfl, .inr (SqT.of (s4 _ _ (s3 _ _ hra2))), rfl, strs_flat _, hN2 _ _ _ (Same.refl _) rfl ?_⟩⟩
        show V.bl (inV _ _) = _
        rw [inV_strs]
      · rw [filterMap_some] at hcp
        refine ⟨D2, _, rfl, SqL.of (by rw [hc4, paired_rV hcp]), ?_⟩
        have e : (t.map fun z => decide (z ∈ r)).any id = true := by
          obtain ⟨z, h1, h2⟩ := hc r hrm t htm
          rw [List.any_map, List.any_eq_true]
          exact ⟨z, h1, decide_eq_true h2⟩
        rw [e]
        exact hN _ _ _ s4 rfl rfl
    · rw [filterMap_some] at hbp
      refine ⟨D1, _, rfl, SqL.of (by rw [hb, paired_rV hbp]), _, rfl, ?_⟩
      have e : (sy.map fun _ => true).all id = true := by
        rw [List.all_map, List.all_eq_true]
        intro _ _
        rfl
      rw [e]
      exact iteF ⟨_, _, _, rfl, s2.trans s3⟩
  · rintro σ H2 ⟨v5, v12, v13, rfl, s2⟩
    exact nx _ _ _ _ s2
end WH
set_option Elab.async false
set_option linter.all false
set_option maxRecDepth 100000
set_option maxHeartbeats 2000000
namespace WH
open PySem PySem.Spec PyProof.Rows L2 WM LamX
def srFor1 (K : PySem.W.Frag) : TS := tFor (iTup K (tTup (tCons (tVar 8) (tCons (tRevL K (tVar 8)) tNil)))) (gUnl K 2 (gCons (gName 9) (gCons (gName 10) gNil))) (srIn K)
theorem sr_for1 {K : PySem.W.Frag} {H : Hp} {D : Ends} {b0 b1 b2 b3 b4 b5 b6 b7 b9 b10 b11 b12 b13 : Option V} {td a1 a2 : Addr} {x1 x2 : List V} {s1 s2 : List (List Str)} (htd : H td = some (.lst [.ref a1, .ref a2])) (h1 : H a1 = some (.lst x1)) (h2 : H a2 = some (.lst x2)) (p1 : Paired (rSet H) x1 s1) (p2 : Paired (rSet H) x2 s2)
    (hc : ∀ r ∈ s1, ∀ t ∈ s2, ∃ z ∈ r, z ∈ t) (n1 : s1.length ≤ 100000) (n2 : s2.length ≤ 100000) (l1 : ∀ t ∈ s1, t.length ≤ 100000) (l2 : ∀ t ∈ s2, t.length ≤ 100000)
    (nx : ∀ v5 v9 v10 v12 v13 H', Same H H' → D.nx [b0, b1, b2, b3, b4, v5, b6, b7, some (.ref td), v9, v10, b11, v12, v13] H') :
    srFor1 K D [b0, b1, b2, b3, b4, b5, b6, b7, some (.ref td), b9, b10, b11, b12, b13] H := by
  refine ⟨_, rfl, _, rfl, td, _, rfl, SqL.of htd, fun p hp => ⟨sz2, fun tp htp => ?_⟩⟩
  have e1 := same_upd (o := .lst [V.ref a1, V.ref a2].reverse) hp
  have e2 := same_upd (o := .tup [.ref td, .ref p]) htp
  have e12 := e1.trans e2
  generalize hH1 : upd (upd H p (.lst [V.ref a1, V.ref a2].reverse)) tp (.tup [.ref td, .ref p]) = H1
  have s01 : Same H H1 := hH1 ▸ e12
  have hp1 : H1 p = some (.lst [.ref a2, .ref a1]) := hH1 ▸ e2 _ _ upd_same
  have htp1 : H1 tp = some (.tup [.ref td, .ref p]) := by rw [← hH1]; exact upd_same
  refine ⟨tp, rfl, ⟨_, SqT.of htp1⟩, for_tup (K := K) (a := tp) (xs := [.ref td, .ref p]) (fun i σ H2 => ∃ v5 v9 v10 v12 v13, σ = [b0, b1, b2, b3, b4, v5, b6, b7, some (.ref td), v9, v10, b11, v12, v13] ∧ Same H1 H2)
    ⟨_, _, _, _, _, rfl, Same.refl _⟩ (fun i σ H2 _ ⟨_, _, _, _, _, _, s⟩ => SqT.of (s _ _ htp1)) ?_ ?_⟩
  · rintro i v σ H2 hi ⟨v5, v9, v10, v12, v13, rfl, s2⟩
    have s02 := s01.trans s2
    have q1 := rSet_mono.all (Kg.of s02) p1
    have q2 := rSet_mono.all (Kg.of s02) p2
    match i, hi with
    | 0, hi =>
      injection hi with hi
      subst hi
      refine ⟨td, _, rfl, SqL.of (s02 _ _ htd), rfl, _, _, rfl, _, _, rfl, rfl, ?_⟩
      exact sr_in (s02 _ _ h1) (s02 _ _ h2) q1 q2 (fun r hr t ht => let ⟨z, hz1, hz2⟩ := hc r hr t ht; ⟨z, hz2, hz1⟩) n2 l2 fun v5 v12 v13 H3 s3 => ⟨_, _, _, _, _, rfl, s2.trans s3⟩
    | 1, hi =>
      injection hi with hi
      subst hi
      refine ⟨p, _, rfl, SqL.of (s2 _ _ hp1), rfl, _, _, rfl, _, _, rfl, rfl, ?_⟩
      exact sr_in (s02 _ _ h2) (s02 _ _ h1) q2 q1 (fun r hr t ht => let ⟨z, hz1, hz2⟩ := hc t ht r hr; ⟨z, hz1, hz2⟩) n1 l1 fun v5 v12 v13 H3 s3 => ⟨_, _, _, _, _, rfl, s2.trans s3⟩
    | i + 2, hi => simp at hi
  · rintro σ H2 ⟨v5, v9, v10, v12, v13, rfl, s2⟩
    exact nx _ _ _ _ _ _ (s01.trans s2)
end WH
set_option Elab.async false
set_option linter.all false
set_option maxRecDepth 100000
set_option maxHeartbeats 2000000
namespace WH
open PySem PySem.Spec PyProof.Rows L2 WM LamX
theorem nd_inj : ∀ {wl : List (Lk Str)}, (wl.map (·.1)).Nodup → ∀ l ∈ wl, ∀ m ∈ wl, l.1 = m.1 → l = m := by
  intro wl
  induction wl with
  | nil => intro _ l hl; cases hl
  | cons a wl ih =>
    intro hn l hl m hm' e
    rw [List.map_cons, List.nodup_cons] at hn
    rcases List.mem_cons.1 hl with e1 | hl <;> rcases List.mem_cons.1 hm' with e2 | hm'
    · rw [e1, e2]
    · exact absurd (List.mem_map.2 ⟨_, hm', by rw [← e, e1]⟩) hn.1
    · exact absurd (List.mem_map.2 ⟨_, hl, by rw [e, e2]⟩) hn.1
    · exact ih hn.2 l hl m hm' e
/-- without a least set of stops there is no ring among those left -/
theorem stop_noRing {ls wl ls' : List (Lk Str)} {ws : Ws} {s all names : List Str} {tb' : Tb Str} {n : Nat} (hwo : WaitsOk ls wl ws) (hnd : (wl.map (·.1)).Nodup) (A : AllN all ls wl) (G' : TbG tb' ls' names n)
    (hlc : ∀ o q, lastCov ls' o q = if o ∈ s then none else lastCov ls o q) (hs : s ∈ stops sLt (wOf ws) all) :
    ∀ ws', WaitsOk ls' (wl.filter fun l => !decide (l.1 ∈ s)) ws' → ∀ all', (∀ o, o ∈ all' ↔ o ∈ ls'.map (·.1) ∨ o ∈ (wl.filter fun l => !decide (l.1 ∈ s)).map (·.1)) → ¬ HasRing (wOf ws') all' := by
  intro ws' hwo' all' hall hr
  refine stop_free sLo A.asc hs (hr.mono (fun x hx => ?_) fun x hx y hy => ?_)
  · have hx' : x ∈ all ∧ x ∉ s := by
      rcases (hall x).1 hx with h | h
      · obtain ⟨l, hl, rfl⟩ := List.mem_map.1 h
        obtain ⟨k, hk⟩ := lastCov_some (p := l.2.1) hl ⟨Int.le_refl _, (G'.ok l hl).2.2⟩
        rw [hlc] at hk
        by_cases c : l.1 ∈ s
        · rw [if_pos c] at hk; cases hk
        · rw [if_neg c] at hk
          obtain ⟨m, hm, e, _⟩ := lastCov_mem hk
          exact ⟨(A.mem _).2 (.inl (e ▸ List.mem_map_of_mem hm)), c⟩
      · obtain ⟨l, hl, rfl⟩ := List.mem_map.1 h
        obtain ⟨h1, h2⟩ := List.mem_filter.1 hl
        exact ⟨(A.mem _).2 (.inr (List.mem_map_of_mem h1)), by simpa using h2⟩
    exact List.mem_filter.2 ⟨hx'.1, by simp [hx'.2]⟩
  · rcases wOf_mem ws' x with e | e
    · rw [e] at hy; cases hy
    · obtain ⟨_, l, hl, e1, h1⟩ := hwo'.lists _ e
      obtain ⟨n1, p, k, i1, i2, i3⟩ := (h1 y).1 hy
      have hl1 := (List.mem_filter.1 hl).1
      have e1 : l.1 = x := e1
      have hk : x ∈ ws.map (·.1) := (hwo.keys x).2 (e1 ▸ List.mem_map_of_mem hl1)
      obtain ⟨en, hen, e2⟩ := List.mem_map.1 hk
      obtain ⟨_, l2, hl2, e3, h2⟩ := hwo.lists en hen
      have e4 : l2 = l := nd_inj hnd l2 hl2 l hl1 (by rw [e3, e2, e1])
      have hwx : wOf ws x = en.2 := wOf_at (hwo.asc.nodup sLo) (by rw [← e2]; exact hen)
      rw [hwx]
      refine (h2 y).2 ?_
      rw [e4]
      refine ⟨n1, p, k, i1, ?_, i3⟩
      rw [hlc] at i2
      split at i2
      · cases i2
      · exact i2
def srFor2 (K : PySem.W.Frag) (TT : List (Addr × Str)) (C : Addr) : TS := tFor (iList K (tOp (rIxL K) (tVar 8) (tC (V.int 1)))) (gName 5)
   (tSeq (tAsg (tCall (sp_stopped K TT C) [] E0 (tCons (tVar 0) (tCons (tVar 1) (tCons (tVar 5) tNil)))) (gName 11))
     (tIfS (tTest (tOp (fun x y H Q => y = V.non ∧ Q (V.bl (decide (x = V.non))) H) (tCall (sp_end_order C) [] E0 (tCons (tOp (rIxT K) (tVar 11) (tC (V.int 0))) (tCons (tOp (rIxT K) (tVar 11) (tC (V.int 1))) tNil))) (tC V.non))) (tRet (tC (V.bl false))) tNext))
theorem sr_for2 {K : PySem.W.Frag} {TT : List (Addr × Str)} {C : Addr} {H : Hp} {D : Ends} {b2 b3 b4 b5 b6 b7 b9 b10 b11 b12 b13 : Option V} {tv : V} {wa td a1 a2 : Addr} {x2 xs : List V} {s2 : List (List Str)} {tb : Tb Str} {ls wl : List (Lk Str)} {names all : List Str} {n : Nat} {ws : Ws}
    (htd : H td = some (.lst [.ref a1, .ref a2])) (h2 : H a2 = some (.lst x2)) (p2 : Paired (rSet H) x2 s2) (ht : TbI C H tv tb) (G : TbG tb ls names n) (hn : n ≤ 1000) (hwa : H wa = some (.lst xs)) (hwp : Paired (rLk H) xs wl) (hwok : WtOk wl) (hwn : ∀ l ∈ wl, l.1 ∈ names)
    (hnm : ∀ x ∈ all, nameOk x = true) (A' : AllN all ls wl) (hwo : WaitsOk ls wl ws) (hs2 : ∀ s ∈ s2, s ∈ stops sLt (wOf ws) all) (hT : Tabs TT H)
    (nx : ∀ v5 v11 H', ExtN H H' → Tabs TT H' → D.nx [some tv, some (.ref wa), b2, b3, b4, v5, b6, b7, some (.ref td), b9, b10, v11, b12, b13] H') :
    srFor2 K TT C D [some tv, some (.ref wa), b2, b3, b4, b5, b6, b7, some (.ref td), b9, b10, b11, b12, b13] H := by
  refine ⟨_, rfl, td, _, _, _, rfl, rfl, SqL.of htd, rfl, a2, rfl, ⟨_, SqL.of h2⟩, for_list (K := K) (a := a2) (xs := x2) (fun i σ H2 => ∃ v5 v11, σ = [some tv, some (.ref wa), b2, b3, b4, v5, b6, b7, some (.ref td), b9, b10, v11, b12, b13] ∧ ExtN H H2 ∧ Tabs TT H2)
    ⟨_, _, rfl, .refl _, hT⟩ (fun i σ H2 _ ⟨_, _, _, e, _⟩ => SqL.of ((kgN e).l h2)) ?_ ?_⟩
  · rintro i v σ H2 hi ⟨v5, v11, rfl, e2, T2⟩
    obtain ⟨s, hsi, sa, rfl, hsa⟩ := paired_get p2 hi
    have hs' := hs2 s (List.mem_of_getElem? hsi)
    have k2 := kgN e2
    have hsa' := (leastSets_mem sLo A'.asc hs')
    refine ⟨_, rfl, _, rfl, _, rfl, tv, wa, sa, tb, ls, names, n, xs, wl, s, rfl, ht.kg k2, G, hn, k2.l hwa, rTup_gr.mono.all k2 hwp, hwok.len, k2.t hsa, Nat.le_trans (nodup_len (hsa'.1.nodup sLo) hsa'.2.1) A'.few, fun x hx => hnm x (hsa'.2.1 x hx), T2, fun p tv' wb H3 tb' ls' ys hp e3 T3 ht3 G3 hlc hwb hwbp => ?_⟩
    have hmem : ∀ l ∈ wl.filter (fun l => !decide (l.1 ∈ s)), l ∈ wl := fun l hl => (List.mem_filter.1 hl).1
    refine ⟨_, rfl, p, _, _, _, rfl, rfl, SqT.of hp, rfl, _, rfl, p, _, _, _, rfl, rfl, SqT.of hp, rfl, tv', wb, ys, tb', ls', wl.filter (fun l => !decide (l.1 ∈ s)), names, 32000, rfl, ht3, G3, by decide, .inl hwb, Paired.mapP hwbp fun _ _ => rLk_A,
      ⟨fun l hl => hwok.ok l (hmem l hl), hwok.nd.sublist ((List.filter_sublist).map _), Nat.le_trans (List.length_filter_le _ _) hwok.len⟩, fun l hl => hwn l (hmem l hl), stop_noRing hwo hwok.nd A' G3 hlc hs', fun a H4 s4 => ?_⟩
    refine ⟨rfl, _, rfl, ?_⟩
    rw [decide_eq_false (show ¬ V.ref a = V.non from fun z => nomatch z)]
    exact iteF ⟨_, _, rfl, e2.trans (e3.trans (.of s4)), T3.ext s4⟩
  · rintro σ H2 ⟨v5, v11, rfl, e2, T2⟩
    exact nx _ _ _ e2 T2
end WH
set_option Elab.async false
set_option linter.all false
set_option maxRecDepth 100000
set_option maxHeartbeats 2000000
namespace WH
open PySem PySem.Spec PyProof.Rows L2 WM LamX
def srLast (K : PySem.W.Frag) (C CL : Addr) : TS := tRet (tCall (sp_same 3) [] E0 (tCons (tLst (tCons (tCall (sp_least_rings C CL) [] E0 (tCons (tVar 0) (tCons (tVar 1) tNil))) (tCons (tCall (sp_least_stops C CL) [] E0 (tCons (tVar 0) (tCons (tVar 1) tNil))) tNil))) (tCons (tLst (tCons (tVar 6) (tCons (tCall (sp_x_least K) [] E0 (tCons (tVar 7) tNil)) tNil))) tNil)))
theorem sr_last {K : PySem.W.Frag} {C CL : Addr} {H : Hp} {D : Ends} {b2 b3 b4 b5 b8 b9 b10 b11 b12 b13 : Option V} {tv : V} {wa pr st : Addr} {xs rs st0 : List V} {tb : Tb Str} {ls wl : List (Lk Str)} {names all : List Str} {n : Nat} {ws : Ws} {T0 : List (List Str)}
    (ht : TbI C H tv tb) (G : TbG tb ls names n) (hn : n ≤ 1000) (hwa : H wa = some (.lst xs)) (hwp : Paired (rLk H) xs wl) (hwok : WtOk wl) (hwn : ∀ l ∈ wl, l.1 ∈ names) (hnm : ∀ x ∈ names, okS x = true) (A' : AllN all ls wl) (hwo : WaitsOk ls wl ws)
    (hr : H pr = some (.lst rs)) (hrp : Paired (rSet H) rs (rings sLt (wOf ws) all)) (hst : H st = some (.lst st0)) (hsp : Paired (rSet H) st0 T0) (hT0 : leastOf T0 = stops sLt (wOf ws) all) (hTl : T0.length ≤ 100000) (hTs : ∀ s ∈ T0, s.length ≤ 100000) (hRl : (rings sLt (wOf ws) all).length ≤ 100000) (hRs : ∀ s ∈ rings sLt (wOf ws) all, s.length ≤ 100000)
    (q : ∀ H', Same H H' → D.rt (.bl true) H') : srLast K C CL D [some tv, some (.ref wa), b2, b3, b4, b5, some (.ref pr), some (.ref st), b8, b9, b10, b11, b12, b13] H := by
  have hA : Paired (rLkA H) xs wl := Paired.mapP hwp fun _ _ => rLk_A
  refine ⟨_, rfl, _, rfl, tv, wa, xs, tb, ls, names, n, rfl, ht, G, by omega, .inl hwa, hnm, .inl ⟨wl, hA, hwok, hwn, fun a1 H5 vs1 ws1 ha1 s5 hwo1 hv1 hvp1 => ?_⟩⟩
  have e1 : ws1 = ws := waits_unique hwo1 hwo hwok.nd hwok.nd (fun _ => Iff.rfl) fun l hl => ⟨l, hl, rfl, fun _ => Iff.rfl⟩
  subst e1
  rw [rings_all A' hwo] at hvp1
  have hA5 : Paired (rLkA H5) xs wl := rLkA_mono.all (Kg.of s5) hA
  refine ⟨_, rfl, _, rfl, tv, wa, xs, tb, ls, names, n, rfl, ht.kg (Kg.of s5), G, by omega, .inl (s5 _ _ hwa), hnm, .inl ⟨wl, all, hA5, hwok, hwn, A', fun a2 H6 vs2 ws2 ha2 s6 hwo2 hv2 hvp2 => ?_⟩⟩
  have e2 : ws2 = ws1 := waits_unique hwo2 hwo hwok.nd hwok.nd (fun _ => Iff.rfl) fun l hl => ⟨l, hl, rfl, fun _ => Iff.rfl⟩
  subst e2
  refine ⟨sz2, fun td htd => ?_⟩
  have td1 := same_upd (o := .lst [.ref a1, .ref a2]) htd
  have s46 := s5.trans (s6.trans td1)
  refine ⟨_, rfl, _, rfl, st, st0, T0, rfl, SqL.of (s46 _ _ hst), rSet_mono.all (Kg.of s46) hsp, hTl, hTs, fun p7 H7 st7 hp7 s7 hv7 hvp7 => ?_⟩
  rw [hT0] at hvp7
  refine ⟨sz2, fun td2 htd2 => ?_⟩
  have tdd := same_upd (o := .lst [.ref pr, .ref p7]) htd2
  have k7 := s7.trans tdd
  have kk7 : Same H6 _ := td1.trans k7
  have s47 := s46.trans k7
  refine ⟨_, _, rfl, same_told (x1 := vs1) (x2 := vs2) (y1 := rs) (y2 := st7) (s1 := rings sLt (wOf ws2) all) (s2 := stops sLt (wOf ws2) all) (k7 _ _ upd_same) upd_same (kk7 _ _ (s6 _ _ hv1)) (kk7 _ _ hv2) (s47 _ _ hr) (tdd _ _ hv7) (rSet_mono.all (Kg.of (s6.trans kk7)) hvp1) (rSet_mono.all (Kg.of kk7) hvp2) (rSet_mono.all (Kg.of s47) hrp) (rSet_mono.all (Kg.of tdd) hvp7) hRs (fun s hs => hTs s ((leastOf_sub T0).2 s (hT0 ▸ hs))) hRl (by rw [← hT0]; exact Nat.le_trans (leastOf_sub T0).1 hTl), fun H8 s8 => ?_⟩
  exact q _ (s47.trans s8)
def srApp (K : PySem.W.Frag) (j : Int) : TS := tDrop (tBM K "list" rAppend (tOp (rIxL K) (tVar 8) (tC (V.int j))) (tCons (tC (V.str "late")) tNil))
/-- the two appends: own lists change -/
theorem sr_apps {K : PySem.W.Frag} {C CL : Addr} {T : TS} {H : Hp} {D : Ends} {b0 b1 b2 b3 b4 b5 b6 b7 b9 b10 b11 b12 b13 : Option V} {td a1 a2 : Addr} {x1 x2 : List V} (htd : H td = some (.lst [.ref a1, .ref a2])) (h1 : H a1 = some (.lst x1)) (h2 : H a2 = some (.lst x2)) (n12 : a1 ≠ a2) (nt1 : td ≠ a1) (l1 : x1.length ≤ 100000) (l2 : x2.length ≤ 100000)
    (nx : T D [b0, b1, b2, b3, b4, b5, b6, b7, some (.ref td), b9, b10, b11, b12, b13] (upd (upd H a1 (.lst (x1 ++ [.str "late"]))) a2 (.lst (x2 ++ [.str "late"])))) :
    tSeq (srApp K 0) (tSeq (srApp K 1) T) D [b0, b1, b2, b3, b4, b5, b6, b7, some (.ref td), b9, b10, b11, b12, b13] H := by
  have z1 : x1.length < sizeLine := by rw [sizeLine_eq]; omega
  have z2 : x2.length < sizeLine := by rw [sizeLine_eq]; omega
  refine ⟨_, rfl, td, _, _, _, rfl, rfl, SqL.of htd, rfl, .inl ⟨rfl, _, SqL.of h1⟩, a1, x1, _, rfl, rfl, h1, z1, ?_⟩
  have htd' : upd H a1 (.lst (x1 ++ [.str "late"])) td = some (.lst [.ref a1, .ref a2]) := by rw [upd_ne nt1]; exact htd
  have h2' : upd H a1 (.lst (x1 ++ [.str "late"])) a2 = some (.lst x2) := by rw [upd_ne (Ne.symm n12)]; exact h2
  refine ⟨_, rfl, td, _, _, _, rfl, rfl, SqL.of htd', rfl, .inl ⟨rfl, _, SqL.of h2'⟩, a2, x2, _, rfl, rfl, h2', z2, ?_⟩
  exact nx
end WH
set_option Elab.async false
set_option linter.all false
set_option maxRecDepth 100000
set_option maxHeartbeats 2000000
namespace WH
open PySem PySem.Spec PyProof.Rows L2 WM LamX
abbrev s__law_sets_right : Stmt := topS 74
theorem sc__law_sets_right : FnScope ["_law_table", "_law_wants", "_law_names", "_law_waits", "_law_every", "_law_one", "_law_rings", "_law_stops", "_law_told", "_law_some", "_law_others", "_law_rest", "_law_name", "_law_other"] ["_law_table", "_law_wants", "_law_names", "_law_waits"] (defScope s__law_sets_right) := ⟨rfl, rfl, rfl, by decide +kernel, rfl, by decide +kernel, by decide +kernel⟩
section
variable {P : Program} {w : World} {K : PySem.W.Frag} {mg : Str → Option Value} {base : Heap} {C CL fi fl fo : Addr} {TT : List (Addr × Str)}
def sp_sets_right (TT : List (Addr × Str)) (C : Addr) : Sp := fun vs H Q _ => ∃ (tv : V) (wa na da : Addr) (tb : Tb Str) (ls wl : List (Lk Str)) (names all : List Str) (n : Nat) (xs : List V) (ws : Ws), vs = [tv, .ref wa, .ref na, .ref da] ∧ TbI C H tv tb ∧ TbG tb ls names n ∧ n ≤ 1000 ∧
  H wa = some (.lst xs) ∧ Paired (rLk H) xs wl ∧ WtOk wl ∧ (∀ l ∈ wl, l.1 ∈ names) ∧ (∀ x ∈ names, okS x = true ∧ nameOk x = true) ∧ H na = some (.lst (all.map V.str)) ∧ AllN all ls wl ∧ WsAt H da ws ∧ WaitsOk ls wl ws ∧ Tabs TT H ∧ ∀ H', ExtN H H' → Tabs TT H' → Q (.bl true) H'
theorem ok__law_sets_right {f : Addr} {fd : FuncData} (D : Df K mg "_law_sets_right" s__law_sets_right ["_law_table", "_law_wants", "_law_names", "_law_waits"] f fd) (T : Bl mg) (G__law_x_all : Dn P w K mg base CX0 1 "_law_x_all" ["_law_names"] (sp_all_sets K)) (G__law_x_least : Dn P w K mg base CX0 2 "_law_x_least" ["_law_sets"] (sp_x_least K)) (G__law_lk_has_ring : Dn P w K mg base CX0 1 "_law_lk_has_ring" ["_law_waits", "_law_owners"] sp_has_ring)
    (G_least_rings : Dn P w K mg base (L2.CX P w) 7 "least_rings" ["table", "wants"] (sp_least_rings C CL)) (G_least_stops : Dn P w K mg base (L2.CX P w) 8 "least_stops" ["table", "wants"] (sp_least_stops C CL)) (G_end_order : Dn P w K mg base (L2.CX P w) 7 "end_order" ["table", "wants"] (sp_end_order C))
    (G__law_same : Dn P w K mg base CX0 5 "_law_same" ["_law_found", "_law_due"] (sp_same 3)) (G__law_stopped : Dn P w K mg base CX0 9 "_law_stopped" ["_law_table", "_law_wants", "_law_owners"] (sp_stopped K TT C)) : Dn P w K mg base CX0 10 "_law_sets_right" ["_law_table", "_law_wants", "_law_names", "_law_waits"] (sp_sets_right TT C) := .of D (by
  refine D.fn.ok sc__law_sets_right (fun vs H Q E h => ?_) (fun cdv A outer s H vs Q E hr h => ?_)
  · obtain ⟨tv, wa, na, da, tb, ls, wl, names, all, n, xs, ws, rfl, _⟩ := h
    rfl
  · obtain ⟨tv, wa, na, da, tb, ls, wl, names, all, n, xs, ws, rfl, ht, G, hn, hwa, hwp, hwok, hwn, hnm, hna, A', hws, hwo, hT, q⟩ := h
    have hu := hu_of hr
    refine ⟨_, (pss_cons (ps_set (i := 4) sc__law_sets_right.nd rfl (Or.inl rfl) (pe_cl G__law_x_all (hr.mono (by decide)) (pa_cons (pv 2) pa_nil)))
      (pss_cons (ps_set (i := 6) sc__law_sets_right.nd rfl (Or.inl rfl) (pe_cl G__law_x_least (hr.mono (by decide)) (pa_cons (pe_lc (own := [("_law_one", 5)]) rfl sc__law_sets_right.nd (pil K (pv 4)) (blkOk_by (N := ["_law_table", "_law_wants", "_law_names", "_law_waits", "_law_every", "_law_one", "_law_rings", "_law_stops", "_law_told", "_law_some", "_law_others", "_law_rest", "_law_name", "_law_other"]) (sc := defScope s__law_sets_right) (by decide +kernel)) (fun _ _ _ _ _ => pg_name (i := 5) sc__law_sets_right.nd rfl (Or.inl rfl)) (fun _ _ _ _ _ => pts_one (pt_val (pe_cl G__law_lk_has_ring (hr.mono (by decide)) (pa_cons (pv 3) (pa_cons (pv 5) pa_nil))))) (fun _ _ _ _ _ => pv 5)) pa_nil)))
      (pss_cons (ps_setLc (i := 7) (own := [("_law_one", 5)]) rfl sc__law_sets_right.nd rfl rfl (sw_true rfl rfl rfl (by decide +kernel)) (pil K (pv 4)) (blkOk_by (N := ["_law_table", "_law_wants", "_law_names", "_law_waits", "_law_every", "_law_one", "_law_rings", "_law_stops", "_law_told", "_law_some", "_law_others", "_law_rest", "_law_name", "_law_other"]) (sc := defScope s__law_sets_right) (by decide +kernel)) (fun _ _ _ _ _ => pg_name (i := 5) sc__law_sets_right.nd rfl (Or.inr rfl)) (fun _ _ _ _ _ => pts_one (pt_not (pt_val (pe_cl G__law_lk_has_ring (hr.mono (by decide)) (pa_cons (pv 3) (pa_cons (pe_lc (own := [("_law_name", 12)]) rfl sc__law_sets_right.nd (pil K (pv 2)) (blkOk_by (N := ["_law_table", "_law_wants", "_law_names", "_law_waits", "_law_every", "_law_one", "_law_rings", "_law_stops", "_law_told", "_law_some", "_law_others", "_law_rest", "_law_name", "_law_other"]) (sc := { kind := .function, names := [(".0", .local), ("_law_one", .cell), ("_law_lk_has_ring", .globalImplicit), ("_law_names", .cell), ("_law_waits", .cell)], isGenerator := false, isCoroutine := false }) (by decide +kernel)) (fun _ _ _ _ _ => pg_name (i := 12) sc__law_sets_right.nd rfl (Or.inl rfl)) (fun _ _ _ _ _ => pts_one (pt_cmpR (ninSq K) (pv 12) (pv 5) rfl)) (fun _ _ _ _ _ => pv 12)) pa_nil)))))) (fun _ _ _ _ _ => pv 5))
      (pss_cons (ps_set (i := 8) sc__law_sets_right.nd rfl (Or.inl rfl) (pe_lst (pa_cons (pe_cl0 G_least_rings (hr.mono (by decide)) (pa_cons (pv 0) (pa_cons (pv 1) pa_nil))) (pa_cons (pe_cl0 G_least_stops (hr.mono (by decide)) (pa_cons (pv 0) (pa_cons (pv 1) pa_nil))) pa_nil))))
      (pss_cons (ps_if (pt_not (pt_val (pe_cl G__law_same (hr.mono (by decide)) (pa_cons (pv 8) (pa_cons (pe_lst (pa_cons (pv 6) (pa_cons (pe_cl G__law_x_least (hr.mono (by decide)) (pa_cons (pv 7) pa_nil)) pa_nil))) pa_nil))))) (pss_one (ps_ret (pe_bl))) pss_nil)
      (pss_cons (ps_for PassesOwn.never rfl (pit K (pe_tup (pa_cons (pv 8) (pa_cons (pe_revL (pv 8)) pa_nil)))) (lstG K (n := 2) rfl (pgs_cons (pg_name (i := 9) sc__law_sets_right.nd rfl (Or.inl rfl)) (pgs_cons (pg_name (i := 10) sc__law_sets_right.nd rfl (Or.inl rfl)) pgs_nil)))
        (pss_one (ps_for PassesOwn.never rfl (pil K (pv 9)) (pg_name (i := 5) sc__law_sets_right.nd rfl (Or.inr rfl))
          (pss_one (ps_if (pt_not (pt_val (pe_callB (allK K) (by rfl) T.b_all (by decide +kernel) (pa_cons (pe_lc (own := [("_law_other", 13)]) rfl sc__law_sets_right.nd (pil K (pv 10)) (blkOk_by (N := ["_law_table", "_law_wants", "_law_names", "_law_waits", "_law_every", "_law_one", "_law_rings", "_law_stops", "_law_told", "_law_some", "_law_others", "_law_rest", "_law_name", "_law_other"]) (sc := defScope s__law_sets_right) (by decide +kernel)) (fun _ _ _ _ _ => pg_name (i := 13) sc__law_sets_right.nd rfl (Or.inl rfl)) (fun _ _ _ _ _ => pts_nil) (fun _ _ _ _ _ => pe_callB (anyK K) (by rfl) T.b_any (by decide +kernel) (pa_cons (pe_lc (own := [("_law_name", 12)]) rfl sc__law_sets_right.nd (pit K (pv 13)) (blkOk_by (N := ["_law_table", "_law_wants", "_law_names", "_law_waits", "_law_every", "_law_one", "_law_rings", "_law_stops", "_law_told", "_law_some", "_law_others", "_law_rest", "_law_name", "_law_other"]) (sc := { kind := .function, names := [(".0", .local), ("_law_other", .local), ("any", .globalImplicit), ("_law_one", .cell)], isGenerator := false, isCoroutine := false }) (by decide +kernel)) (fun _ _ _ _ _ => pg_name (i := 12) sc__law_sets_right.nd rfl (Or.inl rfl)) (fun _ _ _ _ _ => pts_nil) (fun _ _ _ _ _ => pe_cmpR (inSq K) (pv 12) (pv 5) rfl)) pa_nil))) pa_nil)))) (pss_one (ps_ret (pe_bl))) pss_nil)))))
      (pss_cons (ps_for PassesOwn.never rfl (pil K (pe_ix (ixL K) (pv 8) (pe_int) (fun _ _ => rfl))) (pg_name (i := 5) sc__law_sets_right.nd rfl (Or.inr rfl))
        (pss_cons (ps_set (i := 11) sc__law_sets_right.nd rfl (Or.inl rfl) (pe_cl G__law_stopped (hr.mono (by decide)) (pa_cons (pv 0) (pa_cons (pv 1) (pa_cons (pv 5) pa_nil)))))
        (pss_one (ps_if (pt_cmpR op_isN (pe_cl0 G_end_order (hr.mono (by decide)) (pa_cons (pe_ix (ixT K) (pv 11) (pe_int) (fun _ _ => rfl)) (pa_cons (pe_ix (ixT K) (pv 11) (pe_int) (fun _ _ => rfl)) pa_nil))) (pe_non) (nomark _)) (pss_one (ps_ret (pe_bl))) pss_nil))))
      (pss_cons (ps_expr (bmK K PySem.F.plainAttrs_list PySem.F.slot_list_append PySem.F.type_list_append mt_append (pe_ix (ixL K) (pv 8) (pe_int) (fun _ _ => rfl)) (pa_cons (pe_str) pa_nil)))
      (pss_cons (ps_expr (bmK K PySem.F.plainAttrs_list PySem.F.slot_list_append PySem.F.type_list_append mt_append (pe_ix (ixL K) (pv 8) (pe_int) (fun _ _ => rfl)) (pa_cons (pe_str) pa_nil)))
      (pss_one (ps_ret (pe_cl G__law_same (hr.mono (by decide)) (pa_cons (pe_lst (pa_cons (pe_cl0 G_least_rings (hr.mono (by decide)) (pa_cons (pv 0) (pa_cons (pv 1) pa_nil))) (pa_cons (pe_cl0 G_least_stops (hr.mono (by decide)) (pa_cons (pv 0) (pa_cons (pv 1) pa_nil))) pa_nil))) (pa_cons (pe_lst (pa_cons (pv 6) (pa_cons (pe_cl G__law_x_least (hr.mono (by decide)) (pa_cons (pv 7) pa_nil)) pa_nil))) pa_nil)))))))))))))), ?_⟩
    have halln : ∀ x ∈ all, x ∈ names := fun x hx => by
      rcases (A'.mem x).1 hx with h | h
      · obtain ⟨l, hl, rfl⟩ := List.mem_map.1 h
        exact G.own l hl
      · obtain ⟨l, hl, rfl⟩ := List.mem_map.1 h
        exact hwn l hl
    have hwlen : ∀ e ∈ ws, e.2.length ≤ 100000 := fun e he => by
      obtain ⟨ha, l, hl, e1, hx⟩ := hwo.lists e he
      refine Nat.le_trans (nodup_len (ha.nodup sLo) (m := names) fun x hx' => ?_) (Nat.le_trans G.few (by decide))
      obtain ⟨l2, hl2, rfl⟩ := List.mem_map.1 ((hx x).1 hx').owner
      exact G.own l2 hl2
    have hsub : ∀ s ∈ allSets sLt all, s.length ≤ 5 ∧ (∀ x ∈ s, x ∈ all) := fun s hs => by
      obtain ⟨h1, h2⟩ := (mem_allSets sLo A'.asc).1 hs
      exact ⟨Nat.le_trans (nodup_len (h1.nodup sLo) h2) A'.few, h2⟩
    refine ⟨_, rfl, na, all, rfl, SqL.of hna, A'.few, fun x hx => (hnm x (halln x hx)).1, fun p1 H1 es hp1 s1 he1 hep1 => ?_⟩
    have hel : es.length ≤ 7776 := by rw [hep1.length]; exact len_all A'.few
    have hfl : ∀ p : List Str → Bool, ((allSets sLt all).filter p).length ≤ 100000 ∧ ∀ s ∈ (allSets sLt all).filter p, s.length ≤ 100000 := fun p => ⟨Nat.le_trans (List.length_filter_le _ _) (Nat.le_trans (len_all A'.few) (by decide)), fun s hs => Nat.le_trans (hsub s (List.mem_filter.1 hs).1).1 (by decide)⟩
    refine ⟨_, rfl, p1, rfl, ⟨_, SqL.of he1⟩, fun D1 hD1 => lc_L (R := rSet) (S := rSet) (as := allSets sLt all) rSet_mono rSet_gr (fun s => if ringB (wOf ws) s = true then some s else none) hD1 (SqL.of he1) hep1 (by omega) (fun i y s hs H2 s2 hy N Z hN hZ => ?_) fun H2 rs0 s2 hr2 hrp2 => ?_⟩
    · obtain ⟨sa, rfl, hsa⟩ := hy
      refine ⟨rfl, _, rfl, _, rfl, da, sa, ws, s, rfl, hws.kg (Kg.of (s1.trans s2)), hwlen, .inl hsa, Nat.le_trans (hsub s (List.mem_of_getElem? hs)).1 (by decide), fun H3 s3 => ⟨_, rfl, ?_⟩⟩
      by_cases c : ringB (wOf ws) s = true
      · rw [c]
        exact iteT ⟨_, rfl, hN _ _ _ s3 (if_pos c) ⟨sa, rfl, s3 _ _ hsa⟩⟩
      · have c2 := c
        rw [Bool.not_eq_true] at c
        rw [c]
        exact iteF (hZ _ s3 (if_neg c2))
    · rw [filter_fm] at hrp2
      refine ⟨D1, rs0, _, rfl, SqL.of hr2, hrp2, (hfl _).1, (hfl _).2, fun pr H3 rs hpr s3 hr3 hrp3 => ?_⟩
      have hrp3 : Paired (rSet H3) rs (rings sLt (wOf ws) all) := hrp3
      have s13 := s1.trans (s2.trans s3)
      have he3 := (s2.trans s3) _ _ he1
      have hep3 := rSet_mono.all (Kg.of (s2.trans s3)) hep1
      refine ⟨_, rfl, p1, rfl, ⟨_, SqL.of he3⟩, fun D2 hD2 => lc_L (R := rSet) (S := rSet) (as := allSets sLt all) rSet_mono rSet_gr (fun s => if (!ringB (wOf ws) (all.filter fun x => !decide (x ∈ s))) = true then some s else none) hD2 (SqL.of he3) hep3 (by omega) (fun i y s hs H4 s4 hy N Z hN hZ => ?_) fun H4 st0 s4 ht4 htp4 => ?_⟩
      · obtain ⟨sa, rfl, hsa⟩ := hy
        have hna4 := (s13.trans s4) _ _ hna
        refine ⟨rfl, _, rfl, _, rfl, na, rfl, ⟨_, SqL.of hna4⟩, fun D3 hD3 => lc_L (R := rS) (S := rS) (as := all) rV_mono rV_gr (fun x => if (!decide (x ∈ s)) = true then some x else none) hD3 (SqL.of hna4) (rV_paired _) (by rw [List.length_map]; exact Nat.le_trans A'.few (by decide)) (fun j x o ho H5 s5 hx N2 Z2 hN2 hZ2 => ?_) fun H5 os s5 ho5 hop5 => ?_⟩
        · rw [show x = V.str o from hx]
          refine ⟨rfl, _, rfl, _, rfl, sa, _, rfl, .inr (SqT.of (s5 _ _ hsa)), rfl, strs_flat _, _, rfl, ?_⟩
          rw [if_pos rfl, inV_strs]
          by_cases c : (!decide (o ∈ s)) = true
          · rw [c]
            exact iteT ⟨_, rfl, hN2 _ _ _ (Same.refl _) (if_pos c) rfl⟩
          · rw [Bool.not_eq_true] at c
            rw [c]
            exact iteF (hZ2 _ (Same.refl _) (if_neg (by rw [c]; exact Bool.false_ne_true)))
        · rw [filter_fm] at hop5
          rw [paired_rV hop5] at ho5
          refine ⟨da, D3, ws, _, rfl, hws.kg (Kg.of (s13.trans (s4.trans s5))), hwlen, .inr ho5, Nat.le_trans (List.length_filter_le _ _) (Nat.le_trans A'.few (by decide)), fun H6 s6 => ⟨_, rfl, ?_⟩⟩
          by_cases c : ringB (wOf ws) (all.filter fun x => !decide (x ∈ s)) = true
          · rw [c]
            exact iteF (hZ _ (s5.trans s6) (if_neg (by rw [c]; decide)))
          · rw [Bool.not_eq_true] at c
            rw [c]
            exact iteT ⟨_, rfl, hN _ _ _ (s5.trans s6) (if_pos (by rw [c]; rfl)) ⟨sa, rfl, (s5.trans s6) _ _ hsa⟩⟩
      · rw [filter_fm] at htp4
        have s14 := s13.trans s4
        have hA : Paired (rLkA H4) xs wl := Paired.mapP (rTup_gr.mono.all (Kg.of s14) hwp) fun _ _ => rLk_A
        refine ⟨_, rfl, _, rfl, tv, wa, xs, tb, ls, names, n, rfl, ht.kg (Kg.of s14), G, by omega, .inl (s14 _ _ hwa), fun x hx => (hnm x hx).1, .inl ⟨wl, hA, hwok, hwn, fun a1 H5 vs1 ws1 ha1 s5 hwo1 hv1 hvp1 => ?_⟩⟩
        have e1 : ws1 = ws := waits_unique hwo1 hwo hwok.nd hwok.nd (fun _ => Iff.rfl) fun l hl => ⟨l, hl, rfl, fun _ => Iff.rfl⟩
        subst e1
        rw [rings_all A' hwo] at hvp1
        have s15 := s14.trans s5
        have hA5 : Paired (rLkA H5) xs wl := rLkA_mono.all (Kg.of s5) hA
        refine ⟨_, rfl, _, rfl, tv, wa, xs, tb, ls, names, n, rfl, ht.kg (Kg.of s15), G, by omega, .inl (s15 _ _ hwa), fun x hx => (hnm x hx).1, .inl ⟨wl, all, hA5, hwok, hwn, A', fun a2 H6 vs2 ws2 ha2 s6 hwo2 hv2 hvp2 => ?_⟩⟩
        have e2 : ws2 = ws1 := waits_unique hwo2 hwo hwok.nd hwok.nd (fun _ => Iff.rfl) fun l hl => ⟨l, hl, rfl, fun _ => Iff.rfl⟩
        subst e2
        refine ⟨sz2, fun td htd => ?_⟩
        have td1 := same_upd (o := .lst [.ref a1, .ref a2]) htd
        have s46 := s5.trans s6
        have ht6 := s46 _ _ ht4
        have htp6 := rSet_mono.all (Kg.of (s46.trans td1)) htp4
        refine ⟨_, rfl, _, rfl, _, rfl, D2, st0, _, rfl, SqL.of (td1 _ _ ht6), htp6, (hfl _).1, (hfl _).2, fun p7 H7 st hp7 s7 hv7 hvp7 => ?_⟩
        have hvp7 : Paired (rSet H7) st (stops sLt (wOf ws2) all) := hvp7
        refine ⟨sz2, fun td2 htd2 => ?_⟩
        have tdd := same_upd (o := .lst [.ref pr, .ref p7]) htd2
        have k7 := s7.trans tdd
        have b1 : (rings sLt (wOf ws2) all).length ≤ 100000 := Nat.le_trans (leastOf_sub _).1 (hfl _).1
        have b2 : (stops sLt (wOf ws2) all).length ≤ 100000 := Nat.le_trans (leastOf_sub _).1 (hfl _).1
        have c1 : ∀ x ∈ rings sLt (wOf ws2) all, x.length ≤ 100000 := fun x hx => (hfl _).2 x ((leastOf_sub _).2 x hx)
        have c2 : ∀ x ∈ stops sLt (wOf ws2) all, x.length ≤ 100000 := fun x hx => (hfl _).2 x ((leastOf_sub _).2 x hx)
        have s47 := s4.trans (s46.trans (td1.trans k7))
        have kk7 : Same H6 _ := td1.trans k7
        refine ⟨_, _, rfl, same_told (x1 := vs1) (x2 := vs2) (y1 := rs) (y2 := st) (s1 := rings sLt (wOf ws2) all) (s2 := stops sLt (wOf ws2) all) (k7 _ _ upd_same) upd_same (kk7 _ _ (s6 _ _ hv1)) (kk7 _ _ hv2) (s47 _ _ hr3) (tdd _ _ hv7) (rSet_mono.all (Kg.of (s6.trans kk7)) hvp1) (rSet_mono.all (Kg.of kk7) hvp2) (rSet_mono.all (Kg.of s47) hrp3) (rSet_mono.all (Kg.of tdd) hvp7) c1 c2 b1 b2, fun H8 s8 => ⟨_, rfl, iteF ?_⟩⟩
        have k8 := k7.trans s8
        have kk8 := td1.trans k8
        have h18 : H8 a1 = some (.lst vs1) := (s6.trans kk8) _ _ hv1
        have h28 : H8 a2 = some (.lst vs2) := kk8 _ _ hv2
        have htd8 : H8 td = some (.lst [.ref a1, .ref a2]) := k8 _ _ upd_same
        have p18 := rSet_mono.all (Kg.of (s6.trans kk8)) hvp1
        have p28 := rSet_mono.all (Kg.of kk8) hvp2
        refine sr_for1 htd8 h18 h28 p18 p28 (fun r hr t ht => cross sLo A'.asc hr ht) b1 b2 c1 c2 fun v5 v9 v10 v12 v13 H9 s9 => ?_
        have s09 : Same H H9 := s15.trans (s6.trans (kk8.trans s9))
        have g09 := Kg.of s09
        refine sr_for2 (ws := ws2) (all := all) (s9 _ _ htd8) (s9 _ _ h28) (rSet_mono.all (Kg.of s9) p28) (ht.kg g09) G hn (s09 _ _ hwa) (rTup_gr.mono.all g09 hwp) hwok hwn (fun x hx => (hnm x (halln x hx)).2) A' hwo (fun s hs => hs) (hT.ext s09) fun v5' v11 H10 e10 T10 => ?_
        have g10 := kgN e10
        have n1 : H a1 = none := Same.none s14 ha1
        have n2 : H a2 = none := Same.none s15 ha2
        have n12 : a1 ≠ a2 := ne_new hv1 ha2
        have nt1 : td ≠ a1 := (ne_new (s6 _ _ hv1) htd).symm
        have h1x := g10.l (s9 _ _ h18)
        have h2x := g10.l (s9 _ _ h28)
        refine sr_apps (K := K) (C := C) (CL := CL) (g10.l (s9 _ _ htd8)) h1x h2x n12 nt1 (by rw [hvp1.length]; exact b1) (by rw [hvp2.length]; exact b2) ?_
        have EF := extN_own (o := .lst (vs2 ++ [.str "late"])) (extN_own (o := .lst (vs1 ++ [.str "late"])) ((ExtN.of s09).trans e10) n1) n2
        have gF := kgN EF
        have s49 : Same H4 H9 := s5.trans (s6.trans (kk8.trans s9))
        have hr10 := g10.l (s49 _ _ (s4 _ _ hr3))
        have hst10 := g10.l (s49 _ _ ht4)
        have nr1 : pr ≠ a1 := ne_new (s4 _ _ hr3) ha1
        have nr2 : pr ≠ a2 := ne_new (s5 _ _ (s4 _ _ hr3)) ha2
        have nd1 : D2 ≠ a1 := ne_new ht4 ha1
        have nd2 : D2 ≠ a2 := ne_new (s5 _ _ ht4) ha2
        have h2x' : upd H10 a1 (.lst (vs1 ++ [.str "late"])) a2 = some (.lst vs2) := by rw [upd_ne (Ne.symm n12)]; exact h2x
        have pF : ∀ {ys : List V} {ss : List (List Str)}, Paired (rSet H4) ys ss → Paired (rSet (upd (upd H10 a1 (.lst (vs1 ++ [.str "late"]))) a2 (.lst (vs2 ++ [.str "late"])))) ys ss := fun h => rSet_fl.all h2x' (rSet_fl.all h1x (rSet_mono.all ((Kg.of s49).trans g10) h))
        refine sr_last (K := K) (C := C) (CL := CL) (ws := ws2) (all := all) (T0 := (allSets sLt all).filter fun s => !ringB (wOf ws2) (all.filter fun x => !decide (x ∈ s))) (ht.kg gF) G hn (gF.l hwa) (rTup_gr.mono.all gF hwp) hwok hwn (fun x hx => (hnm x hx).1) A' hwo
          (by rw [upd_ne nr2, upd_ne nr1]; exact hr10) (pF (rSet_mono.all (Kg.of s4) hrp3)) (by rw [upd_ne nd2, upd_ne nd1]; exact hst10) (pF htp4) rfl (hfl _).1 (hfl _).2 b1 c1 fun H11 s11 => ?_
        exact q _ (EF.trans (.of s11)) ((tabs_upd (tabs_upd T10 h1x) h2x').ext s11))
end
end WH
set_option Elab.async false
set_option linter.all false
set_option maxRecDepth 100000
set_option maxHeartbeats 2000000
namespace WH
open PySem PySem.Spec PyProof.Rows L2 WM LamX
/-- what _law_met(lambda: ..) asks of the head -/
structure MetK (K : PySem.W.Frag) (mg : Str → Option Value) (base : Heap) (CL CP : Addr) (T : List (Addr × Str)) (c : Addr) (q : Str) : Prop where
  ex : ∃ (g fL fP lP : Addr) (fd : FuncData), Df K mg "_law_met" s__law_met ["_law_ask"] g fd ∧ Xo K mg "BadLock" "index" CL fL ∧ Xo K mg "BadPrices" "thing" CP fP ∧ ExF K CL CP ∧ TabB base mg c lP ∧ (lP, q) ∈ T ∧ ∀ p ∈ T, p.1 = lP → p.2 = q
theorem pe_met {X : Cx} {CL CP c : Addr} {T : List (Addr × Str)} {k : Nat} {params : Arguments} {body : Expr} {scope : Scope} {p lpos pos : Pos} {t : XK → TE} (M : MetK X.K X.mg X.base CL CP T c (X.env.qual ++ "<lambda>")) (hcode : X.env.code = .ref c) (hr : Room (k + 2) X.A) (L : LamS X.env.scope scope)
    (hbody : ∀ (A : Around) (outer : List Env) (s : Shared) (H : Hp) (E : XK) (f c' : Addr), Room k (A.deeper (lamEnv X scope s.heap.objs.size f c')) → PE (lamCx X A outer s H E scope f c') body (t E)) (hg : Gl X "_law_met" := by rfl) (hdef : defaultsOf params X.env = ([], []) := by rfl)
    (hbind : ∀ (q : Str) (cl : List (Str × Addr)) (pm cv ctv : Value), bindArgs (PySem.W.kla_fn "<lambda>" q params body scope cl pm cv ctv) ⟨[], []⟩ = pure [] := by intros; rfl) :
    PE X (.Call (.Name "_law_met" p) [.Lambda params body scope lpos] [] pos) (tLam T (TTmet CL CP) t) := by
  obtain ⟨g, fL, fP, lP, fd, D, LL, LP, Ex, TB, hmT, hu⟩ := M.ex
  obtain ⟨oc, od, kV, doc, pm, an, cdv, ct, osl, rfl, lk, hcd⟩ := D.fn.ex
  exact pe_lamcall (c := c) (P := lP) (Ng := ["_law_ask", "e"]) (x := "_law_met") (a := "_law_ask") hg D.gl D.fn.kp lk hcd D.bd sc__law_met (by rfl) (.inl (by rfl)) (met_gives LL LP Ex) TB hcode hmT hu hr L hdef hbind hbody
/-- dict(a list of pairs) -/
def rDictP (K : PySem.W.Frag) : List V → Hp → VK → Prop := fun xs H Q => ∃ (a : Addr) (ps : List Addr) (kvs : List (Key × V)), xs = [.ref a] ∧ SqL K H a (ps.map V.ref) ∧ Paired (fun p kv => SqT K H p [kV kv.1, kv.2]) ps kvs ∧
    ∀ p, H p = none → Q (.ref p) (upd H p (.dK (mergeK [] kvs)))
theorem dictP {X : Cx} (K : PySem.W.Frag) (hc : X.calm = true := by rfl) (h : X.K = K := by rfl) : CallR X (.type "dict") (rDictP K) := h ▸ call_dictP hc
end WH
set_option Elab.async false
set_option linter.all false
set_option maxRecDepth 100000
set_option maxHeartbeats 4000000
/-! the statements of law's turn, as they are read -/
namespace WH
open PySem PySem.Spec PyProof.Rows L2 WM LamX
def lw1 (K : PySem.W.Frag) (TT : List (Addr × Str)) (C CL CP : Addr) : TS := tAsg
    (tSl (rSlL K)
    (tCall sp_mixed [] E0
    (tCons (tVar 1)
    (tCons
    (tLst
    (tCons (tC (V.str (Str.ofString "a")))
    (tCons (tC (V.str (Str.ofString "b")))
    (tCons (tC (V.str (Str.ofString "aa")))
    (tCons (tC (V.str (Str.ofString "zed"))) (tCons (tC (V.str (Str.ofString "m9"))) tNil))))))
    tNil)))
    tNoPart
    (tPart
    (tOp (rI0 fun i j => V.int (i + j)) (tC (V.int 2))
    (tCall sp_draw [] E0 (tCons (tVar 1) (tCons (tC (V.int 4)) tNil))))))
    (gName 3)
def lw2 (K : PySem.W.Frag) (TT : List (Addr × Str)) (C CL CP : Addr) : TS := tAsg
    (tIf
    (tTest
    (tOp (rI0 fun i j => V.bl (decide (j < i)))
    (tCall sp_draw [] E0 (tCons (tVar 1) (tCons (tC (V.int 4)) tNil))) (tC (V.int 0))))
    (tCall sp_spread [] E0 (tCons (tVar 1) (tCons (tVar 3) tNil)))
    (tCall sp_drawn [] E0 (tCons (tVar 1) (tCons (tVar 3) (tCons (tC (V.int 8)) tNil)))))
    (gName 4)
def lw3 (K : PySem.W.Frag) (TT : List (Addr × Str)) (C CL CP : Addr) : TS := tPar 5 6
    (tCons (tCall sp_wants [] E0 (tCons (tVar 1) (tCons (tVar 3) (tCons (tVar 4) tNil))))
    (tCons (tCall sp_scale [] E0 (tCons (tVar 1) tNil)) tNil))
def lw4 (K : PySem.W.Frag) (TT : List (Addr × Str)) (C CL CP : Addr) : TS := tAsg (tCall sp_lkwaits [] E0 (tCons (tVar 4) (tCons (tVar 5) tNil))) (gName 7)
def lw5 (K : PySem.W.Frag) (TT : List (Addr × Str)) (C CL CP : Addr) : TS := tAsg
    (tCB (rSortedS K)
    (tCons
    (tCall (sp_once K) [] E0
    (tCons
    (tLc (iList K (tOp rCat (tVar 4) (tVar 5))) (gName 26) tYes
    (tOp (rIxT K) (tVar 26) (tC (V.int 0)))
    (List.map (fun x => x.snd) [(Str.ofString "_law_lock", 26)]))
    tNil))
    tNil))
    (gName 8)
def lw6 (K : PySem.W.Frag) (TT : List (Addr × Str)) (C CL CP : Addr) : TS := tAsg
    (tTup
    (tCons
    (tMake C (sp_init TT C) [] E0
    (tCons (tCall (sp_far K) [] E0 (tCons (tVar 4) (tCons (tVar 6) tNil))) tNil))
    (tCons (tCall (sp_far K) [] E0 (tCons (tVar 5) (tCons (tVar 6) tNil))) tNil)))
    (gTup K 2 (gCons (gName 22) (gCons (gName 23) gNil)))
def lw7 (K : PySem.W.Frag) (TT : List (Addr × Str)) (C CL CP : Addr) : TS := tIfS
    (tNot
    (tB
    (tCall (sp_sets_right TT C) [] E0
    (tCons (tVar 22) (tCons (tVar 23) (tCons (tVar 8) (tCons (tVar 7) tNil)))))))
    (tRet (tC (V.bl false))) tNext
def lw8 (K : PySem.W.Frag) (TT : List (Addr × Str)) (C CL CP : Addr) : TS := tAsg
    (tTup
    (tCons (tCall sp_x_prices [] E0 (tCons (tVar 1) (tCons (tVar 8) tNil)))
    (tCons (tCall (sp_least_stops C CL) [] E0 (tCons (tVar 22) (tCons (tVar 23) tNil)))
    tNil)))
    (gTup K 2 (gCons (gName 9) (gCons (gName 10) gNil)))
def lw9 (K : PySem.W.Frag) (TT : List (Addr × Str)) (C CL CP : Addr) : TS := tAsg
    (tLc (iList K (tVar 10)) (gName 25) tYes
    (tCall (sp_x_cost K) [] E0 (tCons (tVar 25) (tCons (tVar 9) tNil)))
    (List.map (fun x => x.snd) [(Str.ofString "_law_one", 25)]))
    (gName 11)
def lw10 (K : PySem.W.Frag) (TT : List (Addr × Str)) (C CL CP : Addr) : TS := tAsg
    (tCB
    (fun xs H Q =>
    ∃ p ys,
    xs = [V.ref p] ∧
    (SqL K H p ys ∨ SqT K H p ys) ∧
    ∀ (l : Addr), H l = none → Q (V.ref l) (upd H l (HO.lst ys)))
    (tCons
    (tOp (rIxL K) (tVar 10)
    (tBM K "list"
    (rIndex K)
    (tVar 11) (tCons (tCB (rMin K) (tCons (tVar 11) tNil)) tNil)))
    tNil))
    (gName 12)
def lw11 (K : PySem.W.Frag) (TT : List (Addr × Str)) (C CL CP : Addr) : TS := tIfS
    (tNot
    (tB
    (tCall (sp_same 3) [] E0
    (tCons
    (tCall (sp_cheapest K C CL CP) [] E0
    (tCons (tVar 22)
    (tCons (tCall sp_looseC [] E0 (tCons (tVar 1) (tCons (tVar 23) tNil)))
    (tCons (tVar 9) tNil))))
    (tCons (tVar 12) tNil)))))
    (tRet (tC (V.bl false))) tNext
def lw12 (K : PySem.W.Frag) (TT : List (Addr × Str)) (C CL CP : Addr) : TS := tFor
    (iRng1
    (tCons
    (tCB
    (fun xs H Q =>
    ∃ p ys,
    xs = [V.ref p] ∧ (SqL K H p ys ∨ SqT K H p ys) ∧ Q (V.int ↑ys.length) H)
    (tCons (tVar 23) tNil))
    tNil))
    (gName 13)
    (tSeq
    (tAsg
    (tCall (sp_least_rings C CL) [] E0
    (tCons (tVar 22)
    (tCons
    (tOp rCat (tSl (rSlL K) (tVar 23) tNoPart (tPart (tVar 13)))
    (tSl (rSlL K) (tVar 23)
    (tPart (tOp (rI0 fun i j => V.int (i + j)) (tVar 13) (tC (V.int 1))))
    tNoPart))
    tNil)))
    (gName 14))
    (tIfS
    (tTest
    (tOp (rNeD K)
    (tLc
    (iList K
    (tCall (sp_least_rings C CL) [] E0
    (tCons (tVar 22) (tCons (tVar 23) tNil))))
    (gName 25)
    (tTest
    (tOp (rIn K true)
    (tOp (rIxT K) (tOp (rIxL K) (tVar 23) (tVar 13)) (tC (V.int 0)))
    (tVar 25)))
    (tVar 25) (List.map (fun x => x.snd) [(Str.ofString "_law_one", 25)]))
    (tLc (iList K (tVar 14)) (gName 25)
    (tTest
    (tOp (rIn K true)
    (tOp (rIxT K) (tOp (rIxL K) (tVar 23) (tVar 13)) (tC (V.int 0)))
    (tVar 25)))
    (tVar 25) (List.map (fun x => x.snd) [(Str.ofString "_law_one", 25)]))))
    (tRet (tC (V.bl false))) tNext))
def lw13 (K : PySem.W.Frag) (TT : List (Addr × Str)) (C CL CP : Addr) : TS := tAsg
    (tCall sp_draw [] E0
    (tCons (tVar 1)
    (tCons
    (tOp (rI0 fun i j => V.int (i + j))
    (tCB
    (fun xs H Q =>
    ∃ p ys,
    xs = [V.ref p] ∧
    (SqL K H p ys ∨ SqT K H p ys) ∧ Q (V.int ↑ys.length) H)
    (tCons (tVar 23) tNil))
    (tC (V.int 1)))
    tNil)))
    (gName 13)
def lw14 (K : PySem.W.Frag) (TT : List (Addr × Str)) (C CL CP : Addr) : TS := tAsg
    (tOp rCat
    (tOp rCat (tSl (rSlL K) (tVar 23) tNoPart (tPart (tVar 13)))
    (tLst
    (tCons
    (tCall sp_pick [] E0
    (tCons (tVar 1)
    (tCons
    (tLst
    (tCons (tC V.non)
    (tCons (tC (V.int 5))
    (tCons
    (tTup
    (tCons (tC (V.str (Str.ofString "a")))
    (tCons (tC (V.int 0)) (tCons (tC (V.int 1)) tNil))))
    (tCons
    (tTup
    (tCons (tC (V.str (Str.ofString "a")))
    (tCons (tC (V.int 1))
    (tCons (tC (V.int 1))
    (tCons (tC (V.str (Str.ofString "read")))
    tNil)))))
    tNil)))))
    tNil)))
    (tCons (tC V.non) tNil))))
    (tSl (rSlL K) (tVar 23) (tPart (tVar 13)) tNoPart))
    (gName 24)
def lw15 (K : PySem.W.Frag) (TT : List (Addr × Str)) (C CL CP : Addr) : TS := tAsg
    (tLst
    (tCons
    (tLam TT (TTmet CL CP) fun E =>
    tCall (sp_least_rings C CL) [] E (tCons (tVar 22) (tCons (tVar 24) tNil)))
    tNil))
    (gName 15)
def lw16 (K : PySem.W.Frag) (TT : List (Addr × Str)) (C CL CP : Addr) : TS := tDrop
    (tBM K "list" rAppend (tVar 15)
    (tCons
    (tLam TT (TTmet CL CP) fun E =>
    tCall (sp_least_stops C CL) [] E
    (tCons (tVar 22) (tCons (tVar 24) tNil)))
    tNil))
def lw17 (K : PySem.W.Frag) (TT : List (Addr × Str)) (C CL CP : Addr) : TS := tDrop
    (tBM K "list" rAppend (tVar 15)
    (tCons
    (tLam TT (TTmet CL CP) fun E =>
    tCall (sp_cheapest K C CL CP) [] E
    (tCons (tVar 22) (tCons (tVar 24) (tCons (tC V.non) tNil))))
    tNil))
def lw18 (K : PySem.W.Frag) (TT : List (Addr × Str)) (C CL CP : Addr) : TS := tIfS
    (tTest
    (tOp (rNeD K) (tVar 15)
    (tOp rRep
    (tLst
    (tCons
    (tTup
    (tCons (tC (V.str (Str.ofString "bad")))
    (tCons (tVar 13) tNil)))
    tNil))
    (tC (V.int 3)))))
    (tRet (tC (V.bl false))) tNext
def lw19 (K : PySem.W.Frag) (TT : List (Addr × Str)) (C CL CP : Addr) : TS := tAsg
    (tCB (rDictP K)
    (tCons
    (tLc (iList K (tVar 8)) (gName 16) tYes
    (tTup (tCons (tVar 16) (tCons (tC (V.int 1)) tNil)))
    (List.map (fun x => x.snd) [(Str.ofString "_law_name", 16)]))
    tNil))
    (gName 17)
def lw20 (K : PySem.W.Frag) (TT : List (Addr × Str)) (C CL CP : Addr) : TS := tAsg
    (tLc
    (iTup K
    (tTup
    (tCons (tC V.non)
    (tCons (tC (V.int 5))
    (tCons (tC (V.str (Str.ofString "ab")))
    (tCons (tLst tNil) (tCons (tC (V.bl true)) tNil)))))))
    (gName 18) tYes (tTup (tCons (tVar 18) (tCons (tVar 18) tNil)))
    (List.map (fun x => x.snd) [(Str.ofString "_law_odd", 18)]))
    (gName 19)
def lw21 (K : PySem.W.Frag) (TT : List (Addr × Str)) (C CL CP : Addr) : TS := tDrop
    (tBM K "list" rAppend (tVar 19)
    (tCons
    (tTup
    (tCons
    (tCB (rDictP K)
    (tCons
    (tOp rCat (LiI.tListItems (tVar 17))
    (tLst
    (tCons
    (tTup
    (tCons (tC (V.str (Str.ofString "never")))
    (tCons (tC (V.int 1)) tNil)))
    tNil)))
    tNil))
    (tCons (tC (V.str (Str.ofString "never"))) tNil)))
    tNil))
def lw22 (K : PySem.W.Frag) (TT : List (Addr × Str)) (C CL CP : Addr) : TS := tFor (iList K (tVar 8)) (gName 16)
    (tSeq
    (tAsg
    (tCall sp_pick [] E0
    (tCons (tVar 1)
    (tCons
    (tLst
    (tCons (tUn (rU fun i => V.int (-i)) (tC (V.int 1)))
    (tCons (tC V.non)
    (tCons (tC (V.bl true))
    (tCons (tC (V.str (Str.ofString "1")))
    (tCons (tTup (tCons (tC (V.int 1)) tNil))
    tNil))))))
    tNil)))
    (gName 20))
    (tDrop
    (tBM K "list" rAppend (tVar 19)
    (tCons
    (tTup
    (tCons
    (tCB (rDictP K)
    (tCons
    (tLc (iList K (tVar 8)) (gName 25) tYes
    (tTup
    (tCons (tVar 25)
    (tCons
    (tIf (tTest (tOp rEq (tVar 25) (tVar 16)))
    (tVar 20) (tC (V.int 1)))
    tNil)))
    (List.map (fun x => x.snd)
    [(Str.ofString "_law_one", 25)]))
    tNil))
    (tCons (tVar 16) tNil)))
    tNil))))
def lw23 (K : PySem.W.Frag) (TT : List (Addr × Str)) (C CL CP : Addr) : TS := tDrop
    (tBM K "list" rExtend (tVar 19)
    (tCons
    (tLc (iList K (tVar 8)) (gName 16) tYes
    (tTup
    (tCons
    (tCB (rDictP K)
    (tCons
    (tLc (iList K (tVar 8)) (gName 25)
    (tTest (tOp rNe (tVar 25) (tVar 16)))
    (tTup
    (tCons (tVar 25) (tCons (tC (V.int 1)) tNil)))
    (List.map (fun x => x.snd)
    [(Str.ofString "_law_one", 25)]))
    tNil))
    (tCons (tVar 16) tNil)))
    (List.map (fun x => x.snd)
    [(Str.ofString "_law_name", 16)]))
    tNil))
def lw24 (K : PySem.W.Frag) (TT : List (Addr × Str)) (C CL CP : Addr) : TS := tFor (iList K (tVar 19))
    (gTup K 2 (gCons (gName 18) (gCons (gName 21) gNil)))
    (tIfS
    (tNot
    (tB
    (tCall (sp_same 3) [] E0
    (tCons
    (tLam TT (TTmet CL CP) fun E =>
    tCall (sp_cheapest K C CL CP) [] E
    (tCons (tVar 22)
    (tCons (tVar 23) (tCons (tVar 18) tNil))))
    (tCons
    (tTup
    (tCons (tC (V.str (Str.ofString "prices")))
    (tCons (tVar 21) tNil)))
    tNil)))))
    (tRet (tC (V.bl false))) tNext)
end WH
set_option Elab.async false
set_option linter.all false
set_option maxRecDepth 100000
set_option maxHeartbeats 4000000
/-! plain lemmas for law -/
namespace WH
open PySem PySem.Spec PyProof.Rows L2 WM LamX
def five : List Str := ["a", "b", "aa", "zed", "m9"]
theorem five_ok : ∀ x ∈ five, okS x = true ∧ nameOk x = true := by decide +kernel
theorem five_nd : five.Nodup := by decide +kernel
theorem five_never : Str.ofString "never" ∉ five := by decide +kernel
theorem cut_to (xs : List V) (k : Nat) : cutV xs none (some (k : Int)) = xs.take k := by
  unfold cutV
  rw [HT.sIx_none, HT.sIx_nat, List.drop_zero, Nat.sub_zero]
  rcases Nat.le_total k xs.length with h | h
  · rw [Nat.min_eq_left h]
  · rw [Nat.min_eq_right h, List.take_length, List.take_of_length_le h]
theorem cut_from (xs : List V) (k : Nat) : cutV xs (some (k : Int)) none = xs.drop k := by
  unfold cutV
  rw [HT.sIx_none, HT.sIx_nat]
  rcases Nat.le_total k xs.length with h | h
  · rw [Nat.min_eq_left h]
    exact List.take_of_length_le (by rw [List.length_drop]; exact Nat.le_refl _)
  · rw [Nat.min_eq_right h, List.drop_length, List.drop_of_length_le h, List.take_nil]
/-- waits stay, whatever all places are multiplied by -/
theorem waits_far {sc : Int} (hs : 0 < sc) {ls wl : List (Lk Str)} {ws : Ws} (h : WaitsOk ls wl ws) : WaitsOk (ls.map (farL sc)) (wl.map (farL sc)) ws where
  keys := fun o => by
    rw [h.keys, List.map_map]
    rfl
  asc := h.asc
  lists := fun e he => by
    obtain ⟨a, l, hl, e1, hx⟩ := h.lists e he
    exact ⟨a, farL sc l, List.mem_map_of_mem hl, e1, fun x => by rw [hx, Wt_far hs]⟩
theorem far_wf {sc : Int} (hs : 0 < sc) {r : WM.Row} (h : wfRow r) : wfRow (r.1 * sc, r.2.1.map (· * sc), r.2.2) := by
  obtain ⟨h1, h2⟩ := h
  refine ⟨Int.mul_nonneg h1 (Int.le_of_lt hs), fun z hz => ?_⟩
  cases e : r.2.1 with
  | none =>
    have hz : r.2.1.map (· * sc) = some z := hz
    rw [e] at hz
    cases hz
  | some y =>
    have hz : r.2.1.map (· * sc) = some z := hz
    rw [e] at hz
    injection hz with hz
    rw [← hz]
    exact Int.mul_lt_mul_of_pos_right (h2 y e) hs
theorem far_fst (sc : Int) (ls : List (Lk Str)) : (ls.map (farL sc)).map (·.1) = ls.map (·.1) := by rw [List.map_map]; rfl
/-- a law's table and wants -/
structure LF (H : Hp) (C na da wa : Addr) (tv : V) (tb : Tb Str) (ls wl : List (Lk Str)) (all : List Str) (ws : Ws) (xs : List V) (m : Nat) : Prop where
  tbl : TbI C H tv tb
  G : TbG tb ls five m
  few : m ≤ 1000
  wa : H wa = some (.lst xs)
  wp : Paired (rLk H) xs wl
  ok : WtOk wl
  own : ∀ l ∈ wl, l.1 ∈ five
  na : H na = some (.lst (all.map V.str))
  A : AllN all ls wl
  wsa : WsAt H da ws
  wo : WaitsOk ls wl ws
theorem LF.kg {H H' : Hp} {C na da wa : Addr} {tv : V} {tb : Tb Str} {ls wl : List (Lk Str)} {all : List Str} {ws : Ws} {xs : List V} {m : Nat} (k : Kg H H') (h : LF H C na da wa tv tb ls wl all ws xs m) : LF H' C na da wa tv tb ls wl all ws xs m :=
  ⟨h.tbl.kg k, h.G, h.few, k.l h.wa, rTup_gr.mono.all k h.wp, h.ok, h.own, k.l h.na, h.A, h.wsa.kg k, h.wo⟩
theorem LF.all5 {H : Hp} {C na da wa : Addr} {tv : V} {tb : Tb Str} {ls wl : List (Lk Str)} {all : List Str} {ws : Ws} {xs : List V} {m : Nat} (h : LF H C na da wa tv tb ls wl all ws xs m) : ∀ x ∈ all, x ∈ five := fun x hx => by
  rcases (h.A.mem x).1 hx with q | q
  · obtain ⟨l, hl, rfl⟩ := List.mem_map.1 q
    exact h.G.own l hl
  · obtain ⟨l, hl, rfl⟩ := List.mem_map.1 q
    exact h.own l hl
theorem LF.nd {H : Hp} {C na da wa : Addr} {tv : V} {tb : Tb Str} {ls wl : List (Lk Str)} {all : List Str} {ws : Ws} {xs : List V} {m : Nat} (h : LF H C na da wa tv tb ls wl all ws xs m) : all.Nodup := h.A.asc.nodup sLo
theorem wtOk_sub {wl wl' : List (Lk Str)} (h : WtOk wl) (s : wl'.Sublist wl) : WtOk wl' := ⟨fun l hl => h.ok l (s.mem hl), h.nd.sublist (s.map _), Nat.le_trans s.length_le h.len⟩
/-- a want less: the rings without its owner stay -/
theorem rings_less {ls wl : List (Lk Str)} {ws ws' : Ws} {i : Nat} {l : Lk Str} (hi : wl[i]? = some l) (hn : (wl.map (·.1)).Nodup) (h : WaitsOk ls wl ws) (h' : WaitsOk ls (wl.eraseIdx i) ws') :
    (rings sLt (wOf ws) (ws.map (·.1))).filter (fun s => !decide (l.1 ∈ s)) = (rings sLt (wOf ws') (ws'.map (·.1))).filter fun s => !decide (l.1 ∈ s) := by
  have hp : (l :: wl.eraseIdx i).Perm wl := erase_perm hi
  have hn' : ((l :: wl.eraseIdx i).map (·.1)).Nodup := (hp.map _).nodup_iff.2 hn
  rw [List.map_cons, List.nodup_cons] at hn'
  refine rings_fewer sLo h.asc h'.asc (fun y => ?_) fun y hy => ?_
  · rw [h.keys, h'.keys]
    have hm : y ∈ wl.map (·.1) ↔ y = l.1 ∨ y ∈ (wl.eraseIdx i).map (·.1) := by
      rw [← (hp.map (·.1)).mem_iff, List.map_cons, List.mem_cons]
    rw [hm]
    constructor
    · intro q
      exact ⟨.inr q, fun e => hn'.1 (e ▸ q)⟩
    · rintro ⟨q | q, n⟩
      · exact absurd q n
      · exact q
  · by_cases c : y ∈ (wl.eraseIdx i).map (·.1)
    · have c1 : y ∈ wl.map (·.1) := (hp.map (·.1)).mem_iff.1 (by rw [List.map_cons]; exact List.mem_cons_of_mem _ c)
      obtain ⟨e, he, e1⟩ := List.mem_map.1 ((h.keys y).2 c1)
      obtain ⟨e', he', e1'⟩ := List.mem_map.1 ((h'.keys y).2 c)
      obtain ⟨a1, l1, hl1, f1, x1⟩ := h.lists e he
      obtain ⟨a2, l2, hl2, f2, x2⟩ := h'.lists e' he'
      have hl2' : l2 ∈ wl := (List.eraseIdx_sublist wl i).mem hl2
      have eq : l1 = l2 := nd_inj hn l1 hl1 l2 hl2' (by rw [f1, f2, e1, e1'])
      subst eq
      rw [wOf_at (h.asc.nodup sLo) (o := y) (l := e.2) (by rw [← e1]; exact he), wOf_at (h'.asc.nodup sLo) (o := y) (l := e'.2) (by rw [← e1']; exact he')]
      exact a2.ext sLo a1 fun x => by rw [x1, x2]
    · have c1 : y ∉ wl.map (·.1) := fun q => by
        have q' := (hp.map (·.1)).mem_iff.2 q
        rw [List.map_cons, List.mem_cons] at q'
        exact q'.elim hy c
      rw [wOf_none fun q => c ((h'.keys y).1 q), wOf_none fun q => c1 ((h.keys y).1 q)]
/-- lists of sets as data -/
theorem dp_setR {K : PySem.W.Frag} {H : Hp} {v : V} {s : List Str} (h : rSet H v s) : Dp K H v (setD s) := by
  obtain ⟨a, rfl, ha⟩ := h
  refine .tup (SqT.of ha) ?_
  clear ha
  induction s with
  | nil => exact .nil
  | cons x s ih => exact .cons (.str x) ih
theorem dp_sets {K : PySem.W.Frag} {H : Hp} : ∀ {vs : List V} {ss : List (List Str)}, Paired (rSet H) vs ss → DpAll K H vs (ss.map setD)
  | _, _, .nil => .nil
  | _, _, .cons h t => .cons (dp_setR h) (dp_sets t)
end WH
set_option Elab.async false
set_option linter.all false
set_option maxRecDepth 100000
set_option maxHeartbeats 4000000
namespace WH
open PySem PySem.Spec PyProof.Rows L2 WM LamX
theorem list_shaped {ds : List PyData} (h : ∀ d ∈ ds, d.canLay0 = true ∧ d.depth ≤ 63) : SeqAt.shaped (.list ds) = true := by
  have h1 : ∀ ds : List PyData, (∀ d ∈ ds, d.canLay0 = true ∧ d.depth ≤ 63) → PyData.canLayAll0 ds = true ∧ PyData.depthAll ds ≤ 63 := by
    intro ds
    induction ds with
    | nil => intro _; simp [PyData.canLayAll0, PyData.depthAll]
    | cons d ds ih =>
      intro h
      obtain ⟨a, b⟩ := h d List.mem_cons_self
      obtain ⟨a', b'⟩ := ih fun e he => h e (List.mem_cons_of_mem _ he)
      simp only [PyData.canLayAll0, PyData.depthAll, Bool.and_eq_true]
      exact ⟨⟨a, a'⟩, by omega⟩
  obtain ⟨a, b⟩ := h1 ds h
  unfold SeqAt.shaped
  simp only [PyData.canLay0, PyData.depth, Bool.and_eq_true, decide_eq_true_eq]
  exact ⟨a, decide_eq_true (Nat.succ_le_succ b)⟩
theorem setD_lay {s : List Str} (h : ∀ x ∈ s, okS x = true) : (setD s).canLay0 = true ∧ (setD s).depth ≤ 63 := by
  have h1 := setD_shaped s h
  unfold SeqAt.shaped at h1
  rw [Bool.and_eq_true] at h1
  refine ⟨h1.1, ?_⟩
  have h2 := set_depth s
  have : (setD s).depth ≤ (pairD s).depth := by
    unfold pairD
    simp only [PyData.depth, PyData.depthAll]
    omega
  omega
theorem ne_sameD {K : PySem.W.Frag} {H : Hp} {x y : V} {d : PyData} {Q : VK} (hx : Dp K H x d) (hy : Dp K H y d) (hs : SeqAt.shaped d = true) (q : Q (.bl false) H) : rNeD K x y H Q := by
  refine ⟨d, d, hx, hy, hs, hs, ?_⟩
  have h := hs
  unfold SeqAt.shaped at h
  rw [Bool.and_eq_true] at h
  rw [SeqAt.eqv_refl d h.1]
  exact q
section
variable {K : PySem.W.Frag} {TT : List (Addr × Str)} {C CL CP S Ld : Addr} {D : Ends} {H : Hp} {n : Nat} {b0 b1 b2 b3 b4 b5 b6 b7 b8 b9 b10 b11 b12 b13 b14 b15 b16 b17 b18 b19 b20 b21 b22 b23 b24 b25 b26 : Option V}
/-- the owners -/
theorem ck1 (hd : Dr S Ld H n) (hn : n ≤ 500000)
    (nx : ∀ a os H' n', H' a = some (.lst (os.map V.str)) → os ≠ [] → os.length ≤ 5 → os.Nodup → (∀ o ∈ os, o ∈ five) → KD S Ld H H' → n' ≤ n + 100 → Dr S Ld H' n' → D.nx [b0, some (.ref S), b2, some (.ref a), b4, b5, b6, b7, b8, b9, b10, b11, b12, b13, b14, b15, b16, b17, b18, b19, b20, b21, b22, b23, b24, b25, b26] H') :
    lw1 K TT C CL CP D [b0, some (.ref S), b2, b3, b4, b5, b6, b7, b8, b9, b10, b11, b12, b13, b14, b15, b16, b17, b18, b19, b20, b21, b22, b23, b24, b25, b26] H := by
  refine ⟨_, rfl, by rw [sizeLine_eq]; decide, fun p hp => ?_⟩
  have sp := same_upd (o := .lst (five.map V.str)) hp
  refine ⟨S, Ld, p, five.map V.str, n, rfl, upd_same, by decide, hd.same sp, by omega, fun a H1 ys ha hperm ha1 k1 d1 => ?_⟩
  obtain ⟨os, rfl, hos⟩ := perm_strs hperm
  have hol : os.length = 5 := hos.length_eq
  refine ⟨_, rfl, S, Ld, 4, _, rfl, d1, by rw [List.length_map]; show n + 5 ≤ 1000000; omega, by decide, by decide, fun c H2 hc k2 d2 => ⟨_, _, rfl, rfl, _, rfl, a, _, rfl, SqL.of ((d1.kg k2).l ha1), fun p2 hp2 => ?_⟩⟩
  rw [show ((2 : Int) + (c : Int)) = ((2 + c : Nat) : Int) from by omega, cut_to, ← List.map_take]
  refine nx p2 (os.take (2 + c)) _ _ upd_same (fun z => ?_) (Nat.le_trans (List.length_take_le' _ _) (by omega)) ((hos.nodup_iff.2 five_nd).sublist (List.take_sublist _ _)) (fun o ho => hos.mem_iff.1 (List.mem_of_mem_take ho)) (((KD.of sp).trans (k1.trans k2)).trans (KD.of (same_upd hp2))) ?_ (d2.same (same_upd hp2))
  · have h := congrArg List.length z
    rw [List.length_take, hol] at h
    simp at h
  · rw [List.length_map]
    show n + 5 + 1 ≤ n + 100
    omega
/-- the locks -/
theorem ck2 {a : Addr} {os : List Str} (hd : Dr S Ld H n) (hn : n ≤ 500000) (ha : H a = some (.lst (os.map V.str))) (hne : os ≠ []) (hl : os.length ≤ 5)
    (nx : ∀ b ys ls H' n', H' b = some (.lst ys) → Paired (rLk H') ys ls → LsIn os ls → KD S Ld H H' → n' ≤ n + 101 → Dr S Ld H' n' → D.nx [b0, some (.ref S), b2, some (.ref a), some (.ref b), b5, b6, b7, b8, b9, b10, b11, b12, b13, b14, b15, b16, b17, b18, b19, b20, b21, b22, b23, b24, b25, b26] H') :
    lw2 K TT C CL CP D [b0, some (.ref S), b2, some (.ref a), b4, b5, b6, b7, b8, b9, b10, b11, b12, b13, b14, b15, b16, b17, b18, b19, b20, b21, b22, b23, b24, b25, b26] H := by
  refine ⟨_, rfl, S, Ld, 4, n, rfl, hd, by omega, by decide, by decide, fun c H1 hc k1 d1 => ⟨_, _, rfl, rfl, _, rfl, ?_⟩⟩
  have ha1 := (hd.kg k1).l ha
  by_cases c0 : decide ((0 : Int) < (c : Int)) = true
  · rw [c0]
    exact iteT ⟨_, rfl, _, rfl, S, Ld, a, os, n + 1, rfl, ha1, hne, hl, d1, by omega, fun p ys ls H2 n2 hp2 hy hyp hin k2 hn2 d2 => nx p ys ls H2 n2 hy hyp hin (k1.trans k2) (by omega) d2⟩
  · rw [Bool.not_eq_true] at c0
    rw [c0]
    exact iteF ⟨_, rfl, _, rfl, S, Ld, a, os, n + 1, rfl, ha1, hne, hl, d1, by omega, fun p ys ls H2 n2 hp2 hy hyp hin k2 hn2 d2 => nx p ys ls H2 n2 hy hyp hin (k1.trans k2) (by omega) d2⟩
/-- the wants, the scale -/
theorem ck3 {a b : Addr} {os : List Str} {xs : List V} {ls : List (Lk Str)} (hd : Dr S Ld H n) (hn : n ≤ 500000) (ha : H a = some (.lst (os.map V.str))) (hl : os.length ≤ 5) (hnd : os.Nodup) (hb : H b = some (.lst xs)) (hbp : Paired (rLk H) xs ls) (hin : LsIn os ls)
    (nx : ∀ p ys wl sc H' n', H' p = some (.lst ys) → Paired (rLk H') ys wl → WsIn os wl → 0 < sc → sc ≤ 10000000 → KD S Ld H H' → n' ≤ n + 101 → Dr S Ld H' n' → D.nx [b0, some (.ref S), b2, some (.ref a), some (.ref b), some (.ref p), some (.int sc), b7, b8, b9, b10, b11, b12, b13, b14, b15, b16, b17, b18, b19, b20, b21, b22, b23, b24, b25, b26] H') :
    lw3 K TT C CL CP D [b0, some (.ref S), b2, some (.ref a), some (.ref b), b5, b6, b7, b8, b9, b10, b11, b12, b13, b14, b15, b16, b17, b18, b19, b20, b21, b22, b23, b24, b25, b26] H := by
  refine ⟨_, rfl, _, rfl, _, rfl, S, Ld, a, b, os, xs, ls, n, rfl, ha, hnd, hl, hb, hbp, Nat.le_trans hin.few (by decide), hin.mem, hd, by omega, fun p ys wl H1 n1 hp hy hyp hwin k1 hn1 d1 => ⟨_, rfl, S, Ld, n1, rfl, d1, by omega, fun sc H2 h0 h1 k2 d2 => ⟨_, _, rfl, ?_⟩⟩⟩
  have g2 := d1.kg k2
  exact nx p ys wl sc H2 _ (g2.l hy) (rTup_gr.mono.all g2 hyp) hwin h0 h1 (k1.trans k2) (by omega) d2
/-- who waits for whom -/
theorem ck4 {b p : Addr} {os : List Str} {xs ys : List V} {ls wl : List (Lk Str)} (hb : H b = some (.lst xs)) (hbp : Paired (rLk H) xs ls) (hin : LsIn os ls) (hp : H p = some (.lst ys)) (hpp : Paired (rLk H) ys wl) (hwin : WsIn os wl)
    (nx : ∀ da ws H', Same H H' → WsAt H' da ws → WaitsOk ls wl ws → D.nx [b0, b1, b2, b3, some (.ref b), some (.ref p), b6, some (.ref da), b8, b9, b10, b11, b12, b13, b14, b15, b16, b17, b18, b19, b20, b21, b22, b23, b24, b25, b26] H') :
    lw4 K TT C CL CP D [b0, b1, b2, b3, some (.ref b), some (.ref p), b6, b7, b8, b9, b10, b11, b12, b13, b14, b15, b16, b17, b18, b19, b20, b21, b22, b23, b24, b25, b26] H :=
  ⟨_, rfl, _, rfl, b, p, xs, ys, ls, wl, rfl, hb, hbp, Nat.le_trans hin.few (by decide), fun l hl => (hin.mem l hl).2, hp, hpp, hwin.nd, Nat.le_trans hwin.few (by decide), fun da H1 ws hda s1 hws hwo => nx da ws H1 s1 hws hwo⟩
/-- the names -/
theorem ck5 {b p : Addr} {os : List Str} {xs ys : List V} {ls wl : List (Lk Str)} (hb : H b = some (.lst xs)) (hbp : Paired (rLk H) xs ls) (hin : LsIn os ls) (hp : H p = some (.lst ys)) (hpp : Paired (rLk H) ys wl) (hwin : WsIn os wl)
    (nx : ∀ na all H', H' na = some (.lst (all.map V.str)) → Asc sLt all → (∀ o, o ∈ all ↔ o ∈ ls.map (·.1) ∨ o ∈ wl.map (·.1)) → Same H H' → D.nx [b0, b1, b2, b3, some (.ref b), some (.ref p), b6, b7, some (.ref na), b9, b10, b11, b12, b13, b14, b15, b16, b17, b18, b19, b20, b21, b22, b23, b24, b25, b26] H') :
    lw5 K TT C CL CP D [b0, b1, b2, b3, some (.ref b), some (.ref p), b6, b7, b8, b9, b10, b11, b12, b13, b14, b15, b16, b17, b18, b19, b20, b21, b22, b23, b24, b25, b26] H := by
  have l1 := hin.few
  have l2 := hwin.few
  have l3 : xs.length + ys.length ≤ 15 := by rw [hbp.length, hpp.length]; omega
  refine ⟨_, rfl, _, rfl, b, p, xs, ys, rfl, rfl, hb, hp, by rw [sizeLine_eq]; omega, fun q hq => ?_⟩
  have sq := same_upd (o := .lst (xs ++ ys)) hq
  refine ⟨q, rfl, ⟨_, SqL.of upd_same⟩, fun D1 hD1 => lc_L (R := rLk) (S := rS) (as := ls ++ wl) rTup_gr.mono rV_gr (fun l => some l.1) hD1 (SqL.of upd_same) (Paired.app (rTup_gr.mono.all (Kg.of sq) hbp) (rTup_gr.mono.all (Kg.of sq) hpp)) (by rw [List.length_append]; omega) (fun i y l hl H3 s3 hy N Z hN hZ => ?_) fun H3 ts s3 ht htp => ?_⟩
  · obtain ⟨t, rfl, ht⟩ := hy
    exact ⟨rfl, ty ⟨_, rfl, _, _, _, _, rfl, rfl, SqT.of ht, rfl, hN _ _ _ (Same.refl _) rfl rfl⟩⟩
  · rw [filterMap_some] at htp
    rw [paired_rV htp] at ht
    have hlen : ((ls ++ wl).map (·.1)).length ≤ 15 := by rw [List.length_map, List.length_append]; omega
    refine ⟨D1, (ls ++ wl).map (·.1), rfl, SqL.of ht, by omega, fun p2 H4 hp2 s4 h4 => ?_⟩
    obtain ⟨o1, o2⟩ := onceL_ok ((ls ++ wl).map (·.1))
    refine ⟨p2, _, rfl, SqL.of h4, Nat.lt_of_le_of_lt (onceL_len _) (by omega), fun zs r hperm hsort hr => ?_⟩
    refine nx r zs _ upd_same (sorted_asc hsort (hperm.nodup_iff.2 o1)) (fun o => ?_) (sq.trans (s3.trans (s4.trans (same_upd hr))))
    rw [hperm.mem_iff, o2, List.map_append, List.mem_append]
/-- the table, the wants -/
theorem ck6 {b p : Addr} {os : List Str} {sc : Int} {xs ys : List V} {ls wl : List (Lk Str)} (hb : H b = some (.lst xs)) (hbp : Paired (rLk H) xs ls) (hin : LsIn os ls) (hos : ∀ o ∈ os, o ∈ five) (hp : H p = some (.lst ys)) (hpp : Paired (rLk H) ys wl) (hwin : WsIn os wl) (h0 : 0 < sc) (h1 : sc ≤ 10000000) (hT : Tabs TT H)
    (nx : ∀ tv wb tb zs H', TbI C H' tv tb → TbG tb (ls.map (farL sc)) five (2 * ls.length) → H' wb = some (.lst zs) → Paired (rLk H') zs (wl.map (farL sc)) → ExtN H H' → Tabs TT H' → D.nx [b0, b1, b2, b3, some (.ref b), some (.ref p), some (.int sc), b7, b8, b9, b10, b11, b12, b13, b14, b15, b16, b17, b18, b19, b20, b21, some tv, some (.ref wb), b24, b25, b26] H') :
    lw6 K TT C CL CP D [b0, b1, b2, b3, some (.ref b), some (.ref p), some (.int sc), b7, b8, b9, b10, b11, b12, b13, b14, b15, b16, b17, b18, b19, b20, b21, b22, b23, b24, b25, b26] H := by
  have l1 := hin.few
  have l2 := hwin.few
  refine ⟨_, rfl, _, rfl, b, xs, ls, sc, rfl, hb, hbp, by omega, h0, h1, fun q H1 vs hq s1 hv hvp => ?_⟩
  have ok : LsOk (ls.map (farL sc)) five := by
    refine ⟨by decide, fun l hl => ?_, fun l hl => ?_, by rw [List.length_map]; omega, allOk_far h0 hin.ok⟩
    · obtain ⟨l', hl', rfl⟩ := List.mem_map.1 hl
      exact hos _ (hin.mem l' hl').1
    · obtain ⟨l', hl', rfl⟩ := List.mem_map.1 hl
      exact ⟨(five_ok _ (hos _ (hin.mem l' hl').1)).2, far_wf h0 (hin.mem l' hl').2.1⟩
  refine made (C := C) (TT := TT) (Q := fun v H2 => tCons (tCall (sp_far K) [] E0 (tCons (tVar 5) (tCons (tVar 6) tNil))) tNil [b0, b1, b2, b3, some (.ref b), some (.ref p), some (.int sc), b7, b8, b9, b10, b11, b12, b13, b14, b15, b16, b17, b18, b19, b20, b21, b22, b23, b24, b25, b26] H2 fun us H3 => (v :: us).length ≤ sizeLine ∧ ∀ t, H3 t = none → gTup K 2 (gCons (gName 22) (gCons (gName 23) gNil)) (.ref t) [b0, b1, b2, b3, some (.ref b), some (.ref p), some (.int sc), b7, b8, b9, b10, b11, b12, b13, b14, b15, b16, b17, b18, b19, b20, b21, b22, b23, b24, b25, b26] (upd H3 t (.tup (v :: us))) D.nx) hv hvp ok (hT.ext s1) fun tv H2 tb e2 T2 ht G => ?_
  rw [List.length_map] at G
  have e12 : ExtN H H2 := (ExtN.of s1).trans e2
  have g12 := kgN e12
  refine ⟨_, rfl, _, rfl, p, ys, wl, sc, rfl, g12.l hp, rTup_gr.mono.all g12 hpp, by omega, h0, h1, fun wb H3 zs hwb s3 hz hzp => ⟨sz2, fun t ht' => ?_⟩⟩
  have st := same_upd (o := .tup [tv, .ref wb]) ht'
  refine ⟨t, _, rfl, SqT.of upd_same, rfl, _, _, rfl, _, _, rfl, rfl, ?_⟩
  exact nx tv wb tb zs _ (ht.kg (Kg.of (s3.trans st))) G (st _ _ hz) (rTup_gr.mono.all (Kg.of st) hzp) (e12.trans (.of (s3.trans st))) (T2.ext (s3.trans st))
end
end WH
set_option Elab.async false
set_option linter.all false
set_option maxRecDepth 100000
set_option maxHeartbeats 4000000
namespace WH
open PySem PySem.Spec PyProof.Rows L2 WM LamX
theorem GoodPr.kg {H H' : Hp} {d : Addr} {all : List Str} {pr : Str → Int} (k : Kg H H') (h : GoodPr H d all pr) : GoodPr H' d all pr := by
  obtain ⟨h1, kvs, h2, h3⟩ := h
  exact ⟨h1.kg k, kvs, k.d h2, h3⟩
theorem same_strs {H : Hp} {p q : Addr} {s : List Str} (h : H p = some (.lst (s.map V.str))) (h' : H q = some (.lst (s.map V.str))) (hl : s.length ≤ 100000) : SameD 1 H (.ref p) (.ref q) := by
  have hp : ∀ s : List Str, Paired (SameD 0 H) (s.map V.str) (s.map V.str) := by
    intro s
    induction s with
    | nil => exact .nil
    | cons x s ih => exact .cons ⟨rfl, .inl ⟨x, rfl⟩⟩ ih
  exact .inr ⟨p, q, _, _, rfl, rfl, .inl ⟨h, h'⟩, hp s, by rw [List.length_map]; exact hl⟩
section
variable {K : PySem.W.Frag} {TT : List (Addr × Str)} {C CL CP S Ld : Addr} {D : Ends} {H : Hp} {n : Nat} {b0 b1 b2 b3 b4 b5 b6 b7 b8 b9 b10 b11 b12 b13 b14 b15 b16 b17 b18 b19 b20 b21 b22 b23 b24 b25 b26 : Option V}
variable {na da wa : Addr} {tv : V} {tb : Tb Str} {ls wl : List (Lk Str)} {all : List Str} {ws : Ws} {xs : List V} {m : Nat}
theorem LF.len (F : LF H C na da wa tv tb ls wl all ws xs m) : (stops sLt (wOf ws) all).length ≤ 7776 ∧ (∀ s ∈ stops sLt (wOf ws) all, s.length ≤ 5 ∧ ∀ x ∈ s, x ∈ all) := by
  refine ⟨len_least F.A.few _, fun s hs => ?_⟩
  have h := leastSets_mem sLo F.A.asc hs
  exact ⟨Nat.le_trans (nodup_len (h.1.nodup sLo) h.2.1) F.A.few, h.2.1⟩
/-- the sets are right -/
theorem ck7 (F : LF H C na da wa tv tb ls wl all ws xs m) (hT : Tabs TT H)
    (nx : ∀ H', ExtN H H' → Tabs TT H' → D.nx [b0, b1, b2, b3, b4, b5, b6, some (.ref da), some (.ref na), b9, b10, b11, b12, b13, b14, b15, b16, b17, b18, b19, b20, b21, some tv, some (.ref wa), b24, b25, b26] H') :
    lw7 K TT C CL CP D [b0, b1, b2, b3, b4, b5, b6, some (.ref da), some (.ref na), b9, b10, b11, b12, b13, b14, b15, b16, b17, b18, b19, b20, b21, some tv, some (.ref wa), b24, b25, b26] H :=
  ⟨_, rfl, _, rfl, _, rfl, _, rfl, tv, wa, na, da, tb, ls, wl, five, all, m, xs, ws, rfl, F.tbl, F.G, F.few, F.wa, F.wp, F.ok, F.own, five_ok, F.na, F.A, F.wsa, F.wo, hT, fun H1 e1 T1 => ⟨_, rfl, iteF (nx H1 e1 T1)⟩⟩
/-- prices, the sets of stops -/
theorem ck8 (F : LF H C na da wa tv tb ls wl all ws xs m) (hd : Dr S Ld H n) (hn : n ≤ 500000)
    (nx : ∀ d pr sa vs H' n', GoodPr H' d all pr → H' sa = some (.lst vs) → Paired (rSet H') vs (stops sLt (wOf ws) all) → KD S Ld H H' → n' ≤ n + 100 → Dr S Ld H' n' → D.nx [b0, some (.ref S), b2, b3, b4, b5, b6, b7, some (.ref na), some (.ref d), some (.ref sa), b11, b12, b13, b14, b15, b16, b17, b18, b19, b20, b21, some tv, some (.ref wa), b24, b25, b26] H') :
    lw8 K TT C CL CP D [b0, some (.ref S), b2, b3, b4, b5, b6, b7, some (.ref na), b9, b10, b11, b12, b13, b14, b15, b16, b17, b18, b19, b20, b21, some tv, some (.ref wa), b24, b25, b26] H := by
  refine ⟨_, rfl, _, rfl, S, Ld, na, all, n, rfl, F.na, F.nd, F.A.few, hd, by omega, fun d pr H1 n1 hdn hg k1 hn1 d1 => ?_⟩
  have F1 := F.kg (hd.kg k1)
  have hA : Paired (rLkA H1) xs wl := Paired.mapP F1.wp fun _ _ => rLk_A
  refine ⟨_, rfl, _, rfl, tv, wa, xs, tb, ls, five, m, rfl, F1.tbl, F1.G, Nat.le_trans F1.few (by decide), .inl F1.wa, fun x hx => (five_ok x hx).1, .inl ⟨wl, all, hA, F1.ok, F1.own, F1.A, fun sa H2 vs ws2 hsa s2 hwo2 hv2 hvp2 => ⟨sz2, fun t ht => ?_⟩⟩⟩
  have e2 : ws2 = ws := waits_unique hwo2 F.wo F.ok.nd F.ok.nd (fun _ => Iff.rfl) fun l hl => ⟨l, hl, rfl, fun _ => Iff.rfl⟩
  subst e2
  have st := same_upd (o := .tup [.ref d, .ref sa]) ht
  refine ⟨t, _, rfl, SqT.of upd_same, rfl, _, _, rfl, _, _, rfl, rfl, ?_⟩
  exact nx d pr sa vs _ n1 (hg.kg (Kg.of (s2.trans st))) (st _ _ hv2) (rSet_mono.all (Kg.of st) hvp2) (k1.trans (KD.of (s2.trans st))) hn1 (d1.same (s2.trans st))
/-- the costs -/
theorem ck9 {d sa : Addr} {pr : Str → Int} {vs : List V} (F : LF H C na da wa tv tb ls wl all ws xs m) (hg : GoodPr H d all pr) (hs : H sa = some (.lst vs)) (hsp : Paired (rSet H) vs (stops sLt (wOf ws) all))
    (nx : ∀ ca H', H' ca = some (.lst (((stops sLt (wOf ws) all).map fun s => (s.map pr).sum).map V.int)) → Same H H' → D.nx [b0, b1, b2, b3, b4, b5, b6, b7, b8, some (.ref d), some (.ref sa), some (.ref ca), b12, b13, b14, b15, b16, b17, b18, b19, b20, b21, b22, b23, b24, b25, b26] H') :
    lw9 K TT C CL CP D [b0, b1, b2, b3, b4, b5, b6, b7, b8, some (.ref d), some (.ref sa), b11, b12, b13, b14, b15, b16, b17, b18, b19, b20, b21, b22, b23, b24, b25, b26] H := by
  refine ⟨_, rfl, sa, rfl, ⟨_, SqL.of hs⟩, fun D1 hD1 => lc_L (R := rSet) (S := rV V.int) (as := stops sLt (wOf ws) all) rSet_mono rV_gr (fun s => some (s.map pr).sum) hD1 (SqL.of hs) hsp (by rw [hsp.length]; exact Nat.le_trans F.len.1 (by decide)) (fun i y s hi H2 s2 hy N Z hN hZ => ?_) fun H2 ys s2 hy hyp => ?_⟩
  · obtain ⟨ta, rfl, hta⟩ := hy
    obtain ⟨h1, h2⟩ := F.len.2 s (List.mem_of_getElem? hi)
    exact ⟨rfl, ty ⟨_, rfl, _, rfl, ta, d, s, all, pr, rfl, hta, hg.1.kg (Kg.of s2), h2, Nat.le_trans h1 (by decide), fun H3 s3 => hN _ _ _ s3 rfl rfl⟩⟩
  · rw [filterMap_some] at hyp
    rw [paired_rV hyp] at hy
    exact nx D1 H2 hy s2
/-- the first of the cheapest -/
theorem ck10 {sa ca : Addr} {pr : Str → Int} {vs : List V} (F : LF H C na da wa tv tb ls wl all ws xs m) (hs : H sa = some (.lst vs)) (hsp : Paired (rSet H) vs (stops sLt (wOf ws) all)) (hc : H ca = some (.lst (((stops sLt (wOf ws) all).map fun s => (s.map pr).sum).map V.int)))
    (nx : ∀ p j mm s H', firstMin ((stops sLt (wOf ws) all).map fun s => (s.map pr).sum) j mm → (stops sLt (wOf ws) all)[j]? = some s → H' p = some (.lst (s.map V.str)) → Same H H' → D.nx [b0, b1, b2, b3, b4, b5, b6, b7, b8, b9, some (.ref sa), some (.ref ca), some (.ref p), b13, b14, b15, b16, b17, b18, b19, b20, b21, b22, b23, b24, b25, b26] H') :
    lw10 K TT C CL CP D [b0, b1, b2, b3, b4, b5, b6, b7, b8, b9, some (.ref sa), some (.ref ca), b12, b13, b14, b15, b16, b17, b18, b19, b20, b21, b22, b23, b24, b25, b26] H := by
  have hne : stops sLt (wOf ws) all ≠ [] := stops_ne sLo F.A.asc
  generalize hss : stops sLt (wOf ws) all = ss at *
  obtain ⟨j, mm, hf⟩ := firstMin_ex (l := ss.map fun s => (s.map pr).sum) (by simpa using hne)
  obtain ⟨s, hsj⟩ : ∃ s, ss[j]? = some s := by
    have h := hf.1
    rw [List.getElem?_map] at h
    cases e : ss[j]? with
    | none => rw [e] at h; cases h
    | some s => exact ⟨s, rfl⟩
  obtain ⟨v, hv, ta, rfl, hta⟩ : ∃ v, vs[j]? = some v ∧ rSet H v s := by
    have : j < vs.length := by rw [hsp.length]; exact (List.getElem?_eq_some_iff.mp hsj).1
    obtain ⟨c, hc, hR⟩ := paired_get hsp (List.getElem?_eq_getElem this)
    rw [hsj] at hc
    injection hc with hc
    exact ⟨_, List.getElem?_eq_getElem this, hc ▸ hR⟩
  have hc3 : SqL K H ca ((ss.map fun s => (s.map pr).sum).map V.int) := SqL.of hc
  refine ⟨_, rfl, _, rfl, .inl ⟨rfl, _, hc3⟩, _, rfl, ca, _, rfl, hc3, by simpa using List.length_pos_iff.2 hne, fun m' hm' hle => ?_⟩
  have em : m' = mm := by
    have h1 := hle mm (List.mem_of_getElem? hf.1)
    have h2 := hf.2.1 m' hm'
    omega
  subst em
  refine ⟨ca, _, _, j, .int m', rfl, rfl, hc3, rfl, ints_flat _, by rw [List.getElem?_map, hf.1]; rfl, by rw [eqV_int]; exact decide_eq_true rfl, fun i z hi hz => ?_, ?_⟩
  · rw [List.getElem?_map] at hz
    cases e : (ss.map fun s => (s.map pr).sum)[i]? with
    | none => rw [e] at hz; cases hz
    | some y =>
      rw [e] at hz
      injection hz with hz
      subst hz
      rw [eqV_int]
      exact decide_eq_false (hf.2.2 i y hi e)
  · refine ⟨sa, vs, _, _, rfl, rfl, SqL.of hs, atI_nat hv, ta, _, rfl, .inr (SqT.of hta), fun p hp' => ?_⟩
    exact nx p j m' s _ hf hsj upd_same (same_upd hp')
/-- the cheapest are the same -/
theorem ck11 {d p : Addr} {j : Nat} {mm : Int} {s : List Str} {pr : Str → Int} (F : LF H C na da wa tv tb ls wl all ws xs m) (hd : Dr S Ld H n) (hn : n ≤ 500000) (hg : GoodPr H d all pr) (hf : firstMin ((stops sLt (wOf ws) all).map fun s => (s.map pr).sum) j mm) (hsj : (stops sLt (wOf ws) all)[j]? = some s) (hp : H p = some (.lst (s.map V.str)))
    (nx : ∀ H' n', KD S Ld H H' → n' ≤ n + 100 → Dr S Ld H' n' → D.nx [b0, some (.ref S), b2, b3, b4, b5, b6, b7, b8, some (.ref d), b10, b11, some (.ref p), b13, b14, b15, b16, b17, b18, b19, b20, b21, some tv, some (.ref wa), b24, b25, b26] H') :
    lw11 K TT C CL CP D [b0, some (.ref S), b2, b3, b4, b5, b6, b7, b8, some (.ref d), b10, b11, some (.ref p), b13, b14, b15, b16, b17, b18, b19, b20, b21, some tv, some (.ref wa), b24, b25, b26] H := by
  refine ⟨_, rfl, _, rfl, _, rfl, S, Ld, wa, xs, wl, n, rfl, F.wa, F.wp, F.ok.len, hd, by omega, fun q ys H1 n1 hq hy hyp k1 hn1 d1 => ?_⟩
  have g1 := hd.kg k1
  have F1 := F.kg g1
  refine ⟨_, rfl, tv, .ref d, q, ys, tb, ls, five, m, rfl, F1.tbl, F1.G, Nat.le_trans F1.few (by decide), hy.symm, fun x hx => (five_ok x hx).1, .inl ⟨wl, all, hyp, F1.ok, F1.own, F1.A, .inl ⟨d, pr, rfl, hg.kg g1, fun r H2 ws2 j2 m2 s' hr s2 hwo2 hf2 hs2 hr2 => ?_⟩⟩⟩
  have e2 : ws2 = ws := waits_unique hwo2 F.wo F.ok.nd F.ok.nd (fun _ => Iff.rfl) fun l hl => ⟨l, hl, rfl, fun _ => Iff.rfl⟩
  subst e2
  obtain ⟨rfl, rfl⟩ := firstMin_fun hf hf2
  have e3 : s = s' := Option.some.inj (hsj.symm.trans hs2)
  subst e3
  refine ⟨_, rfl, _, _, rfl, (same_strs hr2 (s2 _ _ (g1.l hp)) (Nat.le_trans (F.len.2 s (List.mem_of_getElem? hsj)).1 (by decide))).up.up, fun H3 s3 => ⟨_, rfl, iteF (nx H3 n1 (k1.trans (KD.of (s2.trans s3))) hn1 (d1.same (s2.trans s3)))⟩⟩
end
end WH
set_option Elab.async false
set_option linter.all false
set_option maxRecDepth 100000
set_option maxHeartbeats 4000000
namespace WH
open PySem PySem.Spec PyProof.Rows L2 WM LamX
theorem rings_bd {ls wl : List (Lk Str)} {ws : Ws} (h : WaitsOk ls wl ws) (ho : ∀ l ∈ wl, l.1 ∈ five) : (rings sLt (wOf ws) (ws.map (·.1))).length ≤ 7776 ∧ ∀ s ∈ rings sLt (wOf ws) (ws.map (·.1)), s.length ≤ 5 ∧ ∀ x ∈ s, x ∈ five := by
  have hk : ∀ x ∈ ws.map (·.1), x ∈ five := fun x hx => by
    obtain ⟨l, hl, rfl⟩ := List.mem_map.1 ((h.keys x).1 hx)
    exact ho l hl
  have h5 : (ws.map (·.1)).length ≤ 5 := nodup_len (m := five) (h.asc.nodup sLo) hk
  refine ⟨len_least h5 _, fun s hs => ?_⟩
  have q := leastSets_mem sLo h.asc hs
  exact ⟨Nat.le_trans (nodup_len (q.1.nodup sLo) q.2.1) h5, fun x hx => hk x (q.2.1 x hx)⟩
theorem paired_erase {α β : Type} {F : α → β → Prop} {xs : List α} {bs : List β} (h : Paired F xs bs) (i : Nat) : Paired F (xs.take i ++ xs.drop (i + 1)) (bs.eraseIdx i) := by
  rw [List.eraseIdx_eq_take_drop_succ]
  exact Paired.app (Paired.take i h) (Paired.drop (i + 1) h)
section
variable {K : PySem.W.Frag} {TT : List (Addr × Str)} {C CL CP S Ld : Addr} {D : Ends} {H : Hp} {n : Nat} {b0 b1 b2 b3 b4 b5 b6 b7 b8 b9 b10 b11 b12 b13 b14 b15 b16 b17 b18 b19 b20 b21 b22 b23 b24 b25 b26 : Option V}
variable {na da wa : Addr} {tv : V} {tb : Tb Str} {ls wl : List (Lk Str)} {all : List Str} {ws : Ws} {xs : List V} {m : Nat}
/-- the rings without an owner, picked out of a list -/
theorem ck12c {Q : VK} {i : Nat} {l : Lk Str} {ta : Addr} {ss : List (List Str)} {tl : TE} (hi : xs[i]? = some (.ref ta)) (hta : H ta = some (.tup (lkV l))) (hw : H wa = some (.lst xs)) (hl : ss.length ≤ 7776)
    (ht : ∀ Q' : VK, (∀ r H1 vs, Same H H1 → H1 r = some (.lst vs) → Paired (rSet H1) vs ss → Q' (.ref r) H1) → tl [b0, b1, b2, b3, b4, b5, b6, b7, b8, b9, b10, b11, b12, some (.int (i : Nat)), b14, b15, b16, b17, b18, b19, b20, b21, b22, some (.ref wa), b24, b25, b26] H Q')
    (q : ∀ D1 H' us, Same H H' → H' D1 = some (.lst us) → Paired (rSet H') us (ss.filter fun s => !decide (l.1 ∈ s)) → Q (.ref D1) H') :
    tLc (iList K tl) (gName 25) (tTest (tOp (rIn K true) (tOp (rIxT K) (tOp (rIxL K) (tVar 23) (tVar 13)) (tC (V.int 0))) (tVar 25))) (tVar 25) (List.map (fun x => x.snd) [(Str.ofString "_law_one", 25)]) [b0, b1, b2, b3, b4, b5, b6, b7, b8, b9, b10, b11, b12, some (.int (i : Nat)), b14, b15, b16, b17, b18, b19, b20, b21, b22, some (.ref wa), b24, b25, b26] H Q := by
  refine ht _ fun r H1 vs s1 hr hp => ⟨r, rfl, ⟨_, SqL.of hr⟩, fun D1 hD1 => lc_L (R := rSet) (S := rSet) (as := ss) rSet_mono rSet_gr (fun s => if (!decide (l.1 ∈ s)) = true then some s else none) hD1 (SqL.of hr) hp (by rw [hp.length]; omega) (fun j y s hj H2 s2 hy N Z hN hZ => ?_) fun H2 us s2 hu hup => ?_⟩
  · obtain ⟨sa, rfl, hsa⟩ := hy
    have s12 := s1.trans s2
    refine ⟨rfl, _, rfl, _, rfl, wa, xs, _, _, rfl, rfl, SqL.of (s12 _ _ hw), atI_nat hi, ta, _, _, _, rfl, rfl, SqT.of (s12 _ _ hta), rfl, _, rfl, sa, _, rfl, .inr (SqT.of hsa), rfl, strs_flat _, _, rfl, ?_⟩
    rw [if_pos rfl, inV_strs]
    by_cases c : (!decide (l.1 ∈ s)) = true
    · rw [c]
      exact iteT ⟨_, rfl, hN _ _ _ (Same.refl _) (if_pos c) ⟨sa, rfl, hsa⟩⟩
    · rw [Bool.not_eq_true] at c
      rw [c]
      exact iteF (hZ _ (Same.refl _) (if_neg (by rw [c]; exact Bool.false_ne_true)))
  · rw [filter_fm] at hup
    exact q D1 H2 us (s1.trans s2) hu hup
def lcA (K : PySem.W.Frag) (tl : TE) : TE := tLc (iList K tl) (gName 25) (tTest (tOp (rIn K true) (tOp (rIxT K) (tOp (rIxL K) (tVar 23) (tVar 13)) (tC (V.int 0))) (tVar 25))) (tVar 25) (List.map (fun x => x.snd) [(Str.ofString "_law_one", 25)])
def lw12i (K : PySem.W.Frag) (C CL : Addr) : TS := tIfS (tTest (tOp (rNeD K) (lcA K (tCall (sp_least_rings C CL) [] E0 (tCons (tVar 22) (tCons (tVar 23) tNil)))) (lcA K (tVar 14)))) (tRet (tC (V.bl false))) tNext
theorem ck12i {i : Nat} {l : Lk Str} {ta r : Addr} {vs : List V} {ws' : Ws} (F : LF H C na da wa tv tb ls wl all ws xs m) (hi : xs[i]? = some (.ref ta)) (hta : H ta = some (.tup (lkV l))) (hl : wl[i]? = some l) (hwo' : WaitsOk ls (wl.eraseIdx i) ws') (hv : H r = some (.lst vs)) (hvp : Paired (rSet H) vs (rings sLt (wOf ws') (ws'.map (·.1))))
    (nx : ∀ H', Same H H' → D.nx [b0, b1, b2, b3, b4, b5, b6, b7, b8, b9, b10, b11, b12, some (.int (i : Nat)), some (.ref r), b15, b16, b17, b18, b19, b20, b21, some tv, some (.ref wa), b24, b25, b26] H') :
    lw12i K C CL D [b0, b1, b2, b3, b4, b5, b6, b7, b8, b9, b10, b11, b12, some (.int (i : Nat)), some (.ref r), b15, b16, b17, b18, b19, b20, b21, some tv, some (.ref wa), b24, b25, b26] H := by
  show lcA K (tCall (sp_least_rings C CL) [] E0 (tCons (tVar 22) (tCons (tVar 23) tNil))) [b0, b1, b2, b3, b4, b5, b6, b7, b8, b9, b10, b11, b12, some (.int (i : Nat)), some (.ref r), b15, b16, b17, b18, b19, b20, b21, some tv, some (.ref wa), b24, b25, b26] H (fun x H1 => lcA K (tVar 14) [b0, b1, b2, b3, b4, b5, b6, b7, b8, b9, b10, b11, b12, some (.int (i : Nat)), some (.ref r), b15, b16, b17, b18, b19, b20, b21, some tv, some (.ref wa), b24, b25, b26] H1 (fun y H2 => rNeD K x y H2 (fun v H3 => ∃ k, v = V.bl k ∧ if k = true then tRet (tC (V.bl false)) D [b0, b1, b2, b3, b4, b5, b6, b7, b8, b9, b10, b11, b12, some (.int (i : Nat)), some (.ref r), b15, b16, b17, b18, b19, b20, b21, some tv, some (.ref wa), b24, b25, b26] H3 else tNext D [b0, b1, b2, b3, b4, b5, b6, b7, b8, b9, b10, b11, b12, some (.int (i : Nat)), some (.ref r), b15, b16, b17, b18, b19, b20, b21, some tv, some (.ref wa), b24, b25, b26] H3)))
  have own' : ∀ l ∈ wl.eraseIdx i, l.1 ∈ five := fun l hl => F.own l ((List.eraseIdx_sublist wl i).mem hl)
  obtain ⟨b1, b2⟩ := rings_bd hwo' own'
  obtain ⟨c1, c2⟩ := rings_bd F.wo F.own
  have hA4 : Paired (rLkA H) xs wl := Paired.mapP F.wp fun _ _ => rLk_A
  refine ck12c (ss := rings sLt (wOf ws) (ws.map (·.1))) (l := l) hi hta F.wa c1 (fun Q' k => ?_) fun D1 H6 us s6 hu hup => ?_
  · refine ⟨_, rfl, _, rfl, tv, wa, xs, tb, ls, five, m, rfl, F.tbl, F.G, Nat.le_trans F.few (by decide), .inl F.wa, fun x hx => (five_ok x hx).1, .inl ⟨wl, hA4, F.ok, F.own, fun r2 H5 vs2 ws2 hr2 s5 hwo2 hv2 hvp2 => ?_⟩⟩
    have e2 : ws2 = ws := waits_unique hwo2 F.wo F.ok.nd F.ok.nd (fun _ => Iff.rfl) fun l hl => ⟨l, hl, rfl, fun _ => Iff.rfl⟩
    subst e2
    exact k r2 H5 vs2 s5 hv2 hvp2
  refine ck12c (ss := rings sLt (wOf ws') (ws'.map (·.1))) (l := l) hi (s6 _ _ hta) (s6 _ _ F.wa) b1 (fun Q' k => ⟨_, rfl, k r H6 vs (Same.refl _) (s6 _ _ hv) (rSet_mono.all (Kg.of s6) hvp)⟩) fun D2 H7 us2 s7 hu2 hup2 => ?_
  rw [← rings_less hl F.ok.nd F.wo hwo'] at hup2
  refine ne_sameD (.lst (SqL.of (s7 _ _ hu)) (dp_sets (rSet_mono.all (Kg.of s7) hup))) (.lst (SqL.of hu2) (dp_sets hup2)) (list_shaped fun d hd => ?_) ⟨_, rfl, iteF (nx _ (s6.trans s7))⟩
  obtain ⟨s, hs, rfl⟩ := List.mem_map.1 hd
  exact setD_lay fun x hx => (five_ok x ((c2 s (List.mem_filter.1 hs).1).2 x hx)).1
/-- a want less -/
theorem ck12 (F : LF H C na da wa tv tb ls wl all ws xs m)
    (nx : ∀ v13 v14 H', Same H H' → D.nx [b0, b1, b2, b3, b4, b5, b6, b7, b8, b9, b10, b11, b12, v13, v14, b15, b16, b17, b18, b19, b20, b21, some tv, some (.ref wa), b24, b25, b26] H') :
    lw12 K TT C CL CP D [b0, b1, b2, b3, b4, b5, b6, b7, b8, b9, b10, b11, b12, b13, b14, b15, b16, b17, b18, b19, b20, b21, some tv, some (.ref wa), b24, b25, b26] H := by
  have hxl : xs.length ≤ 60 := by rw [F.wp.length]; exact F.ok.len
  refine ⟨_, rfl, wa, xs, rfl, .inl (SqL.of F.wa), _, rfl, by omega, by omega, for_range (lo := 0) (n := xs.length) (fun i σ H2 => ∃ v13 v14, σ = [b0, b1, b2, b3, b4, b5, b6, b7, b8, b9, b10, b11, b12, v13, v14, b15, b16, b17, b18, b19, b20, b21, some tv, some (.ref wa), b24, b25, b26] ∧ Same H H2) ⟨_, _, rfl, Same.refl _⟩ ?_ ?_⟩
  · rintro i σ H2 hi ⟨v13, v14, rfl, s2⟩
    rw [Int.zero_add]
    have F2 := F.kg (Kg.of s2)
    have hxi : xs[i]? = some xs[i] := List.getElem?_eq_getElem hi
    obtain ⟨l, hl, ta, eta, hta⟩ := paired_get F2.wp hxi
    rw [eta] at hxi
    refine ⟨_, rfl, _, rfl, _, rfl, _, rfl, wa, xs, rfl, SqL.of F2.wa, fun p1 hp1 => ?_⟩
    rw [cut_to]
    have e1 := same_upd (o := .lst (xs.take i)) hp1
    refine ⟨_, rfl, _, rfl, _, _, rfl, rfl, _, rfl, wa, xs, rfl, SqL.of (e1 _ _ F2.wa), fun p2 hp2 => ?_⟩
    rw [show ((i : Nat) : Int) + 1 = ((i + 1 : Nat) : Int) from rfl, cut_from]
    have e2 := same_upd (o := .lst (xs.drop (i + 1))) hp2
    refine ⟨p1, p2, _, _, rfl, rfl, e2 _ _ upd_same, upd_same, by rw [sizeLine_eq, List.length_take, List.length_drop]; omega, fun p3 hp3 => ?_⟩
    have e3 := same_upd (o := .lst (xs.take i ++ xs.drop (i + 1))) hp3
    have e13 : Same H2 _ := e1.trans (e2.trans e3)
    have F3 := F2.kg (Kg.of e13)
    have hsub := List.eraseIdx_sublist wl i
    have hA3 := paired_erase (Paired.mapP F3.wp fun _ _ => rLk_A) i
    have own' : ∀ l ∈ wl.eraseIdx i, l.1 ∈ five := fun l hl => F.own l (hsub.mem hl)
    refine ⟨tv, p3, _, tb, ls, five, m, rfl, F3.tbl, F3.G, Nat.le_trans F3.few (by decide), .inl upd_same, fun x hx => (five_ok x hx).1, .inl ⟨wl.eraseIdx i, hA3, wtOk_sub F.ok hsub, own', fun r H4 vs ws' hr s4 hwo' hv hvp => ?_⟩⟩
    have F4 := F3.kg (Kg.of s4)
    exact ck12i F4 hxi ((e13.trans s4) _ _ hta) hl hwo' hv hvp fun H8 s8 => ⟨_, _, rfl, s2.trans (e13.trans (s4.trans s8))⟩
  · rintro σ H2 ⟨v13, v14, rfl, s2⟩
    exact nx _ _ _ s2
end
end WH
set_option Elab.async false
set_option linter.all false
set_option maxRecDepth 100000
set_option maxHeartbeats 4000000
namespace WH
open PySem PySem.Spec PyProof.Rows L2 WM LamX
/-- nothing that is kept stands there -/
def NG (B : Hp) (a : Addr) : Prop := ∀ o, Gd o → B a ≠ some o
theorem NG.of {B H : Hp} {a : Addr} (k : Kg B H) (h : H a = none) : NG B a := fun o g z => by
  rw [k a o g z] at h
  cases h
theorem Kg.ownG {B H : Hp} {p : Addr} {o : HO} (k : Kg B H) (h : NG B p) : Kg B (upd H p o) := fun b x g hb => by
  have e : b ≠ p := fun z => h x g (z ▸ hb)
  rw [upd_ne e]
  exact k b x g hb
section
variable {K : PySem.W.Frag} {TT : List (Addr × Str)} {C CL CP S Ld : Addr} {D : Ends} {H : Hp} {n : Nat} {b0 b1 b2 b3 b4 b5 b6 b7 b8 b9 b10 b11 b12 b13 b14 b15 b16 b17 b18 b19 b20 b21 b22 b23 b24 b25 b26 : Option V}
variable {na da wa : Addr} {tv : V} {tb : Tb Str} {ls wl : List (Lk Str)} {all : List Str} {ws : Ws} {xs : List V} {m : Nat}
/-- where the wrong one is put -/
theorem ck13 (F : LF H C na da wa tv tb ls wl all ws xs m) (hd : Dr S Ld H n) (hn : n ≤ 500000)
    (nx : ∀ (i : Nat) H', i ≤ xs.length → KD S Ld H H' → Dr S Ld H' (n + 1) → D.nx [b0, some (.ref S), b2, b3, b4, b5, b6, b7, b8, b9, b10, b11, b12, some (.int (i : Nat)), b14, b15, b16, b17, b18, b19, b20, b21, b22, some (.ref wa), b24, b25, b26] H') :
    lw13 K TT C CL CP D [b0, some (.ref S), b2, b3, b4, b5, b6, b7, b8, b9, b10, b11, b12, b13, b14, b15, b16, b17, b18, b19, b20, b21, b22, some (.ref wa), b24, b25, b26] H := by
  have hxl : xs.length ≤ 60 := by rw [F.wp.length]; exact F.ok.len
  exact ⟨_, rfl, _, rfl, wa, xs, rfl, .inl (SqL.of F.wa), _, _, rfl, rfl, S, Ld, xs.length + 1, n, rfl, hd, by omega, by omega, by omega, fun c H1 hc k1 d1 => nx c H1 (by omega) k1 d1⟩
/-- the wants with wrong ones among them -/
theorem ck14 {i : Nat} (F : LF H C na da wa tv tb ls wl all ws xs m) (hd : Dr S Ld H n) (hn : n ≤ 500000) (hi : i ≤ xs.length)
    (nx : ∀ wr x H', H' wr = some (.lst (xs.take i ++ [x, .non] ++ xs.drop i)) → wrongLk H' x → KD S Ld H H' → Dr S Ld H' (n + 1) → D.nx [b0, some (.ref S), b2, b3, b4, b5, b6, b7, b8, b9, b10, b11, b12, some (.int (i : Nat)), b14, b15, b16, b17, b18, b19, b20, b21, b22, some (.ref wa), some (.ref wr), b25, b26] H') :
    lw14 K TT C CL CP D [b0, some (.ref S), b2, b3, b4, b5, b6, b7, b8, b9, b10, b11, b12, some (.int (i : Nat)), b14, b15, b16, b17, b18, b19, b20, b21, b22, some (.ref wa), b24, b25, b26] H := by
  have hxl : xs.length ≤ 60 := by rw [F.wp.length]; exact F.ok.len
  refine ⟨_, rfl, _, rfl, _, rfl, wa, xs, rfl, SqL.of F.wa, fun p1 hp1 => ?_⟩
  rw [cut_to]
  have e1 := same_upd (o := .lst (xs.take i)) hp1
  refine ⟨_, rfl, sz3, fun p2 hp2 => ⟨sz4, fun p3 hp3 => ⟨sz4, fun p4 hp4 => ?_⟩⟩⟩
  have e2 := same_upd (o := .tup [.str "a", .int 0, .int 1]) hp2
  have e3 := same_upd (o := .tup [.str "a", .int 1, .int 1, .str "read"]) hp3
  have e13 : Same H _ := e1.trans (e2.trans e3)
  refine pick_new (hd.same e13) (by omega) hp4 (by simp) (by show 4 ≤ 100000; decide) fun x H1 hx _ k1 d1 => ?_
  have g1 := (hd.same e13).kg k1
  have hw : wrongLk H1 x := by
    simp only [List.mem_cons, List.not_mem_nil, or_false] at hx
    rcases hx with rfl | rfl | rfl | rfl
    · exact .inl rfl
    · exact .inr (.inl ⟨5, rfl⟩)
    · exact .inr (.inr (.inl ⟨p2, _, rfl, g1.t (e3 _ _ upd_same), by decide⟩))
    · exact .inr (.inr (.inr ⟨p3, "a", 1, 1, "read", rfl, g1.t upd_same, by decide +kernel, by decide⟩))
  have k01 : KD S Ld H H1 := (KD.of e13).trans k1
  have F1 := F.kg (hd.kg k01)
  refine ⟨sz2, fun p5 hp5 => ?_⟩
  have e5 := same_upd (o := .lst [x, .non]) hp5
  refine ⟨p1, p5, _, _, rfl, rfl, e5 _ _ (g1.l (e3 _ _ (e2 _ _ upd_same))), upd_same, by rw [sizeLine_eq, List.length_take]; show _ + 2 ≤ _; omega, fun p6 hp6 => ?_⟩
  have e6 := same_upd (o := .lst (xs.take i ++ [x, .non])) hp6
  have F6 := F1.kg (Kg.of (e5.trans e6))
  refine ⟨_, rfl, _, rfl, _, rfl, wa, xs, rfl, SqL.of F6.wa, fun p7 hp7 => ?_⟩
  rw [cut_from]
  have e7 := same_upd (o := .lst (xs.drop i)) hp7
  refine ⟨p6, p7, _, _, rfl, rfl, e7 _ _ upd_same, upd_same, by rw [sizeLine_eq, List.length_append, List.length_take, List.length_drop]; show _ + 2 + _ ≤ _; omega, fun p8 hp8 => ?_⟩
  have e8 := same_upd (o := .lst (xs.take i ++ [x, .non] ++ xs.drop i)) hp8
  have e58 : Same H1 _ := e5.trans (e6.trans (e7.trans e8))
  exact nx p8 x _ upd_same (hw.kg (Kg.of e58)) (k01.trans (KD.of e58)) (d1.same e58)
/-! ### what is refused -/
theorem lam_bad {B : Hp} {i : Nat} {t : XK → TE} {σ : L2.St} {Q : VK} (hT : Tabs TT H) (eB : Kg B H) (hb : ∀ H1 E Q', Kg B H1 → (∀ dd H2, Same H1 H2 → H2 dd = some (.xd [("index", .int (i : Nat))]) → E (.ref CL) (some dd) H2) → t E σ H1 Q')
    (q : ∀ p H1, ExtN H H1 → Tabs TT H1 → H1 p = some (.tup [.str "bad", .int (i : Nat)]) → Q (.ref p) H1) : tLam TT (TTmet CL CP) t σ H Q :=
  ⟨hT, fun H1 e1 T1 => hb H1 _ _ (eB.trans (kgN e1)) fun dd H2 s2 hd => .inl ⟨rfl, dd, _, rfl, hd, fun p hp => q p _ (e1.trans (.of (s2.trans (same_upd hp)))) (T1.ext (s2.trans (same_upd hp))) upd_same⟩⟩
theorem bad_w {B H1 : Hp} {i : Nat} {x : V} {E : XK} (F : LF B C na da wa tv tb ls wl all ws xs m) (hi : i ≤ xs.length) (hw : wrongLk B x) (e1 : Kg B H1) (hE : ∀ dd H2, Same H1 H2 → H2 dd = some (.xd [("index", .int (i : Nat))]) → E (.ref CL) (some dd) H2) :
    BadW CL H1 (xs.take i ++ [x, .non] ++ xs.drop i) E := by
  have F1 := F.kg e1
  refine ⟨xs.take i, x, .non :: xs.drop i, wl.take i, by simp, Paired.take i (Paired.mapP F1.wp fun _ _ => rLk_A), wtOk_sub F.ok (List.take_sublist _ _), hw.kg e1, fun dd H2 s2 hdd => hE dd H2 s2 ?_⟩
  rw [List.length_take, Nat.min_eq_left hi] at hdd
  exact hdd
theorem ck15 {i : Nat} {wr : Addr} {x : V} (F : LF H C na da wa tv tb ls wl all ws xs m) (hi : i ≤ xs.length) (hw : wrongLk H x) (hr : H wr = some (.lst (xs.take i ++ [x, .non] ++ xs.drop i))) (hT : Tabs TT H) (hd : Dr S Ld H n)
    (nx : ∀ fa p H', NG H fa → H' fa = some (.lst [.ref p]) → H' p = some (.tup [.str "bad", .int (i : Nat)]) → Kg H H' → Tabs TT H' → Dr S Ld H' n → D.nx [b0, b1, b2, b3, b4, b5, b6, b7, b8, b9, b10, b11, b12, b13, b14, some (.ref fa), b16, b17, b18, b19, b20, b21, some tv, b23, some (.ref wr), b25, b26] H') :
    lw15 K TT C CL CP D [b0, b1, b2, b3, b4, b5, b6, b7, b8, b9, b10, b11, b12, b13, b14, b15, b16, b17, b18, b19, b20, b21, some tv, b23, some (.ref wr), b25, b26] H := by
  refine lam_bad (i := i) hT (.refl H) (fun H1 E Q' e1 hE => ?_) fun p H1 e1 T1 hp => ⟨sz1, fun fa hfa => ?_⟩
  · have F1 := F.kg e1
    exact ⟨_, rfl, _, rfl, tv, wr, _, tb, ls, five, m, rfl, F1.tbl, F1.G, Nat.le_trans F1.few (by decide), .inl (e1.l hr), fun x hx => (five_ok x hx).1, .inr (bad_w F hi hw e1 hE)⟩
  · have s := same_upd (o := .lst [.ref p]) hfa
    exact nx fa p _ (NG.of (kgN e1) hfa) upd_same (s _ _ hp) ((kgN e1).trans (Kg.of s)) (T1.ext s) ((hd.ext e1).same s)
theorem ck16 {B : Hp} {i : Nat} {fa wr : Addr} {x : V} {ps : List V} (F : LF B C na da wa tv tb ls wl all ws xs m) (hi : i ≤ xs.length) (hw : wrongLk B x) (hr : B wr = some (.lst (xs.take i ++ [x, .non] ++ xs.drop i))) (nf : NG B fa) (eB : Kg B H) (hT : Tabs TT H) (hd : Dr S Ld H n) (hf : H fa = some (.lst ps)) (hps : ps.length ≤ 10)
    (nx : ∀ p H', H' fa = some (.lst (ps ++ [.ref p])) → H' p = some (.tup [.str "bad", .int (i : Nat)]) → (∀ b zs, H b = some (.tup zs) → H' b = some (.tup zs)) → Kg B H' → Tabs TT H' → Dr S Ld H' n → D.nx [b0, b1, b2, b3, b4, b5, b6, b7, b8, b9, b10, b11, b12, b13, b14, some (.ref fa), b16, b17, b18, b19, b20, b21, some tv, b23, some (.ref wr), b25, b26] H') :
    lw16 K TT C CL CP D [b0, b1, b2, b3, b4, b5, b6, b7, b8, b9, b10, b11, b12, b13, b14, some (.ref fa), b16, b17, b18, b19, b20, b21, some tv, b23, some (.ref wr), b25, b26] H := by
  refine ⟨_, rfl, .inl ⟨rfl, _, SqL.of hf⟩, lam_bad (i := i) hT eB (fun H1 E Q' e1 hE => ?_) fun p H1 e1 T1 hp => ?_⟩
  · have F1 := F.kg e1
    exact ⟨_, rfl, _, rfl, tv, wr, _, tb, ls, five, m, rfl, F1.tbl, F1.G, Nat.le_trans F1.few (by decide), .inl (e1.l hr), fun x hx => (five_ok x hx).1, .inr (bad_w F hi hw e1 hE)⟩
  · have hf1 := (kgN e1).l hf
    have npf : p ≠ fa := fun z => by rw [z, hf1] at hp; cases hp
    have d1 := hd.ext e1
    obtain ⟨f1, f2⟩ := d1.nS hf1 fun _ z => nomatch z
    refine ⟨fa, ps, _, rfl, rfl, hf1, by rw [sizeLine_eq]; omega, nx p _ upd_same (by rw [upd_ne npf]; exact hp) (fun b zs hb => ?_) ((eB.trans (kgN e1)).ownG nf) (tabs_upd T1 hf1) (d1.upd f1 f2)⟩
    have nbf : b ≠ fa := fun z => by rw [z, hf] at hb; cases hb
    rw [upd_ne nbf]
    exact (kgN e1).t hb
theorem ck17 {B : Hp} {i : Nat} {fa wr : Addr} {x : V} {ps : List V} (F : LF B C na da wa tv tb ls wl all ws xs m) (hi : i ≤ xs.length) (hw : wrongLk B x) (hr : B wr = some (.lst (xs.take i ++ [x, .non] ++ xs.drop i))) (nf : NG B fa) (eB : Kg B H) (hT : Tabs TT H) (hd : Dr S Ld H n) (hf : H fa = some (.lst ps)) (hps : ps.length ≤ 10)
    (nx : ∀ p H', H' fa = some (.lst (ps ++ [.ref p])) → H' p = some (.tup [.str "bad", .int (i : Nat)]) → (∀ b zs, H b = some (.tup zs) → H' b = some (.tup zs)) → Kg B H' → Tabs TT H' → Dr S Ld H' n → D.nx [b0, b1, b2, b3, b4, b5, b6, b7, b8, b9, b10, b11, b12, b13, b14, some (.ref fa), b16, b17, b18, b19, b20, b21, some tv, b23, some (.ref wr), b25, b26] H') :
    lw17 K TT C CL CP D [b0, b1, b2, b3, b4, b5, b6, b7, b8, b9, b10, b11, b12, b13, b14, some (.ref fa), b16, b17, b18, b19, b20, b21, some tv, b23, some (.ref wr), b25, b26] H := by
  refine ⟨_, rfl, .inl ⟨rfl, _, SqL.of hf⟩, lam_bad (i := i) hT eB (fun H1 E Q' e1 hE => ?_) fun p H1 e1 T1 hp => ?_⟩
  · have F1 := F.kg e1
    exact ⟨_, rfl, _, rfl, tv, .non, wr, _, tb, ls, five, m, rfl, F1.tbl, F1.G, Nat.le_trans F1.few (by decide), .inl (e1.l hr), fun x hx => (five_ok x hx).1, .inr (bad_w F hi hw e1 hE)⟩
  · have hf1 := (kgN e1).l hf
    have npf : p ≠ fa := fun z => by rw [z, hf1] at hp; cases hp
    have d1 := hd.ext e1
    obtain ⟨f1, f2⟩ := d1.nS hf1 fun _ z => nomatch z
    refine ⟨fa, ps, _, rfl, rfl, hf1, by rw [sizeLine_eq]; omega, nx p _ upd_same (by rw [upd_ne npf]; exact hp) (fun b zs hb => ?_) ((eB.trans (kgN e1)).ownG nf) (tabs_upd T1 hf1) (d1.upd f1 f2)⟩
    have nbf : b ≠ fa := fun z => by rw [z, hf] at hb; cases hb
    rw [upd_ne nbf]
    exact (kgN e1).t hb
theorem ck18 {i : Nat} {fa p1 p2 p3 : Addr} (hf : H fa = some (.lst [.ref p1, .ref p2, .ref p3])) (h1 : H p1 = some (.tup [.str "bad", .int (i : Nat)])) (h2 : H p2 = some (.tup [.str "bad", .int (i : Nat)])) (h3 : H p3 = some (.tup [.str "bad", .int (i : Nat)]))
    (nx : ∀ H', Same H H' → D.nx [b0, b1, b2, b3, b4, b5, b6, b7, b8, b9, b10, b11, b12, some (.int (i : Nat)), b14, some (.ref fa), b16, b17, b18, b19, b20, b21, b22, b23, b24, b25, b26] H') :
    lw18 K TT C CL CP D [b0, b1, b2, b3, b4, b5, b6, b7, b8, b9, b10, b11, b12, some (.int (i : Nat)), b14, some (.ref fa), b16, b17, b18, b19, b20, b21, b22, b23, b24, b25, b26] H := by
  refine ⟨_, rfl, _, rfl, sz2, fun q hq => ⟨sz1, fun r hr => ⟨r, 3, _, rfl, rfl, upd_same, by decide, by decide, by show 1 * 3 ≤ sizeLine; rw [sizeLine_eq]; decide, fun z hz => ?_⟩⟩⟩
  have e1 := same_upd (o := .tup [.str "bad", .int (i : Nat)]) hq
  have e2 := same_upd (o := .lst [.ref q]) hr
  have e3 := same_upd (o := .lst (List.replicate (3 : Int).toNat [V.ref q]).flatten) hz
  have e13 : Same H _ := e1.trans (e2.trans e3)
  have bd : ∀ {H' : Hp} {p : Addr}, H' p = some (.tup [.str "bad", .int (i : Nat)]) → Dp K H' (.ref p) (.tuple [.str "bad", .int (i : Nat)]) := fun h => .tup (SqT.of h) (.cons (.str _) (.cons (.int _) .nil))
  have hq3 := e3 _ _ (e2 _ _ (upd_same (H := H) (a := q) (o := .tup [.str "bad", .int (i : Nat)])))
  refine ne_sameD (d := .list [.tuple [.str "bad", .int (i : Nat)], .tuple [.str "bad", .int (i : Nat)], .tuple [.str "bad", .int (i : Nat)]]) (.lst (SqL.of (e13 _ _ hf)) (.cons (bd (e13 _ _ h1)) (.cons (bd (e13 _ _ h2)) (.cons (bd (e13 _ _ h3)) .nil)))) (.lst (SqL.of upd_same) (.cons (bd hq3) (.cons (bd hq3) (.cons (bd hq3) .nil)))) (list_shaped fun d hd => ?_) ⟨_, rfl, iteF (nx _ e13)⟩
  have ed : d = .tuple [.str "bad", .int (i : Nat)] := by simpa using hd
  subst ed
  refine ⟨?_, ?_⟩
  · simp only [PyData.canLay0, PyData.canLayAll0]
    decide +kernel
  · simp [PyData.depth, PyData.depthAll]
end
end WH
set_option Elab.async false
set_option linter.all false
set_option maxRecDepth 100000
set_option maxHeartbeats 4000000
namespace WH
open PySem PySem.Spec PyProof.Rows L2 WM LamX
/-! ### prices that are none -/
def BadV (H : Hp) (y : V) : Prop := y = .int (-1) ∨ y = .non ∨ y = .bl true ∨ y = .str "1" ∨ ∃ t, y = .ref t ∧ H t = some (.tup [.int 1])
theorem BadV.num {K : PySem.W.Frag} {H : Hp} {y : V} (h : BadV H y) : numOk K H y false := by
  rcases h with rfl | rfl | rfl | rfl | ⟨t, rfl, ht⟩
  · exact .inl ⟨-1, rfl, rfl⟩
  · exact .inr ⟨"NoneType", .base .non, ⟨false, by decide +kernel, fun _ => rfl, fun z => nomatch z⟩, rfl⟩
  · exact .inr ⟨"bool", .base (.bl _), ⟨true, by decide +kernel, fun _ => rfl, fun _ => ⟨true, by decide +kernel, rfl⟩⟩, rfl⟩
  · exact .inr ⟨"str", .base (.str _), ⟨false, by decide +kernel, fun _ => rfl, fun z => nomatch z⟩, rfl⟩
  · exact .inr ⟨"tuple", .base (.tup ht), ⟨false, by decide +kernel, fun _ => rfl, fun z => nomatch z⟩, rfl⟩
theorem BadV.kg {H H' : Hp} {y : V} (k : Kg H H') (h : BadV H y) : BadV H' y := by
  rcases h with h | h | h | h | ⟨t, e, ht⟩
  · exact .inl h
  · exact .inr (.inl h)
  · exact .inr (.inr (.inl h))
  · exact .inr (.inr (.inr (.inl h)))
  · exact .inr (.inr (.inr (.inr ⟨t, e, k.t ht⟩)))
/-- a tag: which kind of a dict, what is told -/
abbrev Tg := Option (Bool × Str)
def OddOk (B : Hp) (od : Addr) (H : Hp) (names : List Str) (odd thing : V) (tg : Tg) : Prop :=
  (odd = thing ∧ (odd = .non ∨ odd = .int 5 ∨ odd = .str "ab" ∨ odd = .bl true) ∧ tg = none) ∨
  (∃ a, odd = .ref a ∧ thing = odd ∧ H a = some (.lst []) ∧ a ≠ od ∧ tg = none) ∨
  (∃ (d : Addr) (kvs : List (Key × V)) (i : Nat) (x : Str) (y : V), odd = .ref d ∧ thing = .str x ∧ tg = some (false, x) ∧ NG B d ∧ H d = some (.dK kvs) ∧ (∀ j kv, j < i → kvs[j]? = some kv → GoodKv names kv ∧ valV kvs kv.1 = some kv.2) ∧ kvs[i]? = some (Sum.inr x, y) ∧
    (x ∉ names ∨ (x ∈ names ∧ valV kvs (Sum.inr x) = some y ∧ BadV H y))) ∨
  (∃ (d : Addr) (kvs : List (Key × V)) (i : Nat) (x : Str), odd = .ref d ∧ thing = .str x ∧ tg = some (true, x) ∧ NG B d ∧ H d = some (.dK kvs) ∧ (∀ kv ∈ kvs, GoodKv names kv ∧ valV kvs kv.1 = some kv.2) ∧ names[i]? = some x ∧ valV kvs (Sum.inr x) = none ∧ ∀ j z, j < i → names[j]? = some z → valV kvs (Sum.inr z) ≠ none)
/-- the same with other objects: lists but od, dicts and tuples of one are kept -/
theorem OddOk.keep {B : Hp} {od : Addr} {H H' : Hp} {names : List Str} {odd thing : V} {tg : Tg} (h : OddOk B od H names odd thing tg) (k1 : ∀ a, a ≠ od → H a = some (.lst []) → H' a = some (.lst [])) (k2 : ∀ d kvs, odd = .ref d → H d = some (.dK kvs) → H' d = some (.dK kvs)) (k3 : ∀ a xs, H a = some (.tup xs) → H' a = some (.tup xs)) : OddOk B od H' names odd thing tg := by
  rcases h with h | ⟨a, e1, e2, h, hne⟩ | ⟨d, kvs, i, x, y, e1, e2, e3, ng, h, h1, h2, h3⟩ | ⟨d, kvs, i, x, e1, e2, e3, ng, h, h1⟩
  · exact .inl h
  · exact .inr (.inl ⟨a, e1, e2, k1 a hne.1 h, hne⟩)
  · refine .inr (.inr (.inl ⟨d, kvs, i, x, y, e1, e2, e3, ng, k2 d kvs e1 h, h1, h2, h3.imp id fun ⟨a, b, c⟩ => ⟨a, b, ?_⟩⟩))
    rcases c with c | c | c | c | ⟨t, e1, ht⟩
    · exact .inl c
    · exact .inr (.inl c)
    · exact .inr (.inr (.inl c))
    · exact .inr (.inr (.inr (.inl c)))
    · exact .inr (.inr (.inr (.inr ⟨t, e1, k3 _ _ ht⟩)))
  · exact .inr (.inr (.inr ⟨d, kvs, i, x, e1, e2, e3, ng, k2 d kvs e1 h, h1⟩))
theorem OddOk.kg {B : Hp} {od : Addr} {H H' : Hp} {names : List Str} {odd thing : V} {tg : Tg} (k : Kg H H') (h : OddOk B od H names odd thing tg) : OddOk B od H' names odd thing tg :=
  h.keep (fun _ _ e => k.l e) (fun _ _ _ e => k.d e) fun _ _ e => k.t e
theorem OddOk.fl {B : Hp} {od : Addr} {H : Hp} {zs us : List V} {names : List Str} {odd thing : V} {tg : Tg} (ho : H od = some (.lst zs)) (h : OddOk B od H names odd thing tg) : OddOk B od (upd H od (.lst us)) names odd thing tg := by
  have nl : ∀ {b : Addr} {o : HO}, H b = some o → (∀ l, o ≠ .lst l) → upd H od (.lst us) b = some o := fun {b o} hb n => by
    have e : b ≠ od := fun z => by
      rw [z, ho] at hb
      exact n _ (Option.some.inj hb).symm
    rw [upd_ne e]
    exact hb
  exact h.keep (fun a ne e => by rw [upd_ne ne]; exact e) (fun _ _ _ e => nl e fun _ z => nomatch z) fun _ _ e => nl e fun _ z => nomatch z
theorem OddOk.pb {B : Hp} {od : Addr} {K : PySem.W.Frag} {H : Hp} {names : List Str} {odd thing : V} {tg : Tg} (h : OddOk B od H names odd thing tg) : PB K H odd names thing := by
  rcases h with ⟨rfl, h, _⟩ | ⟨a, rfl, rfl, h, hne⟩ | ⟨d, kvs, i, x, y, rfl, rfl, _, _, h, h1, h2, h3⟩ | ⟨d, kvs, i, x, rfl, rfl, _, _, h, h1, h2, h3, h4⟩
  · rcases h with rfl | rfl | rfl | rfl
    · exact .inl ⟨"NoneType", .base .non, by decide +kernel, rfl⟩
    · exact .inl ⟨"int", .base (.int _), by decide +kernel, rfl⟩
    · exact .inl ⟨"str", .base (.str _), by decide +kernel, rfl⟩
    · exact .inl ⟨"bool", .base (.bl _), by decide +kernel, rfl⟩
  · exact .inl ⟨"list", .base (.lst h), by decide +kernel, rfl⟩
  · refine .inr (.inl ⟨d, kvs, i, x, y, rfl, h, h1, h2, rfl, h3.imp id fun ⟨a, b, c⟩ => ⟨a, b, fun H' e => ?_⟩⟩)
    refine BadV.num ?_
    rcases c with c | c | c | c | ⟨t, e1, ht⟩
    · exact .inl c
    · exact .inr (.inl c)
    · exact .inr (.inr (.inl c))
    · exact .inr (.inr (.inr (.inl c)))
    · exact .inr (.inr (.inr (.inr ⟨t, e1, e _ _ (fun z => by rw [z, h] at ht; cases ht) ht⟩)))
  · exact .inr (.inr ⟨d, kvs, i, x, rfl, h, h1, h2, rfl, h3, h4⟩)
/-- the thing told is the same -/
theorem OddOk.same {B : Hp} {od : Addr} {H H' : Hp} {names : List Str} {odd thing : V} {tg : Tg} (h : OddOk B od H names odd thing tg) (k1 : ∀ a, H a = some (.lst []) → H' a = some (.lst [])) : SameD 1 H' thing thing := by
  rcases h with ⟨rfl, h, _⟩ | ⟨a, rfl, rfl, h, hne⟩ | ⟨d, kvs, i, x, y, rfl, rfl, h⟩ | ⟨d, kvs, i, x, rfl, rfl, h⟩
  · refine .inl ⟨rfl, ?_⟩
    rcases h with rfl | rfl | rfl | rfl
    · exact .inr (.inr (.inr rfl))
    · exact .inr (.inl ⟨_, rfl⟩)
    · exact .inl ⟨_, rfl⟩
    · exact .inr (.inr (.inl ⟨_, rfl⟩))
  · exact .inr ⟨a, a, [], [], rfl, rfl, .inl ⟨k1 a h, k1 a h⟩, .nil, by decide⟩
  · exact .inl ⟨rfl, .inl ⟨x, rfl⟩⟩
  · exact .inl ⟨rfl, .inl ⟨x, rfl⟩⟩
theorem not_good {H : Hp} {names : List Str} {x : Str} {y : V} {P : Prop} (h : x ∉ names ∨ (x ∈ names ∧ P ∧ BadV H y)) : ¬ GoodKv names (Sum.inr x, y) := by
  rintro ⟨z, i, e, hz, hi⟩
  injection e with e1 e2
  injection e1 with e1
  subst e1
  subst e2
  rcases h with h | ⟨_, _, h⟩
  · exact h hz
  · rcases h with h | h | h | h | ⟨t, h, _⟩
    · injection h with h
      omega
    · cases h
    · cases h
    · cases h
    · cases h
/-- what stands at an address tells the tag -/
theorem OddOk.tag {B : Hp} {od d : Addr} {H : Hp} {names : List Str} {t1 t2 : V} {g1 g2 : Tg} (h : OddOk B od H names (.ref d) t1 g1) (h' : OddOk B od H names (.ref d) t2 g2) : g1 = g2 := by
  rcases h with ⟨rfl, h, _⟩ | ⟨a, e1, _, h, _, rfl⟩ | ⟨d1, kvs, i, x, y, e1, _, rfl, _, h, h1, h2, h3⟩ | ⟨d1, kvs, i, x, e1, _, rfl, _, h, h1, h2, h3, h4⟩
  · rcases h with h | h | h | h <;> cases h
  all_goals injection e1 with e1; subst e1
  · rcases h' with ⟨rfl, k, _⟩ | ⟨a, e1, _, k, _, rfl⟩ | ⟨d1, kvs, i, x, y, e1, _, rfl, _, k, _⟩ | ⟨d1, kvs, i, x, e1, _, rfl, _, k, _⟩
    · rcases k with h | h | h | h <;> cases h
    · rfl
    all_goals injection e1 with e1; subst e1; rw [h] at k; cases k
  · rcases h' with ⟨rfl, k, _⟩ | ⟨a, e1, _, k, _, rfl⟩ | ⟨d1, kvs', i', x', y', e1, _, rfl, _, k, k1, k2, k3⟩ | ⟨d1, kvs', i', x', e1, _, rfl, _, k, k1, k2, k3, k4⟩
    · rcases k with h | h | h | h <;> cases h
    all_goals injection e1 with e1; subst e1; rw [h] at k
    · cases k
    · injection k with k
      injection k with k
      subst k
      have : i = i' := by
        rcases Nat.lt_trichotomy i i' with c | c | c
        · exact absurd (k1 i _ c h2).1 (not_good h3)
        · exact c
        · exact absurd (h1 i' _ c k2).1 (not_good k3)
      subst this
      rw [h2] at k2
      injection k2 with k2
      injection k2 with k2
      injection k2 with k2
      rw [k2]
    · injection k with k
      injection k with k
      subst k
      exact absurd (k1 _ (List.mem_of_getElem? h2)).1 (not_good h3)
  · rcases h' with ⟨rfl, k, _⟩ | ⟨a, e1, _, k, _, rfl⟩ | ⟨d1, kvs', i', x', y', e1, _, rfl, _, k, k1, k2, k3⟩ | ⟨d1, kvs', i', x', e1, _, rfl, _, k, k1, k2, k3, k4⟩
    · rcases k with h | h | h | h <;> cases h
    all_goals injection e1 with e1; subst e1; rw [h] at k
    · cases k
    · injection k with k
      injection k with k
      subst k
      exact absurd (h1 _ (List.mem_of_getElem? k2)).1 (not_good k3)
    · injection k with k
      injection k with k
      subst k
      have : i = i' := by
        rcases Nat.lt_trichotomy i i' with c | c | c
        · exact absurd h3 (k4 i x c h2)
        · exact c
        · exact absurd k3 (h4 i' x' c k2)
      subst this
      rw [h2] at k2
      injection k2 with k2
      rw [k2]
def OddT (B : Hp) (od : Addr) (H : Hp) (names : List Str) (v : V) (tg : Tg) : Prop := ∃ a odd thing, v = .ref a ∧ H a = some (.tup [odd, thing]) ∧ OddOk B od H names odd thing tg
theorem OddT.kg {B : Hp} {od : Addr} {H H' : Hp} {names : List Str} {v : V} {tg : Tg} (k : Kg H H') : OddT B od H names v tg → OddT B od H' names v tg := fun ⟨a, o, t, e, h, q⟩ => ⟨a, o, t, e, k.t h, q.kg k⟩
theorem OddT.fl {B : Hp} {od : Addr} {H : Hp} {zs us : List V} {names : List Str} {v : V} {tg : Tg} (ho : H od = some (.lst zs)) : OddT B od H names v tg → OddT B od (upd H od (.lst us)) names v tg := fun ⟨a, o, t, e, h, q⟩ => ⟨a, o, t, e, by
  have ne : a ≠ od := fun z => by rw [z, ho] at h; cases h
  rw [upd_ne ne]
  exact h, q.fl ho⟩
/-- but the dict that was looked at -/
theorem OddT.but {B : Hp} {od : Addr} {H H' : Hp} {names : List Str} {odd0 thing0 v : V} {tg0 tg : Tg} (h0 : OddOk B od H names odd0 thing0 tg0) (hn : tg0 = none ∨ tg0 ≠ tg) (k : ∀ b o, (odd0 = .ref b → ∀ kvs, o ≠ .dK kvs) → H b = some o → H' b = some o) (h : OddT B od H names v tg) : OddT B od H' names v tg := by
  obtain ⟨a, o, t, e, ha, q⟩ := h
  refine ⟨a, o, t, e, k _ _ (fun _ _ z => nomatch z) ha, q.keep (fun a _ e => k _ _ (fun _ _ z => nomatch z) e) (fun d kvs ed hd => ?_) fun a xs e => k _ _ (fun _ _ z => nomatch z) e⟩
  subst ed
  refine k _ _ (fun z _ _ => ?_) hd
  subst z
  rcases hn with hn | hn
  · subst hn
    rcases h0 with ⟨_, h, _⟩ | ⟨a, e1, _, h, _⟩ | ⟨d1, kvs, i, x, y, _, _, e, _⟩ | ⟨d1, kvs, i, x, _, _, e, _⟩
    · rcases h with h | h | h | h <;> cases h
    · injection e1 with e1
      subst e1
      rw [hd] at h
      cases h
    · cases e
    · cases e
  · exact hn (h0.tag q)
/-- a dict of pairs, all keys unlike -/
theorem pairs_dict {K : PySem.W.Frag} {β : Type} {f : β → Key × V} {H : Hp} {p : Addr} {ts : List V} {bs : List β} {Q : VK} (hp : H p = some (.lst ts)) (ht : Paired (rTup (fun b => [kV (f b).1, (f b).2]) H) ts bs) (hn : ((bs.map f).map (·.1)).Nodup)
    (q : ∀ d, H d = none → Q (.ref d) (upd H d (.dK (bs.map f)))) : rDictP K [.ref p] H Q := by
  obtain ⟨as, e1, e2, h⟩ := paired_refs ht
  refine ⟨p, as.map (·.1), as.map (fun z => f z.2), rfl, SqL.of (by rw [hp, e2, List.map_map]; rfl), ?_, fun d hd => ?_⟩
  · clear e1 e2
    induction as with
    | nil => exact .nil
    | cons z as ih => exact .cons (SqT.of (h z List.mem_cons_self)) (ih fun y hy => h y (List.mem_cons_of_mem _ hy))
  · have e3 : as.map (fun z => f z.2) = bs.map f := by rw [← e1, List.map_map]; rfl
    rw [e3, merge_new (by rw [List.nil_append]; exact hn), List.nil_append]
    exact q d hd
theorem keys_nd {l : List Str} {g : Str → V} (h : l.Nodup) : ((l.map fun x => ((Sum.inr x : Key), g x)).map (·.1)).Nodup := by
  rw [List.map_map]
  refine List.Pairwise.map _ (fun a b hab z => hab ?_) h
  injection z
section
variable {K : PySem.W.Frag} {TT : List (Addr × Str)} {C CL CP S Ld : Addr} {D : Ends} {H : Hp} {n : Nat} {b0 b1 b2 b3 b4 b5 b6 b7 b8 b9 b10 b11 b12 b13 b14 b15 b16 b17 b18 b19 b20 b21 b22 b23 b24 b25 b26 : Option V}
variable {na da wa : Addr} {tv : V} {tb : Tb Str} {ls wl : List (Lk Str)} {all : List Str} {ws : Ws} {xs : List V} {m : Nat}
def goodKvs (all : List Str) : List (Key × V) := all.map fun x => (Sum.inr x, .int 1)
/-- the good prices -/
theorem ck19 (F : LF H C na da wa tv tb ls wl all ws xs m)
    (nx : ∀ gd H', H' gd = some (.dK (goodKvs all)) → Same H H' → D.nx [b0, b1, b2, b3, b4, b5, b6, b7, some (.ref na), b9, b10, b11, b12, b13, b14, b15, b16, some (.ref gd), b18, b19, b20, b21, b22, b23, b24, b25, b26] H') :
    lw19 K TT C CL CP D [b0, b1, b2, b3, b4, b5, b6, b7, some (.ref na), b9, b10, b11, b12, b13, b14, b15, b16, b17, b18, b19, b20, b21, b22, b23, b24, b25, b26] H := by
  have hl := F.A.few
  refine ⟨_, rfl, na, rfl, ⟨_, SqL.of F.na⟩, fun D1 hD1 => lc_L (R := rS) (S := rTup (fun x : Str => [kV (Sum.inr x), .int 1])) (as := all) rV_mono rTup_gr (fun x => some x) hD1 (SqL.of F.na) (rV_paired _) (by rw [List.length_map]; omega) (fun i y x hi H2 s2 hy N Z hN hZ => ?_) fun H2 ys s2 hy hyp => ?_⟩
  · rw [show y = V.str x from hy]
    refine ⟨rfl, ty ⟨_, rfl, sz2, fun t ht => hN _ _ _ (same_upd ht) rfl ⟨t, rfl, upd_same⟩⟩⟩
  · rw [filterMap_some, List.map_id'] at hyp
    refine pairs_dict (Q := fun v H' => D.nx [b0, b1, b2, b3, b4, b5, b6, b7, some (.ref na), b9, b10, b11, b12, b13, b14, b15, b16, some v, b18, b19, b20, b21, b22, b23, b24, b25, b26] H') (f := fun x : Str => (Sum.inr x, .int 1)) hy hyp (keys_nd F.nd) fun d hd => nx d _ upd_same (s2.trans (same_upd hd))
/-- the odd ones that are no dicts -/
theorem ck20 
    (nx : ∀ od ys H', H od = none → H' od = some (.lst ys) → (∀ B : Hp, Paired (fun v tg => OddT B od H' all v tg) ys [none, none, none, none, none]) → Same H H' → D.nx [b0, b1, b2, b3, b4, b5, b6, b7, b8, b9, b10, b11, b12, b13, b14, b15, b16, b17, b18, some (.ref od), b20, b21, b22, b23, b24, b25, b26] H') :
    lw20 K TT C CL CP D [b0, b1, b2, b3, b4, b5, b6, b7, b8, b9, b10, b11, b12, b13, b14, b15, b16, b17, b18, b19, b20, b21, b22, b23, b24, b25, b26] H := by
  refine ⟨Nat.zero_le _, fun l hl => ⟨by show 5 ≤ sizeLine; rw [sizeLine_eq]; decide, fun t ht => ?_⟩⟩
  have e1 := same_upd (o := .lst []) hl
  have e2 := same_upd (o := .tup [.non, .int 5, .str "ab", .ref l, .bl true]) ht
  refine ⟨t, rfl, ⟨_, SqT.of upd_same⟩, fun D1 hD1 => lc_T (R := rV (fun v : V => v)) (S := rTup (fun v : V => [v, v])) (as := [.non, .int 5, .str "ab", .ref l, .bl true]) rV_mono rTup_gr (fun v => some v) hD1 (SqT.of upd_same) (rV_paired (g := fun v : V => v) [.non, .int 5, .str "ab", .ref l, .bl true]) (by show 5 ≤ 100000; decide) (fun i y x hi H2 s2 hy N Z hN hZ => ?_) fun H2 ys s2 hy hyp => ?_⟩
  · rw [show y = x from hy]
    refine ⟨rfl, ty ⟨_, rfl, _, rfl, sz2, fun t ht => hN _ _ _ (same_upd ht) rfl ⟨t, rfl, upd_same⟩⟩⟩
  · rw [filterMap_some, List.map_id'] at hyp
    have hl2 : H2 l = some (.lst []) := s2 _ _ (e2 _ _ upd_same)
    refine nx D1 ys _ (Same.none e1 (Same.none e2 hD1)) hy (fun B => ?_) (e1.trans (e2.trans s2))
    have hne : l ≠ D1 := ne_new (e2 _ _ upd_same) hD1
    cases hyp with
    | cons h1 t => cases t with
      | cons h2 t => cases t with
        | cons h3 t => cases t with
          | cons h4 t => cases t with
            | cons h5 t => cases t with
              | nil =>
                obtain ⟨a1, rfl, g1⟩ := h1
                obtain ⟨a2, rfl, g2⟩ := h2
                obtain ⟨a3, rfl, g3⟩ := h3
                obtain ⟨a4, rfl, g4⟩ := h4
                obtain ⟨a5, rfl, g5⟩ := h5
                exact .cons ⟨a1, _, _, rfl, g1, .inl ⟨rfl, .inl rfl, rfl⟩⟩ (.cons ⟨a2, _, _, rfl, g2, .inl ⟨rfl, .inr (.inl rfl), rfl⟩⟩ (.cons ⟨a3, _, _, rfl, g3, .inl ⟨rfl, .inr (.inr (.inl rfl)), rfl⟩⟩
                  (.cons ⟨a4, _, _, rfl, g4, .inr (.inl ⟨l, rfl, rfl, hl2, hne, rfl⟩)⟩ (.cons ⟨a5, _, _, rfl, g5, .inl ⟨rfl, .inr (.inr (.inr rfl)), rfl⟩⟩ .nil))))
end
end WH
set_option Elab.async false
set_option linter.all false
set_option maxRecDepth 100000
set_option maxHeartbeats 4000000
namespace WH
open PySem PySem.Spec PyProof.Rows L2 WM LamX
theorem dec_str (a b : Str) : decide (V.str a = V.str b) = decide (a = b) := by
  by_cases c : a = b
  · rw [decide_eq_true c, decide_eq_true (congrArg V.str c)]
  · rw [decide_eq_false c, decide_eq_false fun e => c (by injection e)]
/-- the list of odd ones grows -/
structure OS (TT : List (Addr × Str)) (S Ld od : Addr) (all : List Str) (B H : Hp) (n : Nat) (ys : List V) (tgs : List Tg) : Prop where
  kg : Kg B H
  ng : NG B od
  lst : H od = some (.lst ys)
  all : Paired (fun v tg => OddT B od H all v tg) ys tgs
  T : Tabs TT H
  d : Dr S Ld H n
section
variable {K : PySem.W.Frag} {TT : List (Addr × Str)} {C CL CP S Ld od : Addr} {D : Ends} {B H H' : Hp} {n : Nat} {b0 b1 b2 b3 b4 b5 b6 b7 b8 b9 b10 b11 b12 b13 b14 b15 b16 b17 b18 b19 b20 b21 b22 b23 b24 b25 b26 : Option V} {ys : List V} {tgs : List Tg}
variable {na da wa : Addr} {tv : V} {tb : Tb Str} {ls wl : List (Lk Str)} {all : List Str} {ws : Ws} {xs : List V} {m : Nat}
theorem OS.same (O : OS TT S Ld od all B H n ys tgs) (s : Same H H') : OS TT S Ld od all B H' n ys tgs :=
  ⟨O.kg.trans (Kg.of s), O.ng, s _ _ O.lst, Paired.mapP O.all fun _ _ h => h.kg (Kg.of s), O.T.ext s, O.d.same s⟩
theorem OS.draw {n' : Nat} (O : OS TT S Ld od all B H n ys tgs) (k : KD S Ld H H') (d : Dr S Ld H' n') : OS TT S Ld od all B H' n' ys tgs :=
  ⟨O.kg.trans (O.d.kg k), O.ng, (O.d.kg k).l O.lst, Paired.mapP O.all fun _ _ h => h.kg (O.d.kg k), tabs_kd O.T O.d k, d⟩
theorem OS.add {zs : List V} {us : List Tg} (O : OS TT S Ld od all B H n ys tgs) (h : Paired (fun v tg => OddT B od H all v tg) zs us) : OS TT S Ld od all B (upd H od (.lst (ys ++ zs))) n (ys ++ zs) (tgs ++ us) := by
  obtain ⟨f1, f2⟩ := O.d.nS O.lst fun _ z => nomatch z
  exact ⟨O.kg.ownG O.ng, O.ng, upd_same, Paired.app (Paired.mapP O.all fun _ _ h => h.fl O.lst) (Paired.mapP h fun _ _ h => h.fl O.lst), tabs_upd O.T O.lst, O.d.upd f1 f2⟩
/-- a name too many -/
theorem odd_never {d : Addr} (hng : NG B d) (hall : ∀ x ∈ all, x ∈ five) (hn : all.Nodup) (h : H d = some (.dK (goodKvs all ++ [(Sum.inr (Str.ofString "never"), .int 1)]))) : OddOk B od H all (.ref d) (.str (Str.ofString "never")) (some (false, Str.ofString "never")) := by
  have hk : ((goodKvs all ++ [((Sum.inr (Str.ofString "never") : Key), V.int 1)]).map (·.1)).Nodup := by
    rw [List.map_append, List.nodup_append]
    refine ⟨keys_nd hn, by simp, fun a ha b hb e => ?_⟩
    have hb' : b = Sum.inr (Str.ofString "never") := by simpa using hb
    unfold goodKvs at ha
    rw [List.map_map] at ha
    obtain ⟨x, hx, rfl⟩ := List.mem_map.1 ha
    rw [hb'] at e
    injection e with e
    exact five_never (e ▸ hall x hx)
  have hl : (goodKvs all).length = all.length := by unfold goodKvs; rw [List.length_map]
  refine .inr (.inr (.inl ⟨d, _, all.length, _, .int 1, rfl, rfl, rfl, hng, h, fun j kv hj hkv => ?_, ?_, .inl fun z => five_never (hall _ z)⟩))
  · have hm := List.mem_of_getElem? hkv
    refine ⟨?_, valV_nd hk hm⟩
    rw [List.getElem?_append_left (by rw [hl]; exact hj)] at hkv
    obtain ⟨x, hx, rfl⟩ := List.mem_map.1 (List.mem_of_getElem? hkv)
    exact ⟨x, 1, rfl, hx, by decide⟩
  · rw [← hl, List.getElem?_append_right (Nat.le_refl _), Nat.sub_self]
    rfl
/-- a name with a wrong price -/
theorem odd_less {d : Addr} {i : Nat} {o : Str} {x : V} (hng : NG B d) (hn : all.Nodup) (hi : all[i]? = some o) (hx : BadV H x) (h : H d = some (.dK (all.map fun z => (Sum.inr z, if z = o then x else .int 1)))) : OddOk B od H all (.ref d) (.str o) (some (false, o)) := by
  have hk : ((all.map fun z => ((Sum.inr z : Key), if z = o then x else V.int 1)).map (·.1)).Nodup := keys_nd hn
  have hil : i < all.length := (List.getElem?_eq_some_iff.mp hi).1
  have hat : (all.map fun z => ((Sum.inr z : Key), if z = o then x else V.int 1))[i]? = some (Sum.inr o, x) := by
    rw [List.getElem?_map, hi]
    show some (Sum.inr o, if o = o then x else V.int 1) = _
    rw [if_pos rfl]
  refine .inr (.inr (.inl ⟨d, _, i, o, x, rfl, rfl, rfl, hng, h, fun j kv hj hkv => ?_, hat, .inr ⟨List.mem_of_getElem? hi, valV_nd hk (List.mem_of_getElem? hat), hx⟩⟩))
  have hm := List.mem_of_getElem? hkv
  refine ⟨?_, valV_nd hk hm⟩
  rw [List.getElem?_map] at hkv
  cases ej : all[j]? with
  | none => rw [ej] at hkv; cases hkv
  | some z =>
    rw [ej] at hkv
    injection hkv with hkv
    subst hkv
    have hz : z ≠ o := fun e => by
      subst e
      have hjl : j < all.length := (List.getElem?_eq_some_iff.mp ej).1
      have := (List.getElem_inj (h₀ := hjl) (h₁ := hil) hn).1 (by rw [(List.getElem?_eq_some_iff.mp ej).2, (List.getElem?_eq_some_iff.mp hi).2])
      omega
    refine ⟨z, 1, ?_, List.mem_of_getElem? ej, by decide⟩
    show (Sum.inr z, if z = o then x else V.int 1) = _
    rw [if_neg hz]
/-- a name too few -/
theorem odd_miss {d : Addr} {i : Nat} {o : Str} (hng : NG B d) (hn : all.Nodup) (hi : all[i]? = some o) (h : H d = some (.dK ((all.filter fun z => !decide (z = o)).map fun z => (Sum.inr z, .int 1)))) : OddOk B od H all (.ref d) (.str o) (some (true, o)) := by
  have hf : (all.filter fun z => !decide (z = o)).Nodup := hn.sublist List.filter_sublist
  have hk : (((all.filter fun z => !decide (z = o)).map fun z => ((Sum.inr z : Key), V.int 1)).map (·.1)).Nodup := keys_nd (g := fun _ => V.int 1) hf
  have hil : i < all.length := (List.getElem?_eq_some_iff.mp hi).1
  have hno : ∀ {l : List Str}, o ∉ l → valV (l.map fun z => ((Sum.inr z : Key), V.int 1)) (Sum.inr o) = none := by
    intro l
    induction l with
    | nil => intro _; rfl
    | cons a l ih =>
      intro ha
      rw [List.mem_cons, not_or] at ha
      rw [List.map_cons, valV_cons, if_neg (fun e => ha.1 (by injection e with e; exact e.symm)), ih ha.2]
  refine .inr (.inr (.inr ⟨d, _, i, o, rfl, rfl, rfl, hng, h, fun kv hkv => ⟨?_, valV_nd hk hkv⟩, hi, hno (by simp), fun j z hj ej e => ?_⟩))
  · obtain ⟨z, hz, rfl⟩ := List.mem_map.1 hkv
    exact ⟨z, 1, rfl, (List.mem_filter.1 hz).1, by decide⟩
  · have hz : z ≠ o := fun e => by
      subst e
      have hjl : j < all.length := (List.getElem?_eq_some_iff.mp ej).1
      have := (List.getElem_inj (h₀ := hjl) (h₁ := hil) hn).1 (by rw [(List.getElem?_eq_some_iff.mp ej).2, (List.getElem?_eq_some_iff.mp hi).2])
      omega
    have hm : ((Sum.inr z : Key), V.int 1) ∈ (all.filter fun z => !decide (z = o)).map fun z => ((Sum.inr z : Key), V.int 1) := List.mem_map.2 ⟨z, List.mem_filter.2 ⟨List.mem_of_getElem? ej, by simp [hz]⟩, rfl⟩
    have := valV_nd hk hm
    rw [this] at e
    cases e
/-- a name too many -/
theorem ck21 {gd : Addr} (F : LF B C na da wa tv tb ls wl all ws xs m) (O : OS TT S Ld od all B H n ys tgs) (hg : H gd = some (.dK (goodKvs all))) (hl : ys.length ≤ 5)
    (nx : ∀ v H', OS TT S Ld od all B H' n (ys ++ [v]) (tgs ++ [some (false, Str.ofString "never")]) → D.nx [b0, b1, b2, b3, b4, b5, b6, b7, b8, b9, b10, b11, b12, b13, b14, b15, b16, some (.ref gd), b18, some (.ref od), b20, b21, b22, b23, b24, b25, b26] H') :
    lw21 K TT C CL CP D [b0, b1, b2, b3, b4, b5, b6, b7, b8, b9, b10, b11, b12, b13, b14, b15, b16, some (.ref gd), b18, some (.ref od), b20, b21, b22, b23, b24, b25, b26] H := by
  have h5 := F.A.few
  have hgl : (goodKvs all).length ≤ 5 := by unfold goodKvs; rw [List.length_map]; exact h5
  refine ⟨_, rfl, .inl ⟨rfl, _, SqL.of O.lst⟩, _, rfl, gd, _, rfl, hg, fun H1 p ts s1 hp hts hpts hlst hpr => ⟨sz2, fun t ht => ⟨sz1, fun q hq => ?_⟩⟩⟩
  have e1 := same_upd (o := .tup [.str "never", .int 1]) ht
  have e2 := same_upd (o := .lst [.ref t]) hq
  refine ⟨p, q, _, _, rfl, rfl, e2 _ _ (e1 _ _ hlst), upd_same, by rw [sizeLine_eq, List.length_map, hpr.length]; show _ + 1 ≤ _; omega, fun r hr => ?_⟩
  have e3 := same_upd (o := .lst (ts.map V.ref ++ [.ref t])) hr
  have e13 := e1.trans (e2.trans e3)
  have s03 : Same H _ := Same.trans s1 e13
  refine ⟨r, ts ++ [t], goodKvs all ++ [(Sum.inr (Str.ofString "never"), .int 1)], rfl, SqL.of (by rw [List.map_append]; exact upd_same), Paired.app (Paired.mapP hpr fun a b h => SqT.of (e13 _ _ h)) (.cons (SqT.of (e3 _ _ (e2 _ _ upd_same))) .nil), fun d hd => ?_⟩
  have hk : ((goodKvs all ++ [((Sum.inr (Str.ofString "never") : Key), V.int 1)]).map (·.1)).Nodup := by
    rw [List.map_append, List.nodup_append]
    refine ⟨keys_nd F.nd, by simp, fun a ha b hb e => ?_⟩
    have hb' : b = Sum.inr (Str.ofString "never") := by simpa using hb
    unfold goodKvs at ha
    rw [List.map_map] at ha
    obtain ⟨x, hx, rfl⟩ := List.mem_map.1 ha
    rw [hb'] at e
    injection e with e
    exact five_never (e ▸ F.all5 x hx)
  rw [merge_new (by rw [List.nil_append]; exact hk), List.nil_append]
  have e4 := same_upd (o := .dK (goodKvs all ++ [(Sum.inr (Str.ofString "never"), .int 1)])) hd
  refine ⟨sz2, fun a ha => ?_⟩
  have e5 := same_upd (o := .tup [.ref d, .str (Str.ofString "never")]) ha
  have O5 := O.same (s03.trans (e4.trans e5))
  refine ⟨od, ys, _, rfl, rfl, O5.lst, by rw [sizeLine_eq]; omega, nx _ _ (O5.add (.cons ⟨a, _, _, rfl, upd_same, odd_never (NG.of (O.kg.trans (Kg.of s03)) hd) F.all5 F.nd (e5 _ _ upd_same)⟩ .nil))⟩
end
end WH
set_option Elab.async false
set_option linter.all false
set_option maxRecDepth 100000
set_option maxHeartbeats 4000000
namespace WH
open PySem PySem.Spec PyProof.Rows L2 WM LamX
theorem paired_mem {α β γ : Type} {F : α → β → Prop} {G : α → γ → Prop} (g : β → γ) : ∀ {l : List α} {m : List β}, Paired F l m → (∀ a b, b ∈ m → F a b → G a (g b)) → Paired G l (m.map g)
  | _, _, .nil, _ => .nil
  | _, _, .cons h t, k => .cons (k _ _ List.mem_cons_self h) (paired_mem g t fun a b hb h => k a b (List.mem_cons_of_mem _ hb) h)
theorem tabs_nd {T : List (Addr × Str)} {H H' : Hp} (t : Tabs T H) (e : ∀ b o, (∀ kvs, o ≠ .dK kvs) → H b = some o → H' b = some o) : Tabs T H' := fun p hp => by
  obtain ⟨ps, h1, h2, h3⟩ := t p hp
  refine ⟨ps, e _ _ (fun _ z => nomatch z) h1, h2, fun pos cv hc => ?_⟩
  obtain ⟨c, e1, e2⟩ := h3 pos cv hc
  exact ⟨c, e1, e _ _ (fun _ z => by unfold CodeO at z; cases z) e2⟩
theorem dr_nd {S Ld : Addr} {H H' : Hp} {n : Nat} (d : Dr S Ld H n) (e : ∀ b o, (∀ kvs, o ≠ .dK kvs) → H b = some o → H' b = some o) : Dr S Ld H' n := by
  obtain ⟨m, hm, h1, h2⟩ := d
  exact ⟨m, hm, e _ _ (fun _ z => by unfold strmO at z; cases z) h1, e _ _ (fun _ z => by unfold intsO at z; cases z) h2⟩
def TgOk (tgs : List Tg) : Prop := tgs.Pairwise fun a b => a = none ∨ a ≠ b
theorem pairs_kvs {K : PySem.W.Frag} {β : Type} (f : β → Key × V) {H : Hp} {p : Addr} {ts : List V} {bs : List β} (hp : H p = some (.lst ts)) (ht : Paired (rTup (fun b => [kV (f b).1, (f b).2]) H) ts bs) (hn : ((bs.map f).map (·.1)).Nodup) :
    ∃ (ps : List Addr) (kvs : List (Key × V)), SqL K H p (ps.map V.ref) ∧ Paired (fun p kv => SqT K H p [kV kv.1, kv.2]) ps kvs ∧ mergeK [] kvs = bs.map f := by
  obtain ⟨as, e1, e2, h⟩ := paired_refs ht
  refine ⟨as.map (·.1), as.map (fun z => f z.2), SqL.of (by rw [hp, e2, List.map_map]; rfl), ?_, ?_⟩
  · clear e1 e2
    induction as with
    | nil => exact .nil
    | cons z as ih => exact .cons (SqT.of (h z List.mem_cons_self)) (ih fun y hy => h y (List.mem_cons_of_mem _ hy))
  · have e3 : as.map (fun z => f z.2) = bs.map f := by rw [← e1, List.map_map]; rfl
    rw [e3, merge_new (by rw [List.nil_append]; exact hn), List.nil_append]
section
variable {K : PySem.W.Frag} {TT : List (Addr × Str)} {C CL CP S Ld od : Addr} {D : Ends} {B H H' : Hp} {n : Nat} {b0 b1 b2 b3 b4 b5 b6 b7 b8 b9 b10 b11 b12 b13 b14 b15 b16 b17 b18 b19 b20 b21 b22 b23 b24 b25 b26 : Option V} {ys : List V} {tgs : List Tg}
variable {na da wa : Addr} {tv : V} {tb : Tb Str} {ls wl : List (Lk Str)} {all : List Str} {ws : Ws} {xs : List V} {m : Nat}
/-- wrong prices, name by name -/
theorem ck22 (F : LF B C na da wa tv tb ls wl all ws xs m) (O : OS TT S Ld od all B H n ys tgs) (hl : ys.length ≤ 10) (hn : n ≤ 500000)
    (nx : ∀ v16 v20 zs n' H', OS TT S Ld od all B H' n' zs (tgs ++ all.map fun x => some (false, x)) → zs.length ≤ 20 → n' ≤ n + 10 → D.nx [b0, some (.ref S), b2, b3, b4, b5, b6, b7, some (.ref na), b9, b10, b11, b12, b13, b14, b15, v16, b17, b18, some (.ref od), v20, b21, b22, b23, b24, b25, b26] H') :
    lw22 K TT C CL CP D [b0, some (.ref S), b2, b3, b4, b5, b6, b7, some (.ref na), b9, b10, b11, b12, b13, b14, b15, b16, b17, b18, some (.ref od), b20, b21, b22, b23, b24, b25, b26] H := by
  have h5 := F.A.few
  refine ⟨_, rfl, na, rfl, ⟨_, SqL.of (F.kg O.kg).na⟩, for_list (K := K) (a := na) (xs := all.map V.str) (fun i σ H2 => ∃ v16 v20 zs n', σ = [b0, some (.ref S), b2, b3, b4, b5, b6, b7, some (.ref na), b9, b10, b11, b12, b13, b14, b15, v16, b17, b18, some (.ref od), v20, b21, b22, b23, b24, b25, b26] ∧ OS TT S Ld od all B H2 n' zs (tgs ++ (all.take i).map fun x => some (false, x)) ∧ zs.length = ys.length + i ∧ n' = n + i)
    ⟨_, _, ys, n, rfl, by rw [List.take_zero, List.map_nil, List.append_nil]; exact O, rfl, rfl⟩ (fun i σ H2 _ ⟨_, _, _, _, _, O2, _⟩ => SqL.of (F.kg O2.kg).na) ?_ ?_⟩
  · rintro i y σ H2 hi ⟨v16, v20, zs, n', rfl, O2, hzl, rfl⟩
    rw [List.getElem?_map] at hi
    cases ei : all[i]? with
    | none => rw [ei] at hi; cases hi
    | some o =>
      rw [ei] at hi
      injection hi with hi
      subst hi
      have hil : i < all.length := (List.getElem?_eq_some_iff.mp ei).1
      refine ⟨_, rfl, 1, rfl, sz1, fun p1 hp1 => ⟨by show 5 ≤ sizeLine; rw [sizeLine_eq]; decide, fun p2 hp2 => ?_⟩⟩
      have e1 := same_upd (o := .tup [.int 1]) hp1
      refine pick_new (O2.d.same e1) (by omega) hp2 (by simp) (by show 5 ≤ 100000; decide) fun x H3 hx _ k3 d3 => ?_
      have g3 := (O2.d.same e1).kg k3
      have O3 := (O2.same e1).draw k3 d3
      have hb : BadV H3 x := by
        simp only [List.mem_cons, List.not_mem_nil, or_false] at hx
        rcases hx with rfl | rfl | rfl | rfl | rfl
        · exact .inl rfl
        · exact .inr (.inl rfl)
        · exact .inr (.inr (.inl rfl))
        · exact .inr (.inr (.inr (.inl rfl)))
        · exact .inr (.inr (.inr (.inr ⟨p1, rfl, g3.t upd_same⟩)))
      have F3 := F.kg O3.kg
      refine ⟨_, rfl, .inl ⟨rfl, _, SqL.of O3.lst⟩, _, rfl, na, rfl, ⟨_, SqL.of F3.na⟩, fun D1 hD1 => lc_L (R := rS) (S := rTup (fun z : Str => [kV (Sum.inr z), if z = o then x else .int 1])) (as := all) rV_mono rTup_gr (fun z => some z) hD1 (SqL.of F3.na) (rV_paired _) (by rw [List.length_map]; omega) (fun j y z hj H4 s4 hy N Z hN hZ => ?_) fun H4 us s4 hu hup => ?_⟩
      · rw [show y = V.str z from hy]
        refine ⟨rfl, ty ⟨_, rfl, _, rfl, _, rfl, rfl, _, rfl, ?_⟩⟩
        rw [dec_str]
        by_cases c : z = o
        · rw [decide_eq_true c]
          exact iteT ⟨_, rfl, sz2, fun t ht => hN _ _ _ (same_upd ht) rfl ⟨t, rfl, by rw [upd_same]; show some (HO.tup [V.str z, x]) = some (HO.tup [V.str z, if z = o then x else .int 1]); rw [if_pos c]⟩⟩
        · rw [decide_eq_false c]
          exact iteF ⟨sz2, fun t ht => hN _ _ _ (same_upd ht) rfl ⟨t, rfl, by rw [upd_same]; show some (HO.tup [V.str z, .int 1]) = some (HO.tup [V.str z, if z = o then x else .int 1]); rw [if_neg c]⟩⟩
      · rw [filterMap_some, List.map_id'] at hup
        obtain ⟨ps, kvs, h1, h2, h3⟩ := pairs_kvs (K := K) (fun z : Str => ((Sum.inr z : Key), if z = o then x else V.int 1)) hu hup (keys_nd F.nd)
        refine ⟨D1, ps, kvs, rfl, h1, h2, fun d hd => ?_⟩
        rw [h3]
        have e4 := same_upd (o := .dK (all.map fun z : Str => ((Sum.inr z : Key), if z = o then x else V.int 1))) hd
        refine ⟨_, rfl, sz2, fun a ha => ?_⟩
        have e5 := same_upd (o := .tup [.ref d, .str o]) ha
        have s45 := e4.trans e5
        have O5 := O3.same (Same.trans s4 s45)
        refine ⟨od, zs, _, rfl, rfl, O5.lst, by rw [sizeLine_eq]; omega, _, _, zs ++ [.ref a], _, rfl, ?_, by rw [List.length_append, hzl]; rfl, rfl⟩
        rw [List.take_add_one, ei, Option.toList_some, List.map_append, ← List.append_assoc]
        exact O5.add (.cons ⟨a, _, _, rfl, upd_same, odd_less (NG.of (O3.kg.trans (Kg.of s4)) hd) F.nd ei (hb.kg (Kg.of (Same.trans s4 s45))) (e5 _ _ upd_same)⟩ .nil)
  · rintro σ H2 ⟨v16, v20, zs, n', rfl, O2, hzl, rfl⟩
    rw [List.length_map] at hzl O2
    rw [List.take_length] at O2
    exact nx _ _ zs _ _ O2 (by omega) (by omega)
/-- the prices of all but one name, with it -/
def rMiss (B : Hp) (all : List Str) : Rep Str := fun H v x => ∃ a d, NG B d ∧ v = .ref a ∧ H a = some (.tup [.ref d, .str x]) ∧ H d = some (.dK ((all.filter fun z => !decide (z = x)).map fun z => (Sum.inr z, .int 1)))
theorem rMiss_gr {B : Hp} {all : List Str} : Gr (rMiss B all) where
  mono := fun H H' v x k ⟨a, d, g, e, h1, h2⟩ => ⟨a, d, g, e, k.t h1, k.d h2⟩
  fl := fun H D xs ys v x hD ⟨a, d, g, e, h1, h2⟩ => ⟨a, d, g, e, by
    have ne : a ≠ D := fun z => by rw [z, hD] at h1; cases h1
    rw [upd_ne ne]; exact h1, by
    have ne : d ≠ D := fun z => by rw [z, hD] at h2; cases h2
    rw [upd_ne ne]; exact h2⟩
/-- names too few -/
theorem ck23 (F : LF B C na da wa tv tb ls wl all ws xs m) (O : OS TT S Ld od all B H n ys tgs) (hl : ys.length ≤ 50)
    (nx : ∀ zs H', OS TT S Ld od all B H' n zs (tgs ++ all.map fun x => some (true, x)) → zs.length ≤ 60 → D.nx [b0, b1, b2, b3, b4, b5, b6, b7, some (.ref na), b9, b10, b11, b12, b13, b14, b15, b16, b17, b18, some (.ref od), b20, b21, b22, b23, b24, b25, b26] H') :
    lw23 K TT C CL CP D [b0, b1, b2, b3, b4, b5, b6, b7, some (.ref na), b9, b10, b11, b12, b13, b14, b15, b16, b17, b18, some (.ref od), b20, b21, b22, b23, b24, b25, b26] H := by
  have h5 := F.A.few
  have F1 := F.kg O.kg
  refine ⟨_, rfl, .inl ⟨rfl, _, SqL.of O.lst⟩, _, rfl, na, rfl, ⟨_, SqL.of F1.na⟩, fun D1 hD1 => lc_L (R := rS) (S := rMiss B all) (as := all) rV_mono rMiss_gr (fun z => some z) hD1 (SqL.of F1.na) (rV_paired _) (by rw [List.length_map]; omega) (fun i y x hi H2 s2 hy N Z hN hZ => ?_) fun H2 us s2 hu hup => ?_⟩
  · rw [show y = V.str x from hy]
    refine ⟨rfl, ty ⟨_, rfl, na, rfl, ⟨_, SqL.of (s2 _ _ F1.na)⟩, fun D2 hD2 => lc_L (R := rS) (S := rTup (fun z : Str => [kV (Sum.inr z), .int 1])) (as := all) rV_mono rTup_gr (fun z => if (!decide (z = x)) = true then some z else none) hD2 (SqL.of (s2 _ _ F1.na)) (rV_paired _) (by rw [List.length_map]; omega) (fun j y z hj H4 s4 hy N2 Z2 hN2 hZ2 => ?_) fun H4 vs s4 hv hvp => ?_⟩⟩
    · rw [show y = V.str z from hy]
      refine ⟨rfl, _, rfl, _, rfl, rfl, _, rfl, ?_⟩
      rw [dec_str]
      by_cases c : (!decide (z = x)) = true
      · rw [c]
        exact iteT ⟨_, rfl, sz2, fun t ht => hN2 _ _ _ (same_upd ht) (if_pos c) ⟨t, rfl, upd_same⟩⟩
      · rw [Bool.not_eq_true] at c
        rw [c]
        exact iteF (hZ2 _ (Same.refl _) (if_neg (by rw [c]; exact Bool.false_ne_true)))
    · rw [filter_fm] at hvp
      obtain ⟨ps, kvs, h1, h2, h3⟩ := pairs_kvs (K := K) (fun z : Str => ((Sum.inr z : Key), V.int 1)) hv hvp (keys_nd (g := fun _ => V.int 1) (F.nd.sublist List.filter_sublist))
      refine ⟨D2, ps, kvs, rfl, h1, h2, fun d hd => ?_⟩
      rw [h3]
      have e4 := same_upd (o := .dK ((all.filter fun z => !decide (z = x)).map fun z : Str => ((Sum.inr z : Key), V.int 1))) hd
      refine ⟨_, rfl, sz2, fun a ha => ?_⟩
      have e5 := same_upd (o := .tup [.ref d, .str x]) ha
      exact hN _ _ _ (Same.trans s4 (e4.trans e5)) rfl ⟨a, d, NG.of (O.kg.trans (Kg.of (Same.trans s2 s4))) hd, rfl, upd_same, e5 _ _ upd_same⟩
  · rw [filterMap_some, List.map_id'] at hup
    have O2 := O.same s2
    have hul : us.length ≤ 5 := by rw [hup.length]; exact h5
    refine ⟨od, D1, ys, us, rfl, rfl, O2.lst, hu, by rw [sizeLine_eq]; omega, nx _ _ (O2.add (paired_mem (fun x => some (true, x)) hup fun v x hx h => ?_)) (by rw [List.length_append]; omega)⟩
    obtain ⟨a, d, g, rfl, h1, h2⟩ := h
    obtain ⟨i, hi⟩ := List.mem_iff_getElem?.1 hx
    exact ⟨a, _, _, rfl, h1, odd_miss g F.nd hi h2⟩
/-- what is no prices is refused -/
theorem ck24 (F : LF B C na da wa tv tb ls wl all ws xs m) (O : OS TT S Ld od all B H n ys tgs) (htg : TgOk tgs) (hl : ys.length ≤ 100)
    (nx : ∀ v18 v21 H', Tabs TT H' → Dr S Ld H' n → D.nx [b0, b1, b2, b3, b4, b5, b6, b7, b8, b9, b10, b11, b12, b13, b14, b15, b16, b17, v18, some (.ref od), b20, v21, some tv, some (.ref wa), b24, b25, b26] H') :
    lw24 K TT C CL CP D [b0, b1, b2, b3, b4, b5, b6, b7, b8, b9, b10, b11, b12, b13, b14, b15, b16, b17, b18, some (.ref od), b20, b21, some tv, some (.ref wa), b24, b25, b26] H := by
  refine ⟨_, rfl, od, rfl, ⟨_, SqL.of O.lst⟩, for_list (K := K) (a := od) (xs := ys) (fun i σ H2 => ∃ v18 v21, σ = [b0, b1, b2, b3, b4, b5, b6, b7, b8, b9, b10, b11, b12, b13, b14, b15, b16, b17, v18, some (.ref od), b20, v21, some tv, some (.ref wa), b24, b25, b26] ∧ Kg B H2 ∧ H2 od = some (.lst ys) ∧ Paired (fun v tg => OddT B od H2 all v tg) (ys.drop i) (tgs.drop i) ∧ Tabs TT H2 ∧ Dr S Ld H2 n)
    ⟨_, _, rfl, O.kg, O.lst, O.all, O.T, O.d⟩ (fun i σ H2 _ ⟨_, _, _, _, h, _⟩ => SqL.of h) ?_ ?_⟩
  · rintro i y σ H2 hi ⟨v18, v21, rfl, k2, o2, a2, T2, d2⟩
    have hil : i < ys.length := (List.getElem?_eq_some_iff.mp hi).1
    have ey : ys.drop i = y :: ys.drop (i + 1) := by
      rw [List.drop_eq_getElem_cons hil, (List.getElem?_eq_some_iff.mp hi).2]
    obtain ⟨tg, rest, et, hy, hrest⟩ : ∃ tg rest, tgs.drop i = tg :: rest ∧ OddT B od H2 all y tg ∧ Paired (fun v tg => OddT B od H2 all v tg) (ys.drop (i + 1)) rest := by
      rw [ey] at a2
      generalize tgs.drop i = l at a2
      cases a2 with
      | cons h t => exact ⟨_, _, rfl, h, t⟩
    have er : tgs.drop (i + 1) = rest := by
      have h := congrArg (List.drop 1) et
      rw [List.drop_drop] at h
      exact h
    obtain ⟨a, odd, thing, rfl, ha, hq⟩ := hy
    refine ⟨a, _, rfl, SqT.of ha, rfl, _, _, rfl, _, _, rfl, rfl, ?_⟩
    refine ⟨T2, fun H3 e3 T3 => ?_⟩
    have g3 := kgN e3
    have k3 := k2.trans g3
    have F3 := F.kg k3
    have hA : Paired (rLkA H3) xs wl := Paired.mapP F3.wp fun _ _ => rLk_A
    have q3 := hq.kg g3
    have d3 := d2.ext e3
    refine ⟨_, rfl, _, rfl, _, rfl, tv, odd, wa, xs, tb, ls, five, m, rfl, F3.tbl, F3.G, Nat.le_trans F3.few (by decide), .inl F3.wa, fun x hx => (five_ok x hx).1, .inl ⟨wl, all, hA, F3.ok, F3.own, F3.A, .inr ⟨thing, q3.pb, fun dd H4 k4 hdd => .inr ⟨rfl, dd, _, rfl, hdd, fun p hp => ?_⟩⟩⟩⟩
    have nd4 : ∀ b o, (∀ kvs, o ≠ .dK kvs) → H3 b = some o → H4 b = some o := fun b o h e => k4 b o (fun _ => h) e
    have kB4 : Kg B H4 := fun b o g hb => k4 b o (fun z kvs eo => ?_) (k3 b o g hb)
    · have e1 := same_upd (o := .tup [.str "prices", thing]) hp
      refine ⟨_, rfl, sz2, fun q hq' => ?_⟩
      have e2 := same_upd (o := .tup [.str "prices", thing]) hq'
      have e12 : Same H4 _ := e1.trans e2
      have hs := q3.same fun a h => e12 _ _ (nd4 _ _ (fun _ z => nomatch z) h)
      refine ⟨_, _, rfl, SameD.up (.inr ⟨p, q, _, _, rfl, rfl, .inr ⟨e2 _ _ upd_same, upd_same⟩, .cons (.inl ⟨rfl, .inl ⟨_, rfl⟩⟩) (.cons hs .nil), by show 2 ≤ 100000; decide⟩), fun H7 s7 => ⟨_, rfl, iteF ?_⟩⟩
      have s47 : Same H4 H7 := Same.trans e12 s7
      refine ⟨_, _, rfl, kB4.trans (Kg.of s47), s47 _ _ (nd4 _ _ (fun _ z => nomatch z) (g3.l o2)), ?_, (tabs_nd T3 nd4).ext s47, (dr_nd d3 nd4).same s47⟩
      rw [er]
      have hpw : ∀ t ∈ rest, tg = none ∨ tg ≠ t := by
        have h1 : (tgs.drop i).Pairwise fun a b => a = none ∨ a ≠ b := htg.sublist (List.drop_sublist _ _)
        rw [et, List.pairwise_cons] at h1
        exact h1.1
      have h2 := paired_mem (G := fun v tg' => OddT B od H7 all v tg') (fun t => t) hrest fun v t ht h => OddT.kg (Kg.of s47) (OddT.but q3 (hpw t ht) k4 (h.kg g3))
      rw [List.map_id'] at h2
      exact h2
    · subst eo
      rcases q3 with ⟨e, h, _⟩ | ⟨a, e1, _, h, _⟩ | ⟨d1, kvs', i', x, y, e1, _, _, ng, _⟩ | ⟨d1, kvs', i', x, e1, _, _, ng, _⟩
      · subst z
        rcases h with h | h | h | h <;> cases h
      · subst z
        injection e1 with e1
        subst e1
        rw [k3 _ _ g hb] at h
        cases h
      · subst z
        injection e1 with e1
        subst e1
        exact ng _ g hb
      · subst z
        injection e1 with e1
        subst e1
        exact ng _ g hb
  · rintro σ H2 ⟨v18, v21, rfl, k2, o2, a2, T2, d2⟩
    exact nx _ _ _ T2 d2
end
end WH
set_option Elab.async false
set_option linter.all false
set_option maxRecDepth 100000
set_option maxHeartbeats 4000000
namespace WH
open PySem PySem.Spec PyProof.Rows L2 WM LamX
theorem seq_intro {t u : TS} {D : Ends} {σ : L2.St} {H : Hp} (h : t { D with nx := u D } σ H) : tSeq t u D σ H := h
def lwBody (K : PySem.W.Frag) (TT : List (Addr × Str)) (C CL CP : Addr) : TS := tSeq (lw1 K TT C CL CP) (tSeq (lw2 K TT C CL CP) (tSeq (lw3 K TT C CL CP) (tSeq (lw4 K TT C CL CP) (tSeq (lw5 K TT C CL CP) (tSeq (lw6 K TT C CL CP) (tSeq (lw7 K TT C CL CP) (tSeq (lw8 K TT C CL CP) (tSeq (lw9 K TT C CL CP) (tSeq (lw10 K TT C CL CP)
  (tSeq (lw11 K TT C CL CP) (tSeq (lw12 K TT C CL CP) (tSeq (lw13 K TT C CL CP) (tSeq (lw14 K TT C CL CP) (tSeq (lw15 K TT C CL CP) (tSeq (lw16 K TT C CL CP) (tSeq (lw17 K TT C CL CP) (tSeq (lw18 K TT C CL CP) (tSeq (lw19 K TT C CL CP) (tSeq (lw20 K TT C CL CP)
  (tSeq (lw21 K TT C CL CP) (tSeq (lw22 K TT C CL CP) (tSeq (lw23 K TT C CL CP) (lw24 K TT C CL CP)))))))))))))))))))))))
theorem tg_ok {all : List Str} (hn : all.Nodup) (h5 : ∀ x ∈ all, x ∈ five) : TgOk ((([none, none, none, none, none] ++ [some (false, Str.ofString "never")]) ++ all.map fun x => some (false, x)) ++ all.map fun x => some (true, x)) := by
  have hm : ∀ b : Bool, (all.map fun x => (some (b, x) : Tg)).Pairwise fun a c => a = none ∨ a ≠ c := fun b => by
    refine List.Pairwise.map _ (fun x y hxy => .inr fun e => hxy ?_) hn
    injection e with e
    injection e with _ e
  unfold TgOk
  rw [List.pairwise_append, List.pairwise_append]
  refine ⟨⟨?_, hm false, fun a ha b hb => ?_⟩, hm true, fun a ha b hb => ?_⟩
  · rw [List.pairwise_append]
    refine ⟨?_, List.pairwise_singleton _ _, fun a ha b hb => .inl ?_⟩
    · have hr : ∀ k : Nat, (List.replicate k (none : Tg)).Pairwise fun a c => a = none ∨ a ≠ c := fun k => List.pairwise_replicate.2 (.inr (.inl rfl))
      exact hr 5
    · simpa using ha
  · rcases List.mem_append.1 ha with ha | ha
    · exact .inl (by simpa using ha)
    · have ea : a = some (false, Str.ofString "never") := by simpa using ha
      obtain ⟨x, hx, rfl⟩ := List.mem_map.1 hb
      refine .inr fun e => five_never ?_
      rw [ea] at e
      injection e with e
      injection e with _ e
      exact e ▸ h5 x hx
  · obtain ⟨x, hx, rfl⟩ := List.mem_map.1 hb
    rcases List.mem_append.1 ha with ha | ha
    · rcases List.mem_append.1 ha with ha | ha
      · exact .inl (by simpa using ha)
      · have ea : a = some (false, Str.ofString "never") := by simpa using ha
        refine .inr fun e => ?_
        rw [ea] at e
        injection e with e
        injection e with e _
        cases e
    · obtain ⟨y, hy, rfl⟩ := List.mem_map.1 ha
      refine .inr fun e => ?_
      injection e with e
      injection e with e _
      cases e
section
variable {K : PySem.W.Frag} {TT : List (Addr × Str)} {C CL CP S Ld : Addr} {D : Ends} {H : Hp} {n : Nat} {b0 b1 b2 b3 b4 b5 b6 b7 b8 b9 b10 b11 b12 b13 b14 b15 b16 b17 b18 b19 b20 b21 b22 b23 b24 b25 b26 : Option V}
theorem lw_turn (hd : Dr S Ld H n) (hn : n ≤ 400000) (hT : Tabs TT H)
    (nx : ∀ (b3 b4 b5 b6 b7 b8 b9 b10 b11 b12 b13 b14 b15 b16 b17 b18 b19 b20 b21 b22 b23 b24 : Option V) H' n', Tabs TT H' → Dr S Ld H' n' → n' ≤ n + 2000 → D.nx [b0, some (.ref S), b2, b3, b4, b5, b6, b7, b8, b9, b10, b11, b12, b13, b14, b15, b16, b17, b18, b19, b20, b21, b22, b23, b24, b25, b26] H') :
    lwBody K TT C CL CP D [b0, some (.ref S), b2, b3, b4, b5, b6, b7, b8, b9, b10, b11, b12, b13, b14, b15, b16, b17, b18, b19, b20, b21, b22, b23, b24, b25, b26] H := by
  refine seq_intro (ck1 (K := K) (TT := TT) (C := C) (CL := CL) (CP := CP) hd (by omega) fun a os H1 n1 ha hne hl hnd h5 k1 hn1 d1 => ?_)
  have T1 := tabs_kd hT hd k1
  refine seq_intro (ck2 (K := K) (TT := TT) (C := C) (CL := CL) (CP := CP) d1 (by omega) ha hne hl fun b ys ls H2 n2 hb hbp hin k2 hn2 d2 => ?_)
  have T2 := tabs_kd T1 d1 k2
  refine seq_intro (ck3 (K := K) (TT := TT) (C := C) (CL := CL) (CP := CP) d2 (by omega) ((d1.kg k2).l ha) hl hnd hb hbp hin fun p zs wl sc H3 n3 hp hpp hwin h0 h1 k3 hn3 d3 => ?_)
  have T3 := tabs_kd T2 d2 k3
  have g3 := d2.kg k3
  refine seq_intro (ck4 (K := K) (TT := TT) (C := C) (CL := CL) (CP := CP) (g3.l hb) (rTup_gr.mono.all g3 hbp) hin hp hpp hwin fun da ws H4 s4 hws hwo => ?_)
  have g4 := Kg.of s4
  refine seq_intro (ck5 (K := K) (TT := TT) (C := C) (CL := CL) (CP := CP) (g4.l (g3.l hb)) (rTup_gr.mono.all (g3.trans g4) hbp) hin (g4.l hp) (rTup_gr.mono.all g4 hpp) hwin fun na all H5 hna hasc hmem s5 => ?_)
  have g5 := Kg.of s5
  refine seq_intro (ck6 (K := K) (TT := TT) (C := C) (CL := CL) (CP := CP) (g5.l (g4.l (g3.l hb))) (rTup_gr.mono.all ((g3.trans g4).trans g5) hbp) hin h5 (g5.l (g4.l hp)) (rTup_gr.mono.all (g4.trans g5) hpp) hwin h0 h1 ((T3.ext s4).ext s5) fun tv wa tb xs H6 ht G hx hxp e6 T6 => ?_)
  have g6 := kgN e6
  have w5 : ∀ l ∈ wl.map (farL sc), l.1 ∈ five := fun l hl => by
    obtain ⟨l', hl', rfl⟩ := List.mem_map.1 hl
    exact h5 _ (hwin.mem l' hl').1
  have F6 : LF H6 C na da wa tv tb (ls.map (farL sc)) (wl.map (farL sc)) all ws xs (2 * ls.length) := by
    have hin10 := hin.few
    have a5 : ∀ x ∈ all, x ∈ five := fun x hx => by
      rcases (hmem x).1 hx with h | h
      · obtain ⟨l, hl, rfl⟩ := List.mem_map.1 h
        exact h5 _ (hin.mem l hl).1
      · obtain ⟨l, hl, rfl⟩ := List.mem_map.1 h
        exact h5 _ (hwin.mem l hl).1
    refine ⟨ht, G, by omega, hx, hxp, ⟨fun l hl => ?_, by rw [far_fst]; exact hwin.nd, by rw [List.length_map]; exact Nat.le_trans hwin.few (by decide)⟩, w5, g6.l hna, ⟨hasc, nodup_len (m := five) (hasc.nodup sLo) a5, fun o => by rw [far_fst, far_fst]; exact hmem o⟩, (hws.kg g5).kg g6, waits_far h0 hwo⟩
    obtain ⟨l', hl', rfl⟩ := List.mem_map.1 hl
    exact ⟨(five_ok _ (h5 _ (hwin.mem l' hl').1)).2, far_wf h0 (hwin.mem l' hl').2.1⟩
  have d6 := (d3.same (s4.trans s5)).ext e6
  generalize ls.map (farL sc) = ls' at *
  generalize wl.map (farL sc) = wl' at *
  refine seq_intro (ck7 (K := K) (TT := TT) (C := C) (CL := CL) (CP := CP) F6 T6 fun H7 e7 T7 => ?_)
  have F7 := F6.kg (kgN e7)
  have d7 := d6.ext e7
  refine seq_intro (ck8 (K := K) (TT := TT) (C := C) (CL := CL) (CP := CP) F7 d7 (by omega) fun d pr sa vs H8 n8 hg hs hsp k8 hn8 d8 => ?_)
  have F8 := F7.kg (d7.kg k8)
  have T8 := tabs_kd T7 d7 k8
  refine seq_intro (ck9 (K := K) (TT := TT) (C := C) (CL := CL) (CP := CP) F8 hg hs hsp fun ca H9 hca s9 => ?_)
  have F9 := F8.kg (Kg.of s9)
  refine seq_intro (ck10 (K := K) (TT := TT) (C := C) (CL := CL) (CP := CP) F9 (s9 _ _ hs) (rSet_mono.all (Kg.of s9) hsp) hca fun q j mm s H10 hf hsj hq s10 => ?_)
  have F10 := F9.kg (Kg.of s10)
  have d10 := d8.same (s9.trans s10)
  have T10 := T8.ext (s9.trans s10)
  refine seq_intro (ck11 (K := K) (TT := TT) (C := C) (CL := CL) (CP := CP) F10 d10 (by omega) (hg.kg (Kg.of (s9.trans s10))) hf hsj hq fun H11 n11 k11 hn11 d11 => ?_)
  have F11 := F10.kg (d10.kg k11)
  have T11 := tabs_kd T10 d10 k11
  refine seq_intro (ck12 (K := K) (TT := TT) (C := C) (CL := CL) (CP := CP) F11 fun v13 v14 H12 s12 => ?_)
  have F12 := F11.kg (Kg.of s12)
  have d12 := d11.same s12
  refine seq_intro (ck13 (K := K) (TT := TT) (C := C) (CL := CL) (CP := CP) F12 d12 (by omega) fun i H13 hi k13 d13 => ?_)
  have F13 := F12.kg (d12.kg k13)
  have T13 := tabs_kd (T11.ext s12) d12 k13
  refine seq_intro (ck14 (K := K) (TT := TT) (C := C) (CL := CL) (CP := CP) F13 d13 (by omega) hi fun wr x H14 hwr hw k14 d14 => ?_)
  have F14 := F13.kg (d13.kg k14)
  have T14 := tabs_kd T13 d13 k14
  refine seq_intro (ck15 (K := K) (TT := TT) (C := C) (CL := CL) (CP := CP) F14 hi hw hwr T14 d14 fun fa p1 H15 nf hf15 hp1 g15 T15 d15 => ?_)
  refine seq_intro (ck16 (K := K) (TT := TT) (C := C) (CL := CL) (CP := CP) F14 hi hw hwr nf g15 T15 d15 hf15 (by show 1 ≤ 10; decide) fun p2 H16 hf16 hp2 kp16 g16 T16 d16 => ?_)
  refine seq_intro (ck17 (K := K) (TT := TT) (C := C) (CL := CL) (CP := CP) F14 hi hw hwr nf g16 T16 d16 hf16 (by show 2 ≤ 10; decide) fun p3 H17 hf17 hp3 kp17 g17 T17 d17 => ?_)
  refine seq_intro (ck18 (K := K) (TT := TT) (C := C) (CL := CL) (CP := CP) hf17 (kp17 _ _ (kp16 _ _ hp1)) (kp17 _ _ hp2) hp3 fun H18 s18 => ?_)
  have F18 := F14.kg (g17.trans (Kg.of s18))
  refine seq_intro (ck19 (K := K) (TT := TT) (C := C) (CL := CL) (CP := CP) F18 fun gd H19 hgd s19 => ?_)
  have F19 := F18.kg (Kg.of s19)
  refine seq_intro (ck20 (K := K) (TT := TT) (C := C) (CL := CL) (CP := CP) (all := all) fun od ys' H20 nod hod hall s20 => ?_)
  have hyl : ys'.length = 5 := (hall H19).length
  have O20 : OS TT S Ld od all H19 H20 _ ys' [none, none, none, none, none] := ⟨Kg.of s20, (fun o g z => by rw [nod] at z; cases z), hod, hall H19, T17.ext (s18.trans (s19.trans s20)), d17.same (s18.trans (s19.trans s20))⟩
  refine seq_intro (ck21 (K := K) (TT := TT) (C := C) (CL := CL) (CP := CP) F19 O20 (s20 _ _ hgd) (by omega) fun v H21 O21 => ?_)
  refine seq_intro (ck22 (K := K) (TT := TT) (C := C) (CL := CL) (CP := CP) F19 O21 (by rw [List.length_append, hyl]; show 6 ≤ 10; decide) (by omega) fun v16 v20 zs22 n22 H22 O22 hz22 hn22 => ?_)
  refine seq_intro (ck23 (K := K) (TT := TT) (C := C) (CL := CL) (CP := CP) F19 O22 (by omega) fun zs23 H23 O23 hz23 => ?_)
  refine ck24 (K := K) (TT := TT) (C := C) (CL := CL) (CP := CP) F19 O23 (tg_ok F19.nd F19.all5) (by omega) fun v18 v21 H24 T24 d24 => ?_
  exact nx _ _ _ _ _ _ _ _ _ _ _ _ _ _ _ _ _ _ _ _ _ _ H24 n22 T24 d24 (by omega)
end
end WH
set_option Elab.async false
set_option linter.all false
set_option maxRecDepth 100000
set_option maxHeartbeats 4000000
namespace WH
open PySem PySem.Spec PyProof.Rows L2 WM LamX
abbrev s_law : Stmt := topS 75
theorem sc_law : FnScope ["_law_script", "_law_stream", "_law_turn", "_law_owners", "_law_locks", "_law_near", "_law_scale", "_law_waits", "_law_names", "_law_prices", "_law_stops", "_law_costs", "_law_due", "_law_at", "_law_fewer", "_law_found", "_law_name", "_law_good", "_law_odd", "_law_odds", "_law_less", "_law_thing", "_law_table", "_law_wants", "_law_wrong", "_law_one", "_law_lock"] ["_law_script"] (defScope s_law) := ⟨rfl, rfl, rfl, by decide +kernel, rfl, by decide +kernel, by decide +kernel⟩
section
variable {P : Program} {w : World} {K : PySem.W.Frag} {mg : Str → Option Value} {base : Heap} {C CL CP fi fl fo lc : Addr} {TT : List (Addr × Str)}
def lamQ : Str := (Str.ofString "law" ++ ".<locals>.") ++ "<lambda>"
def sp_law (TT : List (Addr × Str)) (K : PySem.W.Frag) : Sp := fun vs H Q _ => ∃ (a : Addr) (ns : List Int), vs = [.ref a] ∧ SqL K H a (ns.map V.int) ∧ Tabs TT H ∧ ∀ H', Q (.bl true) H'
theorem ok_law {f : Addr} {fd : FuncData} (D : Df K mg "law" s_law ["_law_script"] f fd) (hcode : fd.code = .ref lc) (T : Bl mg) (L : LTb K mg C fi fl fo) (MF : MetK K mg base CL CP TT lc lamQ)
    (G__law_start : Dn P w K mg base CX0 1 "_law_start" ["_law_script"] (sp_start K)) (G__law_draw : Dn P w K mg base CX0 1 "_law_draw" ["_law_stream", "_law_many"] sp_draw) (G__law_pick : Dn P w K mg base CX0 2 "_law_pick" ["_law_stream", "_law_some"] sp_pick) (G__law_mixed : Dn P w K mg base CX0 2 "_law_mixed" ["_law_stream", "_law_some"] sp_mixed)
    (G__law_lk_spread : Dn P w K mg base CX0 3 "_law_lk_spread" ["_law_stream", "_law_owners"] sp_spread) (G__law_lk_drawn : Dn P w K mg base CX0 4 "_law_lk_drawn" ["_law_stream", "_law_owners", "_law_many"] sp_drawn) (G__law_lk_wants : Dn P w K mg base CX0 4 "_law_lk_wants" ["_law_stream", "_law_owners", "_law_locks"] sp_wants) (G__law_lk_scale : Dn P w K mg base CX0 3 "_law_lk_scale" ["_law_stream"] sp_scale)
    (G__law_lk_waits : Dn P w K mg base CX0 3 "_law_lk_waits" ["_law_locks", "_law_wants"] sp_lkwaits) (G__law_each_once : Dn P w K mg base CX0 1 "_law_each_once" ["_law_things"] (sp_once K)) (G__law_lk_far : Dn P w K mg base CX0 1 "_law_lk_far" ["_law_locks", "_law_scale"] (sp_far K)) (G_init : Dq P w K mg base 6 fi ["self", "locks"] (sp_init TT C))
    (G__law_sets_right : Dn P w K mg base CX0 10 "_law_sets_right" ["_law_table", "_law_wants", "_law_names", "_law_waits"] (sp_sets_right TT C)) (G__law_x_prices : Dn P w K mg base CX0 3 "_law_x_prices" ["_law_stream", "_law_names"] sp_x_prices) (G__law_x_cost : Dn P w K mg base CX0 1 "_law_x_cost" ["_law_names", "_law_prices"] (sp_x_cost K)) (G__law_same : Dn P w K mg base CX0 5 "_law_same" ["_law_found", "_law_due"] (sp_same 3))
    (G__law_loose : Dn P w K mg base CX0 4 "_law_loose" ["_law_stream", "_law_thing"] sp_looseC) (G_least_rings : Dn P w K mg base (L2.CX P w) 7 "least_rings" ["table", "wants"] (sp_least_rings C CL)) (G_least_stops : Dn P w K mg base (L2.CX P w) 8 "least_stops" ["table", "wants"] (sp_least_stops C CL))
    (G_cheapest_stops : Dn P w K mg base (L2.CX P w) 9 "cheapest_stops" ["table", "wants", "prices"] (sp_cheapest K C CL CP)) : FnOk P w K mg base CX0 12 f fd ["_law_script"] (sp_law TT K) := (by
  refine Fun.okC D.fn hcode sc_law (fun vs H Q E h => ?_) (fun A outer s H vs Q E hr h => ?_)
  · obtain ⟨a, ns, rfl, _⟩ := h
    rfl
  · obtain ⟨a, ns, rfl, hsq, hT, q⟩ := h
    refine ⟨_, (pss_cons (ps_set (i := 1) sc_law.nd rfl (Or.inl rfl) (pe_cl G__law_start (hr.mono (by decide)) (pa_cons (pv 0) pa_nil)))
      (pss_cons (ps_for PassesOwn.never rfl (pi_range1 (by rfl) T.b_range (pa_cons (pe_int) pa_nil)) (pg_name (i := 2) sc_law.nd rfl (Or.inl rfl))
        (pss_cons (ps_set (i := 3) sc_law.nd rfl (Or.inl rfl) (pe_slice (slL K) (pe_cl G__law_mixed (hr.mono (by decide)) (pa_cons (pv 1) (pa_cons (pe_lst (pa_cons (pe_str) (pa_cons (pe_str) (pa_cons (pe_str) (pa_cons (pe_str) (pa_cons (pe_str) pa_nil)))))) pa_nil))) po_none (po_some (pe_op op_add (pe_int) (pe_cl G__law_draw (hr.mono (by decide)) (pa_cons (pv 1) (pa_cons (pe_int) pa_nil)))))))
        (pss_cons (ps_set (i := 4) sc_law.nd rfl (Or.inl rfl) (pe_ifExp (pt_cmpR op_gt (pe_cl G__law_draw (hr.mono (by decide)) (pa_cons (pv 1) (pa_cons (pe_int) pa_nil))) (pe_int) (nomark _)) (pe_cl G__law_lk_spread (hr.mono (by decide)) (pa_cons (pv 1) (pa_cons (pv 3) pa_nil))) (pe_cl G__law_lk_drawn (hr.mono (by decide)) (pa_cons (pv 1) (pa_cons (pv 3) (pa_cons (pe_int) pa_nil))))))
        (pss_cons (ps_par (i := 5) (j := 6) rfl sc_law.nd rfl rfl (by decide) rfl rfl (pa_cons (pe_cl G__law_lk_wants (hr.mono (by decide)) (pa_cons (pv 1) (pa_cons (pv 3) (pa_cons (pv 4) pa_nil)))) (pa_cons (pe_cl G__law_lk_scale (hr.mono (by decide)) (pa_cons (pv 1) pa_nil)) pa_nil)) rfl)
        (pss_cons (ps_set (i := 7) sc_law.nd rfl (Or.inl rfl) (pe_cl G__law_lk_waits (hr.mono (by decide)) (pa_cons (pv 4) (pa_cons (pv 5) pa_nil))))
        (pss_cons (ps_set (i := 8) sc_law.nd rfl (Or.inr rfl) (pe_callB (sortS K) (by rfl) T.b_sorted (by decide +kernel) (pa_cons (pe_cl G__law_each_once (hr.mono (by decide)) (pa_cons (pe_lc (own := [("_law_lock", 26)]) rfl sc_law.nd (pil K (pe_op op_cat (pv 4) (pv 5))) (blkOk_by (N := ["_law_script", "_law_stream", "_law_turn", "_law_owners", "_law_locks", "_law_near", "_law_scale", "_law_waits", "_law_names", "_law_prices", "_law_stops", "_law_costs", "_law_due", "_law_at", "_law_fewer", "_law_found", "_law_name", "_law_good", "_law_odd", "_law_odds", "_law_less", "_law_thing", "_law_table", "_law_wants", "_law_wrong", "_law_one", "_law_lock"]) (sc := defScope s_law) (by decide +kernel)) (fun _ _ _ _ _ => pg_name (i := 26) sc_law.nd rfl (Or.inl rfl)) (fun _ _ _ _ _ => pts_nil) (fun _ _ _ _ _ => pe_ix (ixT K) (pv 26) (pe_int) (fun _ _ => rfl))) pa_nil)) pa_nil)))
        (pss_cons (ps_asg (pe_tup (pa_cons (pe_mkLT G_init L (hr.mono (by decide)) (pa_cons (pe_cl G__law_lk_far (hr.mono (by decide)) (pa_cons (pv 4) (pa_cons (pv 6) pa_nil))) pa_nil)) (pa_cons (pe_cl G__law_lk_far (hr.mono (by decide)) (pa_cons (pv 5) (pa_cons (pv 6) pa_nil))) pa_nil))) (tupG K (n := 2) rfl (pgs_cons (pg_name (i := 22) sc_law.nd rfl (Or.inr rfl)) (pgs_cons (pg_name (i := 23) sc_law.nd rfl (Or.inr rfl)) pgs_nil))))
        (pss_cons (ps_if (pt_not (pt_val (pe_cl G__law_sets_right (hr.mono (by decide)) (pa_cons (pv 22) (pa_cons (pv 23) (pa_cons (pv 8) (pa_cons (pv 7) pa_nil))))))) (pss_one (ps_ret (pe_bl))) pss_nil)
        (pss_cons (ps_asg (pe_tup (pa_cons (pe_cl G__law_x_prices (hr.mono (by decide)) (pa_cons (pv 1) (pa_cons (pv 8) pa_nil))) (pa_cons (pe_cl0 G_least_stops (hr.mono (by decide)) (pa_cons (pv 22) (pa_cons (pv 23) pa_nil))) pa_nil))) (tupG K (n := 2) rfl (pgs_cons (pg_name (i := 9) sc_law.nd rfl (Or.inr rfl)) (pgs_cons (pg_name (i := 10) sc_law.nd rfl (Or.inl rfl)) pgs_nil))))
        (pss_cons (ps_setLc (i := 11) (own := [("_law_one", 25)]) rfl sc_law.nd rfl rfl (sw_true rfl rfl rfl (by decide +kernel)) (pil K (pv 10)) (blkOk_by (N := ["_law_script", "_law_stream", "_law_turn", "_law_owners", "_law_locks", "_law_near", "_law_scale", "_law_waits", "_law_names", "_law_prices", "_law_stops", "_law_costs", "_law_due", "_law_at", "_law_fewer", "_law_found", "_law_name", "_law_good", "_law_odd", "_law_odds", "_law_less", "_law_thing", "_law_table", "_law_wants", "_law_wrong", "_law_one", "_law_lock"]) (sc := defScope s_law) (by decide +kernel)) (fun _ _ _ _ _ => pg_name (i := 25) sc_law.nd rfl (Or.inl rfl)) (fun _ _ _ _ _ => pts_nil) (fun _ _ _ _ _ => pe_cl G__law_x_cost (hr.mono (by decide)) (pa_cons (pv 25) (pa_cons (pv 9) pa_nil))))
        (pss_cons (ps_set (i := 12) sc_law.nd rfl (Or.inl rfl) (pe_callTy (listOf K) (by rfl) T.b_list (by decide +kernel) (pa_cons (pe_ix (ixL K) (pv 10) (bmK K PySem.F.plainAttrs_list PySem.F.slot_list_index PySem.F.type_list_index mt_index (pv 11) (pa_cons (pe_callB (minK K) (by rfl) T.b_min (by decide +kernel) (pa_cons (pv 11) pa_nil)) pa_nil)) (fun _ _ => rfl)) pa_nil)))
        (pss_cons (ps_if (pt_not (pt_val (pe_cl G__law_same (hr.mono (by decide)) (pa_cons (pe_cl0 G_cheapest_stops (hr.mono (by decide)) (pa_cons (pv 22) (pa_cons (pe_cl G__law_loose (hr.mono (by decide)) (pa_cons (pv 1) (pa_cons (pv 23) pa_nil))) (pa_cons (pv 9) pa_nil)))) (pa_cons (pv 12) pa_nil))))) (pss_one (ps_ret (pe_bl))) pss_nil)
        (pss_cons (ps_for PassesOwn.never rfl (pi_range1 (by rfl) T.b_range (pa_cons (pe_callB (lenA K) (by rfl) T.b_len (by decide +kernel) (pa_cons (pv 23) pa_nil)) pa_nil)) (pg_name (i := 13) sc_law.nd rfl (Or.inr rfl))
          (pss_cons (ps_set (i := 14) sc_law.nd rfl (Or.inl rfl) (pe_cl0 G_least_rings (hr.mono (by decide)) (pa_cons (pv 22) (pa_cons (pe_op op_cat (pe_slice (slL K) (pv 23) po_none (po_some (pv 13))) (pe_slice (slL K) (pv 23) (po_some (pe_op op_add (pv 13) (pe_int))) po_none)) pa_nil))))
          (pss_one (ps_if (pt_cmpR (neD K hr.units) (pe_lc (own := [("_law_one", 25)]) rfl sc_law.nd (pil K (pe_cl0 G_least_rings (hr.mono (by decide)) (pa_cons (pv 22) (pa_cons (pv 23) pa_nil)))) (blkOk_by (N := ["_law_script", "_law_stream", "_law_turn", "_law_owners", "_law_locks", "_law_near", "_law_scale", "_law_waits", "_law_names", "_law_prices", "_law_stops", "_law_costs", "_law_due", "_law_at", "_law_fewer", "_law_found", "_law_name", "_law_good", "_law_odd", "_law_odds", "_law_less", "_law_thing", "_law_table", "_law_wants", "_law_wrong", "_law_one", "_law_lock"]) (sc := defScope s_law) (by decide +kernel)) (fun _ _ _ _ _ => pg_name (i := 25) sc_law.nd rfl (Or.inl rfl)) (fun _ _ _ _ _ => pts_one (pt_cmpR (ninSq K) (pe_ix (ixT K) (pe_ix (ixL K) (pv 23) (pv 13) (fun _ _ => rfl)) (pe_int) (fun _ _ => rfl)) (pv 25) rfl)) (fun _ _ _ _ _ => pv 25)) (pe_lc (own := [("_law_one", 25)]) rfl sc_law.nd (pil K (pv 14)) (blkOk_by (N := ["_law_script", "_law_stream", "_law_turn", "_law_owners", "_law_locks", "_law_near", "_law_scale", "_law_waits", "_law_names", "_law_prices", "_law_stops", "_law_costs", "_law_due", "_law_at", "_law_fewer", "_law_found", "_law_name", "_law_good", "_law_odd", "_law_odds", "_law_less", "_law_thing", "_law_table", "_law_wants", "_law_wrong", "_law_one", "_law_lock"]) (sc := defScope s_law) (by decide +kernel)) (fun _ _ _ _ _ => pg_name (i := 25) sc_law.nd rfl (Or.inl rfl)) (fun _ _ _ _ _ => pts_one (pt_cmpR (ninSq K) (pe_ix (ixT K) (pe_ix (ixL K) (pv 23) (pv 13) (fun _ _ => rfl)) (pe_int) (fun _ _ => rfl)) (pv 25) rfl)) (fun _ _ _ _ _ => pv 25)) (nomark _)) (pss_one (ps_ret (pe_bl))) pss_nil))))
        (pss_cons (ps_set (i := 13) sc_law.nd rfl (Or.inr rfl) (pe_cl G__law_draw (hr.mono (by decide)) (pa_cons (pv 1) (pa_cons (pe_op op_add (pe_callB (lenA K) (by rfl) T.b_len (by decide +kernel) (pa_cons (pv 23) pa_nil)) (pe_int)) pa_nil))))
        (pss_cons (ps_set (i := 24) sc_law.nd rfl (Or.inr rfl) (pe_op op_cat (pe_op op_cat (pe_slice (slL K) (pv 23) po_none (po_some (pv 13))) (pe_lst (pa_cons (pe_cl G__law_pick (hr.mono (by decide)) (pa_cons (pv 1) (pa_cons (pe_lst (pa_cons (pe_non) (pa_cons (pe_int) (pa_cons (pe_tup (pa_cons (pe_str) (pa_cons (pe_int) (pa_cons (pe_int) pa_nil)))) (pa_cons (pe_tup (pa_cons (pe_str) (pa_cons (pe_int) (pa_cons (pe_int) (pa_cons (pe_str) pa_nil))))) pa_nil))))) pa_nil))) (pa_cons (pe_non) pa_nil)))) (pe_slice (slL K) (pv 23) (po_some (pv 13)) po_none)))
        (pss_cons (ps_set (i := 15) sc_law.nd rfl (Or.inl rfl) (pe_lst (pa_cons (pe_met (k := 9) MF rfl (hr.mono (by decide)) (lamS_by (sc := defScope s_law) (by decide +kernel)) (fun A outer s H E f c hr2 => pe_clX (E := E) G_least_rings (hr2.mono (by decide)) (takes_of rfl rfl rfl rfl) (fun _ _ _ _ h => h) (pa_cons (pv 22) (pa_cons (pv 24) pa_nil)))) pa_nil)))
        (pss_cons (ps_expr (bmK K PySem.F.plainAttrs_list PySem.F.slot_list_append PySem.F.type_list_append mt_append (pv 15) (pa_cons (pe_met (k := 9) MF rfl (hr.mono (by decide)) (lamS_by (sc := defScope s_law) (by decide +kernel)) (fun A outer s H E f c hr2 => pe_clX (E := E) G_least_stops (hr2.mono (by decide)) (takes_of rfl rfl rfl rfl) (fun _ _ _ _ h => h) (pa_cons (pv 22) (pa_cons (pv 24) pa_nil)))) pa_nil)))
        (pss_cons (ps_expr (bmK K PySem.F.plainAttrs_list PySem.F.slot_list_append PySem.F.type_list_append mt_append (pv 15) (pa_cons (pe_met (k := 9) MF rfl (hr.mono (by decide)) (lamS_by (sc := defScope s_law) (by decide +kernel)) (fun A outer s H E f c hr2 => pe_clX (E := E) G_cheapest_stops (hr2.mono (by decide)) (takes_of rfl rfl rfl rfl) (fun _ _ _ _ h => h) (pa_cons (pv 22) (pa_cons (pv 24) (pa_cons pe_non pa_nil))))) pa_nil)))
        (pss_cons (ps_if (pt_cmpR (neD K hr.units) (pv 15) (pe_op op_rep (pe_lst (pa_cons (pe_tup (pa_cons (pe_str) (pa_cons (pv 13) pa_nil))) pa_nil)) (pe_int)) (nomark _)) (pss_one (ps_ret (pe_bl))) pss_nil)
        (pss_cons (ps_set (i := 17) sc_law.nd rfl (Or.inl rfl) (pe_callTy (dictP K) (by rfl) T.b_dict (by decide +kernel) (pa_cons (pe_lc (own := [("_law_name", 16)]) rfl sc_law.nd (pil K (pv 8)) (blkOk_by (N := ["_law_script", "_law_stream", "_law_turn", "_law_owners", "_law_locks", "_law_near", "_law_scale", "_law_waits", "_law_names", "_law_prices", "_law_stops", "_law_costs", "_law_due", "_law_at", "_law_fewer", "_law_found", "_law_name", "_law_good", "_law_odd", "_law_odds", "_law_less", "_law_thing", "_law_table", "_law_wants", "_law_wrong", "_law_one", "_law_lock"]) (sc := defScope s_law) (by decide +kernel)) (fun _ _ _ _ _ => pg_name (i := 16) sc_law.nd rfl (Or.inl rfl)) (fun _ _ _ _ _ => pts_nil) (fun _ _ _ _ _ => pe_tup (pa_cons (pv 16) (pa_cons (pe_int) pa_nil)))) pa_nil)))
        (pss_cons (ps_setLc (i := 19) (own := [("_law_odd", 18)]) rfl sc_law.nd rfl rfl (sw_true rfl rfl rfl (by decide +kernel)) (pit K (pe_tup (pa_cons (pe_non) (pa_cons (pe_int) (pa_cons (pe_str) (pa_cons (pe_lst pa_nil) (pa_cons (pe_bl) pa_nil))))))) (blkOk_by (N := ["_law_script", "_law_stream", "_law_turn", "_law_owners", "_law_locks", "_law_near", "_law_scale", "_law_waits", "_law_names", "_law_prices", "_law_stops", "_law_costs", "_law_due", "_law_at", "_law_fewer", "_law_found", "_law_name", "_law_good", "_law_odd", "_law_odds", "_law_less", "_law_thing", "_law_table", "_law_wants", "_law_wrong", "_law_one", "_law_lock"]) (sc := defScope s_law) (by decide +kernel)) (fun _ _ _ _ _ => pg_name (i := 18) sc_law.nd rfl (Or.inl rfl)) (fun _ _ _ _ _ => pts_nil) (fun _ _ _ _ _ => pe_tup (pa_cons (pv 18) (pa_cons (pv 18) pa_nil))))
        (pss_cons (ps_expr (bmK K PySem.F.plainAttrs_list PySem.F.slot_list_append PySem.F.type_list_append mt_append (pv 19) (pa_cons (pe_tup (pa_cons (pe_callTy (dictP K) (by rfl) T.b_dict (by decide +kernel) (pa_cons (pe_op op_cat (LiI.pe_listItems rfl (pv 17) (by rfl) T.b_list (by decide +kernel)) (pe_lst (pa_cons (pe_tup (pa_cons (pe_str) (pa_cons (pe_int) pa_nil))) pa_nil))) pa_nil)) (pa_cons (pe_str) pa_nil))) pa_nil)))
        (pss_cons (ps_for PassesOwn.never rfl (pil K (pv 8)) (pg_name (i := 16) sc_law.nd rfl (Or.inr rfl))
          (pss_cons (ps_set (i := 20) sc_law.nd rfl (Or.inr rfl) (pe_cl G__law_pick (hr.mono (by decide)) (pa_cons (pv 1) (pa_cons (pe_lst (pa_cons (pe_un un_neg (pe_int)) (pa_cons (pe_non) (pa_cons (pe_bl) (pa_cons (pe_str) (pa_cons (pe_tup (pa_cons (pe_int) pa_nil)) pa_nil)))))) pa_nil))))
          (pss_one (ps_expr (bmK K PySem.F.plainAttrs_list PySem.F.slot_list_append PySem.F.type_list_append mt_append (pv 19) (pa_cons (pe_tup (pa_cons (pe_callTy (dictP K) (by rfl) T.b_dict (by decide +kernel) (pa_cons (pe_lc (own := [("_law_one", 25)]) rfl sc_law.nd (pil K (pv 8)) (blkOk_by (N := ["_law_script", "_law_stream", "_law_turn", "_law_owners", "_law_locks", "_law_near", "_law_scale", "_law_waits", "_law_names", "_law_prices", "_law_stops", "_law_costs", "_law_due", "_law_at", "_law_fewer", "_law_found", "_law_name", "_law_good", "_law_odd", "_law_odds", "_law_less", "_law_thing", "_law_table", "_law_wants", "_law_wrong", "_law_one", "_law_lock"]) (sc := defScope s_law) (by decide +kernel)) (fun _ _ _ _ _ => pg_name (i := 25) sc_law.nd rfl (Or.inl rfl)) (fun _ _ _ _ _ => pts_nil) (fun _ _ _ _ _ => pe_tup (pa_cons (pv 25) (pa_cons (pe_ifExp (pt_cmpR op_eq (pv 25) (pv 16) (nomark _)) (pv 20) (pe_int)) pa_nil)))) pa_nil)) (pa_cons (pv 16) pa_nil))) pa_nil))))))
        (pss_cons (ps_expr (bmK K PySem.F.plainAttrs_list PySem.F.slot_list_extend PySem.F.type_list_extend mt_extend (pv 19) (pa_cons (pe_lc (own := [("_law_name", 16)]) rfl sc_law.nd (pil K (pv 8)) (blkOk_by (N := ["_law_script", "_law_stream", "_law_turn", "_law_owners", "_law_locks", "_law_near", "_law_scale", "_law_waits", "_law_names", "_law_prices", "_law_stops", "_law_costs", "_law_due", "_law_at", "_law_fewer", "_law_found", "_law_name", "_law_good", "_law_odd", "_law_odds", "_law_less", "_law_thing", "_law_table", "_law_wants", "_law_wrong", "_law_one", "_law_lock"]) (sc := defScope s_law) (by decide +kernel)) (fun _ _ _ _ _ => pg_name (i := 16) sc_law.nd rfl (Or.inr rfl)) (fun _ _ _ _ _ => pts_nil) (fun _ _ _ _ _ => pe_tup (pa_cons (pe_callTy (dictP K) (by rfl) T.b_dict (by decide +kernel) (pa_cons (pe_lc (own := [("_law_one", 25)]) rfl sc_law.nd (pil K (pv 8)) (blkOk_by (N := ["_law_script", "_law_stream", "_law_turn", "_law_owners", "_law_locks", "_law_near", "_law_scale", "_law_waits", "_law_names", "_law_prices", "_law_stops", "_law_costs", "_law_due", "_law_at", "_law_fewer", "_law_found", "_law_name", "_law_good", "_law_odd", "_law_odds", "_law_less", "_law_thing", "_law_table", "_law_wants", "_law_wrong", "_law_one", "_law_lock"]) (sc := { kind := .function, names := [(".0", .local), ("_law_name", .cell), ("dict", .globalImplicit), ("_law_names", .cell)], isGenerator := false, isCoroutine := false }) (by decide +kernel)) (fun _ _ _ _ _ => pg_name (i := 25) sc_law.nd rfl (Or.inl rfl)) (fun _ _ _ _ _ => pts_one (pt_cmpR op_ne (pv 25) (pv 16) (nomark _))) (fun _ _ _ _ _ => pe_tup (pa_cons (pv 25) (pa_cons (pe_int) pa_nil)))) pa_nil)) (pa_cons (pv 16) pa_nil)))) pa_nil)))
        (pss_one (ps_for PassesOwn.never rfl (pil K (pv 19)) (tupG K (n := 2) rfl (pgs_cons (pg_name (i := 18) sc_law.nd rfl (Or.inr rfl)) (pgs_cons (pg_name (i := 21) sc_law.nd rfl (Or.inl rfl)) pgs_nil)))
          (pss_one (ps_if (pt_not (pt_val (pe_cl G__law_same (hr.mono (by decide)) (pa_cons (pe_met (k := 9) MF rfl (hr.mono (by decide)) (lamS_by (sc := defScope s_law) (by decide +kernel)) (fun A outer s H E f c hr2 => pe_clX (E := E) G_cheapest_stops (hr2.mono (by decide)) (takes_of rfl rfl rfl rfl) (fun _ _ _ _ h => h) (pa_cons (pv 22) (pa_cons (pv 23) (pa_cons (pv 18) pa_nil))))) (pa_cons (pe_tup (pa_cons (pe_str) (pa_cons (pv 21) pa_nil))) pa_nil))))) (pss_one (ps_ret (pe_bl))) pss_nil))))))))))))))))))))))))))))
      (pss_one (ps_ret (pe_bl))))), ?_⟩
    refine ⟨_, rfl, a, ns, rfl, hsq, fun S Ld H1 hS hL s1 d1 => ?_⟩
    refine ⟨4, rfl, by decide, by decide, for_range (lo := 0) (n := 4) (fun i σ H2 => ∃ b0 b2 b3 b4 b5 b6 b7 b8 b9 b10 b11 b12 b13 b14 b15 b16 b17 b18 b19 b20 b21 b22 b23 b24 b25 b26 : Option V, σ = [b0, some (.ref S), b2, b3, b4, b5, b6, b7, b8, b9, b10, b11, b12, b13, b14, b15, b16, b17, b18, b19, b20, b21, b22, b23, b24, b25, b26] ∧ Tabs TT H2 ∧ ∃ n, n ≤ 2000 * i ∧ Dr S Ld H2 n)
      ⟨_, _, _, _, _, _, _, _, _, _, _, _, _, _, _, _, _, _, _, _, _, _, _, _, _, _, rfl, hT.ext s1, 0, Nat.le_refl _, d1⟩ ?_ ?_⟩
    · rintro i σ H2 hi ⟨b0, b2, b3, b4, b5, b6, b7, b8, b9, b10, b11, b12, b13, b14, b15, b16, b17, b18, b19, b20, b21, b22, b23, b24, b25, b26, rfl, T2, n, hn, d2⟩
      have h := fun (D : Ends) (b2 : Option V) => lw_turn (K := K) (TT := TT) (C := C) (CL := CL) (CP := CP) (D := D) (b0 := b0) (b2 := b2) (b3 := b3) (b4 := b4) (b5 := b5) (b6 := b6) (b7 := b7) (b8 := b8) (b9 := b9) (b10 := b10) (b11 := b11) (b12 := b12) (b13 := b13) (b14 := b14) (b15 := b15) (b16 := b16) (b17 := b17) (b18 := b18) (b19 := b19) (b20 := b20) (b21 := b21) (b22 := b22) (b23 := b23) (b24 := b24) (b25 := b25) (b26 := b26) d2 (by omega) T2
      refine h _ (some (.int (0 + (i : Nat)))) fun c3 c4 c5 c6 c7 c8 c9 c10 c11 c12 c13 c14 c15 c16 c17 c18 c19 c20 c21 c22 c23 c24 H' n' T' d' hn' => ?_
      exact ⟨_, _, _, _, _, _, _, _, _, _, _, _, _, _, _, _, _, _, _, _, _, _, _, _, _, _, rfl, T', n', by omega, d'⟩
    · rintro σ H2 ⟨b0, b2, b3, b4, b5, b6, b7, b8, b9, b10, b11, b12, b13, b14, b15, b16, b17, b18, b19, b20, b21, b22, b23, b24, b25, b26, rfl, T2, n, hn, d2⟩
      exact q H2)
end
end WH
set_option Elab.async false
set_option linter.all false
set_option maxRecDepth 100000
set_option maxHeartbeats 0
namespace WH
open PySem PySem.W PySem.Calls PyProof.Rows
open_top law_top for PySem.Challenge.rw_farfolder_k79_whole_whom_to_stop
end WH
set_option Elab.async false
set_option linter.all false
set_option maxRecDepth 100000
set_option maxHeartbeats 4000000
namespace WH
open PySem PySem.Spec PyProof.Rows L2 WM LamX
theorem mkDf {K : PySem.W.Frag} {h : Heap} {mg : Str → Option Value} (X : K.In h) (G : h.Ns mainGlobals mg) {x : Str} {st : Stmt} {ps : List Str} {f : Addr} {oc : Value} {od an : Option Addr} {osl : Array (Option Value)} {kV doc pm cdv ct : Value}
    (a : PySem.W.nsIn K mainGlobals x = some (some (.ref f))) (l : K.lookup f = some ⟨oc, od, .func (PySem.W.fnOf x x (defArgs st) (defBody st) (defScope st) .none kV doc pm an cdv ct), osl⟩) (c : PySem.W.codeIn K cdv x = true) (k : PySem.W.keepIn K (.ref f) = true)
    (hb : ∀ (kV doc pm : Value) (an : Option Addr) (cdv ct : Value) (us : List Value), us.length = ps.length → bindArgs (PySem.W.fnOf x x (defArgs st) (defBody st) (defScope st) .none kV doc pm an cdv ct) ⟨us, []⟩ = pure (ps.zip us)) : ∃ f fd, Df K mg x st ps f fd :=
  ⟨f, _, fun_mk l c k, PySem.W.mg_of X G a, (fun_mk l c k).binds hb⟩
/-- a method, off the head -/
theorem mkDm {K : PySem.W.Frag} {x q : Str} {st : Stmt} {ps : List Str} {f : Addr} {oc : Value} {od an : Option Addr} {osl : Array (Option Value)} {kV doc pm cdv ct : Value}
    (l : K.lookup f = some ⟨oc, od, .func (PySem.W.fnOf x q (defArgs st) (defBody st) (defScope st) .none kV doc pm an cdv ct), osl⟩) (c : PySem.W.codeIn K cdv q = true) (k : PySem.W.keepIn K (.ref f) = true)
    (hb : ∀ (kV doc pm : Value) (an : Option Addr) (cdv ct : Value) (us : List Value), us.length = ps.length → bindArgs (PySem.W.fnOf x q (defArgs st) (defBody st) (defScope st) .none kV doc pm an cdv ct) ⟨us, []⟩ = pure (ps.zip us)) : ∃ fd, Dm K x q st ps f fd :=
  ⟨_, fun_mk l c k, (fun_mk l c k).binds hb⟩
/-- an error of the class at S is what «except S» names, or not -/
theorem exm_is {K : PySem.W.Frag} {S R : Addr} {b : Bool} (h1 : PySem.W.subIn K (.ref R) (.type "BaseException") = some true) (h2 : PySem.W.isClsIn K R = true) (h3 : PySem.W.typeIn K (.ref R) = some (.type "type")) (h4 : PySem.W.subIn K (.ref S) (.ref R) = some b) :
    PySem.W.exmOne K (.ref S) (.ref R) = some b := by
  have e1 : (PySem.W.subIn K (.ref R) (.type "BaseException") == some true) = true := by rw [h1] <;> rfl
  have e2 : ((PySem.W.clsIn K R).isSome && PySem.W.typeIn K (.ref R) == some (.type "type")) = true := by
    have h2' : (PySem.W.clsIn K R).isSome = true := h2
    rw [h2', h3] <;> rfl
  show (if (PySem.W.subIn K (.ref R) (.type "BaseException") == some true) = true then (if ((PySem.W.clsIn K R).isSome && PySem.W.typeIn K (.ref R) == some (.type "type")) = true then PySem.W.subIn K (.ref S) (.ref R) else none) else none) = some b
  rw [if_pos e1, if_pos e2]
  exact h4
theorem Df.code {K : PySem.W.Frag} {h : Heap} {mg : Str → Option Value} (X : K.In h) (G : h.Ns mainGlobals mg) {x : Str} {st : Stmt} {ps : List Str} {f c P : Addr} {fd : FuncData} (D : Df K mg x st ps f fd) (ht : PySem.W.tabIn K x = some (c, P)) : fd.code = .ref c := by
  obtain ⟨oc, od, kV, doc, pm, an, cdv, ct, osl, rfl, lk, _⟩ := D.fn.ex
  exact PySem.W.law_code X G ht D.gl (X _ _ lk) rfl
theorem Df.call1 {K : PySem.W.Frag} {mg : Str → Option Value} {x y : Str} {st : Stmt} {f : Addr} {fd : FuncData} (D : Df K mg x st [y] f fd) (hb : ∀ (kV doc pm : Value) (an : Option Addr) (cdv ct : Value) (u : Value), bindArgs (PySem.W.fnOf x x (defArgs st) (defBody st) (defScope st) .none kV doc pm an cdv ct) ⟨[u], []⟩ = pure [(y, u)]) :
    ∀ (s : Shared) (u : Value), BindsTo s fd ⟨[u], []⟩ [(y, u)] := fun s u => by
  obtain ⟨oc, od, kV, doc, pm, an, cdv, ct, osl, rfl, lk, _⟩ := D.fn.ex
  exact .of_eq (hb kV doc pm an cdv ct u)
def joinQ : Str := (Str.ofString "joined_rows" ++ ".<locals>.") ++ "<lambda>"
/-- all that the top has left, and so the law -/
theorem law_at {w : World} {K : PySem.W.Frag} {h : Heap} {mg : Str → Option Value} {fa ka C fi fl fo CL fL CP fP lc lP jc jP : Addr} (X : K.In h) (G : h.Ns mainGlobals mg) (hmg : mg "law" = some (.ref fa))
    (T : Bl mg) (Cn0 : Cn mg) (Ck0 : Ck K mg ka) (L : LTb K mg C fi fl fo) (XL : Xo K mg "BadLock" "index" CL fL) (XP : Xo K mg "BadPrices" "thing" CP fP) (Ex : ExF K CL CP)
    (M_init : ∃ fd, Dm K "__init__" "LockTable.__init__" s_LockTable___init__ ["self", "locks"] fi fd) (M_locks : ∃ fd, Dm K "locks" "LockTable.locks" s_LockTable_locks ["self"] fl fd) (M_owners : ∃ fd, Dm K "owners" "LockTable.owners" s_LockTable_owners ["self"] fo fd)
    (M_BL : ∃ fd, Dm K "__init__" "BadLock.__init__" s_BadLock___init__ ["self", "index"] fL fd) (M_BP : ∃ fd, Dm K "__init__" "BadPrices.__init__" s_BadPrices___init__ ["self", "thing"] fP fd)
    (tL : PySem.W.tabIn K "law" = some (lc, lP)) (tJ : PySem.W.tabIn K "joined_rows" = some (jc, jP)) (hne : lP ≠ jP) (gL : h.get? lP = some { cls := .none, data := .fields #[] }) (gJ : h.get? jP = some { cls := .none, data := .fields #[] }) (nL : K.lookup lP = none) (nJ : K.lookup jP = none) (cL : PySem.W.CodeHd h lc lP) (cJ : PySem.W.CodeHd h jc jP)
    (E_is_list : ∃ f fd, Df K mg "is_list" s_is_list ["thing"] f fd)
    (E_is_integer : ∃ f fd, Df K mg "is_integer" s_is_integer ["thing"] f fd)
    (E_is_number : ∃ f fd, Df K mg "is_number" s_is_number ["thing"] f fd)
    (E_is_name : ∃ f fd, Df K mg "is_name" s_is_name ["thing"] f fd)
    (E_each_once : ∃ f fd, Df K mg "each_once" s_each_once ["things"] f fd)
    (E_is_part : ∃ f fd, Df K mg "is_part" s_is_part ["one", "other"] f fd)
    (E_in_order : ∃ f fd, Df K mg "in_order" s_in_order ["sets"] f fd)
    (E_least_of : ∃ f fd, Df K mg "least_of" s_least_of ["sets"] f fd)
    (E_least_hitting : ∃ f fd, Df K mg "least_hitting" s_least_hitting ["lots"] f fd)
    (E_all_sets : ∃ f fd, Df K mg "all_sets" s_all_sets ["names"] f fd)
    (E_is_kind : ∃ f fd, Df K mg "is_kind" s_is_kind ["thing"] f fd)
    (E_is_range : ∃ f fd, Df K mg "is_range" s_is_range ["begin", "end"] f fd)
    (E_is_lock : ∃ f fd, Df K mg "is_lock" s_is_lock ["thing"] f fd)
    (E_do_meet : ∃ f fd, Df K mg "do_meet" s_do_meet ["one", "other"] f fd)
    (E_are_clashing : ∃ f fd, Df K mg "are_clashing" s_are_clashing ["one", "other"] f fd)
    (E_checked_locks : ∃ f fd, Df K mg "checked_locks" s_checked_locks ["locks"] f fd)
    (E_left_rows : ∃ f fd, Df K mg "left_rows" s_left_rows ["rows", "begin", "end"] f fd)
    (E_joined_rows : ∃ f fd, Df K mg "joined_rows" s_joined_rows ["rows"] f fd)
    (E_rows_as_locks : ∃ f fd, Df K mg "rows_as_locks" s_rows_as_locks ["rows"] f fd)
    (E_lift_lock : ∃ f fd, Df K mg "lift_lock" s_lift_lock ["table", "owner", "where"] f fd)
    (E_cost_of : ∃ f fd, Df K mg "cost_of" s_cost_of ["names", "prices"] f fd)
    (E_cheapest_of : ∃ f fd, Df K mg "cheapest_of" s_cheapest_of ["sets", "prices"] f fd)
    (E_checked_prices : ∃ f fd, Df K mg "checked_prices" s_checked_prices ["names", "prices"] f fd)
    (E_checked_wants : ∃ f fd, Df K mg "checked_wants" s_checked_wants ["wants"] f fd)
    (E_waits_for : ∃ f fd, Df K mg "waits_for" s_waits_for ["table", "wants"] f fd)
    (E_all_owners : ∃ f fd, Df K mg "all_owners" s_all_owners ["table", "waiting"] f fd)
    (E_end_order : ∃ f fd, Df K mg "end_order" s_end_order ["table", "wants"] f fd)
    (E_ring_from : ∃ f fd, Df K mg "ring_from" s_ring_from ["waiting", "owner"] f fd)
    (E_least_rings : ∃ f fd, Df K mg "least_rings" s_least_rings ["table", "wants"] f fd)
    (E_least_stops : ∃ f fd, Df K mg "least_stops" s_least_stops ["table", "wants"] f fd)
    (E_cheapest_stops : ∃ f fd, Df K mg "cheapest_stops" s_cheapest_stops ["table", "wants", "prices"] f fd)
    (E__law_x_all : ∃ f fd, Df K mg "_law_x_all" s__law_x_all ["_law_names"] f fd)
    (E__law_x_in : ∃ f fd, Df K mg "_law_x_in" s__law_x_in ["_law_one", "_law_other"] f fd)
    (E__law_x_least : ∃ f fd, Df K mg "_law_x_least" s__law_x_least ["_law_sets"] f fd)
    (E__law_x_prices : ∃ f fd, Df K mg "_law_x_prices" s__law_x_prices ["_law_stream", "_law_names"] f fd)
    (E__law_x_cost : ∃ f fd, Df K mg "_law_x_cost" s__law_x_cost ["_law_names", "_law_prices"] f fd)
    (E__law_lk_lock : ∃ f fd, Df K mg "_law_lk_lock" s__law_lk_lock ["_law_stream", "_law_owners", "_law_ends"] f fd)
    (E__law_lk_has : ∃ f fd, Df K mg "_law_lk_has" s__law_lk_has ["_law_lock", "_law_place"] f fd)
    (E__law_lk_clash : ∃ f fd, Df K mg "_law_lk_clash" s__law_lk_clash ["_law_one", "_law_other"] f fd)
    (E__law_lk_normal : ∃ f fd, Df K mg "_law_lk_normal" s__law_lk_normal ["_law_locks", "_law_most"] f fd)
    (E__law_lk_drawn : ∃ f fd, Df K mg "_law_lk_drawn" s__law_lk_drawn ["_law_stream", "_law_owners", "_law_many"] f fd)
    (E__law_lk_spread : ∃ f fd, Df K mg "_law_lk_spread" s__law_lk_spread ["_law_stream", "_law_owners"] f fd)
    (E__law_lk_wants : ∃ f fd, Df K mg "_law_lk_wants" s__law_lk_wants ["_law_stream", "_law_owners", "_law_locks"] f fd)
    (E__law_lk_waits : ∃ f fd, Df K mg "_law_lk_waits" s__law_lk_waits ["_law_locks", "_law_wants"] f fd)
    (E__law_lk_has_ring : ∃ f fd, Df K mg "_law_lk_has_ring" s__law_lk_has_ring ["_law_waits", "_law_owners"] f fd)
    (E__law_lk_scale : ∃ f fd, Df K mg "_law_lk_scale" s__law_lk_scale ["_law_stream"] f fd)
    (E__law_lk_far : ∃ f fd, Df K mg "_law_lk_far" s__law_lk_far ["_law_locks", "_law_scale"] f fd)
    (E__law_start : ∃ f fd, Df K mg "_law_start" s__law_start ["_law_script"] f fd)
    (E__law_draw : ∃ f fd, Df K mg "_law_draw" s__law_draw ["_law_stream", "_law_many"] f fd)
    (E__law_pick : ∃ f fd, Df K mg "_law_pick" s__law_pick ["_law_stream", "_law_some"] f fd)
    (E__law_mixed : ∃ f fd, Df K mg "_law_mixed" s__law_mixed ["_law_stream", "_law_some"] f fd)
    (E__law_same : ∃ f fd, Df K mg "_law_same" s__law_same ["_law_found", "_law_due"] f fd)
    (E__law_each_once : ∃ f fd, Df K mg "_law_each_once" s__law_each_once ["_law_things"] f fd)
    (E__law_loose : ∃ f fd, Df K mg "_law_loose" s__law_loose ["_law_stream", "_law_thing"] f fd)
    (E__law_met : ∃ f fd, Df K mg "_law_met" s__law_met ["_law_ask"] f fd)
    (E__law_stopped : ∃ f fd, Df K mg "_law_stopped" s__law_stopped ["_law_table", "_law_wants", "_law_owners"] f fd)
    (E__law_sets_right : ∃ f fd, Df K mg "_law_sets_right" s__law_sets_right ["_law_table", "_law_wants", "_law_names", "_law_waits"] f fd)
    (E_law : ∃ f fd, Df K mg "law" s_law ["_law_script"] f fd) :
    LawAtS PySem.Challenge.rw_farfolder_k79_whole_whom_to_stop w K L2.CX0 12 63 "_law_script" mg fa h := by
  obtain ⟨f_is_list, fd_is_list, D_is_list⟩ := E_is_list
  obtain ⟨f_is_integer, fd_is_integer, D_is_integer⟩ := E_is_integer
  obtain ⟨f_is_number, fd_is_number, D_is_number⟩ := E_is_number
  obtain ⟨f_is_name, fd_is_name, D_is_name⟩ := E_is_name
  obtain ⟨f_each_once, fd_each_once, D_each_once⟩ := E_each_once
  obtain ⟨f_is_part, fd_is_part, D_is_part⟩ := E_is_part
  obtain ⟨f_in_order, fd_in_order, D_in_order⟩ := E_in_order
  obtain ⟨f_least_of, fd_least_of, D_least_of⟩ := E_least_of
  obtain ⟨f_least_hitting, fd_least_hitting, D_least_hitting⟩ := E_least_hitting
  obtain ⟨f_all_sets, fd_all_sets, D_all_sets⟩ := E_all_sets
  obtain ⟨f_is_kind, fd_is_kind, D_is_kind⟩ := E_is_kind
  obtain ⟨f_is_range, fd_is_range, D_is_range⟩ := E_is_range
  obtain ⟨f_is_lock, fd_is_lock, D_is_lock⟩ := E_is_lock
  obtain ⟨f_do_meet, fd_do_meet, D_do_meet⟩ := E_do_meet
  obtain ⟨f_are_clashing, fd_are_clashing, D_are_clashing⟩ := E_are_clashing
  obtain ⟨f_checked_locks, fd_checked_locks, D_checked_locks⟩ := E_checked_locks
  obtain ⟨f_left_rows, fd_left_rows, D_left_rows⟩ := E_left_rows
  obtain ⟨f_joined_rows, fd_joined_rows, D_joined_rows⟩ := E_joined_rows
  obtain ⟨f_rows_as_locks, fd_rows_as_locks, D_rows_as_locks⟩ := E_rows_as_locks
  obtain ⟨f_lift_lock, fd_lift_lock, D_lift_lock⟩ := E_lift_lock
  obtain ⟨f_cost_of, fd_cost_of, D_cost_of⟩ := E_cost_of
  obtain ⟨f_cheapest_of, fd_cheapest_of, D_cheapest_of⟩ := E_cheapest_of
  obtain ⟨f_checked_prices, fd_checked_prices, D_checked_prices⟩ := E_checked_prices
  obtain ⟨f_checked_wants, fd_checked_wants, D_checked_wants⟩ := E_checked_wants
  obtain ⟨f_waits_for, fd_waits_for, D_waits_for⟩ := E_waits_for
  obtain ⟨f_all_owners, fd_all_owners, D_all_owners⟩ := E_all_owners
  obtain ⟨f_end_order, fd_end_order, D_end_order⟩ := E_end_order
  obtain ⟨f_ring_from, fd_ring_from, D_ring_from⟩ := E_ring_from
  obtain ⟨f_least_rings, fd_least_rings, D_least_rings⟩ := E_least_rings
  obtain ⟨f_least_stops, fd_least_stops, D_least_stops⟩ := E_least_stops
  obtain ⟨f_cheapest_stops, fd_cheapest_stops, D_cheapest_stops⟩ := E_cheapest_stops
  obtain ⟨f__law_x_all, fd__law_x_all, D__law_x_all⟩ := E__law_x_all
  obtain ⟨f__law_x_in, fd__law_x_in, D__law_x_in⟩ := E__law_x_in
  obtain ⟨f__law_x_least, fd__law_x_least, D__law_x_least⟩ := E__law_x_least
  obtain ⟨f__law_x_prices, fd__law_x_prices, D__law_x_prices⟩ := E__law_x_prices
  obtain ⟨f__law_x_cost, fd__law_x_cost, D__law_x_cost⟩ := E__law_x_cost
  obtain ⟨f__law_lk_lock, fd__law_lk_lock, D__law_lk_lock⟩ := E__law_lk_lock
  obtain ⟨f__law_lk_has, fd__law_lk_has, D__law_lk_has⟩ := E__law_lk_has
  obtain ⟨f__law_lk_clash, fd__law_lk_clash, D__law_lk_clash⟩ := E__law_lk_clash
  obtain ⟨f__law_lk_normal, fd__law_lk_normal, D__law_lk_normal⟩ := E__law_lk_normal
  obtain ⟨f__law_lk_drawn, fd__law_lk_drawn, D__law_lk_drawn⟩ := E__law_lk_drawn
  obtain ⟨f__law_lk_spread, fd__law_lk_spread, D__law_lk_spread⟩ := E__law_lk_spread
  obtain ⟨f__law_lk_wants, fd__law_lk_wants, D__law_lk_wants⟩ := E__law_lk_wants
  obtain ⟨f__law_lk_waits, fd__law_lk_waits, D__law_lk_waits⟩ := E__law_lk_waits
  obtain ⟨f__law_lk_has_ring, fd__law_lk_has_ring, D__law_lk_has_ring⟩ := E__law_lk_has_ring
  obtain ⟨f__law_lk_scale, fd__law_lk_scale, D__law_lk_scale⟩ := E__law_lk_scale
  obtain ⟨f__law_lk_far, fd__law_lk_far, D__law_lk_far⟩ := E__law_lk_far
  obtain ⟨f__law_start, fd__law_start, D__law_start⟩ := E__law_start
  obtain ⟨f__law_draw, fd__law_draw, D__law_draw⟩ := E__law_draw
  obtain ⟨f__law_pick, fd__law_pick, D__law_pick⟩ := E__law_pick
  obtain ⟨f__law_mixed, fd__law_mixed, D__law_mixed⟩ := E__law_mixed
  obtain ⟨f__law_same, fd__law_same, D__law_same⟩ := E__law_same
  obtain ⟨f__law_each_once, fd__law_each_once, D__law_each_once⟩ := E__law_each_once
  obtain ⟨f__law_loose, fd__law_loose, D__law_loose⟩ := E__law_loose
  obtain ⟨f__law_met, fd__law_met, D__law_met⟩ := E__law_met
  obtain ⟨f__law_stopped, fd__law_stopped, D__law_stopped⟩ := E__law_stopped
  obtain ⟨f__law_sets_right, fd__law_sets_right, D__law_sets_right⟩ := E__law_sets_right
  obtain ⟨f_law, fd_law, D_law⟩ := E_law
  obtain ⟨fd_i, D_init⟩ := M_init
  obtain ⟨fd_l, D_locks⟩ := M_locks
  obtain ⟨fd_o, D_owners⟩ := M_owners
  obtain ⟨fd_BL, D_BL⟩ := M_BL
  obtain ⟨fd_BP, D_BP⟩ := M_BP
  have e := hmg.symm.trans D_law.gl
  injection e with e
  injection e with e
  subst e
  have hcL := D_law.code X G tL
  have hcJ := D_joined_rows.code X G tJ
  generalize hTT : [(lP, lamQ), (jP, joinQ)] = TT
  have mL : (lP, lamQ) ∈ TT := hTT ▸ List.mem_cons_self
  have mJ : (jP, joinQ) ∈ TT := hTT ▸ List.mem_cons_of_mem _ List.mem_cons_self
  have uL : ∀ p ∈ TT, p.1 = lP → p.2 = lamQ := by
    rw [← hTT]
    intro p hp e
    rcases List.mem_cons.1 hp with rfl | hp
    · rfl
    · rw [List.mem_singleton.1 hp] at e
      exact absurd e.symm hne
  have uJ : ∀ p ∈ TT, p.1 = jP → p.2 = joinQ := by
    rw [← hTT]
    intro p hp e
    rcases List.mem_cons.1 hp with rfl | hp
    · exact absurd e hne
    · rw [List.mem_singleton.1 hp]
  refine ⟨fd_law, [(lc, lP), (jc, jP)], sp_law TT K, fun p hp => ?_, fun p hp => ?_, fun p hp => ?_, D_law.call1 fun _ _ _ _ _ _ _ => rfl, fun H a ns _ _ hp hs => ⟨a, ns, rfl, hs, fun p hp' => ?_, fun _ => rfl⟩, fun base X0 G0 TB => ?_⟩
  · rcases List.mem_cons.1 hp with rfl | hp
    · exact gL
    · rw [List.mem_singleton.1 hp]
      exact gJ
  · rcases List.mem_cons.1 hp with rfl | hp
    · exact nL
    · rw [List.mem_singleton.1 hp]
      exact nJ
  · rcases List.mem_cons.1 hp with rfl | hp
    · exact cL
    · rw [List.mem_singleton.1 hp]
      exact cJ
  · rw [← hTT] at hp'
    rcases List.mem_cons.1 hp' with rfl | hp'
    · exact .nil (hp _ List.mem_cons_self)
    · rw [List.mem_singleton.1 hp']
      exact .nil (hp _ (List.mem_cons_of_mem _ List.mem_cons_self))
  have TL := TB _ (List.mem_cons_self (a := (lc, lP)) (l := [(jc, jP)]))
  have TJ := TB _ (List.mem_cons_of_mem (lc, lP) (List.mem_cons_self (a := (jc, jP)) (l := [])))
  generalize hPP : PySem.W.OpenLaw.prog PySem.Challenge.rw_farfolder_k79_whole_whom_to_stop = PP
  have G_is_list := ok_is_list (P := PP) (w := w) (base := base) D_is_list T
  have G_is_integer := ok_is_integer (P := PP) (w := w) (base := base) D_is_integer T
  have G_is_number := ok_is_number D_is_number G_is_integer
  have G_is_name := ok_is_name (P := PP) (w := w) (base := base) D_is_name T Cn0
  have G_each_once := ok_each_once (P := PP) (w := w) (base := base) D_each_once T
  have G_is_part := ok_is_part (P := PP) (w := w) (base := base) D_is_part T
  have G_in_order := ok_in_order (P := PP) (w := w) (base := base) D_in_order T
  have G_least_of := ok_least_of D_least_of T G_is_part G_in_order
  have G_least_hitting := ok_least_hitting D_least_hitting T G_least_of
  have G_all_sets := ok_all_sets (P := PP) (w := w) (base := base) D_all_sets T
  have G_x_all := ok__law_x_all (P := PP) (w := w) (base := base) D__law_x_all T
  have G_x_in := ok__law_x_in (P := PP) (w := w) (base := base) D__law_x_in T
  have G_x_least := ok__law_x_least D__law_x_least T G_x_in
  have G_is_kind := ok_is_kind (P := PP) (w := w) (base := base) D_is_kind T Ck0
  have G_is_range := ok_is_range D_is_range G_is_integer G_is_number
  have G_is_lock := ok_is_lock D_is_lock T G_is_list G_is_name G_is_range G_is_kind
  have G_do_meet := ok_do_meet (P := PP) (w := w) (base := base) D_do_meet
  have G_are_clashing := ok_are_clashing D_are_clashing G_do_meet
  have G_checked_locks := ok_checked_locks D_checked_locks T G_is_list G_is_lock
  have G_left_rows := ok_left_rows (P := PP) (w := w) (base := base) D_left_rows T
  have G_rows_as_locks := ok_rows_as_locks (P := PP) (w := w) (base := base) D_rows_as_locks T
  have G_joined_rows := ok_joined_rows (P := PP) (w := w) D_joined_rows hcJ T TJ mJ uJ
  have G_locks := ok_locks (f := fl) D_locks L G_rows_as_locks
  have G_owners := ok_owners (P := PP) (w := w) (base := base) D_owners L T
  have G_init := ok_init D_init L T G_checked_locks G_rows_as_locks G_are_clashing G_left_rows G_joined_rows
  have G_lift := ok_lift D_lift_lock T L G_is_name G_is_list G_is_range G_left_rows G_locks G_init
  have G_BL := ok_badlock (P := PP) (w := w) (base := base) D_BL XL
  have G_BP := ok_badprices (P := PP) (w := w) (base := base) D_BP XP
  have G_cost_of := ok_cost_of (P := PP) (w := w) (base := base) D_cost_of T
  have G_cheapest_of := ok_cheapest_of D_cheapest_of T G_cost_of
  have G_checked_prices := ok_checked_prices D_checked_prices T G_is_number XP G_BP
  have G_checked_wants := ok_checked_wants D_checked_wants T G_is_list G_is_lock XL G_BL
  have G_waits_for := ok_waits_for D_waits_for T L G_locks G_are_clashing G_each_once G_checked_wants
  have G_all_owners := ok_all_owners D_all_owners T L G_owners G_each_once
  have G_ring_from := ok_ring_from (P := PP) (w := w) (base := base) D_ring_from T
  have G_end_order := ok_end_order D_end_order T G_is_part G_waits_for G_all_owners
  have G_least_rings := ok_least_rings D_least_rings T G_is_part G_waits_for G_all_sets G_ring_from
  have G_least_stops := ok_least_stops D_least_stops G_least_rings G_least_hitting
  have G_cheapest := ok_cheapest D_cheapest_stops G_least_stops G_all_owners G_checked_wants G_checked_prices G_cheapest_of
  have G_start := ok__law_start (P := PP) (w := w) (base := base) D__law_start T
  have G_draw := ok__law_draw (P := PP) (w := w) (base := base) D__law_draw T
  have G_pick := ok__law_pick D__law_pick T G_draw
  have G_mixed := ok__law_mixed D__law_mixed T G_draw
  have G_has := ok__law_lk_has (P := PP) (w := w) (base := base) D__law_lk_has
  have G_clash := ok__law_lk_clash D__law_lk_clash T G_has
  have G_once := ok__law_each_once (P := PP) (w := w) (base := base) D__law_each_once
  have G_x_cost := ok__law_x_cost (P := PP) (w := w) (base := base) D__law_x_cost T
  have G_far := ok__law_lk_far (P := PP) (w := w) (base := base) D__law_lk_far
  have G_lock := ok__law_lk_lock D__law_lk_lock G_draw G_pick
  have G_scale := ok__law_lk_scale D__law_lk_scale G_pick
  have G_x_prices := ok__law_x_prices D__law_x_prices T G_mixed G_pick
  have G_normal := ok__law_lk_normal D__law_lk_normal T G_once G_has
  have G_drawn := ok__law_lk_drawn D__law_lk_drawn T G_clash G_lock G_normal
  have G_spread := ok__law_lk_spread D__law_lk_spread T G_draw G_mixed G_pick
  have G_wants := ok__law_lk_wants D__law_lk_wants T G_draw G_mixed G_pick G_lock
  have G_waits := ok__law_lk_waits D__law_lk_waits T G_once G_clash G_normal
  have G_has_ring := ok__law_lk_has_ring (P := PP) (w := w) (base := base) D__law_lk_has_ring T
  have G_stopped := ok__law_stopped D__law_stopped T G_lift
  have S0 := same_zero (P := PP) (w := w) (base := base) D__law_same
  have S1 := same_step (n := 0) (fun _ z => nomatch z) D__law_same T S0
  have S2 := same_step (n := 1) (fun m e => by injection e with e; rw [e]) D__law_same T S1
  have S3 := same_step (n := 2) (fun m e => by injection e with e; rw [e]) D__law_same T S2
  have S4 := same_step (n := 3) (fun m e => by injection e with e; rw [e]) D__law_same T S3
  have Z0 := loose_zero (P := PP) (w := w) (base := base) D__law_loose
  have ZA := loose_A D__law_loose T G_draw Z0
  have ZB := loose_B D__law_loose T G_draw ZA
  have ZC := loose_C D__law_loose T G_draw ZB
  have G_sets := ok__law_sets_right D__law_sets_right T G_x_all G_x_least G_has_ring G_least_rings G_least_stops G_end_order S4 G_stopped
  have MF : MetK K mg base CL CP TT lc lamQ := ⟨_, fL, fP, lP, _, D__law_met, XL, XP, Ex, TL, mL, uL⟩
  exact ok_law D_law hcL T L MF G_start G_draw G_pick G_mixed G_spread G_drawn G_wants G_scale G_waits G_once G_far G_init G_sets G_x_prices G_x_cost S4 ZC G_least_rings G_least_stops G_cheapest
end WH
set_option Elab.async false
set_option linter.all false
set_option maxRecDepth 100000
set_option maxHeartbeats 4000000
namespace WH
open PySem PySem.Spec PyProof.Rows L2 WM LamX
section
variable {K : PySem.W.Frag} {h : Heap} {mg : Str → Option Value}
theorem mkBl (X : K.In h) (G : h.Ns mainGlobals mg) (a1 : PySem.W.nsIn K mainGlobals "all" = some none) (a2 : PySem.W.nsIn K mainGlobals "any" = some none) (a3 : PySem.W.nsIn K mainGlobals "bool" = some none) (a4 : PySem.W.nsIn K mainGlobals "dict" = some none)
    (a5 : PySem.W.nsIn K mainGlobals "enumerate" = some none) (a6 : PySem.W.nsIn K mainGlobals "int" = some none) (a7 : PySem.W.nsIn K mainGlobals "isinstance" = some none) (a8 : PySem.W.nsIn K mainGlobals "len" = some none) (a9 : PySem.W.nsIn K mainGlobals "list" = some none)
    (a10 : PySem.W.nsIn K mainGlobals "max" = some none) (a11 : PySem.W.nsIn K mainGlobals "min" = some none) (a12 : PySem.W.nsIn K mainGlobals "range" = some none) (a13 : PySem.W.nsIn K mainGlobals "sorted" = some none) (a14 : PySem.W.nsIn K mainGlobals "str" = some none)
    (a15 : PySem.W.nsIn K mainGlobals "sum" = some none) (a16 : PySem.W.nsIn K mainGlobals "tuple" = some none) (a17 : PySem.W.nsIn K mainGlobals "zip" = some none) : Bl mg :=
  have n := fun {x : Str} (a : PySem.W.nsIn K mainGlobals x = some none) => PySem.W.mg_none_of X G a
  ⟨n a1, n a2, n a3, n a4, n a5, n a6, n a7, n a8, n a9, n a10, n a11, n a12, n a13, n a14, n a15, n a16, n a17⟩
theorem mkCn {t1 t2 : Tok} (X : K.In h) (G : h.Ns mainGlobals mg) (a : PySem.W.nsIn K mainGlobals "SMALL" = some (some (.str smallS t1))) (b : PySem.W.nsIn K mainGlobals "FIGURES" = some (some (.str figS t2))) : Cn mg :=
  ⟨⟨_, PySem.W.mg_of X G a⟩, ⟨_, PySem.W.mg_of X G b⟩⟩
theorem mkCk {ka : Addr} {t1 t2 : Tok} {n : Nat} {dd : Option Addr} {sl : Array (Option Value)} (X : K.In h) (G : h.Ns mainGlobals mg) (a : PySem.W.nsIn K mainGlobals "KINDS" = some (some (.ref ka))) (l : K.lookup ka = some ⟨.type "tuple", dd, .seq #[.str "read" t1, .str "write" t2] n, sl⟩) : ∃ ka, Ck K mg ka :=
  ⟨ka, PySem.W.mg_of X G a, fun H => .inr ⟨_, _, _, l, rfl, rfl, by show 2 ≤ sizeLine; rw [sizeLine_eq]; decide, .cons ⟨_, rfl⟩ (.cons ⟨_, rfl⟩ .nil)⟩⟩
theorem mkLT {C fi fl fo : Addr} (X : K.In h) (G : h.Ns mainGlobals mg) (a : PySem.W.nsIn K mainGlobals "LockTable" = some (some (.ref C))) (i1 : PySem.W.findIn K (.ref C) "__init__" = some (some (.ref fi))) (i2 : PySem.W.findIn K (.ref C) "locks" = some (some (.ref fl))) (i3 : PySem.W.findIn K (.ref C) "owners" = some (some (.ref fo)))
    (D1 : ∃ fd, Dm K "__init__" "LockTable.__init__" s_LockTable___init__ ["self", "locks"] fi fd) (D2 : ∃ fd, Dm K "locks" "LockTable.locks" s_LockTable_locks ["self"] fl fd) (D3 : ∃ fd, Dm K "owners" "LockTable.owners" s_LockTable_owners ["self"] fo fd)
    (pg : PySem.W.plainGet K C Str.empty = true) (hd : PySem.W.hasDictIn K C = true) (po : PySem.W.plainOver K C = true) (sa : PySem.W.findIn K (.ref C) "__setattr__" = some (some (.builtin "object.__setattr__"))) (mk : PySem.W.makesIn K C = true) (kc : PySem.W.keepIn K (.ref C) = true)
    (f1 : PySem.W.isFn K (.ref fi) = true) (f2 : PySem.W.isFn K (.ref fl) = true) (f3 : PySem.W.isFn K (.ref fo) = true) (k2 : PySem.W.keepIn K (.ref fl) = true) (k3 : PySem.W.keepIn K (.ref fo) = true) (na : PySem.W.findIn K (.ref C) "own_rows" = some none) :
    ∃ C fi fl fo, LTb K mg C fi fl fo ∧ (∃ fd, Dm K "__init__" "LockTable.__init__" s_LockTable___init__ ["self", "locks"] fi fd) ∧ (∃ fd, Dm K "locks" "LockTable.locks" s_LockTable_locks ["self"] fl fd) ∧ ∃ fd, Dm K "owners" "LockTable.owners" s_LockTable_owners ["self"] fo fd :=
  ⟨C, fi, fl, fo, ⟨⟨pg, hd, po, sa⟩, ⟨mk, i1, f1, kc⟩, ⟨i2, f2, k2⟩, ⟨i3, f3, k3⟩, PySem.W.mg_of X G a, na⟩, D1, D2, D3⟩
theorem mkXo {x f : Str} {CB fI N : Addr} {nm q : Str} {bs bm : List Value} {sn : List Str} {sub : List Value} {ab : Bool} {col : Option Bool} {dd : Option Addr} {m0 m1 m2 m3 m5 : Option Value} (X : K.In h) (G : h.Ns mainGlobals mg)
    (a : PySem.W.nsIn K mainGlobals x = some (some (.ref CB))) (l : K.lookup CB = some (excClassObj nm q CB N bs bm true sn sub ab col dd m0 m1 m2 m3 m5 "ValueError.__new__")) (ve : PySem.HandSPX.refsVE bm = true) (i1 : PySem.W.findIn K (.ref CB) "__init__" = some (some (.ref fI))) (t1 : PySem.W.typeIn K (.ref fI) = some (.type "function"))
    (sa : PySem.W.findIn K (.ref CB) "__setattr__" = some (some (.builtin "object.__setattr__"))) (ex : PySem.W.subIn K (.ref CB) (.type "BaseException") = some true) (ty : PySem.W.typeIn K (.ref CB) = some (.type "type")) (kp : PySem.W.keepIn K (.ref CB) = true)
    (nf : PySem.W.findIn K (.ref CB) f = some none) (ga : PySem.W.findIn K (.ref CB) "__getattribute__" = some (some (.builtin "BaseException.__getattribute__"))) (gg : PySem.W.findIn K (.ref CB) "__getattr__" = some none) (hd : PySem.W.hasDictIn K CB = true) : Xo K mg x f CB fI :=
  ⟨⟨⟨nm, q, N, bs, bm, sn, sub, ab, col, dd, m0, m1, m2, m3, m5, l, ve⟩, sa, ex, ty, kp⟩, i1, t1, PySem.W.mg_of X G a, nf, ⟨ga, gg, ex, hd⟩⟩
theorem mkXs {CL fL CP fP : Addr} (XL : Xo K mg "BadLock" "index" CL fL) (XP : Xo K mg "BadPrices" "thing" CP fP) (D1 : ∃ fd, Dm K "__init__" "BadLock.__init__" s_BadLock___init__ ["self", "index"] fL fd) (D2 : ∃ fd, Dm K "__init__" "BadPrices.__init__" s_BadPrices___init__ ["self", "thing"] fP fd)
    (cL : PySem.W.isClsIn K CL = true) (cP : PySem.W.isClsIn K CP = true) (s1 : PySem.W.subIn K (.ref CL) (.ref CL) = some true) (s2 : PySem.W.subIn K (.ref CP) (.ref CL) = some false) (s3 : PySem.W.subIn K (.ref CP) (.ref CP) = some true) :
    ∃ CL fL CP fP, Xo K mg "BadLock" "index" CL fL ∧ Xo K mg "BadPrices" "thing" CP fP ∧ ExF K CL CP ∧ (∃ fd, Dm K "__init__" "BadLock.__init__" s_BadLock___init__ ["self", "index"] fL fd) ∧ ∃ fd, Dm K "__init__" "BadPrices.__init__" s_BadPrices___init__ ["self", "thing"] fP fd :=
  ⟨CL, fL, CP, fP, XL, XP, ⟨exm_is XL.ox.exC cL XL.ox.tyC s1, exm_is XL.ox.exC cL XL.ox.tyC s2, exm_is XP.ox.exC cP XP.ox.tyC s3⟩, D1, D2⟩
end
end WH
set_option Elab.async false
set_option linter.all false
set_option maxRecDepth 100000
set_option maxHeartbeats 0
namespace WH
open PySem PySem.W PySem.Calls PyProof.Rows L2
theorem law_walk (w : World) (mg : PySem.Str → Option Value) (fa : Addr) (h : Heap) (hT : ∀ P ∈ [230, 513], h.get? P = some (tabObj #[])) (KX : (law_top.heap_39 w.params).In h) (G : h.Ns mainGlobals mg) (hmg : mg (PySem.Str.ofString "law") = some (.ref fa)) :
    LamX.LawAtS PySem.Challenge.rw_farfolder_k79_whole_whom_to_stop w (law_top.heap_39 w.params) L2.CX0 12 63 (PySem.Str.ofString "_law_script") mg fa h := by
  k_fill
  have T : Bl mg := by
    refine' mkBl KX G ?a1 ?a2 ?a3 ?a4 ?a5 ?a6 ?a7 ?a8 ?a9 ?a10 ?a11 ?a12 ?a13 ?a14 ?a15 ?a16 ?a17
    (case a1 => k_is)
    (case a2 => k_is)
    (case a3 => k_is)
    (case a4 => k_is)
    (case a5 => k_is)
    (case a6 => k_is)
    (case a7 => k_is)
    (case a8 => k_is)
    (case a9 => k_is)
    (case a10 => k_is)
    (case a11 => k_is)
    (case a12 => k_is)
    (case a13 => k_is)
    (case a14 => k_is)
    (case a15 => k_is)
    (case a16 => k_is)
    (case a17 => k_is)
  have Cn0 : Cn mg := by
    refine' mkCn KX G ?a ?b; (case a => k_is); (case b => k_is)
  obtain ⟨ka, Ck0⟩ : ∃ ka, Ck (law_top.heap_39 w.params) mg ka := by
    refine' mkCk KX G ?a ?l; (case a => k_is); (case l => k_is)
  obtain ⟨C, fi, fl, fo, L, M1, M2, M3⟩ : ∃ C fi fl fo, LTb (law_top.heap_39 w.params) mg C fi fl fo ∧ (∃ fd, Dm (law_top.heap_39 w.params) "__init__" "LockTable.__init__" s_LockTable___init__ ["self", "locks"] fi fd) ∧ (∃ fd, Dm (law_top.heap_39 w.params) "locks" "LockTable.locks" s_LockTable_locks ["self"] fl fd) ∧ ∃ fd, Dm (law_top.heap_39 w.params) "owners" "LockTable.owners" s_LockTable_owners ["self"] fo fd := by
    refine' mkLT KX G ?a ?i1 ?i2 ?i3 ?D1 ?D2 ?D3 ?pg ?hd ?po ?sa ?mk ?kc ?f1 ?f2 ?f3 ?k2 ?k3 ?na
    (case a => k_is); (case i1 => k_is); (case i2 => k_is); (case i3 => k_is)
    (case D1 => refine' mkDm (st := s_LockTable___init__) (ps := ["self", "locks"]) ?l ?c ?k ?b; (case l => k_is); (case c => k_is); (case k => k_is); (case b => exact fun _ _ _ _ _ _ us hl => match us, hl with | [_, _], _ => rfl))
    (case D2 => refine' mkDm (st := s_LockTable_locks) (ps := ["self"]) ?l ?c ?k ?b; (case l => k_is); (case c => k_is); (case k => k_is); (case b => exact fun _ _ _ _ _ _ us hl => match us, hl with | [_], _ => rfl))
    (case D3 => refine' mkDm (st := s_LockTable_owners) (ps := ["self"]) ?l ?c ?k ?b; (case l => k_is); (case c => k_is); (case k => k_is); (case b => exact fun _ _ _ _ _ _ us hl => match us, hl with | [_], _ => rfl))
    (case pg => k_is); (case hd => k_is); (case po => k_is); (case sa => k_is); (case mk => k_is); (case kc => k_is); (case f1 => k_is); (case f2 => k_is); (case f3 => k_is); (case k2 => k_is); (case k3 => k_is); (case na => k_is)
  obtain ⟨CL, fL, CP, fP, XL, XP, Ex, M4, M5⟩ : ∃ CL fL CP fP, Xo (law_top.heap_39 w.params) mg "BadLock" "index" CL fL ∧ Xo (law_top.heap_39 w.params) mg "BadPrices" "thing" CP fP ∧ ExF (law_top.heap_39 w.params) CL CP ∧ (∃ fd, Dm (law_top.heap_39 w.params) "__init__" "BadLock.__init__" s_BadLock___init__ ["self", "index"] fL fd) ∧ ∃ fd, Dm (law_top.heap_39 w.params) "__init__" "BadPrices.__init__" s_BadPrices___init__ ["self", "thing"] fP fd := by
    refine' mkXs ?XL ?XP ?D1 ?D2 ?cL ?cP ?s1 ?s2 ?s3
    (case XL => refine' mkXo KX G ?a ?l ?ve ?i1 ?t1 ?sa ?ex ?ty ?kp ?nf ?ga ?gg ?hd; (case a => k_is); (case l => k_is); (case ve => decide +kernel); (case i1 => k_is); (case t1 => k_is); (case sa => k_is); (case ex => k_is); (case ty => k_is); (case kp => k_is); (case nf => k_is); (case ga => k_is); (case gg => k_is); (case hd => k_is))
    (case XP => refine' mkXo KX G ?a ?l ?ve ?i1 ?t1 ?sa ?ex ?ty ?kp ?nf ?ga ?gg ?hd; (case a => k_is); (case l => k_is); (case ve => decide +kernel); (case i1 => k_is); (case t1 => k_is); (case sa => k_is); (case ex => k_is); (case ty => k_is); (case kp => k_is); (case nf => k_is); (case ga => k_is); (case gg => k_is); (case hd => k_is))
    (case D1 => refine' mkDm (st := s_BadLock___init__) (ps := ["self", "index"]) ?l ?c ?k ?b; (case l => k_is); (case c => k_is); (case k => k_is); (case b => exact fun _ _ _ _ _ _ us hl => match us, hl with | [_, _], _ => rfl))
    (case D2 => refine' mkDm (st := s_BadPrices___init__) (ps := ["self", "thing"]) ?l ?c ?k ?b; (case l => k_is); (case c => k_is); (case k => k_is); (case b => exact fun _ _ _ _ _ _ us hl => match us, hl with | [_, _], _ => rfl))
    (case cL => k_is); (case cP => k_is); (case s1 => first | rfl | k_is); (case s2 => first | rfl | k_is); (case s3 => first | rfl | k_is)
  have E_is_list : ∃ f fd, Df (law_top.heap_39 w.params) mg "is_list" s_is_list ["thing"] f fd := by
    refine' mkDf (st := s_is_list) (ps := ["thing"]) KX G ?a ?l ?c ?k ?b; (case a => k_is); (case l => k_is); (case c => k_is); (case k => k_is); (case b => exact fun _ _ _ _ _ _ us hl => match us, hl with | [_], _ => rfl)
  have E_is_integer : ∃ f fd, Df (law_top.heap_39 w.params) mg "is_integer" s_is_integer ["thing"] f fd := by
    refine' mkDf (st := s_is_integer) (ps := ["thing"]) KX G ?a ?l ?c ?k ?b; (case a => k_is); (case l => k_is); (case c => k_is); (case k => k_is); (case b => exact fun _ _ _ _ _ _ us hl => match us, hl with | [_], _ => rfl)
  have E_is_number : ∃ f fd, Df (law_top.heap_39 w.params) mg "is_number" s_is_number ["thing"] f fd := by
    refine' mkDf (st := s_is_number) (ps := ["thing"]) KX G ?a ?l ?c ?k ?b; (case a => k_is); (case l => k_is); (case c => k_is); (case k => k_is); (case b => exact fun _ _ _ _ _ _ us hl => match us, hl with | [_], _ => rfl)
  have E_is_name : ∃ f fd, Df (law_top.heap_39 w.params) mg "is_name" s_is_name ["thing"] f fd := by
    refine' mkDf (st := s_is_name) (ps := ["thing"]) KX G ?a ?l ?c ?k ?b; (case a => k_is); (case l => k_is); (case c => k_is); (case k => k_is); (case b => exact fun _ _ _ _ _ _ us hl => match us, hl with | [_], _ => rfl)
  have E_each_once : ∃ f fd, Df (law_top.heap_39 w.params) mg "each_once" s_each_once ["things"] f fd := by
    refine' mkDf (st := s_each_once) (ps := ["things"]) KX G ?a ?l ?c ?k ?b; (case a => k_is); (case l => k_is); (case c => k_is); (case k => k_is); (case b => exact fun _ _ _ _ _ _ us hl => match us, hl with | [_], _ => rfl)
  have E_is_part : ∃ f fd, Df (law_top.heap_39 w.params) mg "is_part" s_is_part ["one", "other"] f fd := by
    refine' mkDf (st := s_is_part) (ps := ["one", "other"]) KX G ?a ?l ?c ?k ?b; (case a => k_is); (case l => k_is); (case c => k_is); (case k => k_is); (case b => exact fun _ _ _ _ _ _ us hl => match us, hl with | [_, _], _ => rfl)
  have E_in_order : ∃ f fd, Df (law_top.heap_39 w.params) mg "in_order" s_in_order ["sets"] f fd := by
    refine' mkDf (st := s_in_order) (ps := ["sets"]) KX G ?a ?l ?c ?k ?b; (case a => k_is); (case l => k_is); (case c => k_is); (case k => k_is); (case b => exact fun _ _ _ _ _ _ us hl => match us, hl with | [_], _ => rfl)
  have E_least_of : ∃ f fd, Df (law_top.heap_39 w.params) mg "least_of" s_least_of ["sets"] f fd := by
    refine' mkDf (st := s_least_of) (ps := ["sets"]) KX G ?a ?l ?c ?k ?b; (case a => k_is); (case l => k_is); (case c => k_is); (case k => k_is); (case b => exact fun _ _ _ _ _ _ us hl => match us, hl with | [_], _ => rfl)
  have E_least_hitting : ∃ f fd, Df (law_top.heap_39 w.params) mg "least_hitting" s_least_hitting ["lots"] f fd := by
    refine' mkDf (st := s_least_hitting) (ps := ["lots"]) KX G ?a ?l ?c ?k ?b; (case a => k_is); (case l => k_is); (case c => k_is); (case k => k_is); (case b => exact fun _ _ _ _ _ _ us hl => match us, hl with | [_], _ => rfl)
  have E_all_sets : ∃ f fd, Df (law_top.heap_39 w.params) mg "all_sets" s_all_sets ["names"] f fd := by
    refine' mkDf (st := s_all_sets) (ps := ["names"]) KX G ?a ?l ?c ?k ?b; (case a => k_is); (case l => k_is); (case c => k_is); (case k => k_is); (case b => exact fun _ _ _ _ _ _ us hl => match us, hl with | [_], _ => rfl)
  have E_is_kind : ∃ f fd, Df (law_top.heap_39 w.params) mg "is_kind" s_is_kind ["thing"] f fd := by
    refine' mkDf (st := s_is_kind) (ps := ["thing"]) KX G ?a ?l ?c ?k ?b; (case a => k_is); (case l => k_is); (case c => k_is); (case k => k_is); (case b => exact fun _ _ _ _ _ _ us hl => match us, hl with | [_], _ => rfl)
  have E_is_range : ∃ f fd, Df (law_top.heap_39 w.params) mg "is_range" s_is_range ["begin", "end"] f fd := by
    refine' mkDf (st := s_is_range) (ps := ["begin", "end"]) KX G ?a ?l ?c ?k ?b; (case a => k_is); (case l => k_is); (case c => k_is); (case k => k_is); (case b => exact fun _ _ _ _ _ _ us hl => match us, hl with | [_, _], _ => rfl)
  have E_is_lock : ∃ f fd, Df (law_top.heap_39 w.params) mg "is_lock" s_is_lock ["thing"] f fd := by
    refine' mkDf (st := s_is_lock) (ps := ["thing"]) KX G ?a ?l ?c ?k ?b; (case a => k_is); (case l => k_is); (case c => k_is); (case k => k_is); (case b => exact fun _ _ _ _ _ _ us hl => match us, hl with | [_], _ => rfl)
  have E_do_meet : ∃ f fd, Df (law_top.heap_39 w.params) mg "do_meet" s_do_meet ["one", "other"] f fd := by
    refine' mkDf (st := s_do_meet) (ps := ["one", "other"]) KX G ?a ?l ?c ?k ?b; (case a => k_is); (case l => k_is); (case c => k_is); (case k => k_is); (case b => exact fun _ _ _ _ _ _ us hl => match us, hl with | [_, _], _ => rfl)
  have E_are_clashing : ∃ f fd, Df (law_top.heap_39 w.params) mg "are_clashing" s_are_clashing ["one", "other"] f fd := by
    refine' mkDf (st := s_are_clashing) (ps := ["one", "other"]) KX G ?a ?l ?c ?k ?b; (case a => k_is); (case l => k_is); (case c => k_is); (case k => k_is); (case b => exact fun _ _ _ _ _ _ us hl => match us, hl with | [_, _], _ => rfl)
  have E_checked_locks : ∃ f fd, Df (law_top.heap_39 w.params) mg "checked_locks" s_checked_locks ["locks"] f fd := by
    refine' mkDf (st := s_checked_locks) (ps := ["locks"]) KX G ?a ?l ?c ?k ?b; (case a => k_is); (case l => k_is); (case c => k_is); (case k => k_is); (case b => exact fun _ _ _ _ _ _ us hl => match us, hl with | [_], _ => rfl)
  have E_left_rows : ∃ f fd, Df (law_top.heap_39 w.params) mg "left_rows" s_left_rows ["rows", "begin", "end"] f fd := by
    refine' mkDf (st := s_left_rows) (ps := ["rows", "begin", "end"]) KX G ?a ?l ?c ?k ?b; (case a => k_is); (case l => k_is); (case c => k_is); (case k => k_is); (case b => exact fun _ _ _ _ _ _ us hl => match us, hl with | [_, _, _], _ => rfl)
  have E_joined_rows : ∃ f fd, Df (law_top.heap_39 w.params) mg "joined_rows" s_joined_rows ["rows"] f fd := by
    refine' mkDf (st := s_joined_rows) (ps := ["rows"]) KX G ?a ?l ?c ?k ?b; (case a => k_is); (case l => k_is); (case c => k_is); (case k => k_is); (case b => exact fun _ _ _ _ _ _ us hl => match us, hl with | [_], _ => rfl)
  have E_rows_as_locks : ∃ f fd, Df (law_top.heap_39 w.params) mg "rows_as_locks" s_rows_as_locks ["rows"] f fd := by
    refine' mkDf (st := s_rows_as_locks) (ps := ["rows"]) KX G ?a ?l ?c ?k ?b; (case a => k_is); (case l => k_is); (case c => k_is); (case k => k_is); (case b => exact fun _ _ _ _ _ _ us hl => match us, hl with | [_], _ => rfl)
  have E_lift_lock : ∃ f fd, Df (law_top.heap_39 w.params) mg "lift_lock" s_lift_lock ["table", "owner", "where"] f fd := by
    refine' mkDf (st := s_lift_lock) (ps := ["table", "owner", "where"]) KX G ?a ?l ?c ?k ?b; (case a => k_is); (case l => k_is); (case c => k_is); (case k => k_is); (case b => exact fun _ _ _ _ _ _ us hl => match us, hl with | [_, _, _], _ => rfl)
  have E_cost_of : ∃ f fd, Df (law_top.heap_39 w.params) mg "cost_of" s_cost_of ["names", "prices"] f fd := by
    refine' mkDf (st := s_cost_of) (ps := ["names", "prices"]) KX G ?a ?l ?c ?k ?b; (case a => k_is); (case l => k_is); (case c => k_is); (case k => k_is); (case b => exact fun _ _ _ _ _ _ us hl => match us, hl with | [_, _], _ => rfl)
  have E_cheapest_of : ∃ f fd, Df (law_top.heap_39 w.params) mg "cheapest_of" s_cheapest_of ["sets", "prices"] f fd := by
    refine' mkDf (st := s_cheapest_of) (ps := ["sets", "prices"]) KX G ?a ?l ?c ?k ?b; (case a => k_is); (case l => k_is); (case c => k_is); (case k => k_is); (case b => exact fun _ _ _ _ _ _ us hl => match us, hl with | [_, _], _ => rfl)
  have E_checked_prices : ∃ f fd, Df (law_top.heap_39 w.params) mg "checked_prices" s_checked_prices ["names", "prices"] f fd := by
    refine' mkDf (st := s_checked_prices) (ps := ["names", "prices"]) KX G ?a ?l ?c ?k ?b; (case a => k_is); (case l => k_is); (case c => k_is); (case k => k_is); (case b => exact fun _ _ _ _ _ _ us hl => match us, hl with | [_, _], _ => rfl)
  have E_checked_wants : ∃ f fd, Df (law_top.heap_39 w.params) mg "checked_wants" s_checked_wants ["wants"] f fd := by
    refine' mkDf (st := s_checked_wants) (ps := ["wants"]) KX G ?a ?l ?c ?k ?b; (case a => k_is); (case l => k_is); (case c => k_is); (case k => k_is); (case b => exact fun _ _ _ _ _ _ us hl => match us, hl with | [_], _ => rfl)
  have E_waits_for : ∃ f fd, Df (law_top.heap_39 w.params) mg "waits_for" s_waits_for ["table", "wants"] f fd := by
    refine' mkDf (st := s_waits_for) (ps := ["table", "wants"]) KX G ?a ?l ?c ?k ?b; (case a => k_is); (case l => k_is); (case c => k_is); (case k => k_is); (case b => exact fun _ _ _ _ _ _ us hl => match us, hl with | [_, _], _ => rfl)
  have E_all_owners : ∃ f fd, Df (law_top.heap_39 w.params) mg "all_owners" s_all_owners ["table", "waiting"] f fd := by
    refine' mkDf (st := s_all_owners) (ps := ["table", "waiting"]) KX G ?a ?l ?c ?k ?b; (case a => k_is); (case l => k_is); (case c => k_is); (case k => k_is); (case b => exact fun _ _ _ _ _ _ us hl => match us, hl with | [_, _], _ => rfl)
  have E_end_order : ∃ f fd, Df (law_top.heap_39 w.params) mg "end_order" s_end_order ["table", "wants"] f fd := by
    refine' mkDf (st := s_end_order) (ps := ["table", "wants"]) KX G ?a ?l ?c ?k ?b; (case a => k_is); (case l => k_is); (case c => k_is); (case k => k_is); (case b => exact fun _ _ _ _ _ _ us hl => match us, hl with | [_, _], _ => rfl)
  have E_ring_from : ∃ f fd, Df (law_top.heap_39 w.params) mg "ring_from" s_ring_from ["waiting", "owner"] f fd := by
    refine' mkDf (st := s_ring_from) (ps := ["waiting", "owner"]) KX G ?a ?l ?c ?k ?b; (case a => k_is); (case l => k_is); (case c => k_is); (case k => k_is); (case b => exact fun _ _ _ _ _ _ us hl => match us, hl with | [_, _], _ => rfl)
  have E_least_rings : ∃ f fd, Df (law_top.heap_39 w.params) mg "least_rings" s_least_rings ["table", "wants"] f fd := by
    refine' mkDf (st := s_least_rings) (ps := ["table", "wants"]) KX G ?a ?l ?c ?k ?b; (case a => k_is); (case l => k_is); (case c => k_is); (case k => k_is); (case b => exact fun _ _ _ _ _ _ us hl => match us, hl with | [_, _], _ => rfl)
  have E_least_stops : ∃ f fd, Df (law_top.heap_39 w.params) mg "least_stops" s_least_stops ["table", "wants"] f fd := by
    refine' mkDf (st := s_least_stops) (ps := ["table", "wants"]) KX G ?a ?l ?c ?k ?b; (case a => k_is); (case l => k_is); (case c => k_is); (case k => k_is); (case b => exact fun _ _ _ _ _ _ us hl => match us, hl with | [_, _], _ => rfl)
  have E_cheapest_stops : ∃ f fd, Df (law_top.heap_39 w.params) mg "cheapest_stops" s_cheapest_stops ["table", "wants", "prices"] f fd := by
    refine' mkDf (st := s_cheapest_stops) (ps := ["table", "wants", "prices"]) KX G ?a ?l ?c ?k ?b; (case a => k_is); (case l => k_is); (case c => k_is); (case k => k_is); (case b => exact fun _ _ _ _ _ _ us hl => match us, hl with | [_, _, _], _ => rfl)
  have E__law_x_all : ∃ f fd, Df (law_top.heap_39 w.params) mg "_law_x_all" s__law_x_all ["_law_names"] f fd := by
    refine' mkDf (st := s__law_x_all) (ps := ["_law_names"]) KX G ?a ?l ?c ?k ?b; (case a => k_is); (case l => k_is); (case c => k_is); (case k => k_is); (case b => exact fun _ _ _ _ _ _ us hl => match us, hl with | [_], _ => rfl)
  have E__law_x_in : ∃ f fd, Df (law_top.heap_39 w.params) mg "_law_x_in" s__law_x_in ["_law_one", "_law_other"] f fd := by
    refine' mkDf (st := s__law_x_in) (ps := ["_law_one", "_law_other"]) KX G ?a ?l ?c ?k ?b; (case a => k_is); (case l => k_is); (case c => k_is); (case k => k_is); (case b => exact fun _ _ _ _ _ _ us hl => match us, hl with | [_, _], _ => rfl)
  have E__law_x_least : ∃ f fd, Df (law_top.heap_39 w.params) mg "_law_x_least" s__law_x_least ["_law_sets"] f fd := by
    refine' mkDf (st := s__law_x_least) (ps := ["_law_sets"]) KX G ?a ?l ?c ?k ?b; (case a => k_is); (case l => k_is); (case c => k_is); (case k => k_is); (case b => exact fun _ _ _ _ _ _ us hl => match us, hl with | [_], _ => rfl)
  have E__law_x_prices : ∃ f fd, Df (law_top.heap_39 w.params) mg "_law_x_prices" s__law_x_prices ["_law_stream", "_law_names"] f fd := by
    refine' mkDf (st := s__law_x_prices) (ps := ["_law_stream", "_law_names"]) KX G ?a ?l ?c ?k ?b; (case a => k_is); (case l => k_is); (case c => k_is); (case k => k_is); (case b => exact fun _ _ _ _ _ _ us hl => match us, hl with | [_, _], _ => rfl)
  have E__law_x_cost : ∃ f fd, Df (law_top.heap_39 w.params) mg "_law_x_cost" s__law_x_cost ["_law_names", "_law_prices"] f fd := by
    refine' mkDf (st := s__law_x_cost) (ps := ["_law_names", "_law_prices"]) KX G ?a ?l ?c ?k ?b; (case a => k_is); (case l => k_is); (case c => k_is); (case k => k_is); (case b => exact fun _ _ _ _ _ _ us hl => match us, hl with | [_, _], _ => rfl)
  have E__law_lk_lock : ∃ f fd, Df (law_top.heap_39 w.params) mg "_law_lk_lock" s__law_lk_lock ["_law_stream", "_law_owners", "_law_ends"] f fd := by
    refine' mkDf (st := s__law_lk_lock) (ps := ["_law_stream", "_law_owners", "_law_ends"]) KX G ?a ?l ?c ?k ?b; (case a => k_is); (case l => k_is); (case c => k_is); (case k => k_is); (case b => exact fun _ _ _ _ _ _ us hl => match us, hl with | [_, _, _], _ => rfl)
  have E__law_lk_has : ∃ f fd, Df (law_top.heap_39 w.params) mg "_law_lk_has" s__law_lk_has ["_law_lock", "_law_place"] f fd := by
    refine' mkDf (st := s__law_lk_has) (ps := ["_law_lock", "_law_place"]) KX G ?a ?l ?c ?k ?b; (case a => k_is); (case l => k_is); (case c => k_is); (case k => k_is); (case b => exact fun _ _ _ _ _ _ us hl => match us, hl with | [_, _], _ => rfl)
  have E__law_lk_clash : ∃ f fd, Df (law_top.heap_39 w.params) mg "_law_lk_clash" s__law_lk_clash ["_law_one", "_law_other"] f fd := by
    refine' mkDf (st := s__law_lk_clash) (ps := ["_law_one", "_law_other"]) KX G ?a ?l ?c ?k ?b; (case a => k_is); (case l => k_is); (case c => k_is); (case k => k_is); (case b => exact fun _ _ _ _ _ _ us hl => match us, hl with | [_, _], _ => rfl)
  have E__law_lk_normal : ∃ f fd, Df (law_top.heap_39 w.params) mg "_law_lk_normal" s__law_lk_normal ["_law_locks", "_law_most"] f fd := by
    refine' mkDf (st := s__law_lk_normal) (ps := ["_law_locks", "_law_most"]) KX G ?a ?l ?c ?k ?b; (case a => k_is); (case l => k_is); (case c => k_is); (case k => k_is); (case b => exact fun _ _ _ _ _ _ us hl => match us, hl with | [_, _], _ => rfl)
  have E__law_lk_drawn : ∃ f fd, Df (law_top.heap_39 w.params) mg "_law_lk_drawn" s__law_lk_drawn ["_law_stream", "_law_owners", "_law_many"] f fd := by
    refine' mkDf (st := s__law_lk_drawn) (ps := ["_law_stream", "_law_owners", "_law_many"]) KX G ?a ?l ?c ?k ?b; (case a => k_is); (case l => k_is); (case c => k_is); (case k => k_is); (case b => exact fun _ _ _ _ _ _ us hl => match us, hl with | [_, _, _], _ => rfl)
  have E__law_lk_spread : ∃ f fd, Df (law_top.heap_39 w.params) mg "_law_lk_spread" s__law_lk_spread ["_law_stream", "_law_owners"] f fd := by
    refine' mkDf (st := s__law_lk_spread) (ps := ["_law_stream", "_law_owners"]) KX G ?a ?l ?c ?k ?b; (case a => k_is); (case l => k_is); (case c => k_is); (case k => k_is); (case b => exact fun _ _ _ _ _ _ us hl => match us, hl with | [_, _], _ => rfl)
  have E__law_lk_wants : ∃ f fd, Df (law_top.heap_39 w.params) mg "_law_lk_wants" s__law_lk_wants ["_law_stream", "_law_owners", "_law_locks"] f fd := by
    refine' mkDf (st := s__law_lk_wants) (ps := ["_law_stream", "_law_owners", "_law_locks"]) KX G ?a ?l ?c ?k ?b; (case a => k_is); (case l => k_is); (case c => k_is); (case k => k_is); (case b => exact fun _ _ _ _ _ _ us hl => match us, hl with | [_, _, _], _ => rfl)
  have E__law_lk_waits : ∃ f fd, Df (law_top.heap_39 w.params) mg "_law_lk_waits" s__law_lk_waits ["_law_locks", "_law_wants"] f fd := by
    refine' mkDf (st := s__law_lk_waits) (ps := ["_law_locks", "_law_wants"]) KX G ?a ?l ?c ?k ?b; (case a => k_is); (case l => k_is); (case c => k_is); (case k => k_is); (case b => exact fun _ _ _ _ _ _ us hl => match us, hl with | [_, _], _ => rfl)
  have E__law_lk_has_ring : ∃ f fd, Df (law_top.heap_39 w.params) mg "_law_lk_has_ring" s__law_lk_has_ring ["_law_waits", "_law_owners"] f fd := by
    refine' mkDf (st := s__law_lk_has_ring) (ps := ["_law_waits", "_law_owners"]) KX G ?a ?l ?c ?k ?b; (case a => k_is); (case l => k_is); (case c => k_is); (case k => k_is); (case b => exact fun _ _ _ _ _ _ us hl => match us, hl with | [_, _], _ => rfl)
  have E__law_lk_scale : ∃ f fd, Df (law_top.heap_39 w.params) mg "_law_lk_scale" s__law_lk_scale ["_law_stream"] f fd := by
    refine' mkDf (st := s__law_lk_scale) (ps := ["_law_stream"]) KX G ?a ?l ?c ?k ?b; (case a => k_is); (case l => k_is); (case c => k_is); (case k => k_is); (case b => exact fun _ _ _ _ _ _ us hl => match us, hl with | [_], _ => rfl)
  have E__law_lk_far : ∃ f fd, Df (law_top.heap_39 w.params) mg "_law_lk_far" s__law_lk_far ["_law_locks", "_law_scale"] f fd := by
    refine' mkDf (st := s__law_lk_far) (ps := ["_law_locks", "_law_scale"]) KX G ?a ?l ?c ?k ?b; (case a => k_is); (case l => k_is); (case c => k_is); (case k => k_is); (case b => exact fun _ _ _ _ _ _ us hl => match us, hl with | [_, _], _ => rfl)
  have E__law_start : ∃ f fd, Df (law_top.heap_39 w.params) mg "_law_start" s__law_start ["_law_script"] f fd := by
    refine' mkDf (st := s__law_start) (ps := ["_law_script"]) KX G ?a ?l ?c ?k ?b; (case a => k_is); (case l => k_is); (case c => k_is); (case k => k_is); (case b => exact fun _ _ _ _ _ _ us hl => match us, hl with | [_], _ => rfl)
  have E__law_draw : ∃ f fd, Df (law_top.heap_39 w.params) mg "_law_draw" s__law_draw ["_law_stream", "_law_many"] f fd := by
    refine' mkDf (st := s__law_draw) (ps := ["_law_stream", "_law_many"]) KX G ?a ?l ?c ?k ?b; (case a => k_is); (case l => k_is); (case c => k_is); (case k => k_is); (case b => exact fun _ _ _ _ _ _ us hl => match us, hl with | [_, _], _ => rfl)
  have E__law_pick : ∃ f fd, Df (law_top.heap_39 w.params) mg "_law_pick" s__law_pick ["_law_stream", "_law_some"] f fd := by
    refine' mkDf (st := s__law_pick) (ps := ["_law_stream", "_law_some"]) KX G ?a ?l ?c ?k ?b; (case a => k_is); (case l => k_is); (case c => k_is); (case k => k_is); (case b => exact fun _ _ _ _ _ _ us hl => match us, hl with | [_, _], _ => rfl)
  have E__law_mixed : ∃ f fd, Df (law_top.heap_39 w.params) mg "_law_mixed" s__law_mixed ["_law_stream", "_law_some"] f fd := by
    refine' mkDf (st := s__law_mixed) (ps := ["_law_stream", "_law_some"]) KX G ?a ?l ?c ?k ?b; (case a => k_is); (case l => k_is); (case c => k_is); (case k => k_is); (case b => exact fun _ _ _ _ _ _ us hl => match us, hl with | [_, _], _ => rfl)
  have E__law_same : ∃ f fd, Df (law_top.heap_39 w.params) mg "_law_same" s__law_same ["_law_found", "_law_due"] f fd := by
    refine' mkDf (st := s__law_same) (ps := ["_law_found", "_law_due"]) KX G ?a ?l ?c ?k ?b; (case a => k_is); (case l => k_is); (case c => k_is); (case k => k_is); (case b => exact fun _ _ _ _ _ _ us hl => match us, hl with | [_, _], _ => rfl)
  have E__law_each_once : ∃ f fd, Df (law_top.heap_39 w.params) mg "_law_each_once" s__law_each_once ["_law_things"] f fd := by
    refine' mkDf (st := s__law_each_once) (ps := ["_law_things"]) KX G ?a ?l ?c ?k ?b; (case a => k_is); (case l => k_is); (case c => k_is); (case k => k_is); (case b => exact fun _ _ _ _ _ _ us hl => match us, hl with | [_], _ => rfl)
  have E__law_loose : ∃ f fd, Df (law_top.heap_39 w.params) mg "_law_loose" s__law_loose ["_law_stream", "_law_thing"] f fd := by
    refine' mkDf (st := s__law_loose) (ps := ["_law_stream", "_law_thing"]) KX G ?a ?l ?c ?k ?b; (case a => k_is); (case l => k_is); (case c => k_is); (case k => k_is); (case b => exact fun _ _ _ _ _ _ us hl => match us, hl with | [_, _], _ => rfl)
  have E__law_met : ∃ f fd, Df (law_top.heap_39 w.params) mg "_law_met" s__law_met ["_law_ask"] f fd := by
    refine' mkDf (st := s__law_met) (ps := ["_law_ask"]) KX G ?a ?l ?c ?k ?b; (case a => k_is); (case l => k_is); (case c => k_is); (case k => k_is); (case b => exact fun _ _ _ _ _ _ us hl => match us, hl with | [_], _ => rfl)
  have E__law_stopped : ∃ f fd, Df (law_top.heap_39 w.params) mg "_law_stopped" s__law_stopped ["_law_table", "_law_wants", "_law_owners"] f fd := by
    refine' mkDf (st := s__law_stopped) (ps := ["_law_table", "_law_wants", "_law_owners"]) KX G ?a ?l ?c ?k ?b; (case a => k_is); (case l => k_is); (case c => k_is); (case k => k_is); (case b => exact fun _ _ _ _ _ _ us hl => match us, hl with | [_, _, _], _ => rfl)
  have E__law_sets_right : ∃ f fd, Df (law_top.heap_39 w.params) mg "_law_sets_right" s__law_sets_right ["_law_table", "_law_wants", "_law_names", "_law_waits"] f fd := by
    refine' mkDf (st := s__law_sets_right) (ps := ["_law_table", "_law_wants", "_law_names", "_law_waits"]) KX G ?a ?l ?c ?k ?b; (case a => k_is); (case l => k_is); (case c => k_is); (case k => k_is); (case b => exact fun _ _ _ _ _ _ us hl => match us, hl with | [_, _, _, _], _ => rfl)
  have E_law : ∃ f fd, Df (law_top.heap_39 w.params) mg "law" s_law ["_law_script"] f fd := by
    refine' mkDf (st := s_law) (ps := ["_law_script"]) KX G ?a ?l ?c ?k ?b; (case a => k_is); (case l => k_is); (case c => k_is); (case k => k_is); (case b => exact fun _ _ _ _ _ _ us hl => match us, hl with | [_], _ => rfl)
  refine law_at (lc := 515) (lP := 513) (jc := 234) (jP := 230) KX G hmg T Cn0 Ck0 L XL XP Ex M1 M2 M3 M4 M5 (by exact rfl) (by exact rfl) (by decide) (hT _ (by decide)) (hT _ (by decide)) (by kernel_rfl) (by kernel_rfl) (codeHd_of_K KX (by kernel_rfl)) (codeHd_of_K KX (by kernel_rfl)) E_is_list E_is_integer E_is_number E_is_name E_each_once E_is_part E_in_order E_least_of E_least_hitting E_all_sets E_is_kind E_is_range E_is_lock E_do_meet E_are_clashing E_checked_locks E_left_rows E_joined_rows E_rows_as_locks E_lift_lock E_cost_of E_cheapest_of E_checked_prices E_checked_wants E_waits_for E_all_owners E_end_order E_ring_from E_least_rings E_least_stops E_cheapest_stops E__law_x_all E__law_x_in E__law_x_least E__law_x_prices E__law_x_cost E__law_lk_lock E__law_lk_has E__law_lk_clash E__law_lk_normal E__law_lk_drawn E__law_lk_spread E__law_lk_wants E__law_lk_waits E__law_lk_has_ring E__law_lk_scale E__law_lk_far E__law_start E__law_draw E__law_pick E__law_mixed E__law_same E__law_each_once E__law_loose E__law_met E__law_stopped E__law_sets_right E_law
end WH
theorem PySem.Challenge.cw_farfolder_k79_whole_whom_to_stop_holds : PySem.Challenge.rw_farfolder_k79_whole_whom_to_stop.Holds := by
  refine WH.law_top ?_
  k_fill
  refine LamX.walk_ofTs (l := PySem.Challenge.rw_farfolder_k79_whole_whom_to_stop) (n := 63) (k := 12) (x := PySem.Str.ofString "_law_script") (CX := fun _ => L2.CX0) rfl (by decide) rfl ⟨rfl, by decide, by decide⟩ (fun w h Y => PySem.W.km_in_of Y) ?F (fun _ _ _ _ _ z => z)
  intro w mg fa h Y KX G hmg
  exact WH.law_walk w mg fa h (PySem.W.km_tabs_of Y) KX G hmg
