import PyProof.Rows.All
import Wide.All
import OpenK.AllK
import Wide.FinOn
import HandS.ForMost
import HandS.IsInst
import HandS.TupAny
import HandS.TupLe
import HandS.TupMul
import HandS.Zip
import HandS.Deep
import HandS.More
import HandS.SetFor
import HandS.Style
import KE.KSortTupG
import KE.DataMinMax
import HandS.TupSets
import HandS.Evl
import HandS.Walk
import HandS.Head0
import HandS.Head1
import HandS.Head2
import HandS.HeadEnd
import HandS.HeadHook1
import HandS.HeadHook2
import HandS.Defaults
import HandS.WordsExc
import KE.KStateDown
import PySem.Challenge.RW_ringhues_k31_whole_rounds_and_shortest_r
set_option Elab.async false
set_option linter.all false
set_option maxRecDepth 100000
set_option maxHeartbeats 4000000
namespace Rg
/-! ### chains and closed ways of a relation on places -/
def ch (R : Nat → Nat → Bool) : List Nat → Prop
  | [] => True
  | [_] => True
  | a :: b :: r => R a b = true ∧ ch R (b :: r)
theorem ch_snoc {R : Nat → Nat → Bool} {p : Nat} : ∀ {l : List Nat}, l ≠ [] → (ch R (l ++ [p]) ↔ ch R l ∧ R (l.getLastD 0) p = true)
  | [], h => absurd rfl h
  | [a], _ => by simp [ch]
  | a :: b :: r, _ => by
    have ih := ch_snoc (R := R) (p := p) (l := b :: r) (by simp)
    show (R a b = true ∧ ch R ((b :: r) ++ [p])) ↔ (R a b = true ∧ ch R (b :: r)) ∧ R ((a :: b :: r).getLastD 0) p = true
    rw [ih]
    have e : (a :: b :: r).getLastD 0 = (b :: r).getLastD 0 := by simp
    rw [e, and_assoc]
theorem ch_rev {R : Nat → Nat → Bool} : ∀ l : List Nat, ch R l → ch (fun a b => R b a) l.reverse
  | [], _ => trivial
  | [a], _ => trivial
  | a :: b :: r, h => by
    have ih := ch_rev (b :: r) h.2
    rw [List.reverse_cons]
    refine (ch_snoc (by simp)).mpr ⟨ih, ?_⟩
    have e : ((b :: r).reverse).getLastD 0 = b := by simp [List.getLastD_eq_getLast?]
    show R a _ = true
    rw [e]
    exact h.1
theorem ch_imp {R S : Nat → Nat → Bool} : ∀ {l : List Nat}, (∀ a b, a ∈ l → b ∈ l → R a b = true → S a b = true) → ch R l → ch S l
  | [], _, _ => trivial
  | [a], _, _ => trivial
  | a :: b :: r, h, c => ⟨h a b (by simp) (by simp) c.1, ch_imp (fun x y hx hy => h x y (List.mem_cons_of_mem _ hx) (List.mem_cons_of_mem _ hy)) c.2⟩

theorem last_mem : ∀ {l : List Nat}, l ≠ [] → l.getLastD 0 ∈ l
  | [], h => absurd rfl h
  | [a], _ => by simp
  | a :: b :: r, _ => by
    have ih := last_mem (l := b :: r) (by simp)
    have e : (a :: b :: r).getLastD 0 = (b :: r).getLastD 0 := by simp
    rw [e]
    exact List.mem_cons_of_mem _ ih
def gr (R : Nat → Nat → Bool) (n : Nat) (row : List Nat) : List (List Nat) :=
  ((List.range' (row.headD 0 + 1) (n - (row.headD 0 + 1))).filter fun p => !(row.contains p) && R (row.getLastD 0) p).map fun p => row ++ [p]
def grs (R : Nat → Nat → Bool) (n : Nat) (rows : List (List Nat)) : List (List Nat) := rows.flatMap (gr R n)
def lev (R : Nat → Nat → Bool) (n : Nat) : Nat → List (List Nat)
  | 0 => (List.range n).map fun p => [p]
  | i + 1 => grs R n (lev R n i)
def closes (R : Nat → Nat → Bool) (row : List Nat) : Bool := R (row.getLastD 0) (row.headD 0)
def fnd (R : Nat → Nat → Bool) (n : Nat) : Nat → List (List Nat)
  | 0 => []
  | i + 1 => fnd R n i ++ (lev R n (i + 1)).filter (closes R)

/-- a way of i + 1 places -/
structure Way (R : Nat → Nat → Bool) (n i : Nat) (row : List Nat) : Prop where
  len : row.length = i + 1
  nd : row.Nodup
  big : ∀ x ∈ row.tail, row.headD 0 < x
  lt : ∀ x ∈ row, x < n
  ch : ch R row
theorem mem_gr {R : Nat → Nat → Bool} {n : Nat} {row x : List Nat} : x ∈ gr R n row ↔ ∃ p, x = row ++ [p] ∧ row.headD 0 < p ∧ p < n ∧ p ∉ row ∧ R (row.getLastD 0) p = true := by
  unfold gr
  simp only [List.mem_map, List.mem_filter, List.mem_range'_1, Bool.and_eq_true, Bool.not_eq_true', List.contains_eq_mem, decide_eq_false_iff_not]
  constructor
  · rintro ⟨p, ⟨⟨h1, h2⟩, h3, h4⟩, rfl⟩
    exact ⟨p, rfl, by omega, by omega, h3, h4⟩
  · rintro ⟨p, rfl, h1, h2, h3, h4⟩
    exact ⟨p, ⟨⟨by omega, by omega⟩, h3, h4⟩, rfl⟩
theorem mem_lev {R : Nat → Nat → Bool} {n : Nat} : ∀ (i : Nat) (row : List Nat), row ∈ lev R n i ↔ Way R n i row
  | 0, row => by
    unfold lev
    rw [List.mem_map]
    constructor
    · rintro ⟨p, hp, rfl⟩
      rw [List.mem_range] at hp
      exact ⟨rfl, by simp, by simp, by simpa using hp, trivial⟩
    · intro w
      obtain ⟨p, rfl⟩ := List.length_eq_one_iff.mp w.len
      exact ⟨p, List.mem_range.mpr (w.lt p (by simp)), rfl⟩
  | i + 1, row => by
    show row ∈ grs R n (lev R n i) ↔ _
    unfold grs
    rw [List.mem_flatMap]
    constructor
    · rintro ⟨r, hr, hx⟩
      obtain ⟨p, rfl, h1, h2, h3, h4⟩ := mem_gr.mp hx
      have w := (mem_lev i r).mp hr
      have hne : r ≠ [] := by
        intro e
        have := w.len
        rw [e] at this
        simp at this
      obtain ⟨a, t, rfl⟩ := List.exists_cons_of_ne_nil hne
      refine ⟨by rw [List.length_append, w.len]; rfl, ?_, ?_, ?_, (ch_snoc hne).mpr ⟨w.ch, h4⟩⟩
      · rw [List.nodup_append]
        refine ⟨w.nd, by simp, fun x hx' y hy e => ?_⟩
        rw [List.mem_singleton] at hy
        rw [e, hy] at hx'
        exact h3 hx'
      · intro x hx
        have hx' : x ∈ t ∨ x = p := by simpa using hx
        rcases hx' with hx' | rfl
        · exact w.big x (by simpa using hx')
        · exact h1
      · intro x hx
        rcases List.mem_append.mp hx with hx | hx
        · exact w.lt x hx
        · rw [List.mem_singleton] at hx
          rw [hx]; exact h2
    · intro w
      have hne : row ≠ [] := by
        intro e
        have := w.len
        rw [e] at this
        simp at this
      refine ⟨row.dropLast, (mem_lev i _).mpr ?_, mem_gr.mpr ⟨row.getLast hne, (List.dropLast_concat_getLast hne).symm, ?_⟩⟩
      all_goals
        obtain ⟨r, p, rfl⟩ : ∃ r p, row = r ++ [p] := ⟨row.dropLast, row.getLast hne, (List.dropLast_concat_getLast hne).symm⟩
        have hl : r.length = i + 1 := by
          have := w.len
          rw [List.length_append] at this
          simpa using this
        have hne2 : r ≠ [] := by
          intro e
          rw [e] at hl
          simp at hl
        obtain ⟨a, t, rfl⟩ := List.exists_cons_of_ne_nil hne2
        have hc := (ch_snoc hne2).mp w.ch
        have hnd := List.nodup_append.mp w.nd
      · rw [List.dropLast_concat]
        refine ⟨hl, hnd.1, fun x hx => ?_, fun x hx => w.lt x (List.mem_append_left _ hx), hc.1⟩
        exact w.big x (by simp at hx ⊢; exact .inl hx)
      · rw [List.dropLast_concat, List.getLast_concat]
        refine ⟨?_, w.lt _ (by simp), fun hp => hnd.2.2 p hp p (by simp) rfl, hc.2⟩
        exact w.big p (by simp)
theorem lev_none {R : Nat → Nat → Bool} {n i : Nat} (h : n ≤ i) : lev R n i = [] := by
  cases e : lev R n i with
  | nil => rfl
  | cons row r =>
    have w := (mem_lev i row).mp (by rw [e]; simp)
    have hs : row ⊆ List.range n := fun x hx => List.mem_range.mpr (w.lt x hx)
    have := w.nd.length_le_of_subset hs
    rw [List.length_range, w.len] at this
    omega
theorem lev_stop {R : Nat → Nat → Bool} {n i : Nat} (h : lev R n i = []) : ∀ j, lev R n (i + j) = []
  | 0 => h
  | j + 1 => by
    show grs R n (lev R n (i + j)) = []
    rw [lev_stop h j]
    rfl
theorem fnd_stop {R : Nat → Nat → Bool} {n i : Nat} (h : lev R n i = []) : ∀ j, fnd R n (i + j) = fnd R n i
  | 0 => rfl
  | j + 1 => by
    show fnd R n (i + j) ++ (lev R n (i + j + 1)).filter (closes R) = _
    rw [fnd_stop h j, show i + j + 1 = i + (j + 1) by omega, lev_stop h (j + 1)]
    simp
/-- all full rounds, as they are found -/
def fall (R : Nat → Nat → Bool) (n : Nat) : List (List Nat) := fnd R n n
theorem fall_of {R : Nat → Nat → Bool} {n i : Nat} (hi : i ≤ n) (h : lev R n i = []) : fnd R n i = fall R n := by
  have := fnd_stop h (n - i)
  rw [show i + (n - i) = n by omega] at this
  exact this.symm
theorem lev_nd {R : Nat → Nat → Bool} {n : Nat} : ∀ i, (lev R n i).Nodup
  | 0 => by
    show ((List.range n).map fun p => [p]).Nodup
    unfold List.Nodup
    rw [List.pairwise_map]
    exact List.Pairwise.imp (fun h e => h (by simpa using e)) (List.nodup_range (n := n))
  | i + 1 => by
    show ((lev R n i).flatMap (gr R n)).Nodup
    unfold List.Nodup
    rw [List.pairwise_flatMap]
    refine ⟨fun row _ => ?_, List.Pairwise.imp (fun {a b} h x hx y hy e => ?_) (lev_nd i)⟩
    · unfold gr
      rw [List.pairwise_map]
      refine List.Pairwise.imp (fun {a b} h e => ?_) (List.Pairwise.filter _ (List.nodup_range' (s := row.headD 0 + 1) (n := n - (row.headD 0 + 1)) (step := 1)))
      have := List.append_cancel_left e
      simp at this
      exact h this
    · obtain ⟨p, rfl, _⟩ := mem_gr.mp hx
      obtain ⟨q, e2, _⟩ := mem_gr.mp hy
      rw [e2] at e
      have : a = b := by
        have := congrArg List.dropLast e
        simpa using this
      exact h this
theorem mem_fnd {R : Nat → Nat → Bool} {n : Nat} {row : List Nat} : ∀ i, row ∈ fnd R n i ↔ ∃ j, j < i ∧ Way R n (j + 1) row ∧ closes R row = true
  | 0 => by simp [fnd]
  | i + 1 => by
    show row ∈ fnd R n i ++ (lev R n (i + 1)).filter (closes R) ↔ _
    rw [List.mem_append, mem_fnd i, List.mem_filter, mem_lev]
    constructor
    · rintro (⟨j, hj, w, c⟩ | ⟨w, c⟩)
      · exact ⟨j, by omega, w, c⟩
      · exact ⟨i, by omega, w, c⟩
    · rintro ⟨j, hj, w, c⟩
      by_cases h : j = i
      · subst h
        exact .inr ⟨w, c⟩
      · exact .inl ⟨j, by omega, w, c⟩
theorem fnd_nd {R : Nat → Nat → Bool} {n : Nat} : ∀ i, (fnd R n i).Nodup
  | 0 => by simp [fnd]
  | i + 1 => by
    show (fnd R n i ++ (lev R n (i + 1)).filter (closes R)).Nodup
    rw [List.nodup_append]
    refine ⟨fnd_nd i, List.Pairwise.filter _ (lev_nd (i + 1)), fun a ha b hb e => ?_⟩
    subst e
    obtain ⟨j, hj, w, _⟩ := (mem_fnd i).mp ha
    have w2 := (mem_lev _ _).mp (List.mem_filter.mp hb).1
    have h1 := w.len
    have h2 := w2.len
    omega
/-- a full round of the relation, by what it is -/
structure Rd (R : Nat → Nat → Bool) (n : Nat) (row : List Nat) : Prop where
  two : 2 ≤ row.length
  nd : row.Nodup
  big : ∀ x ∈ row.tail, row.headD 0 < x
  lt : ∀ x ∈ row, x < n
  ch : ch R (row ++ [row.headD 0])
theorem mem_fall {R : Nat → Nat → Bool} {n : Nat} {row : List Nat} : row ∈ fall R n ↔ Rd R n row := by
  unfold fall
  rw [mem_fnd]
  constructor
  · rintro ⟨j, hj, w, c⟩
    have hl := w.len
    have hne : row ≠ [] := by
      intro e
      rw [e] at hl
      simp at hl
    exact ⟨by omega, w.nd, w.big, w.lt, (ch_snoc hne).mpr ⟨w.ch, c⟩⟩
  · intro r
    have hne : row ≠ [] := by
      intro e
      have := r.two
      rw [e] at this
      simp at this
    have hs : row ⊆ List.range n := fun x hx => List.mem_range.mpr (r.lt x hx)
    have hl := r.nd.length_le_of_subset hs
    rw [List.length_range] at hl
    have h2 := r.two
    have hc := (ch_snoc hne).mp r.ch
    exact ⟨row.length - 2, by omega, ⟨by omega, r.nd, r.big, r.lt, hc.1⟩, hc.2⟩
/-! ### mirrored -/
def turnRow (row : List Nat) : List Nat := row.take 1 ++ (row.drop 1).reverse
theorem turnRow_cons (a : Nat) (t : List Nat) : turnRow (a :: t) = a :: t.reverse := by simp [turnRow]
theorem turnRow_turn (row : List Nat) : turnRow (turnRow row) = row := by
  cases row with
  | nil => rfl
  | cons a t => rw [turnRow_cons, turnRow_cons, List.reverse_reverse]
theorem Rd.turn {R : Nat → Nat → Bool} {n : Nat} {row : List Nat} (r : Rd R n row) : Rd (fun a b => R b a) n (turnRow row) := by
  cases row with
  | nil => exact absurd r.two (by simp)
  | cons a t =>
    rw [turnRow_cons]
    have hmem : ∀ x, x ∈ a :: t.reverse ↔ x ∈ a :: t := fun x => by simp
    refine ⟨by simpa using r.two, ?_, fun x hx => r.big x (by simpa using hx), fun x hx => r.lt x ((hmem x).mp hx), ?_⟩
    · have := r.nd
      rw [List.nodup_cons] at this ⊢
      refine ⟨by simpa using this.1, ?_⟩
      have h2 := this.2
      unfold List.Nodup at h2 ⊢
      rw [List.pairwise_reverse]
      exact List.Pairwise.imp (fun h e => h e.symm) h2
    · have h := ch_rev _ r.ch
      have e : ((a :: t) ++ [(a :: t).headD 0]).reverse = (a :: t.reverse) ++ [(a :: t.reverse).headD 0] := by simp
      rw [e] at h
      exact h
theorem fall_turn {R S : Nat → Nat → Bool} {n : Nat} (hS : ∀ a b, a < n → b < n → S a b = R b a) : (fall S n).Perm ((fall R n).map turnRow) := by
  refine (List.perm_ext_iff_of_nodup (fnd_nd n) ?_).mpr fun row => ?_
  · show ((fnd R n n).map turnRow).Nodup
    unfold List.Nodup
    rw [List.pairwise_map]
    refine List.Pairwise.imp (fun {a b} h e => h ?_) (fnd_nd (R := R) (n := n) n)
    have := congrArg turnRow e
    rwa [turnRow_turn, turnRow_turn] at this
  · have conv : ∀ {T U : Nat → Nat → Bool} {row : List Nat}, (∀ a b, a < n → b < n → T a b = U a b) → Rd T n row → Rd U n row := by
      intro T U row h r
      refine ⟨r.two, r.nd, r.big, r.lt, ch_imp (fun a b ha hb e => ?_) r.ch⟩
      have lt' : ∀ x, x ∈ row ++ [row.headD 0] → x < n := by
        intro x hx
        rcases List.mem_append.mp hx with hx | hx
        · exact r.lt x hx
        · rw [List.mem_singleton] at hx
          cases row with
          | nil => exact absurd r.two (by simp)
          | cons y t => rw [hx]; exact r.lt y (by simp)
      rw [← h a b (lt' a ha) (lt' b hb)]
      exact e
    rw [List.mem_map]
    constructor
    · intro h
      have r := mem_fall.mp h
      refine ⟨turnRow row, mem_fall.mpr (conv (T := fun a b => S b a) (fun a b ha hb => hS b a hb ha) r.turn), turnRow_turn row⟩
    · rintro ⟨r0, h0, rfl⟩
      exact mem_fall.mpr (conv (T := fun a b => R b a) (fun a b ha hb => (hS a b ha hb).symm) (mem_fall.mp h0).turn)
theorem fall_same {R S : Nat → Nat → Bool} {n : Nat} (hS : ∀ a b, a < n → b < n → S a b = R a b) : ∀ i, lev S n i = lev R n i ∧ fnd S n i = fnd R n i
  | 0 => ⟨rfl, rfl⟩
  | i + 1 => by
    obtain ⟨h1, h2⟩ := fall_same hS i
    have hl : ∀ row, row ∈ lev R n i → gr S n row = gr R n row := by
      intro row hr
      have w := (mem_lev i row).mp hr
      have hne : row ≠ [] := by
        intro e
        have := w.len
        rw [e] at this
        simp at this
      have hlast : row.getLastD 0 < n := w.lt _ (last_mem hne)
      unfold gr
      congr 1
      refine List.filter_congr fun p hp => ?_
      rw [List.mem_range'_1] at hp
      rw [hS _ _ hlast (by omega)]
    have h3 : lev S n (i + 1) = lev R n (i + 1) := by
      show (lev S n i).flatMap (gr S n) = (lev R n i).flatMap (gr R n)
      rw [h1]
      clear h1 h2
      generalize lev R n i = L at hl
      induction L with
      | nil => rfl
      | cons a r ih =>
        rw [List.flatMap_cons, List.flatMap_cons, hl a (by simp), ih fun row hr => hl row (List.mem_cons_of_mem _ hr)]
    refine ⟨h3, ?_⟩
    show fnd S n i ++ (lev S n (i + 1)).filter (closes S) = fnd R n i ++ (lev R n (i + 1)).filter (closes R)
    rw [h2, h3]
    congr 1
    refine List.filter_congr fun row hr => ?_
    have w := (mem_lev _ row).mp hr
    have hne : row ≠ [] := by
      intro e
      have := w.len
      rw [e] at this
      simp at this
    obtain ⟨a, t, rfl⟩ := List.exists_cons_of_ne_nil hne
    unfold closes
    exact hS _ _ (w.lt _ (last_mem hne)) (w.lt a (by simp))
end Rg
namespace Rg
/-! ### webs, hues: the mirror -/
structure Web where
  n : Nat
  ts : List (Nat × Nat)
def has (ts : List (Nat × Nat)) (a b : Nat) : Bool := ts.any fun t => t.1 == a && t.2 == b
def tie (w : Web) (a b : Nat) : Bool := has w.ts (min a b) (max a b)
def ap (k a b : Nat) : Nat := min ((a + k - b) % k) ((b + k - a) % k)
def hg (h : List Nat) (i : Nat) : Nat := h.getD i 0
def nx (w : Web) (k d : Nat) (h : List Nat) (a b : Nat) : Bool := tie w a b && (hg h a + d) % k == hg h b
def okH (w : Web) (k d : Nat) (h : List Nat) : Bool := h.length == w.n && h.all (fun x => Nat.blt x k) && w.ts.all fun t => Nat.ble d (ap k (hg h t.1) (hg h t.2))
def okW (w : Web) : Bool := w.ts.all fun t => Nat.blt t.1 t.2 && Nat.blt t.2 w.n
/-! ### the law's own search -/
def lap (k a b : Nat) : Nat := min (max a b - min a b) (k - (max a b - min a b))
def threes (w : Web) : List Nat := w.ts.flatMap fun t => (List.range w.n).filter fun p => has w.ts t.1 p && has w.ts t.2 p
def loose (w : Web) : List Nat := (List.range w.n).filter fun p => (w.ts.filter fun t => t.1 == p || t.2 == p).isEmpty
inductive Stp (α : Type) where
  | go (x : α)
  | done (r : Option (List Nat))
def run {α : Type} (step : α → Stp α) : Nat → α → Option (Option (List Nat))
  | 0, _ => none
  | f + 1, x => match step x with
    | .go y => run step f y
    | .done r => some r
def lfStep (w : Web) (k d : Nat) (row : List Nat) : Stp (List Nat) :=
  if row.headD 0 == 0 then
    if row.getLastD 0 == k || (Nat.blt 0 (row.getLastD 0) && (loose w).contains (row.length - 1)) then
      if row.dropLast.isEmpty then .done none else .go (row.dropLast.dropLast ++ [row.dropLast.getLastD 0 + 1])
    else if (((w.ts.filter fun t => t.2 == row.length - 1).filter fun t => Nat.blt (lap k (hg row t.1) (row.getLastD 0)) d).isEmpty) then
      if row.length == w.n then .done (some row) else .go (row ++ [0])
    else .go (row.dropLast ++ [row.getLastD 0 + 1])
  else .done none
def fuel : Nat := 100000
def lawFirst (w : Web) (k d : Nat) : Option (Option (List Nat)) :=
  if !w.ts.isEmpty && Nat.blt k (2 * d) then some none
  else if !(threes w).isEmpty && Nat.blt k (3 * d) then some none
  else run (lfStep w k d) fuel [0]
def tightL (w : Web) : List (Nat × Nat) → Option (Nat × Nat)
  | [] => none
  | r :: rs => match lawFirst w r.1 r.2 with
    | some (some _) => some r
    | some none => tightL w rs
    | none => none
def rings9 : List (Nat × Nat) := [(2, 1), (5, 2), (7, 3), (3, 1), (7, 2), (4, 1), (9, 2), (5, 1), (6, 1)]
/-! ### the package's search -/
def back (w : Web) : List (List Nat) := (List.range w.n).map fun p => (w.ts.filter fun t => t.2 == p).map (·.1)
def fits (k d : Nat) (bk : List (List Nat)) (row : List Nat) (p s : Nat) : Bool := (bk.getD p []).all fun o => Nat.ble d (ap k (hg row o) s)
def hasThrees (w : Web) : Bool := w.ts.any fun t => !((List.range w.n).filter fun p => has w.ts t.1 p && has w.ts t.2 p).isEmpty
def knOk (known : List (Option Nat)) (p s : Nat) : Bool := match known.getD p none with
  | none => true
  | some x => x == s
def seek (ok : Nat → Bool) : Nat → Nat → Nat
  | 0, s => s
  | f + 1, s => if ok s then s else seek ok f (s + 1)
def frSeek (w : Web) (k d : Nat) (known : List (Option Nat)) (row : List Nat) (spot : Nat) : Nat := seek (fun s => knOk known row.length s && fits k d (back w) row row.length s) (k - spot) spot
def frStep (w : Web) (k d : Nat) (known : List (Option Nat)) (x : List Nat × Nat) : Stp (List Nat × Nat) :=
  if Nat.blt x.1.length w.n then
    if Nat.blt (frSeek w k d known x.1 x.2) k then .go (x.1 ++ [frSeek w k d known x.1 x.2], 0)
    else if x.1.isEmpty then .done none
    else .go (x.1.dropLast, if (loose w).contains x.1.dropLast.length then k else x.1.getLastD 0 + 1)
  else .done (some x.1)
def firstRow (w : Web) (k d : Nat) (known : List (Option Nat)) : Option (Option (List Nat)) :=
  if (!w.ts.isEmpty && Nat.blt k (2 * d)) || (Nat.blt k (3 * d) && hasThrees w) then some none
  else run (frStep w k d known) fuel ([], 0)
def kn0 (n : Nat) : List (Option Nat) := some 0 :: List.replicate (n - 1) none
def leastL (w : Web) : List (Nat × Nat) → Option (Nat × Nat)
  | [] => none
  | r :: rs => match firstRow w r.1 r.2 (kn0 w.n) with
    | some (some _) => some r
    | some none => leastL w rs
    | none => none
def shorter (a b : Nat × Nat) : Bool := Nat.blt (a.1 * b.2) (b.1 * a.2)
def insR (fd : List (Nat × Nat)) (r : Nat × Nat) : List (Nat × Nat) := fd.takeWhile (fun a => shorter a r) ++ r :: fd.dropWhile (fun a => shorter a r)
def plK (fd : List (Nat × Nat)) (k : Nat) : List (Nat × Nat) := (List.range' 1 (k / 2)).foldl (fun fd d => if Nat.gcd k d == 1 then insR fd (k, d) else fd) fd
def pl (most : Nat) : List (Nat × Nat) := (List.range' 2 (most - 1)).foldl plK [(1, 1)]
def plT : Nat → List (Nat × Nat)
  | 2 => [(1, 1), (2, 1)]
  | 3 => [(1, 1), (2, 1), (3, 1)]
  | 4 => [(1, 1), (2, 1), (3, 1), (4, 1)]
  | _ => [(1, 1), (2, 1), (5, 2), (3, 1), (4, 1), (5, 1)]
/-! ### witnesses -/
def clq (w : Web) : List Nat → Bool
  | [] => true
  | x :: r => r.all (fun y => tie w x y) && clq w r
def combs : Nat → List Nat → List (List Nat)
  | 0, _ => [[]]
  | _ + 1, [] => []
  | m + 1, x :: r => (combs m r).map (x :: ·) ++ combs (m + 1) r
def findClq (w : Web) (m : Nat) : Option (List Nat) := (combs m (List.range w.n)).find? (clq w)
def rounds5 : List (List Nat) := [[0,1,2,3,4],[0,1,2,4,3],[0,1,3,2,4],[0,1,3,4,2],[0,1,4,2,3],[0,1,4,3,2],[0,2,1,3,4],[0,2,1,4,3],[0,2,3,1,4],[0,2,4,1,3],[0,3,1,2,4],[0,3,2,1,4]]
def cyc5 (w : Web) : List Nat → Bool
  | [a, b, c, d, e] => tie w a b && tie w b c && tie w c d && tie w d e && tie w e a
  | _ => false
def witOk (w : Web) (r : Nat × Nat) : Bool :=
  if r.2 == 1 then (r.1 == 2 || r.1 == 3 || r.1 == 4 || r.1 == 5) && (findClq w r.1).isSome
  else r.1 == 5 && r.2 == 2 && w.n == 5 && (rounds5.any (cyc5 w))
def rising : Nat × Nat → List (Nat × Nat) → Bool
  | _, [] => true
  | l, t :: r => (Nat.blt l.1 t.1 || (l.1 == t.1 && Nat.blt l.2 t.2)) && rising t r
def risingW (w : Web) : Bool := match w.ts with
  | [] => true
  | t :: r => rising t r
def wcheck (w : Web) : Bool :=
  match tightL w rings9 with
  | none => false
  | some r => (leastL w (plT w.n).tail == some r) && witOk w r && okW w && risingW w &&
    (match lawFirst w r.1 r.2 with
     | some (some h) => okH w r.1 r.2 h && h.headD 1 == 0 && (fall (nx w (r.1 + 1) r.2 h) w.n).isEmpty
     | _ => false) &&
    (match lawFirst w (2 * r.1) (2 * r.2) with
     | some (some h) => okH w (2 * r.1) (2 * r.2) h
     | _ => false)
def pairsFrom (n i : Nat) : List (Nat × Nat) := (List.range' (i + 1) (n - (i + 1))).map fun j => (i, j)
def pairs (n : Nat) : List (Nat × Nat) := (List.range n).flatMap (pairsFrom n)
def subs {α : Type} : List α → List (List α)
  | [] => [[]]
  | x :: r => (subs r).map (x :: ·) ++ subs r
def checkN (n : Nat) : Bool := (subs (pairs n)).all fun ts => ts.isEmpty || wcheck ⟨n, ts⟩
end Rg
namespace Rg
/-! ### numbers around a ring -/
theorem inj_add {k c u v : Nat} (h : (u + c) % k = (v + c) % k) : u % k = v % k := by
  have h2 : (((u : Int) + c) % k) = (((v : Int) + c) % k) := by
    have := congrArg (fun n : Nat => (n : Int)) h
    simpa using this
  have h3 := (Int.emod_add_cancel_right (c : Int)).mp h2
  have h4 : ((u % k : Nat) : Int) = ((v % k : Nat) : Int) := by simpa using h3
  exact Int.ofNat.inj h4
theorem ap_comm (k a b : Nat) : ap k a b = ap k b a := by
  unfold ap
  exact Nat.min_comm _ _
theorem mod_one (k x : Nat) (h : x < 2 * k) : x % k = if x < k then x else x - k := by
  split
  · rename_i h1
    exact Nat.mod_eq_of_lt h1
  · rename_i h1
    rw [Nat.mod_eq_sub_mod (by omega)]
    exact Nat.mod_eq_of_lt (by omega)
theorem ap_eq {k a b : Nat} (ha : a < k) (hb : b < k) : ap k a b = min (if b ≤ a then a - b else a + k - b) (if a ≤ b then b - a else b + k - a) := by
  unfold ap
  rw [mod_one k (a + k - b) (by omega), mod_one k (b + k - a) (by omega)]
  congr 1
  · split <;> split <;> omega
  · split <;> split <;> omega
theorem apdir {k c x y : Nat} (hx : x < k) (hy : y < k) : ((x + c) % k + k - (y + c) % k) % k = (x + k - y) % k := by
  have h1 : (x + c) % k < k := Nat.mod_lt _ (by omega)
  have h2 : (y + c) % k < k := Nat.mod_lt _ (by omega)
  refine inj_add (c := y + c) ?_
  rw [← Nat.add_mod_mod]
  rw [show (x + c) % k + k - (y + c) % k + (y + c) % k = (x + c) % k + k by omega, Nat.add_mod_right, Nat.mod_mod]
  rw [show x + k - y + (y + c) = x + c + k by omega, Nat.add_mod_right]
theorem ap_turn {k c x y : Nat} (hx : x < k) (hy : y < k) : ap k ((x + c) % k) ((y + c) % k) = ap k x y := by
  unfold ap
  rw [apdir hx hy, apdir hy hx]
theorem mir_add {k x : Nat} (hx : x < k) : ((k - x) % k + x) % k = 0 := by
  rw [Nat.mod_add_mod, show k - x + x = k by omega, Nat.mod_self]
theorem mirdir {k x y : Nat} (hx : x < k) (hy : y < k) : ((k - x) % k + k - (k - y) % k) % k = (y + k - x) % k := by
  have h1 : (k - x) % k < k := Nat.mod_lt _ (by omega)
  have h2 : (k - y) % k < k := Nat.mod_lt _ (by omega)
  refine inj_add (c := (k - y) % k + x) ?_
  rw [show (k - x) % k + k - (k - y) % k + ((k - y) % k + x) = ((k - x) % k + x) + k by omega, Nat.add_mod_right, mir_add hx]
  rw [show y + k - x + ((k - y) % k + x) = ((k - y) % k + y) + k by omega, Nat.add_mod_right, mir_add hy]
theorem ap_mir {k x y : Nat} (hx : x < k) (hy : y < k) : ap k ((k - x) % k) ((k - y) % k) = ap k x y := by
  unfold ap
  rw [mirdir hx hy, mirdir hy hx]
  exact Nat.min_comm _ _
theorem turn_iff {k d c x y : Nat} (hy : y < k) : (((x + c) % k + d) % k = (y + c) % k) ↔ ((x + d) % k = y) := by
  rw [Nat.mod_add_mod, show x + c + d = x + d + c by omega]
  constructor
  · intro h
    rw [inj_add h]
    exact Nat.mod_eq_of_lt hy
  · intro h
    rw [← h, Nat.mod_add_mod]
theorem mir_iff {k d x y : Nat} (hx : x < k) (hy : y < k) : (((k - x) % k + d) % k = (k - y) % k) ↔ ((y + d) % k = x) := by
  have e1 : ((k - x) % k + d + (x + y)) % k = (y + d) % k := by
    rw [show (k - x) % k + d + (x + y) = ((k - x) % k + x) + (y + d) by omega, ← Nat.mod_add_mod, mir_add hx, Nat.zero_add]
  have e2 : ((k - y) % k + (x + y)) % k = x := by
    rw [show (k - y) % k + (x + y) = ((k - y) % k + y) + x by omega, ← Nat.mod_add_mod, mir_add hy, Nat.zero_add]
    exact Nat.mod_eq_of_lt hx
  constructor
  · intro h
    have z : (((k - x) % k + d) % k + (x + y)) % k = ((k - y) % k + (x + y)) % k := by rw [h]
    rw [Nat.mod_add_mod, e1, e2] at z
    exact z
  · intro h
    have : ((k - x) % k + d + (x + y)) % k = ((k - y) % k + (x + y)) % k := by rw [e1, e2, h]
    rw [inj_add this, Nat.mod_mod]

/-! ### webs and hues -/
structure HuesOk (w : Web) (k d : Nat) (h : List Nat) : Prop where
  len : h.length = w.n
  lt : ∀ i, i < w.n → hg h i < k
  far : ∀ t, t ∈ w.ts → d ≤ ap k (hg h t.1) (hg h t.2)
structure TiesOk (w : Web) : Prop where
  ties : ∀ t, t ∈ w.ts → t.1 < t.2 ∧ t.2 < w.n
theorem okW_iff {w : Web} : okW w = true ↔ TiesOk w := by
  unfold okW
  simp only [List.all_eq_true, Bool.and_eq_true, Nat.blt_eq]
  exact ⟨fun h => ⟨h⟩, fun h => h.ties⟩
theorem hg_at {h : List Nat} {i : Nat} (hi : i < h.length) : hg h i = h[i] := by
  unfold hg
  rw [List.getD_eq_getElem?_getD, List.getElem?_eq_getElem hi]
  rfl
theorem okH_iff {w : Web} {k d : Nat} {h : List Nat} : okH w k d h = true ↔ HuesOk w k d h := by
  unfold okH
  simp only [List.all_eq_true, Bool.and_eq_true, Nat.blt_eq, Nat.ble_eq, beq_iff_eq]
  constructor
  · rintro ⟨⟨h1, h2⟩, h3⟩
    exact ⟨h1, fun i hi => by rw [hg_at (by omega)]; exact h2 _ (List.getElem_mem _), h3⟩
  · intro o
    refine ⟨⟨o.len, fun x hx => ?_⟩, o.far⟩
    obtain ⟨i, hi, rfl⟩ := List.mem_iff_getElem.mp hx
    have := o.lt i (by rw [← o.len]; exact hi)
    rwa [hg_at hi] at this
theorem hg_map {h : List Nat} {f : Nat → Nat} {i : Nat} (hi : i < h.length) : hg (h.map f) i = f (hg h i) := by
  rw [hg_at (by rw [List.length_map]; exact hi), hg_at hi, List.getElem_map]
theorem has_iff {ts : List (Nat × Nat)} {a b : Nat} : has ts a b = true ↔ (a, b) ∈ ts := by
  unfold has
  rw [List.any_eq_true]
  constructor
  · rintro ⟨⟨x, y⟩, ht, e⟩
    simp only [Bool.and_eq_true, beq_iff_eq] at e
    rw [← e.1, ← e.2]
    exact ht
  · intro h
    exact ⟨(a, b), h, by simp⟩
theorem tie_comm (w : Web) (a b : Nat) : tie w a b = tie w b a := by
  unfold tie
  rw [Nat.min_comm, Nat.max_comm]
theorem TiesOk.irr {w : Web} (o : TiesOk w) (a : Nat) : tie w a a = false := by
  cases e : tie w a a with
  | false => rfl
  | true =>
    have h := o.ties _ (has_iff.mp e)
    simp at h
theorem TiesOk.lt {w : Web} (o : TiesOk w) {a b : Nat} (h : tie w a b = true) : a < w.n ∧ b < w.n := by
  have h := o.ties _ (has_iff.mp h)
  have h1 : min a b < max a b := h.1
  have h2 : max a b < w.n := h.2
  omega
theorem HuesOk.farT {w : Web} {k d : Nat} {h : List Nat} (o : HuesOk w k d h) {a b : Nat} (t : tie w a b = true) : d ≤ ap k (hg h a) (hg h b) := by
  have := o.far _ (has_iff.mp t)
  have this : d ≤ ap k (hg h (min a b)) (hg h (max a b)) := this
  rcases Nat.le_total a b with q | q
  · rwa [Nat.min_eq_left q, Nat.max_eq_right q] at this
  · rw [Nat.min_eq_right q, Nat.max_eq_left q, ap_comm] at this
    exact this
theorem HuesOk.of_map {w : Web} (T : TiesOk w) {k d : Nat} {h : List Nat} (o : HuesOk w k d h) {k' d' : Nat} {f : Nat → Nat} (hf : ∀ x, x < k → f x < k')
    (hap : ∀ x y, x < k → y < k → d ≤ ap k x y → d' ≤ ap k' (f x) (f y)) : HuesOk w k' d' (h.map f) := by
  refine ⟨by rw [List.length_map]; exact o.len, fun i hi => ?_, fun t ht => ?_⟩
  · rw [hg_map (by rw [o.len]; exact hi)]
    exact hf _ (o.lt i hi)
  · obtain ⟨h1, h2⟩ := T.ties t ht
    rw [hg_map (by rw [o.len]; omega), hg_map (by rw [o.len]; omega)]
    exact hap _ _ (o.lt _ (by omega)) (o.lt _ (by omega)) (o.far t ht)
def turned (k c : Nat) (h : List Nat) : List Nat := h.map fun x => (x + c) % k
def mirrored (k : Nat) (h : List Nat) : List Nat := h.map fun x => (k - x) % k
theorem HuesOk.turned {w : Web} (T : TiesOk w) {k d c : Nat} {h : List Nat} (o : HuesOk w k d h) : HuesOk w k d (turned k c h) :=
  o.of_map T (fun x hx => Nat.mod_lt _ (by omega)) fun x y hx hy q => by rw [ap_turn hx hy]; exact q
theorem HuesOk.mirrored {w : Web} (T : TiesOk w) {k d : Nat} {h : List Nat} (o : HuesOk w k d h) : HuesOk w k d (mirrored k h) :=
  o.of_map T (fun x hx => Nat.mod_lt _ (by omega)) fun x y hx hy q => by rw [ap_mir hx hy]; exact q
theorem nx_turned {w : Web} {k d c : Nat} {h : List Nat} (o : HuesOk w k d h) (a b : Nat) (ha : a < w.n) (hb : b < w.n) : nx w k d (Rg.turned k c h) a b = nx w k d h a b := by
  unfold nx Rg.turned
  rw [hg_map (by rw [o.len]; exact ha), hg_map (by rw [o.len]; exact hb)]
  congr 1
  rw [Bool.eq_iff_iff, beq_iff_eq, beq_iff_eq]
  exact turn_iff (o.lt b hb)
theorem nx_mirrored {w : Web} {k d : Nat} {h : List Nat} (o : HuesOk w k d h) (a b : Nat) (ha : a < w.n) (hb : b < w.n) : nx w k d (Rg.mirrored k h) a b = nx w k d h b a := by
  unfold nx Rg.mirrored
  rw [hg_map (by rw [o.len]; exact ha), hg_map (by rw [o.len]; exact hb), tie_comm w a b]
  congr 1
  rw [Bool.eq_iff_iff, beq_iff_eq, beq_iff_eq]
  exact mir_iff (o.lt a ha) (o.lt b hb)
theorem HuesOk.wider {w : Web} (T : TiesOk w) {k d : Nat} {h : List Nat} (o : HuesOk w k d h) : HuesOk w (k + 1) d h := by
  have := o.of_map T (k' := k + 1) (d' := d) (f := id) (fun x hx => by show x < k + 1; omega) fun x y hx hy q => by
    show d ≤ ap (k + 1) x y
    rw [ap_eq hx hy] at q
    rw [ap_eq (by omega) (by omega)]
    split at q <;> split at q <;> split <;> omega
  rwa [List.map_id] at this
theorem HuesOk.moved {w : Web} (T : TiesOk w) {k d p : Nat} {h : List Nat} (o : HuesOk w k d h) (hd : 1 ≤ d) (hp : p < w.n) (hf : ∀ q, q < w.n → nx w k d h p q = false) : HuesOk w k d (h.set p ((hg h p + 1) % k)) := by
  have hk : 0 < k := Nat.lt_of_le_of_lt (Nat.zero_le _) (o.lt p hp)
  have hs : ∀ i, i < w.n → hg (h.set p ((hg h p + 1) % k)) i = if i = p then (hg h p + 1) % k else hg h i := fun i hi => by
    unfold hg
    rw [List.getD_eq_getElem?_getD, List.getElem?_set]
    by_cases e : p = i
    · subst e
      rw [if_pos rfl, if_pos (by rw [o.len]; exact hp), if_pos rfl]
      rfl
    · rw [if_neg e, if_neg (fun z => e z.symm), List.getD_eq_getElem?_getD]
  have key : ∀ q, tie w p q = true → d ≤ ap k ((hg h p + 1) % k) (hg h q) := fun q hq => by
    have hlt := (T.lt hq).2
    have h1 := o.farT hq
    have h2 := hf q hlt
    have hx := o.lt p hp
    have hy := o.lt q hlt
    have h3 : (hg h p + d) % k ≠ hg h q := by
      intro e
      unfold nx at h2
      rw [hq, Bool.true_and, beq_eq_false_iff_ne] at h2
      exact h2 e
    clear h2
    generalize hg h p = x at h1 hx h3 ⊢
    generalize hg h q = y at h1 hy h3 ⊢
    rw [ap_eq hx hy] at h1
    have hdk : d ≤ k := by
      split at h1 <;> split at h1 <;> omega
    rw [mod_one k (x + d) (by omega)] at h3
    rw [mod_one k (x + 1) (by omega)]
    rw [ap_eq (by split <;> omega) hy]
    split at h1 <;> split at h1 <;> split at h3 <;> split <;> split <;> split <;> omega
  refine ⟨by rw [List.length_set]; exact o.len, fun i hi => ?_, fun t ht => ?_⟩
  · rw [hs i hi]
    split
    · exact Nat.mod_lt _ hk
    · exact o.lt i hi
  · obtain ⟨h1, h2⟩ := T.ties t ht
    have ht' : tie w t.1 t.2 = true := by
      unfold tie
      rw [Nat.min_eq_left (by omega), Nat.max_eq_right (by omega)]
      exact has_iff.mpr ht
    rw [hs _ (by omega), hs _ h2]
    by_cases e1 : t.1 = p
    · rw [if_pos e1, if_neg (by omega)]
      exact key _ (by rw [← e1]; exact ht')
    · rw [if_neg e1]
      by_cases e2 : t.2 = p
      · rw [if_pos e2, ap_comm]
        exact key _ (by rw [← e2, tie_comm]; exact ht')
      · rw [if_neg e2]
        exact o.far t ht
end Rg
namespace Rg
/-! ### a full round goes around -/
theorem ch_walk {w : Web} {k d : Nat} {h : List Nat} : ∀ (l : List Nat) (a b : Nat), ch (nx w k d h) (a :: (l ++ [b])) → (hg h a + (l.length + 1) * d) % k = hg h b
  | [], a, b, c => by
    have e := c.1
    unfold nx at e
    rw [Bool.and_eq_true, beq_iff_eq] at e
    rw [← e.2]
    simp
  | x :: l, a, b, c => by
    have ih := ch_walk l x b c.2
    have e := c.1
    unfold nx at e
    rw [Bool.and_eq_true, beq_iff_eq] at e
    rw [← ih, ← e.2, Nat.mod_add_mod]
    rw [List.length_cons, show hg h a + (l.length + 1 + 1) * d = hg h a + d + (l.length + 1) * d by rw [Nat.add_mul (l.length + 1) 1 d]; omega]
theorem Rd.laps {w : Web} {k d : Nat} {h row : List Nat} (hd : 1 ≤ d) (hk : ∀ i, i < w.n → hg h i < k) (r : Rd (nx w k d h) w.n row) :
    1 ≤ row.length * d / k ∧ row.length * d = row.length * d / k * k := by
  cases row with
  | nil => exact absurd r.two (by simp)
  | cons a l =>
    have ha : hg h a < k := hk a (r.lt a (by simp))
    have hw := ch_walk (w := w) (k := k) (d := d) (h := h) l a a r.ch
    have h0 : (0 + (l.length + 1) * d + hg h a) % k = (0 + hg h a) % k := by
      rw [Nat.zero_add, Nat.zero_add, Nat.add_comm, hw, Nat.mod_eq_of_lt ha]
    have h1 := inj_add h0
    rw [Nat.zero_add, Nat.zero_mod] at h1
    have h2 : (a :: l).length * d % k = 0 := h1
    have h3 : 0 < (a :: l).length * d := Nat.mul_pos (by simp) (by omega)
    have h4 := Nat.div_mul_cancel (Nat.dvd_of_mod_eq_zero h2)
    refine ⟨?_, h4.symm⟩
    rcases Nat.eq_zero_or_pos ((a :: l).length * d / k) with z | z
    · rw [z] at h4
      omega
    · exact z

/-! ### places that all have a next one among them: there is a full round -/
def fF (l : List Nat) (a b : Nat) : Bool := l.getD a 0 == b
def fG : Nat → List (List Nat)
  | 0 => [[]]
  | i + 1 => (fG i).flatMap fun l => ((List.range 5).filter fun x => x != i).map fun x => l ++ [x]
theorem fG_all : ((fG 5).all fun l => !(fall (fF l) 5).isEmpty) = true := by decide +kernel
theorem fG_mem {f : Nat → Nat} (hf : ∀ i, i < 5 → f i < 5 ∧ f i ≠ i) : ∀ i, i ≤ 5 → (List.range i).map f ∈ fG i
  | 0, _ => by simp [fG]
  | i + 1, h => by
    show _ ∈ (fG i).flatMap _
    rw [List.mem_flatMap]
    refine ⟨_, fG_mem hf i (by omega), ?_⟩
    rw [List.mem_map]
    refine ⟨f i, ?_, by rw [List.range_succ, List.map_append]; rfl⟩
    rw [List.mem_filter, List.mem_range]
    exact ⟨(hf i (by omega)).1, by simpa using (hf i (by omega)).2⟩
theorem ch_image {F : Nat → Nat → Bool} : ∀ {l : List Nat} {a : Nat}, ch F (a :: l) → ∀ x, x ∈ l → ∃ y, y ∈ a :: l ∧ F y x = true
  | [], _, _, x, hx => absurd hx (by simp)
  | b :: l, a, c, x, hx => by
    rcases List.mem_cons.mp hx with e | hx
    · exact ⟨a, by simp, by rw [e]; exact c.1⟩
    · obtain ⟨y, hy, e⟩ := ch_image c.2 x hx
      exact ⟨y, List.mem_cons_of_mem _ hy, e⟩
theorem succ_round {R : Nat → Nat → Bool} {n : Nat} (hn : n ≤ 5) {c : List Nat} (hc : c ≠ []) (h : ∀ a, a ∈ c → a < n ∧ ∃ b, b ∈ c ∧ b ≠ a ∧ R a b = true) : fall R n ≠ [] := by
  obtain ⟨x0, hx0⟩ := List.exists_mem_of_ne_nil c hc
  have ex : ∀ a, ∃ b, b ∈ c ∧ b ≠ a ∧ (a ∈ c → R a b = true) := fun a => by
    by_cases m : a ∈ c
    · obtain ⟨_, b, h1, h2, h3⟩ := h a m
      exact ⟨b, h1, h2, fun _ => h3⟩
    · exact ⟨x0, hx0, fun e => m (by rw [← e]; exact hx0), fun z => absurd z m⟩
  have pick : ∃ f : Nat → Nat, ∀ a, f a ∈ c ∧ f a ≠ a ∧ (a ∈ c → R a (f a) = true) := ⟨fun a => Classical.choose (ex a), fun a => Classical.choose_spec (ex a)⟩
  obtain ⟨f, hf⟩ := pick
  have m5 := fG_mem (f := f) (fun i _ => ⟨by have := (h _ (hf i).1).1; omega, (hf i).2.1⟩) 5 (Nat.le_refl 5)
  have q := List.all_eq_true.mp fG_all _ m5
  cases e : fall (fF ((List.range 5).map f)) 5 with
  | nil => rw [e] at q; simp at q
  | cons row rest =>
    have r := mem_fall.mp (show row ∈ fall (fF ((List.range 5).map f)) 5 by rw [e]; simp)
    have hF : ∀ a b, a < 5 → fF ((List.range 5).map f) a b = true → f a = b := fun a b ha hab => by
      unfold fF at hab
      rw [List.getD_eq_getElem?_getD, List.getElem?_map, List.getElem?_range ha] at hab
      simpa using hab
    have l5 : ∀ x, x ∈ row ++ [row.headD 0] → x < 5 := fun x hx => by
      rcases List.mem_append.mp hx with hx | hx
      · exact r.lt x hx
      · rw [List.mem_singleton] at hx
        cases row with
        | nil => exact absurd r.two (by simp)
        | cons y t => rw [hx]; exact r.lt y (by simp)
    have inC : ∀ x, x ∈ row → x ∈ c := fun x hx => by
      cases row with
      | nil => exact absurd r.two (by simp)
      | cons y t =>
        have hch := r.ch
        obtain ⟨z, hz, ez⟩ := ch_image (F := fF ((List.range 5).map f)) (a := y) (l := t ++ [y]) hch x (by
          rcases List.mem_cons.mp hx with e | hx
          · rw [e]; simp
          · exact List.mem_append_left _ hx)
        have := hF z x (l5 z hz) ez
        rw [← this]
        exact (hf z).1
    have inC2 : ∀ x, x ∈ row ++ [row.headD 0] → x ∈ c := fun x hx => by
      rcases List.mem_append.mp hx with hx | hx
      · exact inC x hx
      · rw [List.mem_singleton] at hx
        cases row with
        | nil => exact absurd r.two (by simp)
        | cons y t => rw [hx]; exact inC y (by simp)
    have r2 : Rd R n row := ⟨r.two, r.nd, r.big, fun x hx => (h x (inC x hx)).1, ch_imp (fun a b ha hb hab => by
      rw [← hF a b (l5 a ha) hab]
      exact (hf a).2.2 (inC2 a ha)) r.ch⟩
    intro z
    have := mem_fall.mpr r2
    rw [z] at this
    simp at this

/-! ### crowds and rounds of five that fit just so -/
def farGen (k e : Nat) : Nat → List (List Nat)
  | 0 => [[]]
  | m + 1 => (farGen k e m).flatMap fun s => ((List.range k).filter fun x => s.all fun y => Nat.ble e (ap k x y)).map fun x => x :: s
def succOk (k e : Nat) (s : List Nat) : Bool := s.all fun x => s.any fun y => (x + e) % k == y
theorem far_all : ([(2, 1, 2), (4, 2, 2), (3, 1, 3), (6, 2, 3), (4, 1, 4), (8, 2, 4), (5, 1, 5), (10, 2, 5)].all fun t => (farGen t.1 t.2.1 t.2.2).all (succOk t.1 t.2.1)) = true := by decide +kernel
theorem clq_far {w : Web} {k d : Nat} {h : List Nat} (o : HuesOk w k d h) : ∀ c : List Nat, clq w c = true → (∀ x, x ∈ c → x < w.n) → c.map (hg h) ∈ farGen k d c.length
  | [], _, _ => by simp [farGen]
  | x :: r, hc, hn => by
    have h1 : (r.all (fun y => tie w x y) && clq w r) = true := hc
    rw [Bool.and_eq_true, List.all_eq_true] at h1
    have ih := clq_far o r h1.2 fun y hy => hn y (List.mem_cons_of_mem _ hy)
    show _ ∈ (farGen k d r.length).flatMap _
    rw [List.mem_flatMap]
    refine ⟨_, ih, ?_⟩
    rw [List.mem_map]
    refine ⟨hg h x, ?_, rfl⟩
    rw [List.mem_filter, List.mem_range, List.all_eq_true]
    refine ⟨o.lt x (hn x (by simp)), fun y hy => ?_⟩
    obtain ⟨z, hz, rfl⟩ := List.mem_map.mp hy
    rw [Nat.ble_eq]
    exact o.farT (h1.1 z hz)
theorem clq_tie {w : Web} : ∀ c : List Nat, clq w c = true → ∀ a b, a ∈ c → b ∈ c → a ≠ b → tie w a b = true
  | [], _, _, _, ha, _, _ => absurd ha (by simp)
  | x :: r, hc, a, b, ha, hb, hab => by
    have h1 : (r.all (fun y => tie w x y) && clq w r) = true := hc
    rw [Bool.and_eq_true, List.all_eq_true] at h1
    rcases List.mem_cons.mp ha with e | ha
    · rcases List.mem_cons.mp hb with e2 | hb
      · exact absurd (e.trans e2.symm) hab
      · rw [e]; exact h1.1 b hb
    · rcases List.mem_cons.mp hb with e2 | hb
      · rw [e2, tie_comm]; exact h1.1 a ha
      · exact clq_tie r h1.2 a b ha hb hab
theorem combs_mem : ∀ (m : Nat) (l c : List Nat), c ∈ combs m l → c.length = m ∧ ∀ x, x ∈ c → x ∈ l
  | 0, l, c, h => by
    have : c = [] := by
      cases l <;> simpa [combs] using h
    subst this
    simp
  | m + 1, [], c, h => by simp [combs] at h
  | m + 1, x :: r, c, h => by
    have h : c ∈ (combs m r).map (x :: ·) ++ combs (m + 1) r := h
    rcases List.mem_append.mp h with h | h
    · obtain ⟨c', hc', rfl⟩ := List.mem_map.mp h
      obtain ⟨h1, h2⟩ := combs_mem m r c' hc'
      refine ⟨by simp [h1], fun y hy => ?_⟩
      rcases List.mem_cons.mp hy with e | hy
      · rw [e]; simp
      · exact List.mem_cons_of_mem _ (h2 y hy)
    · obtain ⟨h1, h2⟩ := combs_mem (m + 1) r c h
      exact ⟨h1, fun y hy => List.mem_cons_of_mem _ (h2 y hy)⟩
def fives (k d : Nat) : List (List Nat) :=
  (List.range k).flatMap fun a => ((List.range k).filter fun b => Nat.ble d (ap k a b)).flatMap fun b => ((List.range k).filter fun c => Nat.ble d (ap k b c)).flatMap fun c =>
    ((List.range k).filter fun e => Nat.ble d (ap k c e)).flatMap fun e => ((List.range k).filter fun f => Nat.ble d (ap k e f) && Nat.ble d (ap k f a)).map fun f => [a, b, c, e, f]
def fiveOk (k d : Nat) : List Nat → Bool
  | [a, b, c, e, f] => ((a + d) % k == b && (b + d) % k == c && (c + d) % k == e && (e + d) % k == f && (f + d) % k == a) || ((b + d) % k == a && (c + d) % k == b && (e + d) % k == c && (f + d) % k == e && (a + d) % k == f)
  | _ => false
theorem fives_all : ((fives 5 2).all (fiveOk 5 2) && (fives 10 4).all (fiveOk 10 4)) = true := by decide +kernel
theorem fives_mem {k d a b c e f : Nat} (ha : a < k) (hb : b < k) (hc : c < k) (he : e < k) (hf : f < k) (h1 : d ≤ ap k a b) (h2 : d ≤ ap k b c) (h3 : d ≤ ap k c e) (h4 : d ≤ ap k e f) (h5 : d ≤ ap k f a) : [a, b, c, e, f] ∈ fives k d := by
  unfold fives
  simp only [List.mem_flatMap, List.mem_filter, List.mem_range, List.mem_map, Nat.ble_eq, Bool.and_eq_true]
  exact ⟨a, ha, b, ⟨hb, h1⟩, c, ⟨hc, h2⟩, e, ⟨he, h3⟩, f, ⟨hf, h4, h5⟩, rfl⟩
theorem tight {w : Web} (T : TiesOk w) (hn : w.n ≤ 5) {r : Nat × Nat} (hw : witOk w r = true) {g : Nat} (hg12 : g = 1 ∨ g = 2) {h : List Nat} (o : HuesOk w (g * r.1) (g * r.2) h) : fall (nx w (g * r.1) (g * r.2) h) w.n ≠ [] := by
  obtain ⟨r1, r2⟩ := r
  unfold witOk at hw
  simp only at hw o ⊢
  by_cases e : r2 = 1
  · subst e
    rw [if_pos (by rfl)] at hw
    rw [Bool.and_eq_true] at hw
    obtain ⟨h5, hs⟩ := hw
    obtain ⟨c, hc⟩ := Option.isSome_iff_exists.mp hs
    unfold findClq at hc
    have c1 := List.find?_some hc
    obtain ⟨c2, c3⟩ := combs_mem _ _ _ (List.mem_of_find?_eq_some hc)
    have hlt : ∀ x, x ∈ c → x < w.n := fun x hx => List.mem_range.mp (c3 x hx)
    have m := clq_far o c c1 hlt
    rw [c2] at m
    simp only [Bool.or_eq_true, beq_iff_eq] at h5
    have hall : succOk (g * r1) (g * 1) (c.map (hg h)) = true := by
      have A := List.all_eq_true.mp far_all
      have pickt : ∀ t : Nat × Nat × Nat, t ∈ [(2, 1, 2), (4, 2, 2), (3, 1, 3), (6, 2, 3), (4, 1, 4), (8, 2, 4), (5, 1, 5), (10, 2, 5)] → ∀ s, s ∈ farGen t.1 t.2.1 t.2.2 → succOk t.1 t.2.1 s = true := fun t ht s hs => List.all_eq_true.mp (A t ht) s hs
      rcases h5 with ((h5 | h5) | h5) | h5 <;> rcases hg12 with h12 | h12 <;> subst h5 <;> subst h12
      · exact pickt (2, 1, 2) (by simp) _ m
      · exact pickt (4, 2, 2) (by simp) _ m
      · exact pickt (3, 1, 3) (by simp) _ m
      · exact pickt (6, 2, 3) (by simp) _ m
      · exact pickt (4, 1, 4) (by simp) _ m
      · exact pickt (8, 2, 4) (by simp) _ m
      · exact pickt (5, 1, 5) (by simp) _ m
      · exact pickt (10, 2, 5) (by simp) _ m
    refine succ_round hn (c := c) (by intro z; rw [z] at c2; simp at c2; omega) fun a ha => ⟨hlt a ha, ?_⟩
    unfold succOk at hall
    have q := List.all_eq_true.mp hall (hg h a) (List.mem_map.mpr ⟨a, ha, rfl⟩)
    obtain ⟨y, hy, ey⟩ := List.any_eq_true.mp q
    obtain ⟨b, hb, rfl⟩ := List.mem_map.mp hy
    have hba : b ≠ a := by
      intro z
      subst z
      have hl := o.lt b (hlt b hb)
      have hek : 1 ≤ g * 1 ∧ g * 1 < g * r1 := by
        rcases h5 with ((h5 | h5) | h5) | h5 <;> rcases hg12 with h12 | h12 <;> subst h5 <;> subst h12 <;> decide
      generalize g * 1 = E at ey hek
      generalize g * r1 = M at ey hek hl
      rw [beq_iff_eq, mod_one _ _ (by omega)] at ey
      split at ey <;> omega
    refine ⟨b, hb, hba, ?_⟩
    unfold nx
    rw [clq_tie c c1 a b ha hb hba.symm, Bool.true_and]
    exact ey
  · rw [if_neg (by simpa using e)] at hw
    simp only [Bool.and_eq_true, beq_iff_eq] at hw
    obtain ⟨⟨⟨e1, e2⟩, e3⟩, hs⟩ := hw
    subst e1 e2
    obtain ⟨c, hc, hcy⟩ := List.any_eq_true.mp hs
    match c, hc, hcy with
    | [a, b, c, d, e], hc, hcy =>
      simp only [cyc5, Bool.and_eq_true] at hcy
      obtain ⟨⟨⟨⟨t1, t2⟩, t3⟩, t4⟩, t5⟩ := hcy
      have la := (T.lt t1).1
      have lb := (T.lt t1).2
      have lc := (T.lt t2).2
      have ld := (T.lt t3).2
      have le := (T.lt t4).2
      have m := fives_mem (o.lt a la) (o.lt b lb) (o.lt c lc) (o.lt d ld) (o.lt e le) (o.farT t1) (o.farT t2) (o.farT t3) (o.farT t4) (o.farT t5)
      have A := fives_all
      rw [Bool.and_eq_true, List.all_eq_true, List.all_eq_true] at A
      have ok : fiveOk (g * 5) (g * 2) [hg h a, hg h b, hg h c, hg h d, hg h e] = true := by
        rcases hg12 with h12 | h12 <;> subst h12
        · exact A.1 _ m
        · exact A.2 _ m
      have ne : ∀ x y, tie w x y = true → y ≠ x := fun x y t z => by
        rw [z, T.irr] at t
        cases t
      have go : ∀ x y, tie w x y = true → ((hg h x + g * 2) % (g * 5) == hg h y) = true → nx w (g * 5) (g * 2) h x y = true := fun x y t z => by
        unfold nx
        rw [t, z]
        rfl
      have rv : ∀ x y, tie w x y = true → tie w y x = true := fun x y t => by rw [tie_comm]; exact t
      refine succ_round hn (c := [a, b, c, d, e]) (by simp) fun x hx => ?_
      simp only [fiveOk, Bool.or_eq_true, Bool.and_eq_true] at ok
      simp only [List.mem_cons, List.not_mem_nil, or_false] at hx
      rcases ok with ⟨⟨⟨⟨k1, k2⟩, k3⟩, k4⟩, k5⟩ | ⟨⟨⟨⟨k1, k2⟩, k3⟩, k4⟩, k5⟩
      · rcases hx with rfl | rfl | rfl | rfl | rfl
        · exact ⟨la, b, by simp, ne _ _ t1, go _ _ t1 k1⟩
        · exact ⟨lb, c, by simp, ne _ _ t2, go _ _ t2 k2⟩
        · exact ⟨lc, d, by simp, ne _ _ t3, go _ _ t3 k3⟩
        · exact ⟨ld, e, by simp, ne _ _ t4, go _ _ t4 k4⟩
        · exact ⟨le, a, by simp, ne _ _ t5, go _ _ t5 k5⟩
      · rcases hx with rfl | rfl | rfl | rfl | rfl
        · exact ⟨la, e, by simp, ne _ _ (rv _ _ t5), go _ _ (rv _ _ t5) k5⟩
        · exact ⟨lb, a, by simp, ne _ _ (rv _ _ t1), go _ _ (rv _ _ t1) k1⟩
        · exact ⟨lc, b, by simp, ne _ _ (rv _ _ t2), go _ _ (rv _ _ t2) k2⟩
        · exact ⟨ld, c, by simp, ne _ _ (rv _ _ t3), go _ _ (rv _ _ t3) k3⟩
        · exact ⟨le, d, by simp, ne _ _ (rv _ _ t4), go _ _ (rv _ _ t4) k4⟩
end Rg
namespace Rg
/-! ### all rows -/
def arOne (w : Web) (k d : Nat) (known : List (Option Nat)) (p : Nat) (row : List Nat) : List (List Nat) :=
  ((List.range k).filter fun s => knOk known p s && fits k d (back w) row p s).map fun s => row ++ [s]
def arAt (w : Web) (k d : Nat) (known : List (Option Nat)) : Nat → List (List Nat)
  | 0 => [[]]
  | p + 1 => (arAt w k d known p).flatMap (arOne w k d known p)
theorem back_get {w : Web} {p : Nat} (hp : p < w.n) : (back w).getD p [] = (w.ts.filter fun t => t.2 == p).map (·.1) := by
  unfold back
  rw [List.getD_eq_getElem?_getD, List.getElem?_map, List.getElem?_range hp]
  rfl
theorem fits_iff {w : Web} {k d p s : Nat} {row : List Nat} (hp : p < w.n) : fits k d (back w) row p s = true ↔ ∀ t, t ∈ w.ts → t.2 = p → d ≤ ap k (hg row t.1) s := by
  unfold fits
  rw [back_get hp, List.all_eq_true]
  constructor
  · intro h t ht e
    have := h t.1 (List.mem_map.mpr ⟨t, List.mem_filter.mpr ⟨ht, by simpa using e⟩, rfl⟩)
    rwa [Nat.ble_eq] at this
  · intro h o ho
    obtain ⟨t, ht, rfl⟩ := List.mem_map.mp ho
    rw [List.mem_filter, beq_iff_eq] at ht
    rw [Nat.ble_eq]
    exact h t ht.1 ht.2
theorem hg_app {row : List Nat} {s i : Nat} : hg (row ++ [s]) i = if i < row.length then hg row i else if i = row.length then s else 0 := by
  unfold hg
  rw [List.getD_eq_getElem?_getD, List.getElem?_append]
  split
  · rw [List.getD_eq_getElem?_getD]
  · rename_i h
    split
    · rename_i e
      rw [e, Nat.sub_self]
      rfl
    · rw [List.getElem?_eq_none (by simp; omega)]
      rfl
theorem mem_ar {w : Web} (T : TiesOk w) {k d : Nat} {known : List (Option Nat)} : ∀ (p : Nat), p ≤ w.n → ∀ row, row ∈ arAt w k d known p ↔
    (row.length = p ∧ (∀ i, i < p → hg row i < k ∧ knOk known i (hg row i) = true) ∧ ∀ t, t ∈ w.ts → t.2 < p → d ≤ ap k (hg row t.1) (hg row t.2))
  | 0, _, row => by
    show row ∈ [[]] ↔ _
    rw [List.mem_singleton]
    constructor
    · rintro rfl
      exact ⟨rfl, fun i hi => absurd hi (by omega), fun t _ h => absurd h (by omega)⟩
    · rintro ⟨h, _⟩
      exact List.eq_nil_of_length_eq_zero h
  | p + 1, hp, row => by
    show row ∈ (arAt w k d known p).flatMap _ ↔ _
    rw [List.mem_flatMap]
    constructor
    · rintro ⟨r, hr, hx⟩
      obtain ⟨h1, h2, h3⟩ := (mem_ar T p (by omega) r).mp hr
      unfold arOne at hx
      obtain ⟨s, hs, rfl⟩ := List.mem_map.mp hx
      rw [List.mem_filter, List.mem_range, Bool.and_eq_true, fits_iff (by omega)] at hs
      obtain ⟨hk, hkn, hf⟩ := hs
      refine ⟨by simp [h1], fun i hi => ?_, fun t ht hlt => ?_⟩
      · rw [hg_app]
        by_cases e : i < r.length
        · rw [if_pos e]
          exact h2 i (by omega)
        · have e2 : i = r.length := by omega
          rw [if_neg e, if_pos e2, e2, h1]
          exact ⟨hk, hkn⟩
      · have t1 := (T.ties t ht).1
        rw [hg_app, hg_app, if_pos (show t.1 < r.length by omega)]
        by_cases e : t.2 < r.length
        · rw [if_pos e]
          exact h3 t ht (by omega)
        · rw [if_neg e, if_pos (by omega)]
          exact hf t ht (by omega)
    · rintro ⟨h1, h2, h3⟩
      have hne : row ≠ [] := by
        intro e
        rw [e] at h1
        simp at h1
      obtain ⟨r, s, rfl⟩ : ∃ r s, row = r ++ [s] := ⟨row.dropLast, row.getLast hne, (List.dropLast_concat_getLast hne).symm⟩
      have hl : r.length = p := by simpa using h1
      have hs := h2 p (by omega)
      rw [hg_app, if_neg (by omega), if_pos hl.symm] at hs
      refine ⟨r, (mem_ar T p (by omega) r).mpr ⟨hl, fun i hi => ?_, fun t ht hlt => ?_⟩, ?_⟩
      · have := h2 i (by omega)
        rwa [hg_app, if_pos (by omega)] at this
      · have := h3 t ht (by omega)
        have t1 := (T.ties t ht).1
        rwa [hg_app, if_pos (by omega), hg_app, if_pos (by omega)] at this
      · unfold arOne
        refine List.mem_map.mpr ⟨s, ?_, rfl⟩
        rw [List.mem_filter, List.mem_range, Bool.and_eq_true, fits_iff (by omega)]
        refine ⟨hs.1, hs.2, fun t ht e => ?_⟩
        have := h3 t ht (by omega)
        have t1 := (T.ties t ht).1
        rwa [hg_app, if_pos (by omega), hg_app, if_neg (by omega), if_pos (by omega)] at this
theorem arOne_len {w : Web} {k d : Nat} {known : List (Option Nat)} {p : Nat} {row : List Nat} : (arOne w k d known p row).length ≤ k := by
  unfold arOne
  rw [List.length_map]
  have := List.length_filter_le (fun s => knOk known p s && fits k d (back w) row p s) (List.range k)
  rwa [List.length_range] at this
theorem flat_len {α β : Type} {f : α → List β} {m : Nat} : ∀ (l : List α), (∀ x, (f x).length ≤ m) → (l.flatMap f).length ≤ l.length * m
  | [], _ => by simp
  | x :: l, h => by
    rw [List.flatMap_cons, List.length_append, List.length_cons, Nat.add_mul, Nat.one_mul]
    have := flat_len l h
    have := h x
    omega
theorem ar_len {w : Web} {k d : Nat} {known : List (Option Nat)} : ∀ p, (arAt w k d known p).length ≤ k ^ p
  | 0 => by simp [arAt]
  | p + 1 => by
    have h1 := flat_len (f := arOne w k d known p) (m := k) (arAt w k d known p) fun _ => arOne_len
    have h2 := ar_len (w := w) (k := k) (d := d) (known := known) p
    show ((arAt w k d known p).flatMap (arOne w k d known p)).length ≤ k ^ (p + 1)
    rw [Nat.pow_succ]
    exact Nat.le_trans h1 (Nat.mul_le_mul_right _ h2)
theorem ar_hues {w : Web} (T : TiesOk w) {k d : Nat} {known : List (Option Nat)} {row : List Nat} (h : row ∈ arAt w k d known w.n) : HuesOk w k d row := by
  obtain ⟨h1, h2, h3⟩ := (mem_ar T w.n (Nat.le_refl _) row).mp h
  exact ⟨h1, fun i hi => (h2 i hi).1, fun t ht => h3 t ht (T.ties t ht).2⟩
theorem kn0_ok {n i x : Nat} (hi : i < n) (h : i = 0 → x = 0) : knOk (kn0 n) i x = true := by
  unfold knOk kn0
  cases i with
  | zero => simp [h rfl]
  | succ i =>
    rw [List.getD_eq_getElem?_getD, List.getElem?_cons_succ, List.getElem?_replicate, if_pos (by omega)]
    rfl
theorem hues_ar {w : Web} (T : TiesOk w) {k d : Nat} {row : List Nat} (o : HuesOk w k d row) (h0 : hg row 0 = 0) : row ∈ arAt w k d (kn0 w.n) w.n :=
  (mem_ar T w.n (Nat.le_refl _) row).mpr ⟨o.len, fun i hi => ⟨o.lt i hi, kn0_ok hi fun e => by rw [e]; exact h0⟩, fun t ht _ => o.far t ht⟩
/-! ### the finite part: every web of two to five places with a tie -/
structure WebFacts (w : Web) (r : Nat × Nat) : Prop where
  lo : 2 ≤ w.n
  hi : w.n ≤ 5
  ne : w.ts ≠ []
  T : TiesOk w
  ris : risingW w = true
  tgt : tightL w rings9 = some r
  lst : leastL w (plT w.n).tail = some r
  wit : witOk w r = true
  one : ∃ h, lawFirst w r.1 r.2 = some (some h) ∧ HuesOk w r.1 r.2 h ∧ hg h 0 = 0 ∧ fall (nx w (r.1 + 1) r.2 h) w.n = []
  two : ∃ h, lawFirst w (2 * r.1) (2 * r.2) = some (some h) ∧ HuesOk w (2 * r.1) (2 * r.2) h
theorem WebFacts.ring {w : Web} {r : Nat × Nat} (F : WebFacts w r) : r = (2, 1) ∨ r = (3, 1) ∨ r = (4, 1) ∨ r = (5, 1) ∨ r = (5, 2) := by
  obtain ⟨a, b⟩ := r
  have h := F.wit
  unfold witOk at h
  by_cases e : b = 1
  · subst e
    rw [if_pos (by rfl), Bool.and_eq_true] at h
    have h := h.1
    simp only [Bool.or_eq_true, beq_iff_eq] at h
    rcases h with ((h | h) | h) | h <;> subst h <;> simp
  · rw [if_neg (by simpa using e)] at h
    simp only [Bool.and_eq_true, beq_iff_eq] at h
    have h1 := h.1.1.1
    have h2 := h.1.1.2
    subst h1 h2
    simp
theorem facts_of {w : Web} (h1 : 2 ≤ w.n) (h2 : w.n ≤ 5) (h3 : w.ts ≠ []) (c : wcheck w = true) : ∃ r, WebFacts w r := by
  unfold wcheck at c
  cases e : tightL w rings9 with
  | none => rw [e] at c; simp at c
  | some r =>
    rw [e] at c
    simp only [Bool.and_eq_true] at c
    obtain ⟨⟨⟨⟨⟨c1, c2⟩, c3⟩, c4⟩, c5⟩, c6⟩ := c
    refine ⟨r, h1, h2, h3, okW_iff.mp c3, c4, e, by simpa using c1, c2, ?_, ?_⟩
    · cases e1 : lawFirst w r.1 r.2 with
      | none => rw [e1] at c5; simp at c5
      | some o =>
        cases o with
        | none => rw [e1] at c5; simp at c5
        | some h =>
          rw [e1] at c5
          simp only [Bool.and_eq_true] at c5
          obtain ⟨⟨d1, d2⟩, d3⟩ := c5
          have o := okH_iff.mp d1
          refine ⟨h, rfl, o, ?_, by simpa using d3⟩
          cases h with
          | nil =>
            have := o.len
            simp at this
            omega
          | cons x t =>
            have : x = 0 := by simpa using d2
            rw [this]
            rfl
    · cases e1 : lawFirst w (2 * r.1) (2 * r.2) with
      | none => rw [e1] at c6; simp at c6
      | some o =>
        cases o with
        | none => rw [e1] at c6; simp at c6
        | some h =>
          rw [e1] at c6
          exact ⟨h, rfl, okH_iff.mp c6⟩
theorem check2 : checkN 2 = true := by decide +kernel
theorem check3 : checkN 3 = true := by decide +kernel
theorem check4 : checkN 4 = true := by decide +kernel
theorem sub_mem {α : Type} : ∀ {l s : List α}, s.Sublist l → s ∈ subs l
  | _, _, .slnil => by simp [subs]
  | _, _, .cons (l₂ := r) (a := x) h => by
    show _ ∈ (subs r).map (x :: ·) ++ subs r
    exact List.mem_append_right _ (sub_mem h)
  | _, _, .cons_cons (l₁ := s) (l₂ := r) a h => by
    show _ ∈ (subs r).map (_ :: ·) ++ subs r
    exact List.mem_append_left _ (List.mem_map.mpr ⟨s, sub_mem h, rfl⟩)
theorem facts_at {n : Nat} {ts : List (Nat × Nat)} (c5 : checkN 5 = true) (h1 : 2 ≤ n) (h2 : n ≤ 5) (h3 : ts ≠ []) (hs : ts.Sublist (pairs n)) : ∃ r, WebFacts ⟨n, ts⟩ r := by
  have hall : checkN n = true := by
    have : n = 2 ∨ n = 3 ∨ n = 4 ∨ n = 5 := by omega
    rcases this with e | e | e | e <;> subst e
    · exact check2
    · exact check3
    · exact check4
    · exact c5
  have := List.all_eq_true.mp hall ts (sub_mem hs)
  rw [Bool.or_eq_true] at this
  rcases this with e | e
  · exact absurd (List.isEmpty_iff.mp e) h3
  · exact facts_of h1 h2 h3 e
end Rg
namespace Rg
/-! ### the webs of five places, in parts -/
def pc5 (j : Nat) : Bool := (((subs (pairs 5)).drop (32 * j)).take 32).all fun ts => ts.isEmpty || wcheck ⟨5, ts⟩
theorem c5_0 : pc5 0 = true := by decide +kernel
theorem c5_1 : pc5 1 = true := by decide +kernel
theorem c5_2 : pc5 2 = true := by decide +kernel
theorem c5_3 : pc5 3 = true := by decide +kernel
theorem c5_4 : pc5 4 = true := by decide +kernel
theorem c5_5 : pc5 5 = true := by decide +kernel
theorem c5_6 : pc5 6 = true := by decide +kernel
theorem c5_7 : pc5 7 = true := by decide +kernel
theorem c5_8 : pc5 8 = true := by decide +kernel
theorem c5_9 : pc5 9 = true := by decide +kernel
theorem c5_10 : pc5 10 = true := by decide +kernel
theorem c5_11 : pc5 11 = true := by decide +kernel
theorem c5_12 : pc5 12 = true := by decide +kernel
theorem c5_13 : pc5 13 = true := by decide +kernel
theorem c5_14 : pc5 14 = true := by decide +kernel
theorem c5_15 : pc5 15 = true := by decide +kernel
theorem c5_16 : pc5 16 = true := by decide +kernel
theorem c5_17 : pc5 17 = true := by decide +kernel
theorem c5_18 : pc5 18 = true := by decide +kernel
theorem c5_19 : pc5 19 = true := by decide +kernel
theorem c5_20 : pc5 20 = true := by decide +kernel
theorem c5_21 : pc5 21 = true := by decide +kernel
theorem c5_22 : pc5 22 = true := by decide +kernel
theorem c5_23 : pc5 23 = true := by decide +kernel
theorem c5_24 : pc5 24 = true := by decide +kernel
theorem c5_25 : pc5 25 = true := by decide +kernel
theorem c5_26 : pc5 26 = true := by decide +kernel
theorem c5_27 : pc5 27 = true := by decide +kernel
theorem c5_28 : pc5 28 = true := by decide +kernel
theorem c5_29 : pc5 29 = true := by decide +kernel
theorem c5_30 : pc5 30 = true := by decide +kernel
theorem c5_31 : pc5 31 = true := by decide +kernel
theorem c5_all : ∀ j, j < 32 → pc5 j = true
  | 0, _ => c5_0
  | 1, _ => c5_1
  | 2, _ => c5_2
  | 3, _ => c5_3
  | 4, _ => c5_4
  | 5, _ => c5_5
  | 6, _ => c5_6
  | 7, _ => c5_7
  | 8, _ => c5_8
  | 9, _ => c5_9
  | 10, _ => c5_10
  | 11, _ => c5_11
  | 12, _ => c5_12
  | 13, _ => c5_13
  | 14, _ => c5_14
  | 15, _ => c5_15
  | 16, _ => c5_16
  | 17, _ => c5_17
  | 18, _ => c5_18
  | 19, _ => c5_19
  | 20, _ => c5_20
  | 21, _ => c5_21
  | 22, _ => c5_22
  | 23, _ => c5_23
  | 24, _ => c5_24
  | 25, _ => c5_25
  | 26, _ => c5_26
  | 27, _ => c5_27
  | 28, _ => c5_28
  | 29, _ => c5_29
  | 30, _ => c5_30
  | 31, _ => c5_31
  | j + 32, h => absurd h (by omega)
theorem check5 : checkN 5 = true := by
  unfold checkN
  rw [List.all_eq_true]
  intro ts hts
  obtain ⟨i, hi, rfl⟩ := List.mem_iff_getElem.mp hts
  have hl : (subs (pairs 5)).length = 1024 := by decide +kernel
  have hj := c5_all (i / 32) (by omega)
  unfold pc5 at hj
  refine List.all_eq_true.mp hj _ (List.mem_iff_getElem.mpr ⟨i % 32, ?_, ?_⟩)
  · rw [List.length_take, List.length_drop]
    omega
  · rw [List.getElem_take, List.getElem_drop]
    congr 1
    omega
end Rg
/-! Rules of my own, over the layer's: in of a tuple of data, tuple * 1, t[:0:-1], a chain of three, sorted of tuples of ints, min of a tuple, len(set(tuple)). -/
namespace Rg
open PySem PySem.Spec PyProof.Rows L2
/-! ### never -/
theorem pe_never {X : Cx} {e : Expr} : PE X e (fun _ _ _ => False) := ⟨fun _ _ _ _ _ _ h => h.elim⟩
theorem pt_never {X : Cx} {e : Expr} : PT X e (fun _ _ _ => False) := by
  constructor
  all_goals first | exact fun _ _ _ _ _ _ h => h.elim | skip
/-! ### d in t, t a tuple of data -/
section
variable {X : Cx}
def rInT (K : PySem.W.Frag) : R2 := fun x y H Q => ∃ d ds, Dp K H x d ∧ Dp K H y (.tuple ds) ∧ SeqAt.shaped d = true ∧ SeqAt.shaped (.tuple ds) = true ∧ Q (.bl (ds.any fun z => PyData.eqv z d)) H
theorem op_inT (hu : X.A.units + 65 < cLine) : OpR X (compareOp .In) (rInT X.K) := by
  intro pins s σ H x y v u Q I rx ry h
  obtain ⟨d, ds, hd, he, sd, se, q⟩ := h
  obtain ⟨as, r1⟩ := Dp.reads I d x v hd rx
  obtain ⟨bs, r2⟩ := Dp.reads I (.tuple ds) y u he ry
  exact SeqAt.in_tuple_reads r2 r1 (SeqAt.canLay_of_shaped se) (SeqAt.canLay_of_shaped sd) (room_in_shaped sd hu) ⟨.bl _, H, I, rfl, q⟩
end
/-! ### t * 1 -/
theorem tuple_mul1 (l : Addr) (items : Array Value) (n : Nat) (dd : Option Addr) (sl : Array (Option Value)) (u : Tok) :
    Meets (Builtin.«tuple.__mul__» ⟨[.ref l, .int 1 u], []⟩) (fun _ R s => s.heap.get? l = some { cls := .type "tuple", dict := dd, data := .seq items n, slots := sl } ∧ R (.ok (.ret (Value.ref l))) s) :=
  .of_wp fun prog w A R s h => by
    obtain ⟨hp, g, d, tk, os⟩ := s
    obtain ⟨hl, h⟩ := h
    have f1 := AutoSeq1.idx_int
    wp_walk using wpAny_loadPart' hl
    repeat (first
      | (refine wpAny_ite_true (decide_eq_true (by simp)) ?_; wp_walk using wpAny_loadPart' hl))
    exact ⟨_, rfl, h⟩
section
variable {X : Cx}
def rRep1 (K : PySem.W.Frag) : R2 := fun x y H Q => ∃ l xs, x = .ref l ∧ y = .int 1 ∧ SqT K H l xs ∧ xs ≠ [] ∧ Q (.ref l) H
theorem op_rep1 : OpR X (binaryOp .Mult) (rRep1 X.K) := by
  intro pins s σ H x y v u Q I rx ry h
  obtain ⟨l, xs, rfl, rfl, hT, hne, q⟩ := h
  cases rx
  obtain ⟨t, rfl⟩ := ry
  obtain ⟨its, r, ⟨⟨cls, dd, data, sl⟩, ho, hc, n, hd⟩, hs⟩ := I.tuple hT
  simp only at hc hd
  subst hc hd
  exact wpAny_binaryOp_repeat_ref (T := "tuple") (U := "int") (by decide) ⟨_, ho, rfl⟩ (fun s' => typeIs_int s' 1 t) noFill_tuple_mul F.fills_int_mul F.slot_int_rmul repeat_tuple F.slot_int_index.lookup
    (call_meets F.slot_int_rmul (typeIs_int s 1 t) F.entry_int_rmul (F.args_int_rmul_2 _ _) (int_rmul_tuple 1 t l its.toArray n dd sl)
      ⟨ho, rfl, ⟨_, ho, rfl⟩, call_meets F.slot_tuple_mul ⟨_, ho, rfl⟩ F.entry_tuple_mul (F.args_tuple_mul_2 _ _) (tuple_mul1 l its.toArray n dd sl t) ⟨ho, ⟨.ref l, H, I, rfl, q⟩⟩⟩)
/-- t * k, k = 1 .. 1000 -/
def rRepA (K : PySem.W.Frag) : R2 := fun x y H Q => rRep1 K x y H Q ∨ rRepT K x y H Q
theorem op_repA : OpR X (binaryOp .Mult) (rRepA X.K) := op_rep1.or op_repT
end
/-! ### a <= b <= c <= d -/
section
variable {X : Cx} {a b c d : Expr} {ta tb tc td : TE} {pos : Pos}
def tChain3 (r r' r'' : R2) (ta tb tc td : TE) : TE := fun σ H Q => ta σ H fun x H1 => tb σ H1 fun y H2 => r x y H2 fun z H3 => ∃ k, z = .bl k ∧
  (if k = true then tc σ H3 fun y' H4 => r' y y' H4 fun z' H5 => ∃ k', z' = .bl k' ∧ (if k' = true then td σ H5 fun w' H6 => r'' y' w' H6 Q else Q (.bl false) H5) else Q (.bl false) H3)
theorem pe_chain3 {op op' op'' : CmpOp} {r r' r'' : R2} (ho : OpR X (compareOp op) r) (ho' : OpR X (compareOp op') r') (ho'' : OpR X (compareOp op'') r'') (ha : PE X a ta) (hb : PE X b tb) (hc : PE X c tc) (hd : PE X d td)
    (hm : lastMarks [op, op', op''] [b, c, d] = false := by with_unfolding_all rfl) : PE X (.Compare a [op, op', op''] [b, c, d] pos) (tChain3 r r' r'' ta tb tc td) := by
  refine ⟨fun pins s σ H Q I h => ?_⟩
  refine Compare_chain (thn (ha.run pins s σ H _ I h) fun v s1 ⟨x, H1, I1, r1, q1⟩ => chain_link (thn (hb.run pins s1 σ H1 _ I1 q1) fun u s2 ⟨y, H2, I2, r2, q2⟩ =>
    thn (ho pins s2 σ H2 x y v u _ I2 r1 r2 q2) fun d s3 ⟨z, H3, I3, r3, k, e, q3⟩ => ?_)) hm
  subst e
  cases r3
  refine wpAny_truthy_bool ?_
  cases k with
  | false => exact ite_ff ⟨.bl false, H3, I3, rfl, q3⟩
  | true =>
    refine ite_tt (chain_link (thn (hc.run pins s3 σ H3 _ I3 q3) fun u' s4 ⟨y', H4, I4, r4, q4⟩ => thn (ho' pins s4 σ H4 y y' u u' _ I4 r2 r4 q4) fun d' s5 ⟨z', H5, I5, r5, k', e', q5⟩ => ?_))
    subst e'
    cases r5
    refine wpAny_truthy_bool ?_
    cases k' with
    | false => exact ite_ff ⟨.bl false, H5, I5, rfl, q5⟩
    | true => exact ite_tt (chain_last (thn (hd.run pins s5 σ H5 _ I5 q5) fun w' s6 ⟨z2, H6, I6, r6, q6⟩ => ho'' pins s6 σ H6 y' z2 u' w' Q I6 r4 r6 q6))
end
/-! ### min(t), t a tuple of ints -/
section
variable {X : Cx}
theorem dp_ints {K : PySem.W.Frag} {H : Hp} : ∀ ns : List Int, DpAll K H (ns.map V.int) (ns.map PyData.int)
  | [] => .nil
  | n :: r => .cons (.int n) (dp_ints r)
theorem depth_ints : ∀ ns : List Int, PyData.depthAll (ns.map PyData.int) = 0
  | [] => by simp [PyData.depthAll]
  | n :: r => by
    have := depth_ints r
    simp [PyData.depthAll, PyData.depth, this]
def rMinT (K : PySem.W.Frag) : List V → Hp → VK → Prop := fun vs H Q => ∃ (a : Addr) (n : Int) (ns : List Int), vs = [V.ref a] ∧ SqT K H a ((n :: ns).map V.int) ∧ Q (.int (ns.foldl min n)) H
theorem cr_minT (hc : X.calm = true) (hu : X.A.units + 64 < cLine) : CallR X (.builtin "min") (rMinT X.K) := by
  intro pins s σ H vs us Q I r h
  obtain ⟨a, n, ns, rfl, hs, q⟩ := h
  obtain ⟨its, rv, hl, hz⟩ := I.tuple hs
  rw [Vals.ref1 r]
  obtain ⟨as, hr⟩ := Dp.readsAll I ((n :: ns).map PyData.int) _ its (dp_ints (n :: ns)) rv
  refine PySem.W.min_tuple_data (x := .int n) (xs := ns.map .int) (I.ok.hd hc) hl (by simpa using hr) ⟨fun x hx y hy => ?_, fun x hx => ?_⟩ ?_ fun i v h' tk bs hi rd hk => ?_
  · have e : ∀ z, z ∈ PyData.int n :: ns.map PyData.int → ∃ k, z = PyData.int k := fun z hz => by
      rcases List.mem_cons.mp hz with e | hz
      · exact ⟨n, e⟩
      · obtain ⟨k, _, e⟩ := List.mem_map.mp hz
        exact ⟨k, e.symm⟩
    obtain ⟨k1, e1⟩ := e x hx
    obtain ⟨k2, e2⟩ := e y hy
    rw [e1, e2]
    rfl
  · rcases List.mem_cons.mp hx with e | hx
    · rw [e]; exact fun z => nomatch z
    · obtain ⟨k, _, e⟩ := List.mem_map.mp hx
      rw [← e]; exact fun z => nomatch z
  · have := depth_ints (n :: ns)
    rw [List.map_cons] at this
    rw [this]
    omega
  · rw [PySem.W.minD_ints] at rd
    cases rd
    exact ⟨.int _, H, I.kept (t' := tk) hk, ⟨_, rfl⟩, q⟩
end
/-! ### len(set(t)), t a tuple of unlike ints -/
def tLenSetT (K : PySem.W.Frag) (ta : TE) : TE := fun σ H Q => ta σ H fun x H1 => ∃ (l : Addr) (ns : List Int), x = .ref l ∧ SqT K H1 l (ns.map V.int) ∧ ns.Nodup ∧ ns.length ≤ 4000 ∧ Q (.int (ns.length : Nat)) H1
theorem pe_lenSetT {X : Cx} {a : Expr} {ta : TE} {p p2 q pos : Pos} (hg : Gl X "len") (hm : X.mg "len" = none) (hg2 : Gl X "set") (hm2 : X.mg "set" = none) (ha : PE X a ta) (hc : X.calm = true := by rfl)
    (na : starEach [a] X.env = (false, eval a X.env) :: starEach [] X.env := by rfl) : PE X (.Call (.Name "len" p) [.Call (.Name "set" p2) [a] [] q] [] pos) (tLenSetT X.K ta) := by
  refine ⟨fun pins s σ H Q I h => ?_⟩
  refine Call_ (ld_blt I hg hm boot_len ?_)
  refine PyProof.Rows.callWith_builtin1 (PyProof.Rows.args_cons ?_ rfl) rfl rfl
  refine Call_ (ld_blt I hg2 hm2 boot_set ?_)
  refine PyProof.Rows.callWith_type1 (PyProof.Rows.args_cons (thn (ha.run pins s σ H _ I h) fun v s1 ⟨x, H1, I1, r1, q1⟩ => PyProof.Rows.args_nil ?_) na) na rfl
  obtain ⟨l, ns, rfl, hq, hnd, hl, q1⟩ := q1
  cases r1
  obtain ⟨its, r, pl, hz⟩ := I1.tuple hq
  refine call_set_tupI ns (I1.ok.hd hc) pl (by simpa using RZ.intsAre_vals r) (by unfold scanBound; omega) fun h' tk c hS hcl hk => ?_
  refine PyProof.Rows.args_nil ?_
  obtain ⟨o, es, ep, t, ho, hex, hd, _, hndk, hmem, _, hf, hn, _⟩ := hS
  have hperm : (es.toList.map keyOf).Perm ns := (List.perm_ext_iff_of_nodup hndk hnd).mpr fun k => by
    rw [← hmem k, decide_eq_true_iff]
  have hlen : es.size = ns.length := by
    have := hperm.length_eq
    rw [List.length_map, Array.length_toList] at this
    exact this
  have I2 : Inv X pins σ H1 { s1 with heap := h', toks := tk } := I1.kept hk
  exact call_len_set ho hex hd hf (by rw [hlen] <;> omega) ⟨.int ns.length, H1, I2.tok _, ⟨_, by rw [hlen]⟩, q1⟩
end Rg
namespace Rg
open PySem PySem.Spec PyProof.Rows L2
/-! ### t[:0:-1], t a tuple of one item or more -/
section
variable {prog : Program} {w : World} {A : Around} {E : Value → Shared → Prop} {s : Shared}
theorem adjust_back {n : Nat} (hn : 1 ≤ n) : Builtin.Slice.sliceAdjust none (some 0) (-1) (n : Int) = ((n : Int) - 1, 0) := by
  unfold Builtin.Slice.sliceAdjust
  simp only [show (-1 : Int) < 0 by decide, if_true]
  refine Prod.ext ?_ ?_
  · simp
  · simp
    try omega
theorem places_back {n : Nat} (hn : 1 ≤ n) : Builtin.Slice.slicePlaces ((n : Int) - 1) 0 (-1) = n - 1 := by
  unfold Builtin.Slice.slicePlaces
  have h1 : ¬ ((-1 : Int) > 0) := by omega
  simp only [h1, if_false]
  split
  · rename_i h
    simp
    try omega
  · rename_i h
    omega
theorem fm_map {α β : Type} {f : α → Option β} {g : α → β} : ∀ l : List α, (∀ m ∈ l, f m = some (g m)) → l.filterMap f = l.map g
  | [], _ => rfl
  | a :: l, h => by
    rw [List.filterMap_cons, h a (by simp), List.map_cons, fm_map l fun m hm => h m (List.mem_cons_of_mem _ hm)]
theorem sliceApplied_back {sl : Addr} {vl vu vs : Value} {n : Nat} {Q : Int × Int × Nat → Shared → Prop} (hs : s.heap.IsSliceOf sl vl vu vs) (pl : IsPart vl none) (pu : IsPart vu (some 0)) (ps : IsPart vs (some (-1))) (hn : 1 ≤ n)
    (h : Q ((n : Int) - 1, -1, n - 1) s) : wpAny (model prog w) A (Builtin.Slice.sliceApplied (.ref sl) (pure (n : Int))) Q E s := by
  obtain ⟨os, hos, hcs, hds⟩ := id hs
  unfold Builtin.Slice.sliceApplied Builtin.Slice.sliceFields
  refine wpAny_bind (wpAny_bind (wpAny_field hos hds (x := vl) rfl (wpAny_bind (wpAny_field hos hds (x := vu) rfl (wpAny_bind (wpAny_field hos hds (x := vs) rfl (wpAny_pure ?_)))))))
  refine wpAny_bind (HT.slicePart_ ps ?_)
  show wpAny _ _ (if ((-1 : Int) == 0) = true then _ else _) _ _ s
  rw [if_neg (by decide)]
  refine wpAny_bind (HT.slicePart_ pl (wpAny_bind (HT.slicePart_ pu (wpAny_bind (wpAny_pure ?_)))))
  show wpAny _ _ (match Builtin.Slice.sliceAdjust none (some 0) (-1) (n : Int) with | (lo, hi) => pure (lo, (-1 : Int), Builtin.Slice.slicePlaces lo hi (-1))) _ _ s
  rw [adjust_back hn]
  show wpAny _ _ (pure (((n : Int) - 1), (-1 : Int), Builtin.Slice.slicePlaces ((n : Int) - 1) 0 (-1))) _ _ s
  rw [places_back hn]
  exact wpAny_pure h
theorem pick_back (xs : List Value) : ((List.range (xs.length - 1)).filterMap fun (m : Nat) => xs.toArray[(((xs.length : Int) - 1) + (m : Int) * -1).toNat]?) = (xs.drop 1).reverse := by
  cases xs with
  | nil => rfl
  | cons x r =>
    have e : ∀ m ∈ List.range ((x :: r).length - 1), (x :: r).toArray[((((x :: r).length : Int) - 1) + (m : Int) * -1).toNat]? = some (r.reverse.getD m x) := by
      intro m hm
      rw [List.mem_range, List.length_cons] at hm
      have hi : ((((x :: r).length : Int) - 1) + (m : Int) * -1).toNat = (r.length - 1 - m) + 1 := by
        rw [List.length_cons]
        omega
      rw [hi, List.getElem?_toArray, List.getElem?_cons_succ, List.getD_eq_getElem?_getD, List.getElem?_reverse (by omega), List.getElem?_eq_getElem (by omega)]
      rfl
    rw [fm_map _ e]
    show (List.range ((x :: r).length - 1)).map (fun m => r.reverse.getD m x) = r.reverse
    rw [List.length_cons, Nat.add_sub_cancel]
    apply List.ext_getElem
    · simp
    · intro i h1 h2
      rw [List.getElem_map, List.getElem_range, List.getD_eq_getElem?_getD, List.getElem?_eq_getElem h2]
      rfl
theorem getItem_tuple_back {t sl : Addr} {its : List Value} {vl vu vs : Value} {Q : Value → Shared → Prop} (ht : IsTup s.heap t its.toArray) (hs : s.heap.IsSliceOf sl vl vu vs) (pl : IsPart vl none) (pu : IsPart vu (some 0)) (ps : IsPart vs (some (-1)))
    (hn : 1 ≤ its.length) (h : Q (.ref s.heap.objs.size) { s with heap := s.heap.push { cls := .type "tuple", data := .seq (its.drop 1).reverse.toArray } })
    (hsz : its.length ≤ sizeLine) : wpAny (model prog w) A (getItem (.ref t) (.ref sl)) Q E s := by
  have htake : sizeOk (.seq (its.drop 1).reverse.toArray) := by
    show (its.drop 1).reverse.toArray.size ≤ sizeLine
    rw [List.size_toArray, List.length_reverse, List.length_drop]
    omega
  obtain ⟨os, hos, hcs, hds⟩ := id hs
  have hTs : s.TypeIs (.ref sl) "slice" := ⟨os, hos, hcs⟩
  unfold getItem
  try with_reducible refine wpAny_holding ?_
  first | refine wpAny_bind (wpAny_pure ?_) | skip
  refine wpAny_bind (wpAny_sequenceKey ht.typeIs (by decide) ?_)
  refine wpAny_bind (wpAny_callSpecial?_slot (name := Str.ofString "__getitem__") ht.typeIs PyProof.Rows.slot_tuple_getitem
    (wpAny_call_entry PyProof.Rows.slot_tuple_getitem ht.typeIs entry_tuple_getitem ?_ (args_tuple_getitem _ _)))
  show wpAny _ _ (Builtin.Tuple.tupleItemsOf (.ref t) >>= _) _ _ s
  refine wpAny_bind (tupleItemsOf_ ht ?_)
  refine wpAny_bind (wpAny_typeOf hTs ?_)
  rw [if_pos (by decide)]
  have e1 : its.toArray.size = its.length := List.size_toArray ..
  refine wpAny_bind (sliceApplied_back hs pl pu ps (n := its.toArray.size) (by rw [e1]; exact hn) ?_)
  have hno : ¬ ((((its.toArray.size : Nat) : Int) - 1 == 0 && (-1 : Int) == 1 && (its.toArray.size - 1) == its.toArray.size) = true) := by
    intro q
    rw [Bool.and_eq_true, Bool.and_eq_true] at q
    exact absurd q.1.2 (by decide)
  show wpAny _ _ (if (((its.toArray.size : Nat) : Int) - 1 == 0 && (-1 : Int) == 1 && (its.toArray.size - 1) == its.toArray.size) = true then _ else _) _ _ s
  rw [if_neg hno, e1, pick_back]
  first
    | exact wpAny_bind (m := Builtin.Tuple.tupleExact _) (wpAny_newObj_type (wpAny_pure ⟨_, rfl, wpAny_pure h⟩) htake)
    | exact wpAny_bind (m := Builtin.Tuple.tupleExact _) (wpAny_newObj_type (wpAny_bind (wpAny_pure (wpAny_pure ⟨_, rfl, wpAny_pure h⟩))) htake)
    | exact wpAny_bind (wpAny_bind (m := Builtin.Tuple.tupleExact _) (wpAny_newObj_type (wpAny_pure (wpAny_pure ⟨_, rfl, wpAny_pure h⟩)) htake))
    | exact wpAny_bind (wpAny_bind (m := Builtin.Tuple.tupleExact _) (wpAny_newObj_type (wpAny_pure ⟨_, rfl, wpAny_pure h⟩) htake))
end
section
variable {X : Cx}
def tBackT (K : PySem.W.Frag) (te : TE) : TE := fun σ H Q => te σ H fun x H1 => ∃ a xs, x = .ref a ∧ SqT K H1 a xs ∧ 1 ≤ xs.length ∧ ∀ p, H1 p = none → Q (.ref p) (upd H1 p (.tup (xs.drop 1).reverse))
theorem pe_backT {e : Expr} {te : TE} {k k0 : Nat} {p0 p1 p2 p3 pos : Pos} (he : PE X e te) : PE X (.Subscript e (.Slice none (some (.Constant (.int 0) k0 p0)) (some (.UnaryOp .USub (.Constant (.int 1) k p1) p2)) p3) pos) (tBackT X.K te) := by
  refine ⟨fun pins s σ H Q I h => ?_⟩
  refine Subscript_ (thn (he.run pins s σ H _ I h) fun v s1 ⟨x, H1, I1, r1, q1⟩ => ?_)
  obtain ⟨a, xs, ex, hx, hn, q⟩ := q1
  subst ex
  cases r1
  have hst : PO X (some (.UnaryOp .USub (.Constant (.int 1) k p1) p2)) (tPart (tUn (rU fun i => .int (-i)) (tC (.int 1)))) := po_some (pe_un un_neg pe_int)
  have hu : PO X (some (.Constant (.int 0) k0 p0)) (tPart (tC (.int 0))) := po_some pe_int
  refine wpAny_Slice (thn (po_none.run pins s1 σ H1 (fun o H2 => o = none ∧ H2 = H1) I1 ⟨rfl, rfl⟩) fun vl s2 ⟨l, H2, I2, pl, el, e2⟩ => ?_)
  subst el e2
  refine thn (hu.run pins s2 σ H2 (fun o H3 => o = some 0 ∧ H3 = H2) I2 ⟨0, rfl, rfl, rfl⟩) fun vu s3 ⟨u, H3, I3, pu, eu, e3⟩ => ?_
  subst eu e3
  refine thn (hst.run pins s3 σ H3 (fun o H4 => o = some (-1) ∧ H4 = H3) I3 ⟨1, rfl, -1, rfl, rfl, rfl⟩) fun vs s4 ⟨o, H4, I4, ps, eo, e4⟩ => ?_
  subst eo e4
  have I5 : Inv X pins σ H4 { s4 with heap := s4.heap.push { cls := .type "slice", data := .fields #[vl, vu, vs] } } := I4.kept (t' := s4.toks) fun b ob q => Heap.get?_push_of_some _ q
  obtain ⟨its, r, ht, hz⟩ := I5.tuple hx
  have hlen := r.length
  show wpAny (model X.prog X.w) X.A (subscriptTail e (.Slice none (some (.Constant (.int 0) k0 p0)) (some (.UnaryOp .USub (.Constant (.int 1) k p1) p2)) p3) (.ref a) (.ref s4.heap.objs.size)) (EP X pins σ Q) X.xe { s4 with heap := s4.heap.push { cls := .type "slice", data := .fields #[vl, vu, vs] } }
  refine tail_any (ops := [.ref a, .ref s4.heap.objs.size]) ht.typeIs (PyProof.Rows.slot_tuple_getitem.lookup) ?_ (by with_unfolding_all rfl)
  refine getItem_tuple_back ht (Heap.IsSliceOf.new _ vl vu vs) pl pu ps (by omega) ?_ (by omega)
  refine ⟨.ref _, _, I5.laid (t' := s4.toks) (o := .tup (xs.drop 1).reverse) (fun b ob q => Heap.get?_push_of_some _ q) (Nat.le_refl _) ?_, rfl, q _ (I5.hok.fresh (Nat.le_refl _))⟩
  exact ⟨by rw [List.length_reverse, List.length_drop]; omega, _, (r.drop 1).reverse, IsTup.new _ _⟩
end
end Rg
namespace Rg
open PySem PySem.Spec PyProof.Rows L2
/-! ### sorted(xs), xs a list of tuples of ints, of any lengths above 0 -/
abbrev shp : Nat → Bool := fun _ => false
abbrev ordL : PyProof.Rows.KeyOrd := PyProof.Rows.listOrd PyProof.Rows.itemOrd
abbrev keyI (ns : List Int) : List (Int ⊕ List Nat) := ns.map Sum.inl
theorem tupItems_ints : ∀ {us : List Value} {ns : List Int} (i : Nat), IntsAre us ns → PyProof.Rows.tupItems shp i us = some (keyI ns)
  | _, _, i, .nil => by simp [PyProof.Rows.tupItems]
  | _, _, i, .cons n t r => by
    have ih := tupItems_ints (i + 1) r
    simp only [PyProof.Rows.tupItems, Bool.false_eq_true, if_false, ih, Option.map_some, List.map_cons]
theorem key_ints {h : Heap} {v : Value} {ns : List Int} (x : TS.TupInts h v ns) : PyProof.Rows.G.tupKeyC h shp v = some (keyI ns) := by
  obtain ⟨a, xs, rfl, ⟨o, ho, hc, n, hd⟩, i⟩ := x
  unfold PyProof.Rows.G.tupKeyC
  have e : PyProof.Rows.G.isTupObj h (.ref a) = true := by
    simp only [PyProof.Rows.G.isTupObj, ho, hc]
    decide
  rw [if_pos e]
  simp only [PyProof.Rows.tupKey, ho, hd]
  exact tupItems_ints 0 i
theorem tupOf_ints {h : Heap} {v : Value} {n : Int} {ns : List Int} (x : TS.TupInts h v (n :: ns)) : ∃ f, PyProof.Rows.TupOf h shp v f := by
  obtain ⟨a, xs, rfl, ⟨o, ho, hc, m, hd⟩, i⟩ := x
  obtain ⟨l, rfl⟩ : ∃ l : List Value, xs = l.toArray := ⟨xs.toList, by simp⟩
  cases l with
  | nil => simp at i; cases i
  | cons u us =>
    have i2 : IntsAre (u :: us) (n :: ns) := by simpa using i
    cases i2 with
    | cons _ t r => exact ⟨_, a, o, _, m, rfl, ho, hc, hd, rfl, fun _ => ⟨n, t, rfl⟩, fun z => nomatch z⟩
theorem tupsOf_ints {h : Heap} : ∀ {vs : List Value}, (∀ v ∈ vs, ∃ n ns, TS.TupInts h v (n :: ns)) → ∃ fs, PyProof.Rows.TupsOf h shp vs fs
  | [], _ => ⟨[], .nil⟩
  | v :: vs, hv => by
    obtain ⟨n, ns, x⟩ := hv v (by simp)
    obtain ⟨f, t⟩ := tupOf_ints x
    obtain ⟨fs, r⟩ := tupsOf_ints fun u hu => hv u (List.mem_cons_of_mem _ hu)
    exact ⟨f :: fs, .cons t r⟩
def rSortA (K : PySem.W.Frag) : List V → Hp → VK → Prop := fun vs H Q => ∃ (a : Addr) (xs : List V), vs = [V.ref a] ∧ SqL K H a xs ∧ (∀ x ∈ xs, ∃ n ns, TupI K H x (n :: ns)) ∧
  ∀ (ys : List V) (p : Addr), ys.Perm xs → ys.Pairwise (fun x y => ∀ n m, TupI K H x n → TupI K H y m → ordL.kle (keyI n) (keyI m)) → H p = none → Q (.ref p) (upd H p (.lst ys))
theorem cr_sortA {X : Cx} : CallR X (.builtin "sorted") (rSortA X.K) := by
  intro pins s σ H vs us Q I r h
  obtain ⟨a, xs, rfl, hs, hx, q⟩ := h
  obtain ⟨its, rv, hl, hz⟩ := I.list hs
  rw [Vals.ref1 r]
  obtain ⟨e1, e2⟩ := bkV_refs rv fun x m => by
    obtain ⟨n, ns, ⟨t, e, _⟩⟩ := hx x m
    exact ⟨t, e⟩
  have hv : ∀ v ∈ its, ∃ n ns, TS.TupInts s.heap v (n :: ns) := fun v hv => by
    obtain ⟨t, rfl⟩ := e2 v hv
    have hm : V.ref t ∈ xs := by
      rw [e1]
      exact List.mem_map.mpr ⟨_, hv, rfl⟩
    obtain ⟨n, ns, ⟨t', e, ht⟩⟩ := hx _ hm
    cases e
    exact ⟨n, ns, tupI_raw I ht⟩
  obtain ⟨fs, hfs⟩ := tupsOf_ints hv
  refine PyProof.Rows.G.sorted_tups (shape := shp) hl.isList hfs (fun v m => by
    obtain ⟨n, ns, x⟩ := hv v m
    exact ⟨_, key_ints x⟩) (by rw [← rv.length]; exact hz) fun st' hp hso _ => ?_
  generalize harr : arrOf st' = arr at hp hso
  have hpl : arr.toList.Perm (pairsOf its).toList := Array.perm_iff_toList_perm.mp hp
  have hself : ∀ z ∈ arr.toList, z.1 = z.2 ∧ z.1 ∈ its := fun z hz => by
    have := hpl.mem_iff.mp hz
    rw [pairsOf_toList] at this
    obtain ⟨h1, h2⟩ := mem_zip_self this
    exact ⟨h1, h2⟩
  have hout : (arr.map (·.2)).toList.Perm its := by
    rw [Array.toList_map]
    have h1 := hpl.map (·.2)
    rw [pairsOf_toList] at h1
    have h2 : (its.zip its).map (·.2) = its := by
      rw [List.map_snd_zip]
      simp
    rwa [h2] at h1
  obtain ⟨ep, he'⟩ := PyProof.Rows.sortedAll_at s.heap its (arr.map (·.2))
  have h3 : ∀ u ∈ (arr.map (·.2)).toList, ∃ a, u = Value.ref a := fun u hu => e2 u (hout.mem_iff.mp hu)
  have hpm : ((arr.map (·.2)).toList.map bkV).Perm xs := by
    rw [e1]
    exact hout.map bkV
  have hlen : ((arr.map (·.2)).toList.map bkV).length ≤ sizeLine := by
    rw [hpm.length_eq]
    exact hz
  refine ⟨.ref _, upd H (s.heap.objs.size + 1) (.lst ((arr.map (·.2)).toList.map bkV)), I.laid (t' := s.toks) (fun _ _ => PyProof.Rows.sortedAll_old) (Nat.le_succ _) ⟨hlen, (arr.map (·.2)).toList, ep, bkV_vals h3, he'⟩, rfl, q _ _ hpm ?_ (I.hok.fresh (Nat.le_succ _))⟩
  rw [List.pairwise_iff_getElem]
  intro i j hi hj hij n m hn hm
  have hsz : arr.size = (pairsOf its).size := hp.size_eq
  have li : i < arr.size := by simpa using hi
  have lj : j < arr.size := by simpa using hj
  obtain ⟨t, et, ht⟩ := hn
  obtain ⟨t', et', ht'⟩ := hm
  have k1 : ∀ (i : Nat) (hi : i < arr.size) (t : Addr) (n : List Int), ((arr.map (·.2)).toList.map bkV)[i]'(by simpa using hi) = V.ref t → SqT X.K H t (n.map V.int) → PyProof.Rows.KK (PyProof.Rows.G.tupKindC s.heap shp) arr i = keyI n := by
    intro i hi t n et ht
    have eb : bkV (arr[i].2) = V.ref t := by simpa using et
    have ez := bkV_ref eb
    have hm : arr[i] ∈ arr.toList := by simp
    have e12 := (hself _ hm).1
    unfold PyProof.Rows.KK
    rw [Array.getElem?_eq_getElem hi]
    show ((PyProof.Rows.G.tupKeyC s.heap shp arr[i].1)).getD _ = _
    rw [e12, ez, key_ints (tupI_raw I ht)]
    rfl
  have hle := hso i j (Nat.le_of_lt hij) (by rw [← hsz]; exact lj)
  rw [k1 i li t n et ht, k1 j lj t' m et' ht'] at hle
  exact hle
end Rg
namespace Rg
open PySem PySem.Spec PyProof.Rows L2
/-! ### the text, defs -/
def topS (i : Nat) : Stmt := PySem.Challenge.pw_ringhues_k31_whole_rounds_and_shortest_r.main.body.getD i (.Pass ⟨0, 0, 0, 0⟩)
/-- a def of the text stands where its name says -/
structure Tx (K : PySem.W.Frag) (mg : Str → Option Value) (x : Str) (st : Stmt) : Prop where
  ex : ∃ f fd, Fun K x x st f fd ∧ mg x = some (.ref f)
/-- the def keeps its promise -/
structure Dn (P : Program) (w : World) (K : PySem.W.Frag) (mg : Str → Option Value) (base : Heap) (x : Str) (k : Nat) (ps : List Str) (sp : Sp) : Prop where
  ex : ∃ f fd, mg x = some (.ref f) ∧ PySem.W.keepIn K (.ref f) = true ∧ Binds K fd ps [] ∧ FnOk P w K mg base CX0 k f fd ps sp
theorem pe_d {X : Cx} {x : Str} {k : Nat} {ps : List Str} {sp : Sp} {p pos : Pos} {e : Expr} {es : List Expr} {t : TA} (D : Dn X.prog X.w X.K X.mg X.base x k ps sp) (hr : Room k X.A) (hg : Gl X x)
    (ha : PA X (e :: es) t) (hdb : (x == ("__debug__" : Str)) = false := by decide) (he : starEach (e :: es) X.env = (false, eval e X.env) :: starEach es X.env := by rfl) (hpl : (backTo pos (starEach es X.env)).any (·.1) = false := by rfl) :
    PE X (.Call (.Name x p) (e :: es) [] pos) (tCall sp [] E0 t) := by
  obtain ⟨f, fd, m, kp, b, F⟩ := D.ex
  exact pe_call F hr hg m kp b .nil pass0 ha hdb he hpl
/-! ### heaps that grow -/
abbrev Ex := Evl.Ex
abbrev RetV := Evl.RetV
theorem Ex.up {H : Hp} {p : Addr} {o : HO} (h : H p = none) : Ex H (upd H p o) := Evl.Ex.new h
theorem ex0 (H : Hp) : Ex H H := Evl.Ex.refl H
theorem Ex.tr {H H1 H2 : Hp} (a : Ex H H1) (b : Ex H1 H2) : Ex H H2 := Evl.Ex.trans a b
abbrev fb {H H' : Hp} {p : Addr} (e : Ex H H') (h : H' p = none) : H p = none := Evl.fresh_back e h
/-! ### data -/
abbrev nV (n : Nat) : V := .int (n : Int)
def All2 {α β : Type} (R : α → β → Prop) : List α → List β → Prop
  | [], [] => True
  | a :: l, b :: m => R a b ∧ All2 R l m
  | _, _ => False
theorem All2.len {α β : Type} {R : α → β → Prop} : ∀ {l : List α} {m : List β}, All2 R l m → l.length = m.length
  | [], [], _ => rfl
  | _ :: l, _ :: m, h => by rw [List.length_cons, List.length_cons, All2.len h.2]
  | [], _ :: _, h => h.elim
  | _ :: _, [], h => h.elim
theorem All2.get {α β : Type} {R : α → β → Prop} : ∀ {l : List α} {m : List β} {i : Nat} {b : β}, All2 R l m → m[i]? = some b → ∃ a, l[i]? = some a ∧ R a b
  | [], [], i, b, _, e => by simp at e
  | a :: l, b' :: m, 0, b, h, e => ⟨a, rfl, by
      have : b' = b := by simpa using e
      rw [← this]; exact h.1⟩
  | _ :: l, _ :: m, i + 1, b, h, e => by
      obtain ⟨a, h1, h2⟩ := All2.get (i := i) h.2 (by simpa using e)
      exact ⟨a, by simpa using h1, h2⟩
  | [], _ :: _, _, _, h, _ => h.elim
  | _ :: _, [], _, _, h, _ => h.elim
theorem All2.get' {α β : Type} {R : α → β → Prop} : ∀ {l : List α} {m : List β} {i : Nat} {a : α}, All2 R l m → l[i]? = some a → ∃ b, m[i]? = some b ∧ R a b
  | [], [], i, b, _, e => by simp at e
  | a' :: l, b :: m, 0, a, h, e => ⟨b, rfl, by
      have : a' = a := by simpa using e
      rw [← this]; exact h.1⟩
  | _ :: l, _ :: m, i + 1, b, h, e => by
      obtain ⟨a, h1, h2⟩ := All2.get' (i := i) h.2 (by simpa using e)
      exact ⟨a, by simpa using h1, h2⟩
  | [], _ :: _, _, _, h, _ => h.elim
  | _ :: _, [], _, _, h, _ => h.elim
theorem All2.imp {α β : Type} {R S : α → β → Prop} (hi : ∀ a b, R a b → S a b) : ∀ {l : List α} {m : List β}, All2 R l m → All2 S l m
  | [], [], _ => trivial
  | _ :: l, _ :: m, h => ⟨hi _ _ h.1, All2.imp hi h.2⟩
  | [], _ :: _, h => h.elim
  | _ :: _, [], h => h.elim
theorem All2.app {α β : Type} {R : α → β → Prop} : ∀ {l l' : List α} {m m' : List β}, All2 R l m → All2 R l' m' → All2 R (l ++ l') (m ++ m')
  | [], _, [], _, _, h => h
  | _ :: l, _, _ :: m, _, h, h' => ⟨h.1, All2.app h.2 h'⟩
  | [], _, _ :: _, _, h, _ => h.elim
  | _ :: _, _, [], _, h, _ => h.elim
theorem All2.drop {α β : Type} {R : α → β → Prop} : ∀ (n : Nat) {l : List α} {m : List β}, All2 R l m → All2 R (l.drop n) (m.drop n)
  | 0, _, _, h => h
  | n + 1, [], [], _ => trivial
  | n + 1, _ :: l, _ :: m, h => All2.drop n h.2
  | n + 1, [], _ :: _, h => h.elim
  | n + 1, _ :: _, [], h => h.elim
theorem All2.nil_iff {α β : Type} {R : α → β → Prop} {l : List α} {m : List β} (h : All2 R l m) : l = [] ↔ m = [] := by
  have := h.len
  cases l <;> cases m <;> simp_all
abbrev dI (n : Nat) : PyData := .int (n : Int)
abbrev dT (ns : List Nat) : PyData := .tuple (ns.map dI)
/-- a tuple of these ints -/
def IsInts (H : Hp) (v : V) (ns : List Nat) : Prop := ∃ a, v = .ref a ∧ H a = some (.tup (ns.map nV))
/-- a list of these ints -/
def IsIntL (H : Hp) (v : V) (ns : List Nat) : Prop := ∃ a, v = .ref a ∧ H a = some (.lst (ns.map nV))
def IsTies (H : Hp) (v : V) (ts : List (Nat × Nat)) : Prop := ∃ a vs, v = .ref a ∧ H a = some (.tup vs) ∧ All2 (fun u t => IsInts H u [t.1, t.2]) vs ts
def IsWeb (H : Hp) (v : V) (w : Web) : Prop := ∃ a u, v = .ref a ∧ H a = some (.tup [nV w.n, u]) ∧ IsTies H u w.ts
/-- a list of tuples of ints -/
def IsRows (H : Hp) (v : V) (rows : List (List Nat)) : Prop := ∃ a vs, v = .ref a ∧ H a = some (.lst vs) ∧ All2 (IsInts H) vs rows
/-- a list of lists of ints -/
def IsBack (H : Hp) (v : V) (rows : List (List Nat)) : Prop := ∃ a vs, v = .ref a ∧ H a = some (.lst vs) ∧ All2 (IsIntL H) vs rows
def oV : Option Nat → V
  | none => .non
  | some n => nV n
def IsKn (H : Hp) (v : V) (ks : List (Option Nat)) : Prop := ∃ a, v = .ref a ∧ H a = some (.tup (ks.map oV))
section
variable {H H' : Hp} {v : V}
theorem IsInts.up {ns : List Nat} (e : Ex H H') (h : IsInts H v ns) : IsInts H' v ns := let ⟨a, h1, h2⟩ := h; ⟨a, h1, e _ _ h2⟩
theorem IsIntL.up {ns : List Nat} (e : Ex H H') (h : IsIntL H v ns) : IsIntL H' v ns := let ⟨a, h1, h2⟩ := h; ⟨a, h1, e _ _ h2⟩
theorem IsTies.up {ts : List (Nat × Nat)} (e : Ex H H') (h : IsTies H v ts) : IsTies H' v ts := let ⟨a, vs, h1, h2, h3⟩ := h; ⟨a, vs, h1, e _ _ h2, h3.imp fun _ _ q => q.up e⟩
theorem IsWeb.up {w : Web} (e : Ex H H') (h : IsWeb H v w) : IsWeb H' v w := let ⟨a, u, h1, h2, h3⟩ := h; ⟨a, u, h1, e _ _ h2, h3.up e⟩
theorem IsRows.up {rows : List (List Nat)} (e : Ex H H') (h : IsRows H v rows) : IsRows H' v rows := let ⟨a, vs, h1, h2, h3⟩ := h; ⟨a, vs, h1, e _ _ h2, h3.imp fun _ _ q => q.up e⟩
theorem IsBack.up {rows : List (List Nat)} (e : Ex H H') (h : IsBack H v rows) : IsBack H' v rows := let ⟨a, vs, h1, h2, h3⟩ := h; ⟨a, vs, h1, e _ _ h2, h3.imp fun _ _ q => q.up e⟩
theorem IsKn.up {ks : List (Option Nat)} (e : Ex H H') (h : IsKn H v ks) : IsKn H' v ks := let ⟨a, h1, h2⟩ := h; ⟨a, h1, e _ _ h2⟩
end
section
variable {K : PySem.W.Frag} {H : Hp} {a : Addr}
theorem sqT {xs : List V} (h : H a = some (.tup xs)) : SqT K H a xs := .inl (.inl h)
theorem sqL {xs : List V} (h : H a = some (.lst xs)) : SqL K H a xs := .inl (.inl h)
/-- the ints as Ints -/
theorem map_nV (ns : List Nat) : ns.map nV = (ns.map fun n : Nat => ((n : Nat) : Int)).map V.int := by rw [List.map_map]; rfl
theorem at_nV {ns : List Nat} {i x : Nat} (h : ns[i]? = some x) : atI (ns.map nV) (i : Int) = some (nV x) := atI_nat (by rw [List.getElem?_map, h]; rfl)
theorem at_hg {ns : List Nat} {i : Nat} (h : i < ns.length) : atI (ns.map nV) (i : Int) = some (nV (hg ns i)) := at_nV (by rw [hg_at h]; exact List.getElem?_eq_getElem h)
theorem dp_nat : ∀ ns : List Nat, DpAll K H (ns.map nV) (ns.map dI)
  | [] => .nil
  | n :: r => .cons (.int n) (dp_nat r)
theorem IsInts.dp {v : V} {ns : List Nat} (h : IsInts H v ns) : Dp K H v (.tuple (ns.map dI)) := by
  obtain ⟨a, rfl, h⟩ := h
  exact .tup (sqT h) (dp_nat ns)
end
theorem dp_all2 {K : PySem.W.Frag} {H : Hp} {α : Type} {R : V → α → Prop} {f : α → PyData} (hR : ∀ v a, R v a → Dp K H v (f a)) : ∀ {vs : List V} {l : List α}, All2 R vs l → DpAll K H vs (l.map f)
  | [], [], _ => .nil
  | _ :: vs, _ :: l, h => .cons (hR _ _ h.1) (dp_all2 hR h.2)
  | [], _ :: _, h => h.elim
  | _ :: _, [], h => h.elim
theorem IsTies.dp {K : PySem.W.Frag} {H : Hp} {v : V} {ts : List (Nat × Nat)} (h : IsTies H v ts) : Dp K H v (.tuple (ts.map fun t => dT [t.1, t.2])) := by
  obtain ⟨a, vs, rfl, h1, h2⟩ := h
  exact .tup (sqT h1) (dp_all2 (fun v t q => IsInts.dp q) h2)
theorem IsRows.dp {K : PySem.W.Frag} {H : Hp} {v : V} {rows : List (List Nat)} (h : IsRows H v rows) : Dp K H v (.list (rows.map dT)) := by
  obtain ⟨a, vs, rfl, h1, h2⟩ := h
  exact .lst (sqL h1) (dp_all2 (fun v t q => IsInts.dp q) h2)
/-! ### the data's shapes and when they are equal -/
theorem lay_ints : ∀ ns : List Nat, PyData.canLayAll0 (ns.map dI) = true
  | [] => by simp [PyData.canLayAll0]
  | n :: r => by simp [PyData.canLayAll0, PyData.canLay0, lay_ints r]
theorem dep_ints : ∀ ns : List Nat, PyData.depthAll (ns.map dI) = 0
  | [] => by simp [PyData.depthAll]
  | n :: r => by simp [PyData.depthAll, PyData.depth, dep_ints r]
theorem dT_lay (ns : List Nat) : (dT ns).canLay0 = true := by
  simp only [PyData.canLay0]
  exact lay_ints ns
theorem dT_dep (ns : List Nat) : (dT ns).depth = 1 := by
  simp only [PyData.depth, dep_ints]
theorem shaped_of {d : PyData} (h1 : d.canLay0 = true) (h2 : d.depth ≤ 64) : SeqAt.shaped d = true := by
  show (d.canLay0 && decide (d.depth ≤ 64)) = true
  rw [Bool.and_eq_true]
  exact ⟨h1, decide_eq_true h2⟩
theorem dT_shaped (ns : List Nat) : SeqAt.shaped (dT ns) = true := shaped_of (dT_lay ns) (by rw [dT_dep]; decide)
theorem lay_all : ∀ ds : List (List Nat), PyData.canLayAll0 (ds.map dT) = true
  | [] => by simp [PyData.canLayAll0]
  | n :: r => by
    rw [List.map_cons]
    simp only [PyData.canLayAll0, dT_lay n, lay_all r, Bool.and_self]
theorem dep_all : ∀ ds : List (List Nat), PyData.depthAll (ds.map dT) ≤ 1
  | [] => by simp [PyData.depthAll]
  | n :: r => by
    rw [List.map_cons]
    have h1 := dep_all r
    have h2 := dT_dep n
    simp only [PyData.depthAll]
    omega
theorem rows_shaped (ds : List (List Nat)) : SeqAt.shaped (.list (ds.map dT)) = true := shaped_of (by simp only [PyData.canLay0]; exact lay_all ds) (by
  have := dep_all ds
  simp only [PyData.depth]
  omega)
theorem ties_shaped (ds : List (List Nat)) : SeqAt.shaped (.tuple (ds.map dT)) = true := shaped_of (by simp only [PyData.canLay0]; exact lay_all ds) (by
  have := dep_all ds
  simp only [PyData.depth]
  omega)
theorem eqv_ints : ∀ a b : List Nat, PyData.eqvAll (a.map dI) (b.map dI) = decide (a = b)
  | [], [] => by simp [PyData.eqvAll]
  | [], _ :: _ => by simp [PyData.eqvAll]
  | _ :: _, [] => by simp [PyData.eqvAll]
  | x :: a, y :: b => by
    rw [List.map_cons, List.map_cons]
    simp only [PyData.eqvAll, PyData.eqv, eqv_ints a b]
    by_cases h : x = y
    · subst h
      by_cases h2 : a = b
      · subst h2; simp
      · simp [h2]
    · have : ((x : Int) == (y : Int)) = false := beq_eq_false_iff_ne.mpr (by omega)
      rw [this]
      simp [h]
theorem eqv_dT (a b : List Nat) : PyData.eqv (dT a) (dT b) = decide (a = b) := by
  simp only [PyData.eqv, eqv_ints]
theorem eqv_all : ∀ a b : List (List Nat), PyData.eqvAll (a.map dT) (b.map dT) = decide (a = b)
  | [], [] => by simp [PyData.eqvAll]
  | [], _ :: _ => by simp [PyData.eqvAll]
  | _ :: _, [] => by simp [PyData.eqvAll]
  | x :: a, y :: b => by
    rw [List.map_cons, List.map_cons]
    have h1 := eqv_dT x y
    have h2 := eqv_all a b
    simp only [PyData.eqvAll, h1, h2]
    by_cases h : x = y
    · subst h
      by_cases h2 : a = b
      · subst h2; simp
      · simp [h2]
    · simp [h]
theorem eqv_rows (a b : List (List Nat)) : PyData.eqv (.list (a.map dT)) (.list (b.map dT)) = decide (a = b) := by
  simp only [PyData.eqv, eqv_all]
theorem eqv_ties (a b : List (List Nat)) : PyData.eqv (.tuple (a.map dT)) (.tuple (b.map dT)) = decide (a = b) := by
  simp only [PyData.eqv, eqv_all]
theorem any_has (ts : List (Nat × Nat)) (a b : Nat) : ((ts.map fun t => dT [t.1, t.2]).any fun z => PyData.eqv z (dT [a, b])) = has ts a b := by
  unfold has
  rw [List.any_map]
  congr 1
  funext t
  show PyData.eqv (dT [t.1, t.2]) (dT [a, b]) = _
  rw [eqv_dT]
  by_cases h1 : t.1 = a
  · by_cases h2 : t.2 = b
    · simp [h1, h2]
    · simp [h1, h2]
  · simp [h1]
end Rg
namespace Rg
open PySem PySem.Spec PyProof.Rows L2
/-- what the module's own names leave to the built-ins, and the two constants -/
structure Bl (mg : Str → Option Value) : Prop where
  len_ : mg "len" = none
  min_ : mg "min" = none
  max_ : mg "max" = none
  abs_ : mg "abs" = none
  all_ : mg "all" = none
  any_ : mg "any" = none
  sorted_ : mg "sorted" = none
  tuple_ : mg "tuple" = none
  isinstance_ : mg "isinstance" = none
  set_ : mg "set" = none
  int_ : mg "int" = none
  bool_ : mg "bool" = none
  range_ : mg "range" = none
  zip_ : mg "zip" = none
  divmod_ : mg "divmod" = none
  MOST_SPOTS : ∃ t, mg "MOST_SPOTS" = some (.int 24 t)
  MOST_PLACES : ∃ t, mg "MOST_PLACES" = some (.int 8 t)
def bodyS (s : Stmt) (i : Nat) : Stmt := (defBody s).getD i (.Pass ⟨0, 0, 0, 0⟩)
def asgV : Stmt → Expr
  | .Assign _ v _ => v
  | _ => .Constant .none 0 ⟨0, 0, 0, 0⟩
def lcSc : Expr → Scope
  | .ListComp _ _ sc _ => sc
  | _ => { kind := .function, names := [], isGenerator := false, isCoroutine := false }
/-! ### rules with the written part named -/
section
variable {X : Cx} (K : PySem.W.Frag) (h : X.K = K)
include h
theorem ix_tupK : IxR X (rIxT K) := by subst h; exact ix_tup
theorem ix_listK : IxR X (rIxL K) := by subst h; exact ix_list
theorem ix_seqK : IxR X (rIx K) := by subst h; exact ix_seq
theorem op_in_seqK : OpR X (compareOp .In) (rIn K false) := by subst h; exact op_in_seq
theorem op_notIn_seqK : OpR X (compareOp .NotIn) (rIn K true) := by subst h; exact op_notIn_seq
theorem op_inTK (hu : X.A.units + 65 < cLine) : OpR X (compareOp .In) (rInT K) := by subst h; exact op_inT hu
theorem op_eqDK (hu : X.A.units + 64 < cLine) : OpR X (compareOp .Eq) (rEqD K) := by subst h; exact op_eqD hu
theorem op_neDK (hu : X.A.units + 64 < cLine) : OpR X (compareOp .NotEq) (rNeD K) := by subst h; exact op_neD hu
theorem sl_tupAK : SlR X (rSlA K) := by subst h; exact sl_tupA
theorem sl_listK : SlR X (rSlL K) := by subst h; exact sl_list
theorem op_catAK : OpR X (binaryOp .Add) (rCatA K) := by subst h; exact op_catA
theorem call_lenK : CallR X (.builtin "len") (fun xs H Q => ∃ p ys, xs = [.ref p] ∧ (SqL K H p ys ∨ SqT K H p ys) ∧ Q (.int ys.length) H) := by subst h; exact call_len_seq
theorem pi_tupK {tg l : Expr} {tl : TE} (hl : PE X l tl) : PI X tg l (iTup K tl) := by subst h; exact pi_tup hl
theorem pi_listK {tg l : Expr} {tl : TE} (hl : PE X l tl) : PI X tg l (iList K tl) := by subst h; exact pi_list hl
theorem pg_tupK {es : List Expr} {k : Nat} {t : TGs} {pos : Pos} {n : Nat} (hc : X.calm = true) (hp : PGs X es t)
    (hn : (assignEach es X.env).length = n := by rfl) (hst : (assignEach es X.env).findIdx? (·.1) = none := by rfl) : PG X (.Tuple es k pos) (gTup K n t) := by subst h; exact pg_tup hc hp hn hst
theorem pe_backTK {e : Expr} {te : TE} {k k0 : Nat} {p0 p1 p2 p3 pos : Pos} (he : PE X e te) : PE X (.Subscript e (.Slice none (some (.Constant (.int 0) k0 p0)) (some (.UnaryOp .USub (.Constant (.int 1) k p1) p2)) p3) pos) (tBackT K te) := by subst h; exact pe_backT he
end
/-! ### the promises -/
def RetI (ns : List Nat) (H : Hp) (Q : VK) : Prop := ∀ v H', Ex H H' → IsInts H' v ns → Q v H'
def RetO (r : Option (List Nat)) (H : Hp) (Q : VK) : Prop := match r with
  | none => RetV .non H Q
  | some ns => RetI ns H Q
abbrev keyN (r : List Nat) : List (Int ⊕ List Nat) := keyI (r.map fun n : Nat => ((n : Nat) : Int))
def Srt (rows : List (List Nat)) : Prop := rows.Pairwise fun a b => ordL.kle (keyN a) (keyN b)
def RetRows (L : List (List Nat)) (H : Hp) (Q : VK) : Prop := ∀ v H' zs, Ex H H' → IsRows H' v zs → zs.Perm L → Srt zs → Q v H'
structure WOk (w : Web) : Prop where
  lo : 2 ≤ w.n
  hi : w.n ≤ 5
  T : TiesOk w
  ris : risingW w = true
structure ROk (k d : Nat) : Prop where
  one : 1 ≤ d
  le : d ≤ k
  most : k ≤ 24
structure Two (H : Hp) (v u : V) (w : Web) (k d : Nat) : Prop where
  web : IsWeb H v w
  ring : IsInts H u [k, d]
  W : WOk w
  R : ROk k d
structure Three (H : Hp) (v u x : V) (w : Web) (k d : Nat) (h : List Nat) : Prop where
  two : Two H v u w k d
  hues : IsInts H x h
  ok : HuesOk w k d h
theorem Two.up {H H' : Hp} {v u : V} {w : Web} {k d : Nat} (e : Ex H H') (t : Two H v u w k d) : Two H' v u w k d := ⟨t.web.up e, t.ring.up e, t.W, t.R⟩
theorem Three.up {H H' : Hp} {v u x : V} {w : Web} {k d : Nat} {h : List Nat} (e : Ex H H') (t : Three H v u x w k d h) : Three H' v u x w k d h := ⟨t.two.up e, t.hues.up e, t.ok⟩

def spis_whole : Sp := fun vs H Q _ => ∃ i : Int, vs = [.int i] ∧ RetV (.bl true) H Q
def spis_number_of : Sp := fun vs H Q _ => ∃ i m : Int, vs = [.int i, .int m] ∧ 0 ≤ i ∧ i < m ∧ RetV (.bl true) H Q
def spare_numbers_of : Sp := fun vs H Q _ => ∃ (v : V) (ns : List Nat) (size many : Nat), vs = [v, nV size, nV many] ∧ IsInts H v ns ∧ ns.length = size ∧ ns.length ≤ 1000 ∧ (∀ n ∈ ns, n < many) ∧ RetV (.bl true) H Q
def spcommon_part : Sp := fun vs H Q _ => ∃ a b : Nat, vs = [nV a, nV b] ∧ RetV (nV (Nat.gcd a b)) H Q
def spis_ring : Sp := fun vs H Q _ => ∃ (v : V) (k d : Nat), vs = [v] ∧ IsInts H v [k, d] ∧ ROk k d ∧ RetV (.bl true) H Q
def spcheck_ring : Sp := fun vs H Q _ => ∃ (v : V) (k d : Nat), vs = [v] ∧ IsInts H v [k, d] ∧ ROk k d ∧ RetV .non H Q
def spapart : Sp := fun vs H Q _ => ∃ k a b : Nat, vs = [nV k, nV a, nV b] ∧ a < k ∧ b < k ∧ RetV (nV (ap k a b)) H Q
def spis_shorter : Sp := fun vs H Q _ => ∃ (u v : V) (a b c d : Nat), vs = [u, v] ∧ IsInts H u [a, b] ∧ IsInts H v [c, d] ∧ a < 1000 ∧ b < 1000 ∧ c < 1000 ∧ d < 1000 ∧ RetV (.bl (shorter (a, b) (c, d))) H Q
def spis_pair : Sp := fun vs H Q _ => ∃ (v : V) (i j n : Nat), vs = [v, nV n] ∧ IsInts H v [i, j] ∧ i < n ∧ j < n ∧ i ≠ j ∧ RetV (.bl true) H Q
def spis_many : Sp := fun vs H Q _ => ∃ n : Nat, vs = [nV n] ∧ 1 ≤ n ∧ n ≤ 8 ∧ RetV (.bl true) H Q
def spis_web : Sp := fun vs H Q _ => ∃ (v : V) (w : Web), vs = [v] ∧ IsWeb H v w ∧ WOk w ∧ RetV (.bl true) H Q
def spcheck_web : Sp := fun vs H Q _ => ∃ (v : V) (w : Web), vs = [v] ∧ IsWeb H v w ∧ WOk w ∧ RetV .non H Q
def spcheck_place : Sp := fun vs H Q _ => ∃ (v : V) (w : Web) (p : Nat), vs = [v, nV p] ∧ IsWeb H v w ∧ p < w.n ∧ RetV .non H Q
def spare_tied : Sp := fun vs H Q _ => ∃ (v : V) (w : Web) (a b : Nat), vs = [v, nV a, nV b] ∧ IsWeb H v w ∧ RetV (.bl (tie w a b)) H Q
def sptied_to : Sp := fun vs H Q _ => ∃ (v : V) (w : Web) (p : Nat), vs = [v, nV p] ∧ IsWeb H v w ∧ w.n ≤ 5 ∧ RetI ((List.range w.n).filter fun q => tie w p q) H Q
def spclash_of : Sp := fun vs H Q _ => ∃ (v u x : V) (w : Web) (k d : Nat) (h : List Nat), vs = [v, u, x] ∧ Three H v u x w k d h ∧ RetV .non H Q
def spare_hues : Sp := fun vs H Q _ => ∃ (v u x : V) (w : Web) (k d : Nat) (h : List Nat), vs = [v, u, x] ∧ Three H v u x w k d h ∧ RetV (.bl true) H Q
def spcheck_both : Sp := fun vs H Q _ => ∃ (v u : V) (w : Web) (k d : Nat), vs = [v, u] ∧ Two H v u w k d ∧ RetV .non H Q
def spcheck_hues : Sp := fun vs H Q _ => ∃ (v u x : V) (w : Web) (k d : Nat) (h : List Nat), vs = [v, u, x] ∧ Three H v u x w k d h ∧ RetV .non H Q
def sphues_hold : Sp := spare_hues
def spturned_on : Sp := fun vs H Q _ => ∃ (v u x : V) (w : Web) (k d : Nat) (h : List Nat) (c : Nat), vs = [v, u, x, nV c] ∧ Three H v u x w k d h ∧ RetI (turned k c h) H Q
def spmirrored_by : Sp := fun vs H Q _ => ∃ (u x : V) (k d : Nat) (h : List Nat), vs = [u, x] ∧ IsInts H u [k, d] ∧ IsInts H x h ∧ (∀ y ∈ h, y < k) ∧ h.length ≤ 1000 ∧ RetI (mirrored k h) H Q
def spmirrored_hues : Sp := fun vs H Q _ => ∃ (v u x : V) (w : Web) (k d : Nat) (h : List Nat), vs = [v, u, x] ∧ Three H v u x w k d h ∧ RetI (mirrored k h) H Q
def spis_next : Sp := fun vs H Q _ => ∃ (v u x : V) (w : Web) (k d : Nat) (h : List Nat) (a b : Nat), vs = [v, u, x, nV a, nV b] ∧ Three H v u x w k d h ∧ a < w.n ∧ b < w.n ∧ RetV (.bl (nx w k d h a b)) H Q
def sprounds_full : Sp := fun vs H Q _ => ∃ (v u x : V) (w : Web) (k d : Nat) (h : List Nat), vs = [v, u, x] ∧ Three H v u x w k d h ∧ RetRows (fall (nx w k d h) w.n) H Q
def spcheck_three : Sp := spcheck_hues
def spfull_rounds : Sp := sprounds_full
def spis_full : Sp := fun vs H Q _ => ∃ (v u x y : V) (w : Web) (k d : Nat) (h row : List Nat), vs = [v, u, x, y] ∧ Three H v u x w k d h ∧ IsInts H y row ∧ Rd (nx w k d h) w.n row ∧ RetV (.bl true) H Q
def spfull_holds : Sp := spis_full
def splaps_of : Sp := fun vs H Q _ => ∃ (v u x y : V) (w : Web) (k d : Nat) (h row : List Nat), vs = [v, u, x, y] ∧ Three H v u x w k d h ∧ IsInts H y row ∧ Rd (nx w k d h) w.n row ∧ RetV (nV (row.length * d / k)) H Q
def freeB (w : Web) (k d : Nat) (h : List Nat) (p : Nat) : Bool := (List.range w.n).all fun q => !nx w k d h p q
def spis_free : Sp := fun vs H Q _ => ∃ (v u x : V) (w : Web) (k d : Nat) (h : List Nat) (p : Nat), vs = [v, u, x, nV p] ∧ Three H v u x w k d h ∧ p < w.n ∧ RetV (.bl (freeB w k d h p)) H Q
def spmay_move : Sp := fun vs H Q _ => ∃ (v u x : V) (w : Web) (k d : Nat) (h : List Nat), vs = [v, u, x] ∧ Three H v u x w k d h ∧ RetI ((List.range w.n).filter (freeB w k d h)) H Q
def spmoved_on : Sp := fun vs H Q _ => ∃ (v u x : V) (w : Web) (k d : Nat) (h : List Nat) (p : Nat), vs = [v, u, x, nV p] ∧ Three H v u x w k d h ∧ p < w.n ∧ freeB w k d h p = true ∧ RetI (h.set p ((hg h p + 1) % k)) H Q
def spties_back : Sp := fun vs H Q _ => ∃ (v : V) (w : Web), vs = [v] ∧ IsWeb H v w ∧ w.n ≤ 5 ∧ w.ts.length ≤ 1000 ∧ ∀ v' H', Ex H H' → IsBack H' v' (back w) → Q v' H'
def spfits : Sp := fun vs H Q _ => ∃ (u b r : V) (k d : Nat) (bk : List (List Nat)) (row : List Nat) (p s : Nat), vs = [u, b, r, nV p, nV s] ∧ IsInts H u [k, d] ∧ IsBack H b bk ∧ (IsInts H r row ∨ IsIntL H r row) ∧ p < bk.length ∧ (bk.getD p []).length ≤ 1000 ∧
  (∀ o ∈ bk.getD p [], o < row.length) ∧ (∀ y ∈ row, y < k) ∧ s < k ∧ RetV (.bl (fits k d bk row p s)) H Q
def sphas_threes : Sp := fun vs H Q _ => ∃ (v : V) (w : Web), vs = [v] ∧ IsWeb H v w ∧ w.n ≤ 5 ∧ RetV (.bl (hasThrees w)) H Q
def spfirst_row : Sp := fun vs H Q _ => ∃ (v u y : V) (w : Web) (k d : Nat) (kn : List (Option Nat)) (r : Option (List Nat)), vs = [v, u, y] ∧ Two H v u w k d ∧ IsKn H y kn ∧ kn.length = w.n ∧ firstRow w k d kn = some r ∧ RetO r H Q
def spall_rows : Sp := fun vs H Q _ => ∃ (v u y : V) (w : Web) (k d : Nat) (kn : List (Option Nat)), vs = [v, u, y] ∧ Two H v u w k d ∧ k ≤ 12 ∧ IsKn H y kn ∧ kn.length = w.n ∧ ∀ v' H', Ex H H' → IsRows H' v' (arAt w k d kn w.n) → Q v' H'
abbrev prow (l : List (Nat × Nat)) : List (List Nat) := l.map fun r => [r.1, r.2]
def spplain_rings : Sp := fun vs H Q _ => ∃ n : Nat, vs = [nV n] ∧ 2 ≤ n ∧ n ≤ 5 ∧ ∀ v' H', Ex H H' → IsRows H' v' (prow (plT n)) → Q v' H'
def spleast_ring : Sp := fun vs H Q _ => ∃ (v : V) (w : Web) (r : Nat × Nat), vs = [v] ∧ IsWeb H v w ∧ WOk w ∧ w.ts ≠ [] ∧ leastL w (plT w.n).tail = some r ∧ RetI [r.1, r.2] H Q
def spshortest : Sp := spleast_ring
def spjudged : Sp := fun vs H Q _ => ∃ (v u x : V) (w : Web) (k d : Nat) (h : List Nat), vs = [v, u, x] ∧ Three H v u x w k d h ∧ w.ts ≠ [] ∧ fall (nx w k d h) w.n ≠ [] ∧
  ∀ a y row H', Ex H H' → H' a = some (.tup [.str "round", y]) → IsInts H' y row → row ∈ fall (nx w k d h) w.n → Q (.ref a) H'
def afull (w : Web) (k d : Nat) : Bool := !(arAt w k d (kn0 w.n) w.n).isEmpty && !((arAt w k d (kn0 w.n) w.n).any fun row => (fall (nx w k d row) w.n).isEmpty)
def spalways_full : Sp := fun vs H Q _ => ∃ (v u : V) (w : Web) (k d : Nat), vs = [v, u] ∧ Two H v u w k d ∧ k ≤ 12 ∧ w.ts ≠ [] ∧ RetV (.bl (afull w k d)) H Q
def spmoved_by : Sp := fun vs H Q _ => ∃ (u x y : V) (k d d' : Nat) (h : List Nat), vs = [u, x, y] ∧ IsInts H u [k, d] ∧ k ≤ 24 ∧ IsInts H x h ∧ (∀ z ∈ h, z < k) ∧ h.length ≤ 1000 ∧ IsInts H y [k + 1, d'] ∧ RetI h H Q
def spmoved_hues : Sp := fun vs H Q _ => ∃ (v u x y : V) (w : Web) (k d : Nat) (h : List Nat), vs = [v, u, x, y] ∧ Three H v u x w k d h ∧ IsInts H y [k + 1, d] ∧ k + 1 ≤ 24 ∧ RetI h H Q
/-! ### the law's own -/
/-- all but the list at a stays -/
def ExB (a : Addr) (H H' : Hp) : Prop := ∀ b o, b ≠ a → H b = some o → H' b = some o
def PenAt (H : Hp) (a : Addr) : Prop := ∃ l f : Int, H a = some (.lst [.int l, .int f]) ∧ 0 ≤ l ∧ (f = 0 ∨ f = 1)
def sp_law_cell (K : PySem.W.Frag) : Sp := fun vs H Q _ => ∃ (a : Addr) (ns : List Int) (k : Nat), vs = [.ref a, nV k] ∧ SqL K H a (ns.map V.int) ∧ ∀ i : Int, Q (.int i) H
def sp_law_pen : Sp := fun vs H Q _ => ∃ x : Int, vs = [.int x] ∧ ∀ a H', H a = none → Ex H H' → PenAt H' a → Q (.ref a) H'
def sp_law_draw : Sp := fun vs H Q _ => ∃ (a : Addr) (m : Nat), vs = [.ref a, nV m] ∧ PenAt H a ∧ 1 ≤ m ∧ m ≤ 1000 ∧ ∀ (r : Nat) H', r < m → ExB a H H' → PenAt H' a → Q (nV r) H'
def sp_law_web : Sp := fun vs H Q _ => ∃ (a : Addr) (n : Nat), vs = [.ref a, nV n] ∧ PenAt H a ∧ n ≤ 5 ∧ ∀ v ts H', ExB a H H' → PenAt H' a → IsWeb H' v ⟨n, ts⟩ → ts.Sublist (pairs n) → Q v H'
def sp_law_apart : Sp := fun vs H Q _ => ∃ k a b : Nat, vs = [nV k, nV a, nV b] ∧ a ≤ k ∧ b ≤ k ∧ RetV (nV (lap k a b)) H Q
def fitB (w : Web) (k d : Nat) (h : List Nat) : Bool := w.ts.all fun t => Nat.ble d (lap k (hg h t.1) (hg h t.2))
def sp_law_fit_spots : Sp := fun vs H Q _ => ∃ (v u x : V) (w : Web) (k d : Nat) (h : List Nat), vs = [v, u, x] ∧ Two H v u w k d ∧ IsInts H x h ∧ h.length = w.n ∧ (∀ y ∈ h, y < k) ∧ RetV (.bl (fitB w k d h)) H Q
def sp_law_first : Sp := fun vs H Q _ => ∃ (v u : V) (w : Web) (k d : Nat) (r : Option (List Nat)), vs = [v, u] ∧ Two H v u w k d ∧ lawFirst w k d = some r ∧ RetO r H Q
def sp_law_tight : Sp := fun vs H Q _ => ∃ (a : Addr) (v : V) (w : Web) (r : Nat × Nat), vs = [.ref a, v] ∧ PenAt H a ∧ IsWeb H v w ∧ WOk w ∧ tightL w rings9 = some r ∧ r.1 ≤ 100 ∧ r.2 ≤ 100 ∧
  ∀ v' H' (g : Nat), (g = 1 ∨ g = 2) → ExB a H H' → PenAt H' a → IsInts H' v' [g * r.1, g * r.2] → Q v' H'
def sp_law_some_hues : Sp := fun vs H Q _ => ∃ (a : Addr) (v u : V) (w : Web) (k d : Nat) (h0 : List Nat), vs = [.ref a, v, u] ∧ PenAt H a ∧ Two H v u w k d ∧ lawFirst w k d = some (some h0) ∧ HuesOk w k d h0 ∧
  ∀ x H' h, ExB a H H' → PenAt H' a → IsInts H' x h → HuesOk w k d h → Q x H'
def sp_law_rounds_right : Sp := fun vs H Q _ => ∃ (v u x : V) (w : Web) (k d : Nat) (h : List Nat), vs = [v, u, x] ∧ Three H v u x w k d h ∧ RetV (.bl true) H Q
def sp_law_judged_right : Sp := fun vs H Q _ => ∃ (v u x : V) (w : Web) (k d : Nat) (h : List Nat) (r : Nat × Nat), vs = [v, u, x] ∧ Three H v u x w k d h ∧ w.ts ≠ [] ∧ leastL w (plT w.n).tail = some r ∧ r.1 ≤ 100 ∧ r.2 ≤ 100 ∧ fall (nx w k d h) w.n ≠ [] ∧ RetV (.bl true) H Q
def splaw (K : PySem.W.Frag) : Sp := fun vs H Q _ => ∃ (a : Addr) (ns : List Int), vs = [.ref a] ∧ SqL K H a (ns.map V.int) ∧ ns.length ≤ 63 ∧ ∀ H', Q (.bl true) H'
/-! ### helps for readings -/
theorem at0 {x : V} {r : List V} : atI (x :: r) 0 = some x := atI_nat (j := 0) rfl
theorem at1 {x y : V} {r : List V} : atI (x :: y :: r) 1 = some y := atI_nat (j := 1) rfl
theorem at2 {x y z : V} {r : List V} : atI (x :: y :: z :: r) 2 = some z := atI_nat (j := 2) rfl
theorem IsInts.get {H : Hp} {v : V} {ns : List Nat} (h : IsInts H v ns) : ∃ a, v = .ref a ∧ H a = some (.tup (ns.map nV)) := h
theorem small {n : Nat} (h : n ≤ 100000) : n ≤ sizeLine := Nat.le_trans h (by decide)
theorem smallT {n : Nat} (h : n < 100000) : n < sizeLine := Nat.lt_of_lt_of_le h (by decide)
end Rg
namespace Rg
open PySem PySem.Spec PyProof.Rows L2
/-! ### comprehensions whose turns leave all that was tracked as it was -/
/-- what is said of an item stays while the heap grows and lists change -/
structure Stb {β : Type} (R : Hp → V → β → Prop) : Prop where
  ex : ∀ H H' v b, Ex H H' → R H v b → R H' v b
  up : ∀ H D acc acc' v b, H D = some (.lst acc) → R H v b → R (upd H D (.lst acc')) v b
theorem All2.map_eq {β : Type} {f : β → V} : ∀ {l : List V} {m : List β}, All2 (fun v b => v = f b) l m → l = m.map f
  | [], [], _ => rfl
  | _ :: l, _ :: m, h => by rw [List.map_cons, ← h.1, ← All2.map_eq h.2]
  | [], _ :: _, h => h.elim
  | _ :: _, [], h => h.elim
theorem All2.of_map {β : Type} {f : β → V} : ∀ {m : List β}, All2 (fun v b => v = f b) (m.map f) m
  | [] => trivial
  | _ :: _ => ⟨rfl, All2.of_map⟩
theorem stb_val {β : Type} (f : β → V) : Stb (fun _ v (b : β) => v = f b) := ⟨fun _ _ _ _ _ h => h, fun _ _ _ _ _ _ _ h => h⟩
theorem stb_ints : Stb IsInts := ⟨fun _ _ _ _ e h => h.up e, fun H D acc acc' v b hD h => by
  obtain ⟨a, h1, h2⟩ := h
  refine ⟨a, h1, ?_⟩
  rw [upd_ne (ne_of h2 hD (by intro z; cases z))]
  exact h2⟩
section
variable {β : Type} {R : Hp → V → β → Prop} {J : It} {n : Nat} {G : Hp → Prop} {Y : Nat → Hp → V → Hp → Prop} {g : TG} {tt : TT} {te : TE} {vs : List Nat} {σ : L2.St} {H1 : Hp} {D : Addr} {Qd : Hp → Prop}
theorem lc_data (SR : Stb R) (w : Walk J n G Y) (out : Nat → List β) (hD : H1 D = none) (hG : ∀ H, Ex H1 H → G H) (h00 : out 0 = []) (hsz : ∀ i, i ≤ n → (out i).length ≤ 1000000)
    (hs : ∀ i x H H' (QY : V → Hp → Prop) (QN : Hp → Prop), i < n → Ex H1 H → Y i H x H' → (∀ y H4 b, Ex H H4 → R H4 y b → out (i + 1) = out i ++ [b] → QY y H4) → (∀ H3, Ex H H3 → out (i + 1) = out i → QN H3) →
      g x (wipe σ vs) H' fun σ2 H2 => wipe σ2 vs = wipe σ vs ∧ tt σ2 H2 fun b H3 => if b = true then te σ2 H3 QY else QN H3)
    (hd : ∀ H acc, Ex H1 H → H D = some (.lst acc) → All2 (R H) acc (out n) → Qd H) :
    ∃ W : Nat → Nat → Hp → Prop, (∃ m, W 0 m (upd H1 D (.lst []))) ∧ ∀ i m H, W i m H →
      (J.stop i H ∧ Qd H) ∨ (J.go i H ∧ ∃ Nx : Hp → Prop, (∀ H', Nx H' → ∃ m', m' < m ∧ W (i + 1) m' H') ∧ ∀ x H', J.yld i H x H' → g x (wipe σ vs) H' fun σ2 H2 => wipe σ2 vs = wipe σ vs ∧ tt σ2 H2 fun b H3 =>
        if b = true then te σ2 H3 fun y H4 => ∃ acc, H4 D = some (.lst acc) ∧ acc.length < sizeLine ∧ Nx (upd H4 D (.lst (acc ++ [y]))) else Nx H3) := by
  refine lc_it w (fun i H => Ex H1 H ∧ ∃ acc, H D = some (.lst acc) ∧ All2 (R H) acc (out i)) ⟨Ex.up hD, [], upd_same, by rw [h00]; trivial⟩ (fun i H _ p => hG H p.1) (fun i x H H' hi p y => ?_) (fun H p => ?_)
  · obtain ⟨e, acc, hacc, ha⟩ := p
    refine hs i x H H' _ _ hi e y (fun y H4 b e4 r o => ?_) fun H3 e3 o => ?_
    · have h4 : H4 D = some (.lst acc) := e4 _ _ hacc
      refine ⟨acc, h4, ?_, ?_, acc ++ [y], upd_same, ?_⟩
      · rw [ha.len]
        exact Nat.lt_of_le_of_lt (hsz i (Nat.le_of_lt hi)) (by decide)
      · intro b' o' hb
        rw [upd_ne (ne_of_none hb hD)]
        exact e4 _ _ (e _ _ hb)
      · rw [o]
        refine All2.app (ha.imp fun v b' r' => SR.up _ _ _ _ _ _ h4 (SR.ex _ _ _ _ e4 r')) ⟨SR.up _ _ _ _ _ _ h4 r, trivial⟩
    · exact ⟨e.tr e3, acc, e3 _ _ hacc, by rw [o]; exact ha.imp fun v b' r' => SR.ex _ _ _ _ e3 r'⟩
  · obtain ⟨e, acc, hacc, ha⟩ := p
    exact hd H acc e hacc ha
theorem lc_tupD {K : PySem.W.Frag} {a : Addr} {xs : List V} (SR : Stb R) (out : Nat → List β) (hx : H1 a = some (.tup xs)) (hD : H1 D = none) (h00 : out 0 = []) (hsz : ∀ i, i ≤ xs.length → (out i).length ≤ 1000000)
    (hs : ∀ i x H (QY : V → Hp → Prop) (QN : Hp → Prop), xs[i]? = some x → Ex H1 H → (∀ y H4 b, Ex H H4 → R H4 y b → out (i + 1) = out i ++ [b] → QY y H4) → (∀ H3, Ex H H3 → out (i + 1) = out i → QN H3) →
      g x (wipe σ vs) H fun σ2 H2 => wipe σ2 vs = wipe σ vs ∧ tt σ2 H2 fun b H3 => if b = true then te σ2 H3 QY else QN H3)
    (hd : ∀ H acc, Ex H1 H → H D = some (.lst acc) → All2 (R H) acc (out xs.length) → Qd H) :
    ∃ W : Nat → Nat → Hp → Prop, (∃ m, W 0 m (upd H1 D (.lst []))) ∧ ∀ i m H, W i m H →
      ((Itt K a).stop i H ∧ Qd H) ∨ ((Itt K a).go i H ∧ ∃ Nx : Hp → Prop, (∀ H', Nx H' → ∃ m', m' < m ∧ W (i + 1) m' H') ∧ ∀ x H', (Itt K a).yld i H x H' → g x (wipe σ vs) H' fun σ2 H2 => wipe σ2 vs = wipe σ vs ∧ tt σ2 H2 fun b H3 =>
        if b = true then te σ2 H3 fun y H4 => ∃ acc, H4 D = some (.lst acc) ∧ acc.length < sizeLine ∧ Nx (upd H4 D (.lst (acc ++ [y]))) else Nx H3) :=
  lc_data SR (walk_tup (K := K) (a := a) (xs := xs)) out hD (fun H e => sqT (e _ _ hx)) h00 hsz (fun i x H H' QY QN hi e y => by
    obtain ⟨rfl, hy⟩ := y
    exact hs i x _ QY QN hy e) hd
theorem lc_listD {K : PySem.W.Frag} {a : Addr} {xs : List V} (SR : Stb R) (out : Nat → List β) (hx : H1 a = some (.lst xs)) (hD : H1 D = none) (h00 : out 0 = []) (hsz : ∀ i, i ≤ xs.length → (out i).length ≤ 1000000)
    (hs : ∀ i x H (QY : V → Hp → Prop) (QN : Hp → Prop), xs[i]? = some x → Ex H1 H → (∀ y H4 b, Ex H H4 → R H4 y b → out (i + 1) = out i ++ [b] → QY y H4) → (∀ H3, Ex H H3 → out (i + 1) = out i → QN H3) →
      g x (wipe σ vs) H fun σ2 H2 => wipe σ2 vs = wipe σ vs ∧ tt σ2 H2 fun b H3 => if b = true then te σ2 H3 QY else QN H3)
    (hd : ∀ H acc, Ex H1 H → H D = some (.lst acc) → All2 (R H) acc (out xs.length) → Qd H) :
    ∃ W : Nat → Nat → Hp → Prop, (∃ m, W 0 m (upd H1 D (.lst []))) ∧ ∀ i m H, W i m H →
      ((Itl K a).stop i H ∧ Qd H) ∨ ((Itl K a).go i H ∧ ∃ Nx : Hp → Prop, (∀ H', Nx H' → ∃ m', m' < m ∧ W (i + 1) m' H') ∧ ∀ x H', (Itl K a).yld i H x H' → g x (wipe σ vs) H' fun σ2 H2 => wipe σ2 vs = wipe σ vs ∧ tt σ2 H2 fun b H3 =>
        if b = true then te σ2 H3 fun y H4 => ∃ acc, H4 D = some (.lst acc) ∧ acc.length < sizeLine ∧ Nx (upd H4 D (.lst (acc ++ [y]))) else Nx H3) :=
  lc_data SR (walk_list (K := K) (a := a) (xs := xs)) out hD (fun H e => sqL (e _ _ hx)) h00 hsz (fun i x H H' QY QN hi e y => by
    obtain ⟨rfl, hy⟩ := y
    exact hs i x _ QY QN hy e) hd
theorem lc_rangeD {lo : Int} {n : Nat} (SR : Stb R) (out : Nat → List β) (hD : H1 D = none) (h00 : out 0 = []) (hsz : ∀ i, i ≤ n → (out i).length ≤ 1000000)
    (hs : ∀ i H (QY : V → Hp → Prop) (QN : Hp → Prop), i < n → Ex H1 H → (∀ y H4 b, Ex H H4 → R H4 y b → out (i + 1) = out i ++ [b] → QY y H4) → (∀ H3, Ex H H3 → out (i + 1) = out i → QN H3) →
      g (.int (lo + i)) (wipe σ vs) H fun σ2 H2 => wipe σ2 vs = wipe σ vs ∧ tt σ2 H2 fun b H3 => if b = true then te σ2 H3 QY else QN H3)
    (hd : ∀ H acc, Ex H1 H → H D = some (.lst acc) → All2 (R H) acc (out n) → Qd H) :
    ∃ W : Nat → Nat → Hp → Prop, (∃ m, W 0 m (upd H1 D (.lst []))) ∧ ∀ i m H, W i m H →
      ((Itr lo n).stop i H ∧ Qd H) ∨ ((Itr lo n).go i H ∧ ∃ Nx : Hp → Prop, (∀ H', Nx H' → ∃ m', m' < m ∧ W (i + 1) m' H') ∧ ∀ x H', (Itr lo n).yld i H x H' → g x (wipe σ vs) H' fun σ2 H2 => wipe σ2 vs = wipe σ vs ∧ tt σ2 H2 fun b H3 =>
        if b = true then te σ2 H3 fun y H4 => ∃ acc, H4 D = some (.lst acc) ∧ acc.length < sizeLine ∧ Nx (upd H4 D (.lst (acc ++ [y]))) else Nx H3) :=
  lc_data SR (walk_range (lo := lo) (n := n)) out hD (fun _ _ => trivial) h00 hsz (fun i x H H' QY QN hi e y => by
    obtain ⟨rfl, rfl⟩ := y
    exact hs i _ QY QN hi e) hd
theorem lc_range0 {n : Nat} (SR : Stb R) (out : Nat → List β) (hD : H1 D = none) (h00 : out 0 = []) (hsz : ∀ i, i ≤ n → (out i).length ≤ 1000000)
    (hs : ∀ i H (QY : V → Hp → Prop) (QN : Hp → Prop), i < n → Ex H1 H → (∀ y H4 b, Ex H H4 → R H4 y b → out (i + 1) = out i ++ [b] → QY y H4) → (∀ H3, Ex H H3 → out (i + 1) = out i → QN H3) →
      g (nV i) (wipe σ vs) H fun σ2 H2 => wipe σ2 vs = wipe σ vs ∧ tt σ2 H2 fun b H3 => if b = true then te σ2 H3 QY else QN H3)
    (hd : ∀ H acc, Ex H1 H → H D = some (.lst acc) → All2 (R H) acc (out n) → Qd H) :
    ∃ W : Nat → Nat → Hp → Prop, (∃ m, W 0 m (upd H1 D (.lst []))) ∧ ∀ i m H, W i m H →
      ((Itr 0 n).stop i H ∧ Qd H) ∨ ((Itr 0 n).go i H ∧ ∃ Nx : Hp → Prop, (∀ H', Nx H' → ∃ m', m' < m ∧ W (i + 1) m' H') ∧ ∀ x H', (Itr 0 n).yld i H x H' → g x (wipe σ vs) H' fun σ2 H2 => wipe σ2 vs = wipe σ vs ∧ tt σ2 H2 fun b H3 =>
        if b = true then te σ2 H3 fun y H4 => ∃ acc, H4 D = some (.lst acc) ∧ acc.length < sizeLine ∧ Nx (upd H4 D (.lst (acc ++ [y]))) else Nx H3) :=
  lc_rangeD SR out hD h00 hsz (fun i H QY QN hi e hy hn => by
    have e0 : (V.int ((0 : Int) + (i : Nat))) = nV i := by rw [Int.zero_add]
    rw [e0]
    exact hs i H QY QN hi e hy hn) hd
end
theorem for_range0 {n : Nat} {g : TG} {tb : TS} {D : Ends} {σ : L2.St} {H : Hp} (Pv : Nat → L2.St → Hp → Prop) (h0 : Pv 0 σ H)
    (hs : ∀ (i : Nat) σ H, i < n → Pv i σ H → g (nV i) σ H fun σ2 H2 => tb { D with nx := Pv (i + 1), ct := Pv (i + 1), bk := D.nx } σ2 H2) (hd : ∀ σ H, Pv n σ H → D.nx σ H) :
    ∃ W : Nat → Nat → L2.St → Hp → Prop, (∃ m, W 0 m σ H) ∧ ∀ i m σ H, W i m σ H →
      ((Itr 0 n).stop i H ∧ D.nx σ H) ∨ ((Itr 0 n).go i H ∧ ∃ N : L2.St → Hp → Prop, (∀ σ' H', N σ' H' → ∃ m', m' < m ∧ W (i + 1) m' σ' H') ∧ ∀ x H', (Itr 0 n).yld i H x H' → g x σ H' fun σ2 H2 => tb { D with nx := N, ct := N, bk := D.nx } σ2 H2) :=
  for_range (lo := 0) (n := n) Pv h0 (fun i σ H hi p => by
    have e0 : (V.int ((0 : Int) + (i : Nat))) = nV i := by rw [Int.zero_add]
    rw [e0]
    exact hs i σ H hi p) hd
/-! ### outs: a list's items mapped, filtered -/
section
variable {α β : Type} {l : List α} {i : Nat} {x : α}
theorem out_map {f : α → β} (h : l[i]? = some x) : (l.take (i + 1)).map f = (l.take i).map f ++ [f x] := by
  rw [List.take_add_one, h, List.map_append]
  rfl
theorem out_yes {p : α → Bool} {f : α → β} (h : l[i]? = some x) (hp : p x = true) : ((l.take (i + 1)).filter p).map f = ((l.take i).filter p).map f ++ [f x] := by
  rw [List.take_add_one, h, List.filter_append, List.map_append]
  simp [hp]
theorem out_no {p : α → Bool} {f : α → β} (h : l[i]? = some x) (hp : p x = false) : ((l.take (i + 1)).filter p).map f = ((l.take i).filter p).map f := by
  rw [List.take_add_one, h, List.filter_append, List.map_append]
  simp [hp]
theorem fil_yes {p : α → Bool} (h : l[i]? = some x) (hp : p x = true) : (l.take (i + 1)).filter p = (l.take i).filter p ++ [x] := by
  rw [List.take_add_one, h, List.filter_append]
  simp [hp]
theorem fil_no {p : α → Bool} (h : l[i]? = some x) (hp : p x = false) : (l.take (i + 1)).filter p = (l.take i).filter p := by
  rw [List.take_add_one, h, List.filter_append]
  simp [hp]
theorem fil_len {p : α → Bool} : ((l.take i).filter p).length ≤ l.length := Nat.le_trans (List.length_filter_le _ _) (by rw [List.length_take]; omega)
theorem take_all {n : Nat} (h : n = l.length) : l.take n = l := by rw [h]; exact List.take_length
end
theorem range_get {n i : Nat} (h : i < n) : (List.range n)[i]? = some i := List.getElem?_range h
theorem nV_get {ns : List Nat} {i : Nat} {x : V} (h : (ns.map nV)[i]? = some x) : ∃ n, ns[i]? = some n ∧ x = nV n := by
  rw [List.getElem?_map] at h
  cases e : ns[i]? with
  | none => rw [e] at h; cases h
  | some n => rw [e] at h; exact ⟨n, rfl, (Option.some.inj h).symm⟩
theorem nV_add0 (i : Nat) : V.int ((0 : Int) + (i : Nat)) = nV i := by rw [Int.zero_add]
theorem rising_at : ∀ {l : Nat × Nat} {r : List (Nat × Nat)}, rising l r = true → ∀ (j : Nat) t t', (l :: r)[j]? = some t → (l :: r)[j + 1]? = some t' → (t.1 < t'.1 ∨ t.1 = t'.1 ∧ t.2 < t'.2)
  | l, [], _, j, t, t', _, h => by simp at h
  | l, x :: r, h, 0, t, t', h1, h2 => by
    have h : ((Nat.blt l.1 x.1 || (l.1 == x.1 && Nat.blt l.2 x.2)) && rising x r) = true := h
    simp only [Bool.and_eq_true, Bool.or_eq_true, Nat.blt_eq, beq_iff_eq] at h
    have e1 : l = t := by simpa using h1
    have e2 : x = t' := by simpa using h2
    rw [← e1, ← e2]
    exact h.1
  | l, x :: r, h, j + 1, t, t', h1, h2 => by
    have h : ((Nat.blt l.1 x.1 || (l.1 == x.1 && Nat.blt l.2 x.2)) && rising x r) = true := h
    rw [Bool.and_eq_true] at h
    exact rising_at h.2 j t t' (by simpa using h1) (by simpa using h2)
theorem risingW_at {w : Web} (h : risingW w = true) {j : Nat} {t t' : Nat × Nat} (h1 : w.ts[j]? = some t) (h2 : w.ts[j + 1]? = some t') : t.1 < t'.1 ∨ t.1 = t'.1 ∧ t.2 < t'.2 := by
  unfold risingW at h
  cases e : w.ts with
  | nil => rw [e] at h1; simp at h1
  | cons x r =>
    rw [e] at h h1 h2
    exact rising_at h j t t' h1 h2
theorem units65 {k : Nat} {A : Around} (r : Room k A) : A.units + 65 < cLine := by have := r.un; omega
theorem hues_lt {w : Web} {k d : Nat} {h : List Nat} (o : HuesOk w k d h) : ∀ y ∈ h, y < k := fun n hn => by
  obtain ⟨i, hi, rfl⟩ := List.mem_iff_getElem.mp hn
  rw [← hg_at hi]
  exact o.lt i (by rw [← o.len]; exact hi)
/-! ### slices and sums of tuples -/
theorem cut_from {xs : List V} {k : Nat} (hk : k ≤ xs.length) : cutV xs (some (k : Int)) none = xs.drop k := by
  unfold cutV
  rw [HT.sIx_nat, HT.sIx_none, Nat.min_eq_left hk]
  exact List.take_of_length_le (by rw [List.length_drop]; omega)
theorem cut_to {xs : List V} {k : Nat} (hk : k ≤ xs.length) : cutV xs none (some (k : Int)) = xs.take k := by
  unfold cutV
  rw [HT.sIx_nat, HT.sIx_none, Nat.min_eq_left hk, List.drop_zero, Nat.sub_zero]
theorem rd_from {K : PySem.W.Frag} {H : Hp} {a : Addr} {xs : List V} {Q : VK} (k : Nat) (hx : H a = some (.tup xs)) (h1 : 1 ≤ k) (hk : k ≤ xs.length) (q : ∀ p, H p = none → Q (.ref p) (upd H p (.tup (xs.drop k)))) : rSlA K (.ref a) (some (k : Int)) none H Q := by
  refine ⟨a, xs, rfl, sqT hx, fun z => ?_, fun _ p hp => ?_⟩
  · have := z.1
    rw [HT.sIx_nat, Nat.min_eq_left hk] at this
    omega
  · rw [cut_from hk]
    exact q p hp
theorem rd_fromP {K : PySem.W.Frag} {σ : L2.St} {H : Hp} {a : Addr} {xs : List V} {Q : VK} (k : Nat) (hx : H a = some (.tup xs)) (h1 : 1 ≤ k) (hk : k ≤ xs.length) (q : ∀ p, H p = none → Q (.ref p) (upd H p (.tup (xs.drop k)))) :
    tNoPart σ H fun u H3 => rSlA K (.ref a) (some (k : Int)) u H3 Q := rd_from k hx h1 hk q
theorem rd_to {K : PySem.W.Frag} {H : Hp} {a : Addr} {xs : List V} {Q : VK} (k : Nat) (hx : H a = some (.tup xs)) (hk : k < xs.length) (q : ∀ p, H p = none → Q (.ref p) (upd H p (.tup (xs.take k)))) : rSlA K (.ref a) none (some (k : Int)) H Q := by
  refine ⟨a, xs, rfl, sqT hx, fun z => ?_, fun _ p hp => ?_⟩
  · have := z.2
    rw [HT.sIx_nat, Nat.min_eq_left (Nat.le_of_lt hk)] at this
    omega
  · rw [cut_to (Nat.le_of_lt hk)]
    exact q p hp
theorem rd_cat {K : PySem.W.Frag} {H : Hp} {a b : Addr} {xs ys : List V} {Q : VK} (hx : H a = some (.tup xs)) (hy : H b = some (.tup ys)) (hl : xs.length + ys.length ≤ 100000) (q : ∀ c H', Ex H H' → H' c = some (.tup (xs ++ ys)) → Q (.ref c) H') : rCatA K (.ref a) (.ref b) H Q := by
  refine ⟨a, b, xs, ys, rfl, rfl, sqT hx, sqT hy, small hl, fun e => ?_, fun _ e => ?_, fun _ _ p hp => q p _ (Ex.up hp) upd_same⟩
  · exact q b H (ex0 _) (by rw [e, List.nil_append]; exact hy)
  · exact q a H (ex0 _) (by rw [e, List.append_nil]; exact hx)
theorem walk_zipT {K : PySem.W.Frag} {a b : Addr} {xs ys : List V} (hl : xs.length = ys.length) : Walk (RZ.ItzT K a b) xs.length (fun H => SqT K H a xs ∧ SqT K H b ys) (YPair (fun i => xs[i]?) fun i => ys[i]?) :=
  ⟨fun i H hi q => ⟨xs, ys, xs[i], ys[i], q.1, q.2, by simp [hi], by simp [show i < ys.length by omega]⟩, fun H q => ⟨xs, ys, q.1, q.2, .inl (Nat.le_refl _)⟩, fun i H x H' hi q y => by
    obtain ⟨T, x', y', rfl, hT, rfl, f1, f2⟩ := y
    exact ⟨T, x', y', rfl, hT, rfl, f1 _ q.1, f2 _ q.2⟩⟩
theorem min_head {n : Nat} : ∀ (ns : List Nat), (∀ x ∈ ns, n < x) → ((ns.map fun m : Nat => ((m : Nat) : Int)).foldl min (n : Int)) = (n : Int)
  | [], _ => rfl
  | x :: r, h => by
    rw [List.map_cons, List.foldl_cons, show min (n : Int) (x : Int) = (n : Int) by have := h x (by simp); omega]
    exact min_head r fun y hy => h y (List.mem_cons_of_mem _ hy)
theorem ch_at {R : Nat → Nat → Bool} : ∀ {l : List Nat} {z : Nat} {i a b : Nat}, ch R (l ++ [z]) → l[i]? = some a → (l ++ [z])[i + 1]? = some b → R a b = true
  | [], _, i, a, b, _, h, _ => by simp at h
  | [x], z, 0, a, b, c, h1, h2 => by
    have e1 : x = a := by simpa using h1
    have e2 : z = b := by simpa using h2
    rw [← e1, ← e2]
    exact c.1
  | [x], z, i + 1, a, b, _, h, _ => by simp at h
  | x :: y :: r, z, 0, a, b, c, h1, h2 => by
    have e1 : x = a := by simpa using h1
    have e2 : y = b := by simpa using h2
    rw [← e1, ← e2]
    exact c.1
  | x :: y :: r, z, i + 1, a, b, c, h1, h2 => ch_at (l := y :: r) (i := i) c.2 (by simpa using h1) (by simpa using h2)
theorem set_parts {h : List Nat} {p y : Nat} (hp : p < h.length) : (h.set p y).map nV = (h.map nV).take p ++ [nV y] ++ (h.map nV).drop (p + 1) := by
  rw [List.set_eq_take_append_cons_drop, if_pos hp, List.map_append, List.map_cons, List.map_take, List.map_drop, List.append_assoc]
  rfl
theorem intl_shaped (ns : List Nat) : SeqAt.shaped (.list (ns.map dI)) = true := shaped_of (by simp only [PyData.canLay0]; exact lay_ints ns) (by simp only [PyData.depth, dep_ints]; decide)
theorem eqv_nil (ns : List Nat) : PyData.eqv (.list (ns.map dI)) (.list []) = ns.isEmpty := by
  cases ns with
  | nil => simp [PyData.eqv, PyData.eqvAll]
  | cons a r => simp [PyData.eqv, PyData.eqvAll]
theorem dec_bl (p : Prop) [Decidable p] (h : p) : V.bl (decide p) = V.bl true := by rw [decide_eq_true h]
end Rg
namespace Rg
open PySem PySem.Spec PyProof.Rows L2
/-! ### lists by relation -/
theorem All2.perm {α β : Type} {R : α → β → Prop} {l l' : List α} (p : l'.Perm l) : ∀ {m : List β}, All2 R l m → ∃ m', m'.Perm m ∧ All2 R l' m' := by
  induction p with
  | nil => exact fun {m} h => ⟨m, .refl m, h⟩
  | cons x p ih =>
    intro m h
    cases m with
    | nil => exact h.elim
    | cons b m =>
      obtain ⟨m', h1, h2⟩ := ih h.2
      exact ⟨b :: m', h1.cons b, h.1, h2⟩
  | swap x y l =>
    intro m h
    match m, h with
    | [], h => exact h.elim
    | [_], h => exact h.2.elim
    | a :: b :: m, h => exact ⟨b :: a :: m, .swap _ _ _, h.2.1, h.1, h.2.2⟩
  | trans p1 p2 ih1 ih2 =>
    intro m h
    obtain ⟨m1, h1, h2⟩ := ih2 h
    obtain ⟨m2, h3, h4⟩ := ih1 h2
    exact ⟨m2, h3.trans h1, h4⟩
theorem All2.mem {α β : Type} {R : α → β → Prop} : ∀ {l : List α} {m : List β} {b : β}, All2 R l m → b ∈ m → ∃ a, a ∈ l ∧ R a b
  | [], [], _, _, h => by simp at h
  | a :: l, c :: m, b, h, hb => by
    rcases List.mem_cons.mp hb with e | hb
    · exact ⟨a, by simp, by rw [e]; exact h.1⟩
    · obtain ⟨a', h1, h2⟩ := All2.mem h.2 hb
      exact ⟨a', List.mem_cons_of_mem _ h1, h2⟩
  | [], _ :: _, _, h, _ => h.elim
  | _ :: _, [], _, h, _ => h.elim
theorem All2.mem' {α β : Type} {R : α → β → Prop} : ∀ {l : List α} {m : List β} {a : α}, All2 R l m → a ∈ l → ∃ b, b ∈ m ∧ R a b
  | [], [], _, _, h => by simp at h
  | a' :: l, c :: m, a, h, hb => by
    rcases List.mem_cons.mp hb with e | hb
    · exact ⟨c, by simp, by rw [e]; exact h.1⟩
    · obtain ⟨a', h1, h2⟩ := All2.mem' h.2 hb
      exact ⟨a', List.mem_cons_of_mem _ h1, h2⟩
  | [], _ :: _, _, h, _ => h.elim
  | _ :: _, [], _, h, _ => h.elim
theorem All2.pair {α β : Type} {R : α → β → Prop} {S : α → α → Prop} {T : β → β → Prop} (hT : ∀ x y a b, R x a → R y b → S x y → T a b) : ∀ {l : List α} {m : List β}, All2 R l m → l.Pairwise S → m.Pairwise T
  | [], [], _, _ => .nil
  | a :: l, b :: m, h, p => by
    rw [List.pairwise_cons] at p ⊢
    refine ⟨fun c hc => ?_, All2.pair hT h.2 p.2⟩
    obtain ⟨x, hx, r⟩ := All2.mem h.2 hc
    exact hT _ _ _ _ h.1 r (p.1 x hx)
  | [], _ :: _, h, _ => h.elim
  | _ :: _, [], h, _ => h.elim
theorem IsInts.tupI {K : PySem.W.Frag} {H : Hp} {v : V} {ns : List Nat} (h : IsInts H v ns) : TupI K H v (ns.map fun n : Nat => ((n : Nat) : Int)) := by
  obtain ⟨a, rfl, h⟩ := h
  exact ⟨a, rfl, sqT (by rw [← map_nV]; exact h)⟩
/-- sorted of a list of tuples of ints -/
theorem rd_sorted {K : PySem.W.Frag} {H : Hp} {a : Addr} {vs : List V} {rows : List (List Nat)} {Q : VK} (ha : H a = some (.lst vs)) (hv : All2 (IsInts H) vs rows) (hne : ∀ r ∈ rows, r ≠ [])
    (q : ∀ v H' zs, Ex H H' → IsRows H' v zs → zs.Perm rows → Srt zs → Q v H') : rSortA K [.ref a] H Q := by
  refine ⟨a, vs, rfl, sqL ha, fun x hx => ?_, fun ys p hp hw hn => ?_⟩
  · obtain ⟨r, hr, hi⟩ := hv.mem' hx
    cases r with
    | nil => exact absurd rfl (hne _ hr)
    | cons n ns => exact ⟨_, _, hi.tupI⟩
  · obtain ⟨zs, h1, h2⟩ := hv.perm hp
    refine q _ _ zs (Ex.up hn) ⟨p, ys, rfl, upd_same, h2.imp fun v r h => h.up (Ex.up hn)⟩ h1 ?_
    exact h2.pair (fun x y a b ra rb s => s _ _ ra.tupI rb.tupI) hw
theorem Srt.unique {a b : List (List Nat)} (ha : Srt a) (hb : Srt b) (p : a.Perm b) : a = b :=
  List.Perm.eq_of_pairwise (fun x y _ _ h1 h2 => by
    have e := PyProof.Rows.KeyOrd.kle_antisymm h1 h2
    have e2 : (x.map fun n : Nat => ((n : Nat) : Int)) = (y.map fun n : Nat => ((n : Nat) : Int)) := by
      have e' : (keyN x) = (keyN y) := e
      unfold keyN keyI at e'
      exact (List.map_inj_right (fun _ _ h => Sum.inl.inj h)).mp e'
    exact (List.map_inj_right (fun _ _ h => Int.ofNat.inj h)).mp e2) ha hb p
/-! ### items -/
theorem inV_nat (p : Nat) : ∀ ns : List Nat, inV (nV p) (ns.map nV) = ns.contains p
  | [] => rfl
  | n :: r => by
    have ih := inV_nat p r
    show (eqV (nV n) (nV p) || inV (nV p) (r.map nV)) = _
    rw [ih, List.contains_cons]
    congr 1
    show ((n : Int) == (p : Int)) = (p == n)
    rw [Bool.eq_iff_iff, beq_iff_eq, beq_iff_eq]
    omega
theorem flat_nat : ∀ ns : List Nat, (ns.map nV).all flatV = true
  | [] => rfl
  | n :: r => by
    rw [List.map_cons, List.all_cons, flat_nat r]
    rfl
theorem at_lastD : ∀ {ns : List Nat}, ns ≠ [] → atI (ns.map nV) (-1) = some (nV (ns.getLastD 0)) := fun {ns} h => by
  obtain ⟨r, x, rfl⟩ : ∃ r x, ns = r ++ [x] := ⟨ns.dropLast, ns.getLast h, (List.dropLast_concat_getLast h).symm⟩
  rw [List.map_append]
  have e : (r ++ [x]).getLastD 0 = x := by simp [List.getLastD_eq_getLast?]
  rw [e]
  exact atI_last _ _
theorem at_headD {ns : List Nat} (h : ns ≠ []) : atI (ns.map nV) 0 = some (nV (ns.headD 0)) := by
  cases ns with
  | nil => exact absurd rfl h
  | cons x r => exact at0
/-! ### how many rows -/
theorem gr_len {R : Nat → Nat → Bool} {n : Nat} {row : List Nat} : (gr R n row).length ≤ n := by
  unfold gr
  rw [List.length_map]
  have := List.length_filter_le (fun p => !(row.contains p) && R (row.getLastD 0) p) (List.range' (row.headD 0 + 1) (n - (row.headD 0 + 1)))
  rw [List.length_range'] at this
  omega
theorem lev_len {R : Nat → Nat → Bool} {n : Nat} : ∀ i, (lev R n i).length ≤ n ^ (i + 1)
  | 0 => by
    show ((List.range n).map _).length ≤ _
    rw [List.length_map, List.length_range]
    simp
  | i + 1 => by
    have h1 := flat_len (f := gr R n) (m := n) (lev R n i) fun _ => gr_len
    have h2 := lev_len (R := R) (n := n) i
    show ((lev R n i).flatMap (gr R n)).length ≤ _
    rw [Nat.pow_succ]
    exact Nat.le_trans h1 (Nat.mul_le_mul_right _ h2)
theorem pow5 {n i : Nat} (hn : n ≤ 5) (hi : i ≤ 5) : n ^ (i + 1) ≤ 15625 := by
  have h1 : n ^ (i + 1) ≤ 5 ^ (i + 1) := Nat.pow_le_pow_left hn _
  have h2 : 5 ^ (i + 1) ≤ 5 ^ 6 := Nat.pow_le_pow_right (by decide) (by omega)
  exact Nat.le_trans h1 (Nat.le_trans h2 (by decide))
theorem lev5 {R : Nat → Nat → Bool} {n i : Nat} (hn : n ≤ 5) (hi : i ≤ 5) : (lev R n i).length ≤ 15625 := Nat.le_trans (lev_len i) (pow5 hn hi)
theorem fnd5 {R : Nat → Nat → Bool} {n : Nat} (hn : n ≤ 5) : ∀ i, i ≤ 5 → (fnd R n i).length ≤ i * 15625
  | 0, _ => by simp [fnd]
  | i + 1, hi => by
    have h1 := fnd5 (R := R) hn i (by omega)
    have h2 := lev5 (R := R) hn hi
    have h3 := List.length_filter_le (closes R) (lev R n (i + 1))
    show (fnd R n i ++ (lev R n (i + 1)).filter (closes R)).length ≤ _
    rw [List.length_append]
    omega
theorem eqv_rnil (rows : List (List Nat)) : PyData.eqv (.list (rows.map dT)) (.list []) = rows.isEmpty := by
  have := eqv_rows rows []
  rw [List.map_nil] at this
  rw [this]
  cases rows <;> simp
end Rg
namespace Rg
open PySem PySem.Spec PyProof.Rows L2
/-! ### tests on data -/
theorem ties_sh (ts : List (Nat × Nat)) : SeqAt.shaped (.tuple (ts.map fun t => dT [t.1, t.2])) = true := by
  have := ties_shaped (ts.map fun t => [t.1, t.2])
  rwa [List.map_map] at this
theorem nil_sh : SeqAt.shaped (.tuple []) = true := ties_shaped []
theorem eqv_tnil (ts : List (Nat × Nat)) : PyData.eqv (.tuple (ts.map fun t => dT [t.1, t.2])) (.tuple []) = ts.isEmpty := by
  cases ts with
  | nil => simp [PyData.eqv, PyData.eqvAll]
  | cons a r => simp [PyData.eqv, PyData.eqvAll]
/-- ties == () and ties != () -/
theorem rd_teq {K : PySem.W.Frag} {H : Hp} {b p : Addr} {ts : List (Nat × Nat)} {Q : VK} (hb : IsTies H (.ref b) ts) (hp : H p = some (.tup [])) (q : Q (.bl ts.isEmpty) H) : rEqD K (.ref b) (.ref p) H Q := by
  refine ⟨_, .tuple [], hb.dp, .tup (sqT hp) .nil, ties_sh ts, nil_sh, ?_⟩
  rw [eqv_tnil]
  exact q
theorem rd_tne {K : PySem.W.Frag} {H : Hp} {b p : Addr} {ts : List (Nat × Nat)} {Q : VK} (hb : IsTies H (.ref b) ts) (hp : H p = some (.tup [])) (q : Q (.bl (!ts.isEmpty)) H) : rNeD K (.ref b) (.ref p) H Q := by
  refine ⟨_, .tuple [], hb.dp, .tup (sqT hp) .nil, ties_sh ts, nil_sh, ?_⟩
  rw [eqv_tnil]
  exact q
theorem stb_tie : Stb (fun H v (t : Nat × Nat) => IsInts H v [t.1, t.2]) := ⟨fun _ _ _ _ e h => h.up e, fun H D acc acc' v b hD h => stb_ints.up H D acc acc' v _ hD h⟩
theorem inV_tie (p : Nat) (t : Nat × Nat) : inV (nV p) ([t.1, t.2].map nV) = (t.1 == p || t.2 == p) := by
  rw [inV_nat]
  rw [List.contains_cons, List.contains_cons, List.contains_nil, Bool.or_false, Bool.beq_comm (a := p), Bool.beq_comm (a := p)]
theorem dec_lt (a b : Nat) : decide ((a : Int) < (b : Int)) = Nat.blt a b := by
  rw [Bool.eq_iff_iff, decide_eq_true_iff, Nat.blt_eq]
  omega
theorem dec_lt2 (k c d : Nat) : decide ((k : Int) < (c : Int) * (d : Int)) = Nat.blt k (c * d) := by
  rw [← Int.natCast_mul]
  exact dec_lt _ _
theorem run_go {α : Type} {step : α → Stp α} {m : Nat} {x : α} {r : Option (List Nat)} (h : run step m x = some r) : ∃ m', m = m' + 1 ∧ ((∃ y, step x = .go y ∧ run step m' y = some r) ∨ step x = .done r) := by
  cases m with
  | zero => cases h
  | succ m' =>
    refine ⟨m', rfl, ?_⟩
    have h : (match step x with | .go y => run step m' y | .done r => some r) = some r := h
    cases e : step x with
    | go y =>
      rw [e] at h
      exact .inl ⟨y, rfl, h⟩
    | done r' =>
      rw [e] at h
      have : r' = r := Option.some.inj h
      exact .inr (by rw [this])
theorem last_get {ns : List Nat} (h : ns ≠ []) : (ns.map nV)[(ns.map nV).length - 1]? = some (nV (ns.getLastD 0)) := by
  obtain ⟨r, x, rfl⟩ : ∃ r x, ns = r ++ [x] := ⟨ns.dropLast, ns.getLast h, (List.dropLast_concat_getLast h).symm⟩
  have e : (r ++ [x]).getLastD 0 = x := by simp [List.getLastD_eq_getLast?]
  rw [e, List.map_append, List.length_append]
  show ((r.map nV) ++ [nV x])[(r.map nV).length + 1 - 1]? = _
  rw [Nat.add_sub_cancel, List.getElem?_append_right (Nat.le_refl _), Nat.sub_self]
  rfl
theorem seek_at {ok : Nat → Bool} {k s : Nat} (hs : s < k) : seek ok (k - s) s = if ok s = true then s else seek ok (k - (s + 1)) (s + 1) := by
  rw [show k - s = (k - (s + 1)) + 1 by omega]
  rfl
theorem seek_end {ok : Nat → Bool} {k s : Nat} (hs : k ≤ s) : seek ok (k - s) s = s := by
  rw [show k - s = 0 by omega]
  rfl
/-- in (None, s) -/
theorem inV_kn (o : Option Nat) (s : Nat) : inV (oV o) [.non, nV s] = (match o with | none => true | some x => x == s) := by
  cases o with
  | none => rfl
  | some x =>
    show (eqV .non (nV x) || (eqV (nV s) (nV x) || false)) = (x == s)
    show (false || (((s : Int) == (x : Int)) || false)) = (x == s)
    rw [Bool.or_false, Bool.false_or, Bool.eq_iff_iff, beq_iff_eq, beq_iff_eq]
    omega
end Rg
namespace Rg
open PySem PySem.Spec PyProof.Rows L2
theorem rising_pw : ∀ {l : Nat × Nat} {r : List (Nat × Nat)}, rising l r = true → (∀ t ∈ r, l.1 < t.1 ∨ l.1 = t.1 ∧ l.2 < t.2) ∧ r.Pairwise fun a b => a.1 < b.1 ∨ a.1 = b.1 ∧ a.2 < b.2
  | l, [], _ => ⟨by simp, .nil⟩
  | l, x :: r, h => by
    have h : ((Nat.blt l.1 x.1 || (l.1 == x.1 && Nat.blt l.2 x.2)) && rising x r) = true := h
    simp only [Bool.and_eq_true, Bool.or_eq_true, Nat.blt_eq, beq_iff_eq] at h
    obtain ⟨h1, h2⟩ := rising_pw h.2
    refine ⟨fun t ht => ?_, List.pairwise_cons.mpr ⟨h1, h2⟩⟩
    rcases List.mem_cons.mp ht with e | ht
    · rw [e]; exact h.1
    · have := h1 t ht
      have := h.1
      omega
theorem rising_nd {w : Web} (h : risingW w = true) : w.ts.Nodup := by
  unfold risingW at h
  cases e : w.ts with
  | nil => simp
  | cons x r =>
    rw [e] at h
    obtain ⟨h1, h2⟩ := rising_pw h
    refine List.Pairwise.imp (fun {a b} q z => ?_) (List.pairwise_cons.mpr ⟨h1, h2⟩)
    rw [z] at q
    omega
theorem ties_few {w : Web} (W : WOk w) : w.ts.length ≤ 1000 := by
  have hs : w.ts ⊆ (List.range 5).flatMap fun i => (List.range 5).map fun j => (i, j) := fun t ht => by
    have := W.T.ties t ht
    have := W.hi
    rw [List.mem_flatMap]
    exact ⟨t.1, List.mem_range.mpr (by omega), List.mem_map.mpr ⟨t.2, List.mem_range.mpr (by omega), rfl⟩⟩
  have := (rising_nd W.ris).length_le_of_subset hs
  have e : ((List.range 5).flatMap fun i => (List.range 5).map fun j => (i, j)).length = 25 := by decide
  omega
end Rg
namespace Rg
open PySem PySem.Spec PyProof.Rows L2
theorem inV_knOk {kn : List (Option Nat)} {i s : Nat} {o : Option Nat} (h : kn[i]? = some o) : inV (oV o) [.non, nV s] = knOk kn i s := by
  rw [inV_kn]
  unfold knOk
  rw [List.getD_eq_getElem?_getD, h]
  rfl
end Rg
namespace Rg
open PySem PySem.Spec PyProof.Rows L2
theorem smallM {n : Nat} (h : n < 1000000) : n < sizeLine := Nat.lt_of_lt_of_le h (by decide)
/-- (0,) + (None,) * (web[0] - 1) -/
theorem rd_kn0 {K : PySem.W.Frag} {σ : L2.St} {H : Hp} {i : Nat} {v : V} {w : Web} {Q : VK} (hσ : σ[i]? = some (some v)) (hv : IsWeb H v w) (h2 : 2 ≤ w.n) (h5 : w.n ≤ 5) (q : ∀ c H', Ex H H' → IsKn H' c (kn0 w.n) → Q c H') :
    tOp (rCatA K) (tTup (tCons (tC (.int 0)) tNil)) (tOp (rRepA K) (tTup (tCons (tC .non) tNil)) (tOp (rI0 fun i j => .int (i - j)) (tOp (rIxT K) (tVar i) (tC (.int 0))) (tC (.int 1)))) σ H Q := by
  obtain ⟨a, t, rfl, ha, _⟩ := hv
  refine ⟨by show 1 ≤ sizeLine; decide, fun p hp => ?_⟩
  have e1 : Ex H (upd H p (.tup [.int 0])) := Ex.up hp
  refine ⟨by show 1 ≤ sizeLine; decide, fun p2 hp2 => ?_⟩
  have e2 := Ex.tr e1 (Ex.up (o := .tup [.non]) hp2)
  have n1 : p ≠ p2 := ne_of_none (upd_same (H := H) (a := p)) hp2
  have hp' : (upd (upd H p (.tup [.int 0])) p2 (.tup [.non])) p = some (.tup [.int 0]) := by rw [upd_ne n1, upd_same]
  refine ⟨.ref a, hσ, a, _, 0, nV w.n, rfl, rfl, sqT (e2 _ _ ha), at0, (w.n : Int), 1, rfl, rfl, ?_⟩
  by_cases hn : w.n = 2
  · refine .inl ⟨p2, [.non], rfl, by rw [hn]; rfl, sqT upd_same, by simp, ?_⟩
    refine rd_cat (xs := [.int 0]) (ys := [.non]) hp' upd_same (by decide) fun c H' e hc => q _ _ (Ex.tr e2 e) ⟨c, rfl, ?_⟩
    rw [hc, hn]
    rfl
  · refine .inr ⟨p2, (w.n : Int) - 1, [.non], rfl, rfl, sqT upd_same, by simp, by omega, by omega, by decide, fun p3 hp3 => ?_⟩
    have hfl : (List.replicate ((w.n : Int) - 1).toNat [V.non]).flatten = List.replicate (w.n - 1) V.non := by
      rw [show ((w.n : Int) - 1).toNat = w.n - 1 by omega]
      generalize w.n - 1 = m
      induction m with
      | zero => rfl
      | succ m ih => rw [List.replicate_succ, List.flatten_cons, ih, List.replicate_succ]; rfl
    rw [hfl]
    have e3 := Ex.tr e2 (Ex.up (o := .tup (List.replicate (w.n - 1) V.non)) hp3)
    refine rd_cat (xs := [.int 0]) (ys := List.replicate (w.n - 1) V.non) ?_ upd_same ?_ fun c H' e hc => q _ _ (Ex.tr e3 e) ⟨c, rfl, ?_⟩
    · rw [upd_ne (ne_of_none hp' hp3)]
      exact hp'
    · rw [List.length_replicate]
      show 1 + _ ≤ _
      omega
    · rw [hc]
      show some (HO.tup (V.int 0 :: List.replicate (w.n - 1) V.non)) = some (HO.tup ((some 0 :: List.replicate (w.n - 1) (none : Option Nat)).map oV))
      rw [List.map_cons, List.map_replicate]
      rfl
theorem kn0_len {n : Nat} (h : 1 ≤ n) : (kn0 n).length = n := by
  unfold kn0
  rw [List.length_cons, List.length_replicate]
  omega
theorem hg_mem {row : List Nat} {y : Nat} (h : y ∈ row) : ∃ i, i < row.length ∧ hg row i = y := by
  obtain ⟨i, hi, rfl⟩ := List.mem_iff_getElem.mp h
  exact ⟨i, hi, hg_at hi⟩
theorem pow12 {k i : Nat} (hk : k ≤ 12) (hi : i ≤ 5) : k ^ i ≤ 248832 := by
  have h1 : k ^ i ≤ 12 ^ i := Nat.pow_le_pow_left hk _
  have h2 : 12 ^ i ≤ 12 ^ 5 := Nat.pow_le_pow_right (by decide) hi
  exact Nat.le_trans h1 (Nat.le_trans h2 (by decide))
theorem plT_ok {n : Nat} (h1 : 2 ≤ n) (h2 : n ≤ 5) : pl n = plT n := by
  have : n = 2 ∨ n = 3 ∨ n = 4 ∨ n = 5 := by omega
  rcases this with e | e | e | e <;> subst e <;> decide
theorem plT_small {n : Nat} (h1 : 2 ≤ n) (h2 : n ≤ 5) : ∀ r ∈ plT n, r.1 ≤ 5 ∧ 1 ≤ r.2 ∧ r.2 ≤ r.1 := by
  have : n = 2 ∨ n = 3 ∨ n = 4 ∨ n = 5 := by omega
  rcases this with e | e | e | e <;> subst e <;> decide
/-! ### rows of pairs -/
theorem All2.take {α β : Type} {R : α → β → Prop} : ∀ (n : Nat) {l : List α} {m : List β}, All2 R l m → All2 R (l.take n) (m.take n)
  | 0, _, _, _ => trivial
  | n + 1, [], [], _ => trivial
  | n + 1, _ :: l, _ :: m, h => ⟨h.1, All2.take n h.2⟩
  | n + 1, [], _ :: _, h => h.elim
  | n + 1, _ :: _, [], h => h.elim
theorem All2.mapR {α β γ : Type} {R : α → γ → Prop} {f : β → γ} : ∀ {l : List α} {m : List β}, All2 R l (m.map f) ↔ All2 (fun a b => R a (f b)) l m
  | [], [] => Iff.rfl
  | _ :: l, _ :: m => by
    rw [List.map_cons]
    exact and_congr Iff.rfl All2.mapR
  | [], _ :: _ => Iff.rfl
  | _ :: _, [] => Iff.rfl
end Rg
namespace Rg
open PySem PySem.Spec PyProof.Rows L2
/-! ### all but the pen stays -/
theorem ExB.rf (a : Addr) (H : Hp) : ExB a H H := fun _ _ _ h => h
theorem ExB.tr {a : Addr} {H H1 H2 : Hp} (x : ExB a H H1) (y : ExB a H1 H2) : ExB a H H2 := fun b o h e => y b o h (x b o h e)
theorem Ex.b {H H1 : Hp} (a : Addr) (e : Ex H H1) : ExB a H H1 := fun b o _ h => e b o h
theorem ExB.set {a : Addr} {H : Hp} {o : HO} : ExB a H (upd H a o) := fun b o' h e => by
  rw [upd_ne h]
  exact e
theorem PenAt.up {a : Addr} {H H1 : Hp} (e : Ex H H1) (p : PenAt H a) : PenAt H1 a := let ⟨l, f, h, q⟩ := p; ⟨l, f, e _ _ h, q⟩
theorem PenAt.ne {a b : Addr} {H : Hp} {xs : List V} (p : PenAt H a) (h : H b = some (.tup xs)) : b ≠ a := by
  obtain ⟨l, f, h2, _⟩ := p
  exact ne_of h h2 (by intro z; cases z)
theorem PenAt.nn {a b : Addr} {H : Hp} (p : PenAt H a) (h : H b = none) : b ≠ a := by
  obtain ⟨l, f, h2, _⟩ := p
  intro z
  rw [z, h2] at h
  cases h
theorem IsInts.upB {a : Addr} {H H' : Hp} {v : V} {ns : List Nat} (p : PenAt H a) (e : ExB a H H') (h : IsInts H v ns) : IsInts H' v ns := let ⟨b, h1, h2⟩ := h; ⟨b, h1, e _ _ (p.ne h2) h2⟩
theorem IsTies.upB {a : Addr} {H H' : Hp} {v : V} {ts : List (Nat × Nat)} (p : PenAt H a) (e : ExB a H H') (h : IsTies H v ts) : IsTies H' v ts := let ⟨b, vs, h1, h2, h3⟩ := h; ⟨b, vs, h1, e _ _ (p.ne h2) h2, h3.imp fun _ _ q => IsInts.upB p e q⟩
theorem IsWeb.upB {a : Addr} {H H' : Hp} {v : V} {w : Web} (p : PenAt H a) (e : ExB a H H') (h : IsWeb H v w) : IsWeb H' v w := let ⟨b, u, h1, h2, h3⟩ := h; ⟨b, u, h1, e _ _ (p.ne h2) h2, h3.upB p e⟩
theorem Two.upB {a : Addr} {H H' : Hp} {v u : V} {w : Web} {k d : Nat} (p : PenAt H a) (e : ExB a H H') (t : Two H v u w k d) : Two H' v u w k d := ⟨t.web.upB p e, t.ring.upB p e, t.W, t.R⟩
/-! ### the law's own distance -/
theorem lap_ap {k a b : Nat} (ha : a < k) (hb : b < k) : lap k a b = ap k a b := by
  rw [ap_eq ha hb]
  unfold lap
  split <;> split <;> omega
theorem fitB_hues {w : Web} (T : TiesOk w) {k d : Nat} {h : List Nat} (hl : h.length = w.n) (hk : ∀ y ∈ h, y < k) (f : fitB w k d h = true) : HuesOk w k d h := by
  have lt : ∀ i, i < w.n → hg h i < k := fun i hi => hk _ (by rw [hg_at (by omega)]; exact List.getElem_mem _)
  refine ⟨hl, lt, fun t ht => ?_⟩
  unfold fitB at f
  have := List.all_eq_true.mp f t ht
  rw [Nat.ble_eq] at this
  have tt := T.ties t ht
  rwa [lap_ap (lt _ (by omega)) (lt _ tt.2)] at this
theorem fitB_empty (w : Web) (k d : Nat) (h : List Nat) : (w.ts.filter fun t => Nat.blt (lap k (hg h t.1) (hg h t.2)) d).isEmpty = fitB w k d h := by
  unfold fitB
  induction w.ts with
  | nil => rfl
  | cons t r ih =>
    rw [List.filter_cons, List.all_cons, ← ih]
    cases hb : Nat.blt (lap k (hg h t.1) (hg h t.2)) d with
    | true =>
      rw [if_pos rfl]
      rw [Nat.blt_eq] at hb
      have : Nat.ble d (lap k (hg h t.1) (hg h t.2)) = false := by
        rw [← Bool.not_eq_true, Nat.ble_eq]
        omega
      rw [this]
      rfl
    | false =>
      rw [if_neg (by decide)]
      rw [← Bool.not_eq_true, Nat.blt_eq] at hb
      have : Nat.ble d (lap k (hg h t.1) (hg h t.2)) = true := by
        rw [Nat.ble_eq]
        omega
      rw [this]
      rfl
theorem ixN_last {n : Nat} (h : 1 ≤ n) : ixN n (-1) = some (n - 1) := by
  unfold ixN
  rw [if_neg (by decide), if_pos (by omega)]
  congr 1
  omega
theorem ixN_nat' {n j : Nat} (h : j < n) : ixN n (j : Int) = some j := Evl.ixN_nat h
theorem set_last {row : List Nat} {y : Nat} (h : row ≠ []) : (row.map nV).set ((row.map nV).length - 1) (nV y) = (row.dropLast ++ [y]).map nV := by
  obtain ⟨r, x, rfl⟩ : ∃ r x, row = r ++ [x] := ⟨row.dropLast, row.getLast h, (List.dropLast_concat_getLast h).symm⟩
  rw [List.dropLast_concat, List.map_append, List.map_append, List.length_append]
  show ((r.map nV) ++ [nV x]).set ((r.map nV).length + 1 - 1) (nV y) = _
  rw [Nat.add_sub_cancel, List.set_append_right _ _ (Nat.le_refl _), Nat.sub_self]
  rfl
theorem last_app {r : List Nat} {x : Nat} : (r ++ [x]).getLastD 0 = x := by simp [List.getLastD_eq_getLast?]
theorem eqv_tlist (ts : List (Nat × Nat)) : PyData.eqv (.list (ts.map fun t => dT [t.1, t.2])) (.list []) = ts.isEmpty := by
  cases ts with
  | nil => simp [PyData.eqv, PyData.eqvAll]
  | cons a r => simp [PyData.eqv, PyData.eqvAll]
theorem tlist_sh (ts : List (Nat × Nat)) : SeqAt.shaped (.list (ts.map fun t => dT [t.1, t.2])) = true := by
  have := rows_shaped (ts.map fun t => [t.1, t.2])
  rwa [List.map_map] at this
theorem all2_tieD {K : PySem.W.Frag} {H : Hp} {vs : List V} {ts : List (Nat × Nat)} (h : All2 (fun v t => IsInts H v [t.1, t.2]) vs ts) : DpAll K H vs (ts.map fun t => dT [t.1, t.2]) := dp_all2 (fun v t z => IsInts.dp z) h
/-- a list of ties == [] and != [] -/
theorem rd_leq {K : PySem.W.Frag} {H : Hp} {b p : Addr} {vs : List V} {ts : List (Nat × Nat)} {Q : VK} (hb : H b = some (.lst vs)) (hv : All2 (fun v t => IsInts H v [t.1, t.2]) vs ts) (hp : H p = some (.lst [])) (q : Q (.bl ts.isEmpty) H) : rEqD K (.ref b) (.ref p) H Q := by
  refine ⟨_, .list [], .lst (sqL hb) (all2_tieD hv), .lst (sqL hp) .nil, tlist_sh ts, rows_shaped [], ?_⟩
  rw [eqv_tlist]
  exact q
theorem rd_lne {K : PySem.W.Frag} {H : Hp} {b p : Addr} {vs : List V} {ts : List (Nat × Nat)} {Q : VK} (hb : H b = some (.lst vs)) (hv : All2 (fun v t => IsInts H v [t.1, t.2]) vs ts) (hp : H p = some (.lst [])) (q : Q (.bl (!ts.isEmpty)) H) : rNeD K (.ref b) (.ref p) H Q := by
  refine ⟨_, .list [], .lst (sqL hb) (all2_tieD hv), .lst (sqL hp) .nil, tlist_sh ts, rows_shaped [], ?_⟩
  rw [eqv_tlist]
  exact q
/-- a list of ints == [] and != [] -/
theorem rd_ieq {K : PySem.W.Frag} {H : Hp} {b p : Addr} {ns : List Nat} {Q : VK} (hb : H b = some (.lst (ns.map nV))) (hp : H p = some (.lst [])) (q : Q (.bl ns.isEmpty) H) : rEqD K (.ref b) (.ref p) H Q := by
  refine ⟨.list (ns.map dI), .list [], .lst (sqL hb) (dp_nat ns), .lst (sqL hp) .nil, intl_shaped _, intl_shaped [], ?_⟩
  rw [eqv_nil]
  exact q
theorem rd_ine {K : PySem.W.Frag} {H : Hp} {b p : Addr} {ns : List Nat} {Q : VK} (hb : H b = some (.lst (ns.map nV))) (hp : H p = some (.lst [])) (q : Q (.bl (!ns.isEmpty)) H) : rNeD K (.ref b) (.ref p) H Q := by
  refine ⟨.list (ns.map dI), .list [], .lst (sqL hb) (dp_nat ns), .lst (sqL hp) .nil, intl_shaped _, intl_shaped [], ?_⟩
  rw [eqv_nil]
  exact q
/-- rows == rows -/
theorem rd_req {K : PySem.W.Frag} {H : Hp} {x y : V} {a b : List (List Nat)} {Q : VK} (hx : IsRows H x a) (hy : IsRows H y b) (q : Q (.bl (decide (a = b))) H) : rEqD K x y H Q := by
  refine ⟨_, _, hx.dp, hy.dp, rows_shaped a, rows_shaped b, ?_⟩
  rw [eqv_rows]
  exact q
theorem rd_rne {K : PySem.W.Frag} {H : Hp} {x y : V} {a b : List (List Nat)} {Q : VK} (hx : IsRows H x a) (hy : IsRows H y b) (q : Q (.bl (!decide (a = b))) H) : rNeD K x y H Q := by
  refine ⟨_, _, hx.dp, hy.dp, rows_shaped a, rows_shaped b, ?_⟩
  rw [eqv_rows]
  exact q
end Rg
namespace Rg
open PySem PySem.Spec PyProof.Rows L2
theorem tie_upB {a : Addr} {H H' : Hp} (p : PenAt H a) (e : ExB a H H') {vs : List V} {ts : List (Nat × Nat)} (h : All2 (fun v t => IsInts H v [t.1, t.2]) vs ts) : All2 (fun v t => IsInts H' v [t.1, t.2]) vs ts := h.imp fun _ _ q => IsInts.upB p e q
theorem tie_upL {H : Hp} {D : Addr} {acc acc' : List V} (hD : H D = some (.lst acc)) {vs : List V} {ts : List (Nat × Nat)} (h : All2 (fun v t => IsInts H v [t.1, t.2]) vs ts) : All2 (fun v t => IsInts (upd H D (.lst acc')) v [t.1, t.2]) vs ts := h.imp fun v t q => stb_ints.up H D acc acc' v _ hD q
theorem range'_get {s n i : Nat} (h : i < n) : (List.range' s n)[i]? = some (s + i) := by
  rw [List.getElem?_range' h, Nat.one_mul]
end Rg
namespace Rg
open PySem PySem.Spec PyProof.Rows L2
theorem PenAt.upL {a D : Addr} {H : Hp} {xs : List V} (p : PenAt H a) (h : D ≠ a) : PenAt (upd H D (.lst xs)) a := by
  obtain ⟨l, f, h2, q⟩ := p
  exact ⟨l, f, by rw [upd_ne h.symm]; exact h2, q⟩
end Rg
namespace Rg
open PySem PySem.Spec PyProof.Rows L2
theorem gen_bl {F : V → Hp → Prop} {b0 : Bool} {H : Hp} (h : ∀ b, F (.bl b) H) : F (.bl b0) H := h b0
end Rg
namespace Rg
open PySem PySem.Spec PyProof.Rows L2
/-! ### what the law asks of a web -/
section
variable {w : Web} {r : Nat × Nat}
theorem WebFacts.wok (F : WebFacts w r) : WOk w := ⟨F.lo, F.hi, F.T, F.ris⟩
theorem WebFacts.small (F : WebFacts w r) : 1 ≤ r.2 ∧ r.2 ≤ r.1 ∧ r.1 ≤ 5 := by
  rcases F.ring with h | h | h | h | h <;> subst h <;> decide
theorem WebFacts.rok (F : WebFacts w r) {g : Nat} (hg : g = 1 ∨ g = 2) : ROk (g * r.1) (g * r.2) ∧ g * r.1 ≤ 10 := by
  have := F.small
  rcases hg with e | e <;> subst e <;> exact ⟨⟨by omega, by omega, by omega⟩, by omega⟩
theorem WebFacts.first (F : WebFacts w r) {g : Nat} (hg : g = 1 ∨ g = 2) : ∃ h, lawFirst w (g * r.1) (g * r.2) = some (some h) ∧ HuesOk w (g * r.1) (g * r.2) h := by
  rcases hg with e | e <;> subst e
  · obtain ⟨h, h1, h2, _⟩ := F.one
    rw [Nat.one_mul, Nat.one_mul]
    exact ⟨h, h1, h2⟩
  · exact F.two
theorem afull_yes (F : WebFacts w r) : afull w r.1 r.2 = true := by
  obtain ⟨h, h1, o, h0, _⟩ := F.one
  have hm := hues_ar F.T o h0
  unfold afull
  rw [Bool.and_eq_true]
  constructor
  · cases e : arAt w r.1 r.2 (kn0 w.n) w.n with
    | nil =>
      rw [e] at hm
      exact absurd hm (by simp)
    | cons a b => rfl
  · cases e : (arAt w r.1 r.2 (kn0 w.n) w.n).any fun row => (fall (nx w r.1 r.2 row) w.n).isEmpty with
    | false => rfl
    | true =>
      obtain ⟨row, hr, he⟩ := List.any_eq_true.mp e
      have := tight F.T F.hi F.wit (g := 1) (.inl rfl) (h := row) (by rw [Nat.one_mul, Nat.one_mul]; exact ar_hues F.T hr)
      rw [Nat.one_mul, Nat.one_mul] at this
      exact absurd (List.isEmpty_iff.mp he) this
theorem afull_no (F : WebFacts w r) : afull w (r.1 + 1) r.2 = false := by
  obtain ⟨h, h1, o, h0, hf⟩ := F.one
  have hm := hues_ar F.T (o.wider F.T) h0
  have e : ((arAt w (r.1 + 1) r.2 (kn0 w.n) w.n).any fun row => (fall (nx w (r.1 + 1) r.2 row) w.n).isEmpty) = true := List.any_eq_true.mpr ⟨h, hm, by rw [hf]; rfl⟩
  unfold afull
  rw [e, Bool.not_true, Bool.and_false]
end
theorem one_tie {n : Nat} (h1 : 2 ≤ n) (h2 : n ≤ 5) : [(0, 1)].Sublist (pairs n) := by
  rw [List.singleton_sublist]
  have : n = 2 ∨ n = 3 ∨ n = 4 ∨ n = 5 := by omega
  rcases this with e | e | e | e <;> subst e <;> decide
/-- an if that gives a name a new value, or leaves it -/
theorem q_ifNew {t : TT} {te : TE} {tz : TS} {D : Ends} {σ : L2.St} {H : Hp} {b : Bool} {i : Nat} (G : V → Hp → Prop) (h : Evl.EvT t σ H b)
    (h1 : b = true → ∀ H1, Ex H H1 → ∀ Q : VK, (∀ v H2, Ex H1 H2 → G v H2 → Q v H2) → te σ H1 Q) (h2 : b = false → ∀ H1, Ex H H1 → ∃ v, σ.set i (some v) = σ ∧ G v H1)
    (k : ∀ v H1, Ex H H1 → G v H1 → tz D (σ.set i (some v)) H1) : tSeq (tIfS t (tAsg te (gName i)) tNext) tz D σ H :=
  Evl.q_when h (fun hb H1 e1 => h1 hb H1 e1 _ fun v H2 e2 g => k v H2 (Ex.tr e1 e2) g) (fun hb H1 e1 => by
    obtain ⟨v, hs, g⟩ := h2 hb H1 e1
    have g := k v H1 e1 g
    rw [hs] at g
    exact g)
end Rg
namespace Rg
open PySem PySem.Spec PyProof.Rows L2
section
variable {P : Program} {w : World} {K : PySem.W.Frag} {mg : Str → Option Value} {base : Heap}
/-! ### _law_pen -/
abbrev s_law_pen : Stmt := topS 66
theorem sc_law_pen : FnScope ["_law_cell_here", "_law_left"] ["_law_cell_here"] (defScope s_law_pen) := ⟨rfl, rfl, rfl, by decide +kernel, rfl, by decide +kernel, by decide +kernel⟩
theorem ok_law_pen (T : Tx K mg "_law_pen" s_law_pen) (B : Bl mg)  : Dn P w K mg base "_law_pen" 1 ["_law_cell_here"] sp_law_pen := by
  obtain ⟨f, fd, F, m⟩ := T.ex
  refine ⟨f, fd, m, F.kp, F.binds (fun _ _ _ _ _ _ us hl => match us, hl with | [_], _ => rfl), F.ok sc_law_pen (fun vs H Q E h => ?_) (fun cdv A outer s H vs Q E hr h => ?_)⟩
  · obtain ⟨x, rfl, q⟩ := h
    rfl
  · obtain ⟨x, rfl, q⟩ := h
    refine ⟨_, (pss_cons (ps_set (i := 1) sc_law_pen.nd rfl (by first | exact Or.inl rfl | exact Or.inr rfl) (pe_callB (call_max2 rfl) (by rfl) B.max_ (by decide +kernel) (pa_cons (pv 0) (pa_cons (pe_op op_sub pe_int (pv 0)) pa_nil))))
      (pss_one (ps_ret (pe_lst (pa_cons (pv 1) (pa_cons (pe_callTy call_int1 (by rfl) B.int_ (by decide +kernel) (pa_cons (pe_cmpR op_ge (pv 1) (pe_op op_pow pe_int pe_int) (nomark _)) pa_nil)) pa_nil)))))), ?_⟩
    refine ⟨.int x, rfl, .int x, rfl, 0, x, rfl, rfl, x, 0 - x, rfl, ?_⟩
    refine ⟨.int _, rfl, .int _, rfl, 10, 18, rfl, rfl, ⟨by decide, by decide, by decide⟩, _, _, rfl, rfl, .inr ⟨_, rfl, by show 2 ≤ sizeLine; decide, fun p hp => ?_⟩⟩
    refine q p _ hp (Ex.up hp) ⟨_, _, upd_same, ?_, ?_⟩
    · split <;> omega
    · cases decide ((10 : Int) ^ Int.toNat 18 ≤ if 0 - x > x then 0 - x else x) with
      | true => exact .inr rfl
      | false => exact .inl rfl
/-! ### _law_draw -/
abbrev s_law_draw : Stmt := topS 67
theorem sc_law_draw : FnScope ["_law_pen_here", "_law_many", "_law_left", "_law_found", "_law_stir"] ["_law_pen_here", "_law_many"] (defScope s_law_draw) := ⟨rfl, rfl, rfl, by decide +kernel, rfl, by decide +kernel, by decide +kernel⟩
theorem ok_law_draw (T : Tx K mg "_law_draw" s_law_draw) (B : Bl mg)  : Dn P w K mg base "_law_draw" 1 ["_law_pen_here", "_law_many"] sp_law_draw := by
  obtain ⟨f, fd, F, m⟩ := T.ex
  refine ⟨f, fd, m, F.kp, F.binds (fun _ _ _ _ _ _ us hl => match us, hl with | [_, _], _ => rfl), F.ok sc_law_draw (fun vs H Q E h => ?_) (fun cdv A outer s H vs Q E hr h => ?_)⟩
  · obtain ⟨a, m, rfl, ⟨l, f, ha, hl, hf⟩, h1, h2, q⟩ := h
    rfl
  · obtain ⟨a, m, rfl, ⟨l, f, ha, hl, hf⟩, h1, h2, q⟩ := h
    refine ⟨_, (pss_cons (ps_if (pt_cmpR op_eq (pe_ix (ix_listK K rfl) (pv 0) pe_int (fun _ _ => rfl)) pe_int (nomark _))
        (pss_cons (ps_asg (pe_callB call_divmod (by rfl) B.divmod_ (by decide +kernel) (pa_cons (pe_ix (ix_listK K rfl) (pv 0) pe_int (fun _ _ => rfl)) (pa_cons (pv 1) pa_nil))) (pg_tupK K rfl (n := 2) rfl (pgs_cons (pg_name (i := 2) sc_law_draw.nd rfl (by first | exact Or.inl rfl | exact Or.inr rfl)) (pgs_cons (pg_name (i := 3) sc_law_draw.nd rfl (by first | exact Or.inl rfl | exact Or.inr rfl)) pgs_nil))))
        (pss_cons (ps_asg (pv 2) (pg_sub (pv 0) pe_int set_list))
        (pss_one (ps_ret (pv 3)))))
        pss_nil)
      (pss_cons (ps_set (i := 4) sc_law_draw.nd rfl (by first | exact Or.inl rfl | exact Or.inr rfl) (pe_op op_mod (pe_op op_mul (pe_op op_add (pe_op op_mod (pe_ix (ix_listK K rfl) (pv 0) pe_int (fun _ _ => rfl)) pe_int) pe_int) pe_int) pe_int))
      (pss_cons (ps_set (i := 4) sc_law_draw.nd rfl (by first | exact Or.inl rfl | exact Or.inr rfl) (pe_op op_mod (pe_op op_add (pe_op op_mul (pv 4) (pv 4)) pe_int) pe_int))
      (pss_cons (ps_asg (pe_op op_mod (pe_op op_add (pe_op op_mul (pv 4) pe_int) pe_int) pe_int) (pg_sub (pv 0) pe_int set_list))
      (pss_one (ps_ret (pe_op op_mod (pe_op op_fdiv (pe_ix (ix_listK K rfl) (pv 0) pe_int (fun _ _ => rfl)) pe_int) (pv 1)))))))), ?_⟩
    refine ⟨.ref a, rfl, a, _, 1, .int f, rfl, rfl, sqL ha, at1, rfl, _, rfl, ite2 (fun h => ?_) (fun h => ?_)⟩
    · -- left, found = divmod(..)
      refine ⟨.ref a, rfl, a, _, 0, .int l, rfl, rfl, sqL ha, at0, nV m, rfl, l, (m : Int), rfl, ⟨by omega, by omega⟩, fun p hp => ?_⟩
      have na : a ≠ p := ne_of_none ha hp
      refine ⟨p, _, rfl, sqT upd_same, rfl, .int (l / (m : Int)), [.int (l % (m : Int))], rfl, .int (l % (m : Int)), [], rfl, rfl, ?_⟩
      refine ⟨.int (l / (m : Int)), rfl, .ref a, rfl, a, [.int l, .int f], 0, 0, rfl, rfl, by rw [upd_ne na]; exact ha, rfl, ?_⟩
      have hm0 : (0 : Int) ≤ l % (m : Int) := Int.emod_nonneg _ (by omega)
      have hm1 : l % (m : Int) < (m : Int) := Int.emod_lt_of_pos _ (by omega)
      refine ⟨.int (l % (m : Int)), rfl, ?_⟩
      have er : V.int (l % (m : Int)) = nV (l % (m : Int)).toNat := by
        show V.int _ = V.int (((l % (m : Int)).toNat : Nat) : Int)
        rw [Int.toNat_of_nonneg hm0]
      rw [er]
      refine q _ _ (by omega) (ExB.tr (Ex.b a (Ex.up hp)) ExB.set) ⟨l / (m : Int), f, upd_same, ?_, hf⟩
      exact Int.ediv_nonneg hl (by omega)
    · -- the stir
      refine ⟨.ref a, rfl, a, _, 0, .int l, rfl, rfl, sqL ha, at0, l, 2147483647, rfl, rfl, (by show (0 : Int) < 2147483647; decide), _, 40503, rfl, rfl, _, 69621, rfl, rfl, .inr ⟨by decide, by decide⟩, _, 2147483629, rfl, rfl, (by show (0 : Int) < 2147483629; decide), ?_⟩
      obtain ⟨s1, hs1⟩ : ∃ s1 : Int, (l % 2147483647 + 40503) * 69621 % 2147483629 = s1 := ⟨_, rfl⟩
      have b1 : 0 ≤ s1 ∧ s1 < 2147483629 := by omega
      refine ⟨.int s1, (by rw [← hs1]; rfl), .int s1, (by rw [← hs1]; rfl), s1, s1, rfl, rfl, .inl ⟨by omega, by omega⟩, _, 7817, rfl, rfl, _, 2147483587, rfl, rfl, (by show (0 : Int) < 2147483587; decide), ?_⟩
      obtain ⟨s2, hs2⟩ : ∃ s2 : Int, (s1 * s1 + 7817) % 2147483587 = s2 := ⟨_, rfl⟩
      have b2 : 0 ≤ s2 ∧ s2 < 2147483587 := by
        rw [← hs2]
        exact ⟨Int.emod_nonneg _ (by decide), Int.emod_lt_of_pos _ (by decide)⟩
      refine ⟨.int s2, (by rw [← hs2]; rfl), s2, 48271, rfl, rfl, .inl ⟨by omega, by omega⟩, _, 11, rfl, rfl, _, 2147483629, rfl, rfl, (by show (0 : Int) < 2147483629; decide), ?_⟩
      obtain ⟨s3, hs3⟩ : ∃ s3 : Int, (s2 * 48271 + 11) % 2147483629 = s3 := ⟨_, rfl⟩
      have b3 : 0 ≤ s3 := by omega
      refine ⟨.ref a, rfl, a, [.int l, .int f], 0, 0, rfl, rfl, ha, rfl, ?_⟩
      refine ⟨.ref a, rfl, a, [.int s3, .int f], 0, .int s3, rfl, rfl, sqL (by rw [← hs3]; exact upd_same), at0, s3, 32, rfl, rfl, ⟨by decide, by decide⟩, nV m, rfl, s3 / 32, (m : Int), rfl, rfl, ?_, ?_⟩
      · show (0 : Int) < (m : Int)
        omega
      · have hm0 : (0 : Int) ≤ s3 / 32 % (m : Int) := Int.emod_nonneg _ (by omega)
        have hm1 : s3 / 32 % (m : Int) < (m : Int) := Int.emod_lt_of_pos _ (by omega)
        have er : V.int (s3 / 32 % (m : Int)) = nV (s3 / 32 % (m : Int)).toNat := by
          show V.int _ = V.int (((s3 / 32 % (m : Int)).toNat : Nat) : Int)
          rw [Int.toNat_of_nonneg hm0]
        show Q (V.int (s3 / 32 % (m : Int))) _
        rw [er]
        exact q _ _ (by omega) ExB.set ⟨s3, f, (by rw [← hs3]; exact upd_same), b3, hf⟩
/-! ### _law_web -/
abbrev s_law_web : Stmt := topS 68
theorem sc_law_web : FnScope ["_law_pen_here", "_law_many", "_law_often", "_law_ties", "_law_one", "_law_other"] ["_law_pen_here", "_law_many"] (defScope s_law_web) := ⟨rfl, rfl, rfl, by decide +kernel, rfl, by decide +kernel, by decide +kernel⟩
theorem ok_law_web (T : Tx K mg "_law_web" s_law_web) (B : Bl mg) (D_law_draw : Dn P w K mg base "_law_draw" 1 ["_law_pen_here", "_law_many"] sp_law_draw) : Dn P w K mg base "_law_web" 2 ["_law_pen_here", "_law_many"] sp_law_web := by
  obtain ⟨f, fd, F, m⟩ := T.ex
  refine ⟨f, fd, m, F.kp, F.binds (fun _ _ _ _ _ _ us hl => match us, hl with | [_, _], _ => rfl), F.ok sc_law_web (fun vs H Q E h => ?_) (fun cdv A outer s H vs Q E hr h => ?_)⟩
  · obtain ⟨a, n, rfl, hp, hn, q⟩ := h
    rfl
  · obtain ⟨a, n, rfl, hp, hn, q⟩ := h
    refine ⟨_, (pss_cons (ps_set (i := 2) sc_law_web.nd rfl (by first | exact Or.inl rfl | exact Or.inr rfl) (pe_ix (ix_listK K rfl) (pe_lst (pa_cons pe_int (pa_cons pe_int (pa_cons pe_int pa_nil)))) (pe_d D_law_draw (hr.mono (by decide)) rfl (pa_cons (pv 0) (pa_cons pe_int pa_nil))) (fun _ _ => rfl)))
      (pss_cons (ps_set (i := 3) sc_law_web.nd rfl (by first | exact Or.inl rfl | exact Or.inr rfl) (pe_lst pa_nil))
      (pss_cons (ps_for PassesOwn.never rfl (pi_range1 (by rfl) B.range_ (pa_cons (pv 1) pa_nil)) (pg_name (i := 4) sc_law_web.nd rfl (by first | exact Or.inl rfl | exact Or.inr rfl))
        (pss_one (ps_set (i := 3) sc_law_web.nd rfl (by first | exact Or.inl rfl | exact Or.inr rfl) (pe_op op_cat (pv 3) (pe_lc (own := [("_law_other", 5)]) rfl sc_law_web.nd (pi_range2 (by rfl) B.range_ (pa_cons (pe_op op_add (pv 4) pe_int) (pa_cons (pv 1) pa_nil))) (blkOk_by (N := ["_law_pen_here", "_law_many", "_law_often", "_law_ties", "_law_one", "_law_other"]) (sc := defScope s_law_web) (by decide +kernel)) (fun _ _ _ _ _ => (pg_name (i := 5) sc_law_web.nd rfl (by first | exact Or.inl rfl | exact Or.inr rfl))) (fun _ _ _ _ _ => (pts_one (pt_cmpR op_lt (pe_d D_law_draw (hr.mono (by decide)) rfl (pa_cons (pv 0) (pa_cons pe_int pa_nil))) (pv 2) (nomark _)))) (fun _ _ _ _ _ => (pe_tup (pa_cons (pv 4) (pa_cons (pv 5) pa_nil)))))))))
      (pss_one (ps_ret (pe_tup (pa_cons (pv 1) (pa_cons (pe_callTy call_tuple_of (by rfl) B.tuple_ (by decide +kernel) (pa_cons (pv 3) pa_nil)) pa_nil)))))))), ?_⟩
    -- often = [2, 4, 6][draw(pen, 3)]
    refine ⟨by show 3 ≤ sizeLine; decide, fun l nl => ?_⟩
    have nla : l ≠ a := hp.nn nl
    have e1 : Ex H (upd H l (.lst [.int 2, .int 4, .int 6])) := Ex.up nl
    refine ⟨.ref a, rfl, a, 3, rfl, hp.up e1, by decide, by decide, fun r H2 hr e2 hp2 => ?_⟩
    have hl2 : H2 l = some (.lst [.int 2, .int 4, .int 6]) := e2 _ _ nla upd_same
    have hat : ∃ o : Int, atI [V.int 2, .int 4, .int 6] (r : Int) = some (.int o) := by
      have : r = 0 ∨ r = 1 ∨ r = 2 := by omega
      rcases this with z | z | z <;> subst z
      · exact ⟨2, rfl⟩
      · exact ⟨4, rfl⟩
      · exact ⟨6, rfl⟩
    obtain ⟨oft, hat⟩ := hat
    refine ⟨l, _, (r : Int), .int oft, rfl, rfl, sqL hl2, hat, ?_⟩
    have b2 : ExB a H H2 := (Ex.b a e1).tr e2
    -- ties = []
    refine ⟨Nat.zero_le _, fun t0 nt0 => ?_⟩
    have e3 : Ex H2 (upd H2 t0 (.lst [])) := Ex.up nt0
    refine ⟨nV n, rfl, (n : Int), rfl, by omega, by omega, ?_⟩
    refine for_range0 (n := n) (fun i σ H' => ∃ (ta : Addr) (y4 : Option V) (vs : List V) (ts : List (Nat × Nat)), σ = [some (.ref a), some (nV n), some (.int oft), some (.ref ta), y4, none] ∧ ExB a H H' ∧ PenAt H' a ∧ ta ≠ a ∧ H' ta = some (.lst vs) ∧ All2 (fun v t => IsInts H' v [t.1, t.2]) vs ts ∧ ts.Sublist ((List.range i).flatMap (pairsFrom n)) ∧ ts.length ≤ i * 10) ⟨t0, none, [], [], rfl, b2.tr (Ex.b a e3), hp2.up e3, hp2.nn nt0, upd_same, trivial, List.Sublist.refl _, Nat.zero_le _⟩ (fun i σ H' hi p => ?_) (fun σ H' p => ?_)
    · obtain ⟨ta, y4, vs, ts, rfl, b4, hp4, nta, hta, hvs, hsub, hlen⟩ := p
      -- ties = ties + [..]
      refine ⟨.ref ta, rfl, nV i, rfl, (i : Int), 1, rfl, rfl, nV n, rfl, (i : Int) + 1, (n : Int), rfl, ⟨by omega, by omega, by omega, by omega⟩, fun D hD => ?_⟩
      have hnD : D ≠ a := hp4.nn hD
      have eD : Ex H' (upd H' D (.lst [])) := Ex.up hD
      have nDt : ta ≠ D := ne_of_none hta hD
      have hvl := hvs.len
      rw [show ((n : Int) - ((i : Int) + 1)).toNat = n - (i + 1) by omega]
      refine lc_range (lo := (i : Int) + 1) (n := n - (i + 1)) (fun j H5 => ExB a H H5 ∧ PenAt H5 a ∧ H5 ta = some (.lst vs) ∧ All2 (fun v t => IsInts H5 v [t.1, t.2]) vs ts ∧ ∃ acc us, H5 D = some (.lst acc) ∧ All2 (fun v t => IsInts H5 v [t.1, t.2]) acc us ∧ us.Sublist ((List.range' (i + 1) j).map fun o => (i, o))) ⟨b4.tr (Ex.b a eD), hp4.up eD, eD _ _ hta, hvs.imp fun v t z => IsInts.up eD z, [], [], upd_same, trivial, List.Sublist.refl _⟩ (fun j H5 hj p => ?_) (fun H5 p => ?_)
      · obtain ⟨b5, hp5, hta5, hvs5, acc, us, hD5, hacc, hus⟩ := p
        have eo : V.int ((i : Int) + 1 + (j : Int)) = nV (i + 1 + j) := rfl
        rw [eo]
        generalize ho : i + 1 + j = o
        have hr1 : (List.range' (i + 1) (j + 1)).map (fun o => (i, o)) = (List.range' (i + 1) j).map (fun o => (i, o)) ++ [(i, o)] := by
          rw [List.range'_1_concat, List.map_append, ho]
          rfl
        refine ⟨rfl, .ref a, rfl, a, 8, rfl, hp5, by decide, by decide, fun r2 H6 hr2 e6 hp6 => ⟨.int oft, rfl, (r2 : Int), oft, rfl, rfl, _, rfl, ?_⟩⟩
        have hD6 : H6 D = some (.lst acc) := e6 _ _ hnD hD5
        have hta6 : H6 ta = some (.lst vs) := e6 _ _ nta hta5
        have b6 := b5.tr e6
        cases decide ((r2 : Int) < oft) with
        | true =>
          refine iteT ⟨nV i, rfl, nV o, rfl, by show 2 ≤ sizeLine; decide, fun p hpn => ?_⟩
          have e7 : Ex H6 (upd H6 p (.tup [nV i, nV o])) := Ex.up hpn
          have hD7 := e7 _ _ hD6
          have b7 := b6.tr (Ex.b a e7)
          have hlacc : acc.length ≤ 1000 := by
            have h1 := hacc.len
            have h2 := hus.length_le
            rw [List.length_map, List.length_range'] at h2
            omega
          refine ⟨acc, hD7, smallT (by omega), fun b' o' hb' hb2 => ?_, (hp6.up e7).upL hnD, ?_, ?_, acc ++ [.ref p], us ++ [(i, o)], upd_same, ?_, ?_⟩
          · rw [upd_ne (ne_of_none (b4 _ _ hb' hb2) hD)]
            exact b7 _ _ hb' hb2
          · rw [upd_ne nDt]
            exact e7 _ _ hta6
          · exact tie_upL hD7 ((tie_upB hp5 e6 hvs5).imp fun v t z => IsInts.up e7 z)
          · refine All2.app (tie_upL hD7 ((tie_upB hp5 e6 hacc).imp fun v t z => IsInts.up e7 z)) ⟨?_, trivial⟩
            exact stb_ints.up _ _ _ _ _ _ hD7 ⟨p, rfl, upd_same⟩
          · rw [hr1]
            exact hus.append (List.Sublist.refl _)
        | false =>
          refine iteF ⟨b6, hp6, hta6, tie_upB hp5 e6 hvs5, acc, us, hD6, tie_upB hp5 e6 hacc, ?_⟩
          rw [hr1]
          exact hus.trans (List.sublist_append_left _ _)
      · obtain ⟨b5, hp5, hta5, hvs5, acc, us, hD5, hacc, hus⟩ := p
        have hal := hacc.len
        have hul := hus.length_le
        rw [List.length_map, List.length_range'] at hul
        refine ⟨ta, D, vs, acc, rfl, rfl, hta5, hD5, small (by omega), fun p hpn => ?_⟩
        have e6 : Ex H5 (upd H5 p (.lst (vs ++ acc))) := Ex.up hpn
        refine ⟨p, _, vs ++ acc, ts ++ us, rfl, b5.tr (Ex.b a e6), hp5.up e6, hp5.nn hpn, upd_same, All2.app (hvs5.imp fun v t z => IsInts.up e6 z) (hacc.imp fun v t z => IsInts.up e6 z), ?_, ?_⟩
        · rw [List.range_succ, List.flatMap_append]
          refine hsub.append ?_
          rw [List.flatMap_cons, List.flatMap_nil, List.append_nil]
          exact hus
        · rw [List.length_append]
          omega
    · obtain ⟨ta, y4, vs, ts, rfl, b4, hp4, nta, hta, hvs, hsub, hlen⟩ := p
      have hvl := hvs.len
      -- return (many, tuple(ties))
      refine ⟨nV n, rfl, .ref ta, rfl, ta, vs, rfl, .inl ⟨sqL hta, fun p hpn => ⟨by show 2 ≤ sizeLine; decide, fun p2 hpn2 => ?_⟩⟩⟩
      have e5 : Ex H' (upd H' p (.tup vs)) := Ex.up hpn
      have e6 : Ex (upd H' p (.tup vs)) (upd (upd H' p (.tup vs)) p2 (.tup [nV n, .ref p])) := Ex.up hpn2
      have e56 := Ex.tr e5 e6
      exact q (.ref p2) ts _ (b4.tr (Ex.b a e56)) (hp4.up e56) ⟨p2, .ref p, rfl, upd_same, p, vs, rfl, e6 _ _ upd_same, hvs.imp fun v t z => IsInts.up e56 z⟩ hsub
/-! ### _law_apart -/
abbrev s_law_apart : Stmt := topS 69
theorem sc_law_apart : FnScope ["_law_k", "_law_one", "_law_other", "_law_there"] ["_law_k", "_law_one", "_law_other"] (defScope s_law_apart) := ⟨rfl, rfl, rfl, by decide +kernel, rfl, by decide +kernel, by decide +kernel⟩
theorem ok_law_apart (T : Tx K mg "_law_apart" s_law_apart) (B : Bl mg)  : Dn P w K mg base "_law_apart" 1 ["_law_k", "_law_one", "_law_other"] sp_law_apart := by
  obtain ⟨f, fd, F, m⟩ := T.ex
  refine ⟨f, fd, m, F.kp, F.binds (fun _ _ _ _ _ _ us hl => match us, hl with | [_, _, _], _ => rfl), F.ok sc_law_apart (fun vs H Q E h => ?_) (fun cdv A outer s H vs Q E hr h => ?_)⟩
  · obtain ⟨k, a, b, rfl, ha, hb, q⟩ := h
    rfl
  · obtain ⟨k, a, b, rfl, ha, hb, q⟩ := h
    refine ⟨_, (pss_cons (ps_set (i := 3) sc_law_apart.nd rfl (by first | exact Or.inl rfl | exact Or.inr rfl) (pe_callB call_abs (by rfl) B.abs_ (by decide +kernel) (pa_cons (pe_op op_sub (pv 1) (pv 2)) pa_nil)))
      (pss_one (ps_ret (pe_callB (call_min2 rfl) (by rfl) B.min_ (by decide +kernel) (pa_cons (pv 3) (pa_cons (pe_op op_sub (pv 0) (pv 3)) pa_nil)))))), ?_⟩
    refine ⟨nV a, rfl, nV b, rfl, (a : Int), (b : Int), rfl, rfl, _, rfl, ?_⟩
    refine ⟨.int _, rfl, nV k, rfl, .int _, rfl, (k : Int), _, rfl, rfl, _, _, rfl, ?_⟩
    have e : (if ((k : Int) - (if (a : Int) - (b : Int) < 0 then -((a : Int) - (b : Int)) else (a : Int) - (b : Int))) < (if (a : Int) - (b : Int) < 0 then -((a : Int) - (b : Int)) else (a : Int) - (b : Int)) then ((k : Int) - (if (a : Int) - (b : Int) < 0 then -((a : Int) - (b : Int)) else (a : Int) - (b : Int))) else (if (a : Int) - (b : Int) < 0 then -((a : Int) - (b : Int)) else (a : Int) - (b : Int))) = ((lap k a b : Nat) : Int) := by
      unfold lap
      split <;> split <;> omega
    show Q (V.int (if ((k : Int) - (if (a : Int) - (b : Int) < 0 then -((a : Int) - (b : Int)) else (a : Int) - (b : Int))) < (if (a : Int) - (b : Int) < 0 then -((a : Int) - (b : Int)) else (a : Int) - (b : Int)) then ((k : Int) - (if (a : Int) - (b : Int) < 0 then -((a : Int) - (b : Int)) else (a : Int) - (b : Int))) else (if (a : Int) - (b : Int) < 0 then -((a : Int) - (b : Int)) else (a : Int) - (b : Int)))) H
    rw [e]
    exact q _ (ex0 _)
/-! ### _law_first -/
abbrev s_law_first : Stmt := topS 71
theorem sc_law_first : FnScope ["_law_web_here", "_law_ring", "_law_threes", "_law_one", "_law_other", "_law_both_near", "_law_loose", "_law_row", "_law_ties", "_law_near", "_law_place", "_law_tie"] ["_law_web_here", "_law_ring"] (defScope s_law_first) := ⟨rfl, rfl, rfl, by decide +kernel, rfl, by decide +kernel, by decide +kernel⟩
theorem ok_law_first (T : Tx K mg "_law_first" s_law_first) (B : Bl mg) (D_law_apart : Dn P w K mg base "_law_apart" 1 ["_law_k", "_law_one", "_law_other"] sp_law_apart) : Dn P w K mg base "_law_first" 2 ["_law_web_here", "_law_ring"] sp_law_first := by
  obtain ⟨f, fd, F, m⟩ := T.ex
  refine ⟨f, fd, m, F.kp, F.binds (fun _ _ _ _ _ _ us hl => match us, hl with | [_, _], _ => rfl), F.ok sc_law_first (fun vs H Q E h => ?_) (fun cdv A outer s H vs Q E hr h => ?_)⟩
  · obtain ⟨v, u, wb, k, d, r, rfl, Tw, hlf, q⟩ := h
    rfl
  · obtain ⟨v, u, wb, k, d, r, rfl, Tw, hlf, q⟩ := h
    refine ⟨_, (pss_cons (ps_if (PW.pt (pw_and (pt_cmpR (op_neDK K rfl hr.units) (pe_ix (ix_tupK K rfl) (pv 0) pe_int (fun _ _ => rfl)) (pe_tup pa_nil) (nomark _)) (pw_and1 (pt_cmpR op_lt (pe_ix (ix_tupK K rfl) (pv 1) pe_int (fun _ _ => rfl)) (pe_op op_mul pe_int (pe_ix (ix_tupK K rfl) (pv 1) pe_int (fun _ _ => rfl))) (nomark _)))))
        (pss_one (ps_ret pe_non))
        pss_nil)
      (pss_cons (ps_set (i := 2) sc_law_first.nd rfl (by first | exact Or.inl rfl | exact Or.inr rfl) (pe_lst pa_nil))
      (pss_cons (ps_for PassesOwn.never rfl (pi_tupK K rfl (pe_ix (ix_tupK K rfl) (pv 0) pe_int (fun _ _ => rfl))) (pg_tupK K rfl (n := 2) rfl (pgs_cons (pg_name (i := 3) sc_law_first.nd rfl (by first | exact Or.inl rfl | exact Or.inr rfl)) (pgs_cons (pg_name (i := 4) sc_law_first.nd rfl (by first | exact Or.inl rfl | exact Or.inr rfl)) pgs_nil)))
        (pss_cons (ps_setLc (i := 5) (own := [("_law_place", 10)]) rfl sc_law_first.nd rfl rfl (sw_true rfl rfl rfl (by decide +kernel)) (pi_range1 (by rfl) B.range_ (pa_cons (pe_ix (ix_tupK K rfl) (pv 0) pe_int (fun _ _ => rfl)) pa_nil)) (blkOk_by (N := ["_law_web_here", "_law_ring", "_law_threes", "_law_one", "_law_other", "_law_both_near", "_law_loose", "_law_row", "_law_ties", "_law_near", "_law_place", "_law_tie"]) (sc := defScope s_law_first) (by decide +kernel)) (fun _ _ _ _ _ => (pg_name (i := 10) sc_law_first.nd rfl (by first | exact Or.inl rfl | exact Or.inr rfl))) (fun _ _ _ _ _ => (pts_one (PW.pt (pw_and (pt_cmpR (op_inTK K rfl (units65 hr)) (pe_tup (pa_cons (pv 3) (pa_cons (pv 10) pa_nil))) (pe_ix (ix_tupK K rfl) (pv 0) pe_int (fun _ _ => rfl)) (by rfl)) (pw_and1 (pt_cmpR (op_inTK K rfl (units65 hr)) (pe_tup (pa_cons (pv 4) (pa_cons (pv 10) pa_nil))) (pe_ix (ix_tupK K rfl) (pv 0) pe_int (fun _ _ => rfl)) (by rfl))))))) (fun _ _ _ _ _ => (pv 10)))
        (pss_one (ps_set (i := 2) sc_law_first.nd rfl (by first | exact Or.inl rfl | exact Or.inr rfl) (pe_op op_cat (pv 2) (pv 5))))))
      (pss_cons (ps_if (PW.pt (pw_and (pt_cmpR (op_neDK K rfl hr.units) (pv 2) (pe_lst pa_nil) (nomark _)) (pw_and1 (pt_cmpR op_lt (pe_ix (ix_tupK K rfl) (pv 1) pe_int (fun _ _ => rfl)) (pe_op op_mul pe_int (pe_ix (ix_tupK K rfl) (pv 1) pe_int (fun _ _ => rfl))) (nomark _)))))
        (pss_one (ps_ret pe_non))
        pss_nil)
      (pss_cons (ps_setLc (i := 6) (own := [("_law_place", 10)]) rfl sc_law_first.nd rfl rfl (sw_true rfl rfl rfl (by decide +kernel)) (pi_range1 (by rfl) B.range_ (pa_cons (pe_ix (ix_tupK K rfl) (pv 0) pe_int (fun _ _ => rfl)) pa_nil)) (blkOk_by (N := ["_law_web_here", "_law_ring", "_law_threes", "_law_one", "_law_other", "_law_both_near", "_law_loose", "_law_row", "_law_ties", "_law_near", "_law_place", "_law_tie"]) (sc := defScope s_law_first) (by decide +kernel)) (fun _ _ _ _ _ => (pg_name (i := 10) sc_law_first.nd rfl (by first | exact Or.inl rfl | exact Or.inr rfl))) (fun _ _ _ _ _ => (pts_one (pt_cmpR (op_eqDK K rfl hr.units) (pe_lc (own := [("_law_tie", 11)]) rfl sc_law_first.nd (pi_tupK K rfl (pe_ix (ix_tupK K rfl) (pv 0) pe_int (fun _ _ => rfl))) (blkOk_by (N := ["_law_web_here", "_law_ring", "_law_threes", "_law_one", "_law_other", "_law_both_near", "_law_loose", "_law_row", "_law_ties", "_law_near", "_law_place", "_law_tie"]) (sc := relS (lcSc (asgV (bodyS s_law_first 4))) (defScope s_law_first)) (by decide +kernel)) (fun _ _ _ _ _ => (pg_name (i := 11) sc_law_first.nd rfl (by first | exact Or.inl rfl | exact Or.inr rfl))) (fun _ _ _ _ _ => (pts_one (pt_cmpR (op_in_seqK K rfl) (pv 10) (pv 11) (by rfl)))) (fun _ _ _ _ _ => (pv 11))) (pe_lst pa_nil) (nomark _)))) (fun _ _ _ _ _ => (pv 10)))
      (pss_cons (ps_set (i := 7) sc_law_first.nd rfl (by first | exact Or.inl rfl | exact Or.inr rfl) (pe_lst (pa_cons pe_int pa_nil)))
      (pss_cons (ps_while PassesOwn.never (pt_cmpR op_eq (pe_ix (ix_listK K rfl) (pv 7) pe_int (fun _ _ => rfl)) pe_int (nomark _))
        (pss_one (ps_if (PW.pt (pw_or (pt_cmpR op_eq (pe_ix (ix_listK K rfl) (pv 7) (pe_un un_neg pe_int) (fun _ _ => rfl)) (pe_ix (ix_tupK K rfl) (pv 1) pe_int (fun _ _ => rfl)) (nomark _)) (pw_or1 (PW.pt (pw_and (pt_cmpR op_gt (pe_ix (ix_listK K rfl) (pv 7) (pe_un un_neg pe_int) (fun _ _ => rfl)) pe_int (nomark _)) (pw_and1 (pt_cmpR (op_in_seqK K rfl) (pe_op op_sub (pe_callB (call_lenK K rfl) (by rfl) B.len_ (by decide +kernel) (pa_cons (pv 7) pa_nil)) pe_int) (pv 6) (by rfl))))))))
          (pss_cons (ps_expr (pe_bm0 PySem.F.plainAttrs_list PySem.F.slot_list_pop PySem.F.type_list_pop mt_pop (pv 7)))
          (pss_cons (ps_if (pt_cmpR (op_eqDK K rfl hr.units) (pv 7) (pe_lst pa_nil) (nomark _))
            (pss_one (ps_ret pe_non))
            pss_nil)
          (pss_one (ps_asg (pe_op op_add (pe_ix (ix_listK K rfl) (pv 7) (pe_un un_neg pe_int) (fun _ _ => rfl)) pe_int) (pg_sub (pv 7) (pe_un un_neg pe_int) set_list)))))
          (pss_cons (ps_setLc (i := 8) (own := [("_law_tie", 11)]) rfl sc_law_first.nd rfl rfl (sw_true rfl rfl rfl (by decide +kernel)) (pi_tupK K rfl (pe_ix (ix_tupK K rfl) (pv 0) pe_int (fun _ _ => rfl))) (blkOk_by (N := ["_law_web_here", "_law_ring", "_law_threes", "_law_one", "_law_other", "_law_both_near", "_law_loose", "_law_row", "_law_ties", "_law_near", "_law_place", "_law_tie"]) (sc := defScope s_law_first) (by decide +kernel)) (fun _ _ _ _ _ => (pg_name (i := 11) sc_law_first.nd rfl (by first | exact Or.inl rfl | exact Or.inr rfl))) (fun _ _ _ _ _ => (pts_one (pt_cmpR op_eq (pe_ix (ix_tupK K rfl) (pv 11) pe_int (fun _ _ => rfl)) (pe_op op_sub (pe_callB (call_lenK K rfl) (by rfl) B.len_ (by decide +kernel) (pa_cons (pv 7) pa_nil)) pe_int) (nomark _)))) (fun _ _ _ _ _ => (pv 11)))
          (pss_cons (ps_setLc (i := 9) (own := [("_law_tie", 11)]) rfl sc_law_first.nd rfl rfl (sw_true rfl rfl rfl (by decide +kernel)) (pi_listK K rfl (pv 8)) (blkOk_by (N := ["_law_web_here", "_law_ring", "_law_threes", "_law_one", "_law_other", "_law_both_near", "_law_loose", "_law_row", "_law_ties", "_law_near", "_law_place", "_law_tie"]) (sc := defScope s_law_first) (by decide +kernel)) (fun _ _ _ _ _ => (pg_name (i := 11) sc_law_first.nd rfl (by first | exact Or.inl rfl | exact Or.inr rfl))) (fun _ _ _ _ _ => (pts_one (pt_cmpR op_lt (pe_d D_law_apart (hr.mono (by decide)) rfl (pa_cons (pe_ix (ix_tupK K rfl) (pv 1) pe_int (fun _ _ => rfl)) (pa_cons (pe_ix (ix_listK K rfl) (pv 7) (pe_ix (ix_tupK K rfl) (pv 11) pe_int (fun _ _ => rfl)) (fun _ _ => rfl)) (pa_cons (pe_ix (ix_listK K rfl) (pv 7) (pe_un un_neg pe_int) (fun _ _ => rfl)) pa_nil)))) (pe_ix (ix_tupK K rfl) (pv 1) pe_int (fun _ _ => rfl)) (nomark _)))) (fun _ _ _ _ _ => (pv 11)))
          (pss_one (ps_if (pt_cmpR (op_neDK K rfl hr.units) (pv 9) (pe_lst pa_nil) (nomark _))
            (pss_one (ps_asg (pe_op op_add (pe_ix (ix_listK K rfl) (pv 7) (pe_un un_neg pe_int) (fun _ _ => rfl)) pe_int) (pg_sub (pv 7) (pe_un un_neg pe_int) set_list)))
            (pss_one (ps_if (pt_cmpR op_eq (pe_callB (call_lenK K rfl) (by rfl) B.len_ (by decide +kernel) (pa_cons (pv 7) pa_nil)) (pe_ix (ix_tupK K rfl) (pv 0) pe_int (fun _ _ => rfl)) (nomark _))
              (pss_one (ps_ret (pe_callTy call_tuple_of (by rfl) B.tuple_ (by decide +kernel) (pa_cons (pv 7) pa_nil))))
              (pss_one (ps_expr (pe_bm PySem.F.plainAttrs_list PySem.F.slot_list_append PySem.F.type_list_append mt_append (pv 7) (pa_cons pe_int pa_nil)))))))))))))
      (pss_one (ps_ret pe_non))))))))), ?_⟩
    have hn := Tw.W.hi
    have hn0 := Tw.W.lo
    have hd1 := Tw.R.one
    have hdk := Tw.R.le
    have hk24 := Tw.R.most
    obtain ⟨wa, wt, rfl, hwa, hwt⟩ := id Tw.web
    obtain ⟨wta, us, rfl, hwta, hus⟩ := id hwt
    obtain ⟨za, rfl, hza⟩ := id Tw.ring
    have htup : ∀ H', Ex H H' → IsTies H' (.ref wta) wb.ts := fun H' e => hwt.up e
    have hlts : wb.ts.length ≤ 1000 := ties_few Tw.W
    unfold lawFirst at hlf
    -- the first test
    refine Evl.q_when (b := !wb.ts.isEmpty && Nat.blt k (2 * d)) (Evl.et_and (Evl.et_test fun H1 e Q q => ?tA) fun _ => Evl.et_test fun H1 e Q q => ?tB) (fun hb H1 e => ?ret) (fun hb H1 e1 => ?go)
    case tA =>
      refine ⟨.ref wa, rfl, wa, _, 1, .ref wta, rfl, rfl, sqT (e _ _ hwa), at1, Nat.zero_le _, fun p hp => ?_⟩
      exact rd_tne (htup _ (Ex.tr e (Ex.up hp))) upd_same (q _ (Ex.up hp))
    case tB =>
      refine ⟨.ref za, rfl, za, _, 0, nV k, rfl, rfl, sqT (e _ _ hza), at0, .ref za, rfl, za, _, 1, nV d, rfl, rfl, sqT (e _ _ hza), at1, 2, (d : Int), rfl, rfl, .inl ⟨by omega, by omega⟩, (k : Int), _, rfl, rfl, ?_⟩
      have := dec_lt2 k 2 d
      show Q (.bl (decide ((k : Int) < ((2 : Nat) : Int) * (d : Int)))) H1
      rw [this]
      exact q _ (ex0 _)
    case ret =>
      rw [if_pos hb] at hlf
      have : r = none := (Option.some.inj hlf).symm
      subst this
      exact q _ e
    rw [if_neg (by rw [hb]; decide)] at hlf
    -- threes
    refine ⟨Nat.zero_le _, fun th0 hth0 => ?_⟩
    have e2 : Ex H1 (upd H1 th0 (.lst [])) := Ex.up hth0
    have e12 := Ex.tr e1 e2
    refine ⟨.ref wa, rfl, wa, _, 1, .ref wta, rfl, rfl, sqT (e12 _ _ hwa), at1, wta, rfl, ⟨us, sqT (e12 _ _ hwta)⟩, ?_⟩
    refine for_tup (xs := us) (fun i σ H' => ∃ (tv : V) (y3 y4 y5 : Option V), σ = [some (.ref wa), some (.ref za), some tv, y3, y4, y5, none, none, none, none, none, none] ∧ Ex H H' ∧ IsIntL H' tv ((wb.ts.take i).flatMap fun t => (List.range wb.n).filter fun p => has wb.ts t.1 p && has wb.ts t.2 p)) ⟨.ref th0, none, none, none, rfl, e12, th0, rfl, upd_same⟩ (fun i σ H' _ p => ?_) (fun i z σ H' hi p => ?_) (fun σ H' p => ?_)
    · obtain ⟨tv, y3, y4, y5, rfl, e, _⟩ := p
      exact sqT (e _ _ hwta)
    · obtain ⟨tv, y3, y4, y5, rfl, e, ta, rfl, hta⟩ := p
      obtain ⟨t, ht, f, rfl, hf⟩ := hus.get' hi
      refine ⟨f, _, rfl, sqT (e _ _ hf), rfl, nV t.1, [nV t.2], rfl, nV t.2, [], rfl, rfl, ?_⟩
      refine ⟨.ref wa, rfl, wa, _, 0, nV wb.n, rfl, rfl, sqT (e _ _ hwa), at0, (wb.n : Int), rfl, by omega, by omega, fun D hD => lc_range0 (n := wb.n) (stb_val nV) (fun j => ((List.range wb.n).take j).filter fun p => has wb.ts t.1 p && has wb.ts t.2 p) hD rfl (fun j hj => ?_) (fun j H2 QY QN hj e2 hY hN => ?_) (fun H2 acc e2 hD2 hacc => ?_)⟩
      · exact Nat.le_trans fil_len (by rw [List.length_range]; omega)
      · have inT : ∀ (x : Nat) (p : Addr) (H3 : Hp), Ex H2 H3 → H3 p = some (.tup [nV x, nV j]) → ∀ Q : VK, Q (.bl (has wb.ts x j)) H3 → rInT K (.ref p) (.ref wta) H3 Q := fun x p H3 e3 hp Q hQ => by
          refine ⟨dT [x, j], _, IsInts.dp ⟨p, rfl, hp⟩, (htup H3 (Ex.tr e (Ex.tr e2 e3))).dp, dT_shaped _, ties_sh _, ?_⟩
          rw [any_has]
          exact hQ
        refine ⟨rfl, nV t.1, rfl, nV j, rfl, by show 2 ≤ sizeLine; decide, fun p hp => ?_⟩
        have e3 : Ex H2 (upd H2 p (.tup [nV t.1, nV j])) := Ex.up hp
        refine ⟨.ref wa, rfl, wa, _, 1, .ref wta, rfl, rfl, sqT (e3 _ _ (e2 _ _ (e _ _ hwa))), at1, inT t.1 p _ e3 upd_same _ ⟨_, rfl, ?_⟩⟩
        cases h1 : has wb.ts t.1 j with
        | false => exact iteF (hN _ e3 (fil_no (range_get hj) (by rw [h1]; rfl)))
        | true =>
          refine iteT ⟨nV t.2, rfl, nV j, rfl, by show 2 ≤ sizeLine; decide, fun p2 hp2 => ?_⟩
          have e4 := Ex.tr e3 (Ex.up (o := .tup [nV t.2, nV j]) hp2)
          refine ⟨.ref wa, rfl, wa, _, 1, .ref wta, rfl, rfl, sqT (e4 _ _ (e2 _ _ (e _ _ hwa))), at1, inT t.2 p2 _ e4 upd_same _ ⟨_, rfl, ?_⟩⟩
          cases h2 : has wb.ts t.2 j with
          | false => exact iteF (hN _ e4 (fil_no (range_get hj) (by rw [h1, h2]; rfl)))
          | true => exact iteT ⟨nV j, rfl, hY _ _ j e4 rfl (fil_yes (range_get hj) (by rw [h1, h2]; rfl))⟩
      · rw [take_all (by rw [List.length_range])] at hacc
        have hil : i < us.length := (List.getElem?_eq_some_iff.mp hi).1
        refine ⟨.ref ta, rfl, .ref D, rfl, ta, D, _, acc, rfl, rfl, e2 _ _ hta, hD2, ?_, fun p hp => ?_⟩
        · have h1 := flat_len (f := fun t : Nat × Nat => (List.range wb.n).filter fun p => has wb.ts t.1 p && has wb.ts t.2 p) (m := wb.n) (wb.ts.take i) fun t => by
            have := List.length_filter_le (fun p => has wb.ts t.1 p && has wb.ts t.2 p) (List.range wb.n)
            rwa [List.length_range] at this
          have h2 : (wb.ts.take i).length ≤ 1000 := by
            rw [List.length_take]
            omega
          have h3 : (wb.ts.take i).length * wb.n ≤ 1000 * 5 := Nat.mul_le_mul h2 hn
          have h4 := hacc.len
          have h5 := List.length_filter_le (fun p => has wb.ts t.1 p && has wb.ts t.2 p) (List.range wb.n)
          rw [List.length_range] at h5
          rw [List.length_map]
          exact small (by omega)
        · refine ⟨.ref p, _, _, _, rfl, Ex.tr e (Ex.tr e2 (Ex.up hp)), p, rfl, ?_⟩
          rw [upd_same, hacc.map_eq, List.take_add_one, ht, List.flatMap_append, List.map_append]
          simp
    obtain ⟨tv, y3, y4, y5, rfl, e3, ta, rfl, hta⟩ := p
    rw [take_all hus.len] at hta
    have hta : H' ta = some (.lst ((threes wb).map nV)) := hta
    -- the second test
    dsimp only
    refine Evl.q_when (b := !(threes wb).isEmpty && Nat.blt k (3 * d)) (Evl.et_and (Evl.et_test fun H1 e Q q => ?tA2) fun _ => Evl.et_test fun H1 e Q q => ?tB2) (fun hb2 H1 e => ?ret2) (fun hb2 H4 e4 => ?go2)
    case tA2 =>
      refine ⟨.ref ta, rfl, Nat.zero_le _, fun p hp => ?_⟩
      exact rd_ine ((Ex.up hp) _ _ (e _ _ hta)) upd_same (q _ (Ex.up hp))
    case tB2 =>
      refine ⟨.ref za, rfl, za, _, 0, nV k, rfl, rfl, sqT (e _ _ (e3 _ _ hza)), at0, .ref za, rfl, za, _, 1, nV d, rfl, rfl, sqT (e _ _ (e3 _ _ hza)), at1, 3, (d : Int), rfl, rfl, .inl ⟨by omega, by omega⟩, (k : Int), _, rfl, rfl, ?_⟩
      have := dec_lt2 k 3 d
      show Q (.bl (decide ((k : Int) < ((3 : Nat) : Int) * (d : Int)))) H1
      rw [this]
      exact q _ (ex0 _)
    case ret2 =>
      rw [if_pos hb2] at hlf
      have : r = none := (Option.some.inj hlf).symm
      subst this
      exact q _ (Ex.tr e3 e)
    rw [if_neg (by rw [hb2]; decide)] at hlf
    have e14 := Ex.tr e3 e4
    -- loose
    refine ⟨.ref wa, rfl, wa, _, 0, nV wb.n, rfl, rfl, sqT (e14 _ _ hwa), at0, (wb.n : Int), rfl, by omega, by omega, fun lo hlo => lc_range0 (n := wb.n) (stb_val nV) (fun j => ((List.range wb.n).take j).filter fun p => (wb.ts.filter fun t => t.1 == p || t.2 == p).isEmpty) hlo rfl (fun j hj => ?_) (fun j H5 QY QN hj e5 hY hN => ?_) (fun H5 acc e5 hlo5 hacc => ?_)⟩
    · exact Nat.le_trans fil_len (by rw [List.length_range]; omega)
    · have e15 := Ex.tr e14 e5
      refine ⟨rfl, .ref wa, rfl, wa, _, 1, .ref wta, rfl, rfl, sqT (e15 _ _ hwa), at1, wta, rfl, ⟨us, sqT (e15 _ _ hwta)⟩, fun D hD => lc_tupD (xs := us) stb_tie (fun i => (wb.ts.take i).filter fun t => t.1 == j || t.2 == j) (e15 _ _ hwta) hD rfl (fun i _ => ?_) (fun i z H6 QY' QN' hi e6 hY' hN' => ?_) (fun H6 acc e6 hD6 hacc => ?_)⟩
      · exact Nat.le_trans fil_len (by omega)
      · obtain ⟨t, ht, f, rfl, hf⟩ := hus.get' hi
        have hf6 := e6 _ _ (e15 _ _ hf)
        refine ⟨rfl, nV j, rfl, .ref f, rfl, f, _, rfl, .inr (sqT hf6), rfl, flat_nat [t.1, t.2], _, rfl, ?_⟩
        show if inV (nV j) ([t.1, t.2].map nV) = true then _ else _
        rw [inV_tie]
        cases hti : (t.1 == j || t.2 == j) with
        | true => exact iteT ⟨.ref f, rfl, hY' _ _ t (ex0 _) ⟨f, rfl, hf6⟩ (fil_yes ht hti)⟩
        | false => exact iteF (hN' _ (ex0 _) (fil_no ht hti))
      · rw [take_all hus.len] at hacc
        refine ⟨Nat.zero_le _, fun l hl => ?_⟩
        have e7 : Ex H6 (upd H6 l (.lst [])) := Ex.up hl
        refine rd_leq (e7 _ _ hD6) (hacc.imp fun v t z => IsInts.up e7 z) upd_same ⟨_, rfl, ?_⟩
        have e67 := Ex.tr e6 e7
        cases hem : (wb.ts.filter fun t => t.1 == j || t.2 == j).isEmpty with
        | true => exact iteT ⟨nV j, rfl, hY _ _ j e67 rfl (fil_yes (range_get hj) hem)⟩
        | false => exact iteF (hN _ e67 (fil_no (range_get hj) hem))
    rw [take_all (by rw [List.length_range])] at hacc
    have hloose : H5 lo = some (.lst ((loose wb).map nV)) := by rw [hlo5, hacc.map_eq]; rfl
    have e15 := Ex.tr e14 e5
    -- row = [0]
    refine ⟨by show 1 ≤ sizeLine; decide, fun ro nro => ?_⟩
    have e6 : Ex H5 (upd H5 ro (.lst [.int 0])) := Ex.up nro
    refine ⟨fun m σ H' => ∃ (row : List Nat) (y8 y9 : Option V), σ = [some (.ref wa), some (.ref za), some (.ref ta), y3, y4, y5, some (.ref lo), some (.ref ro), y8, y9, none, none] ∧ Ex H5 H' ∧ H' ro = some (.lst (row.map nV)) ∧ run (lfStep wb k d) m row = some r ∧ row ≠ [] ∧ (∀ y ∈ row.dropLast, y < k) ∧ row.getLastD 0 ≤ k ∧ row.length ≤ wb.n, ⟨fuel, [0], _, _, rfl, e6, upd_same, hlf, by simp, by simp, Nat.zero_le _, by show 1 ≤ _; omega⟩, ?_⟩
    rintro m σ H7 ⟨row, y8, y9, rfl, e7, hro, hrun, hne, hrow, hlast, hrl⟩
    obtain ⟨m', rfl, hstep⟩ := run_go hrun
    have e17 := Ex.tr e15 e7
    have hlm : (row.map nV).length = row.length := List.length_map ..
    have hl1 : 1 ≤ row.length := by
      cases row with
      | nil => exact absurd rfl hne
      | cons a b => simp
    have hall : ∀ i, i < row.length → hg row i ≤ k := fun i hi => by
      obtain ⟨rr, x, rfl⟩ : ∃ rr x, row = rr ++ [x] := ⟨row.dropLast, row.getLast hne, (List.dropLast_concat_getLast hne).symm⟩
      rw [last_app] at hlast
      rw [List.dropLast_concat] at hrow
      rw [List.length_append] at hi
      rw [hg_app]
      split
      · rename_i h1
        exact Nat.le_of_lt (hrow _ (by rw [hg_at h1]; exact List.getElem_mem _))
      · split
        · exact hlast
        · exact Nat.zero_le _
    refine ⟨.ref ro, rfl, ro, _, 0, nV (row.headD 0), rfl, rfl, sqL hro, at_headD hne, rfl, _, rfl, ?_⟩
    have eh : decide (nV (row.headD 0) = V.int 0) = (row.headD 0 == 0) := by
      rw [Bool.eq_iff_iff, decide_eq_true_iff, beq_iff_eq]
      constructor
      · intro z
        have := V.int.inj z
        omega
      · intro z
        rw [z]
        rfl
    rw [eh]
    cases hh0 : (row.headD 0 == 0) with
    | false =>
      have hs : lfStep wb k d row = .done none := by
        unfold lfStep
        rw [if_neg (by rw [hh0]; decide)]
      rw [hs] at hstep
      rcases hstep with ⟨_, z, _⟩ | z
      · cases z
      · cases z
        exact iteF (q _ e17)
    | true =>
      refine iteT ⟨fun σ H' => ∃ (row : List Nat) (y8 y9 : Option V), σ = [some (.ref wa), some (.ref za), some (.ref ta), y3, y4, y5, some (.ref lo), some (.ref ro), y8, y9, none, none] ∧ Ex H5 H' ∧ H' ro = some (.lst (row.map nV)) ∧ run (lfStep wb k d) m' row = some r ∧ row ≠ [] ∧ (∀ y ∈ row.dropLast, y < k) ∧ row.getLastD 0 ≤ k ∧ row.length ≤ wb.n, fun σ' H' hN => ⟨m', Nat.lt_succ_self _, hN⟩, ?_⟩
      have h2i : ∀ x y : Nat, decide (nV x = nV y) = (x == y) := fun x y => by
        rw [Bool.eq_iff_iff, decide_eq_true_iff, beq_iff_eq]
        constructor
        · intro z
          have := V.int.inj z
          omega
        · intro z
          rw [z]
      refine Evl.s_if (b := row.getLastD 0 == k || (Nat.blt 0 (row.getLastD 0) && (loose wb).contains (row.length - 1))) (Evl.et_or (Evl.et_test fun H8 e Q q => ?tA3) fun _ => Evl.et_and (Evl.et_test fun H8 e Q q => ?tB3) fun _ => Evl.et_test fun H8 e Q q => ?tC3) (fun hb8 H8 e8 => ?pop) (fun hb8 H8 e8 => ?near)
      case tA3 =>
        refine ⟨.ref ro, rfl, 1, rfl, ro, _, -1, nV (row.getLastD 0), rfl, rfl, sqL (e _ _ hro), at_lastD hne, .ref za, rfl, za, _, 0, nV k, rfl, rfl, sqT (e _ _ (e17 _ _ hza)), at0, rfl, ?_⟩
        rw [h2i]
        exact q _ (ex0 _)
      case tB3 =>
        refine ⟨.ref ro, rfl, 1, rfl, ro, _, -1, nV (row.getLastD 0), rfl, rfl, sqL (e _ _ hro), at_lastD hne, (row.getLastD 0 : Int), 0, rfl, rfl, ?_⟩
        have := dec_lt 0 (row.getLastD 0)
        show Q (.bl (decide (((0 : Nat) : Int) < (row.getLastD 0 : Int)))) H8
        rw [this]
        exact q _ (ex0 _)
      case tC3 =>
        refine ⟨.ref ro, rfl, ro, _, rfl, .inl (sqL (e _ _ hro)), ((row.map nV).length : Int), 1, rfl, rfl, .ref lo, rfl, lo, _, rfl, .inl (sqL (e _ _ (e7 _ _ hloose))), rfl, flat_nat _, ?_⟩
        have ei : V.int (((row.map nV).length : Int) - 1) = nV (row.length - 1) := by
          rw [hlm]
          show V.int _ = V.int (((row.length - 1 : Nat)) : Int)
          congr 1
          omega
        show Q (.bl (inV (V.int (((row.map nV).length : Int) - 1)) ((loose wb).map nV))) H8
        rw [ei, inV_nat]
        exact q _ (ex0 _)
      case pop =>
        have hro8 := e8 _ _ hro
        have edl : (row.map nV).dropLast = row.dropLast.map nV := by rw [List.map_dropLast]
        refine ⟨.ref ro, rfl, .inl ⟨rfl, _, .inl (.inl hro8)⟩, ro, _, _, rfl, rfl, hro8, last_get hne, ?_⟩
        rw [edl]
        have e59 : Ex H5 (upd H8 ro (.lst (row.dropLast.map nV))) := fun b' o' hb' => by
          rw [upd_ne (ne_of_none hb' nro)]
          exact e8 _ _ (e7 _ _ hb')
        refine ⟨.ref ro, rfl, Nat.zero_le _, fun l hl => ?_⟩
        have e10 : Ex (upd H8 ro (.lst (row.dropLast.map nV))) (upd (upd H8 ro (.lst (row.dropLast.map nV))) l (.lst [])) := Ex.up hl
        refine rd_ieq (e10 _ _ upd_same) upd_same ⟨_, rfl, ?_⟩
        cases hem : row.dropLast.isEmpty with
        | true =>
          have hs : lfStep wb k d row = .done none := by
            unfold lfStep
            rw [if_pos hh0, if_pos hb8, if_pos hem]
          rw [hs] at hstep
          rcases hstep with ⟨_, z, _⟩ | z
          · cases z
          · cases z
            exact iteT (q _ (Ex.tr e15 (Ex.tr e59 e10)))
        | false =>
          have hs : lfStep wb k d row = .go (row.dropLast.dropLast ++ [row.dropLast.getLastD 0 + 1]) := by
            unfold lfStep
            rw [if_pos hh0, if_pos hb8, if_neg (by rw [hem]; decide)]
          rw [hs] at hstep
          have hne2 : row.dropLast ≠ [] := fun z => by rw [z] at hem; simp at hem
          rcases hstep with ⟨_, z, hrun'⟩ | z
          · cases z
            have hro10 : (upd (upd H8 ro (.lst (row.dropLast.map nV))) l (.lst [])) ro = some (.lst (row.dropLast.map nV)) := e10 _ _ upd_same
            have hx : row.dropLast.getLastD 0 < k := hrow _ (last_mem hne2)
            refine iteF ⟨.ref ro, rfl, 1, rfl, ro, _, -1, nV (row.dropLast.getLastD 0), rfl, rfl, sqL hro10, at_lastD hne2, (row.dropLast.getLastD 0 : Int), 1, rfl, rfl, .ref ro, rfl, 1, rfl, ro, _, -1, (row.dropLast.map nV).length - 1, rfl, rfl, hro10, ixN_last ?_, ?_⟩
            · rw [List.length_map]
              exact List.length_pos_iff.mpr hne2
            have es : (row.dropLast.map nV).set ((row.dropLast.map nV).length - 1) (V.int ((row.dropLast.getLastD 0 : Int) + 1)) = (row.dropLast.dropLast ++ [row.dropLast.getLastD 0 + 1]).map nV := set_last (y := row.dropLast.getLastD 0 + 1) hne2
            refine ⟨row.dropLast.dropLast ++ [row.dropLast.getLastD 0 + 1], _, _, rfl, fun b' o' hb' => ?_, ?_, hrun', by simp, ?_, ?_, ?_⟩
            · rw [upd_ne (ne_of_none hb' nro)]
              exact e10 _ _ (e59 _ _ hb')
            · rw [upd_same]
              exact congrArg (fun l => some (HO.lst l)) es
            · rw [List.dropLast_concat]
              exact fun y hy => hrow y (List.dropLast_subset _ hy)
            · rw [last_app]
              exact hx
            · rw [List.length_append, List.length_dropLast, List.length_dropLast]
              show _ + 1 ≤ _
              have := List.length_pos_iff.mpr hne2
              rw [List.length_dropLast] at this
              omega
          · cases z
      case near =>
        rw [Bool.or_eq_false_iff] at hb8
        have hlk : row.getLastD 0 < k := by
          have : row.getLastD 0 ≠ k := by simpa using hb8.1
          omega
        have hb8' : (row.getLastD 0 == k || (Nat.blt 0 (row.getLastD 0) && (loose wb).contains (row.length - 1))) = false := by rw [hb8.1, hb8.2]; rfl
        have e18 := Ex.tr e17 e8
        have hro8 := e8 _ _ hro
        -- ties
        refine ⟨.ref wa, rfl, wa, _, 1, .ref wta, rfl, rfl, sqT (e18 _ _ hwa), at1, wta, rfl, ⟨us, sqT (e18 _ _ hwta)⟩, fun D hD => lc_tupD (xs := us) stb_tie (fun i => (wb.ts.take i).filter fun t => t.2 == row.length - 1) (e18 _ _ hwta) hD rfl (fun i _ => ?_) (fun i z H9 QY QN hi e9 hY hN => ?_) (fun H9 acc e9 hD9 hacc => ?_)⟩
        · exact Nat.le_trans fil_len (by omega)
        · obtain ⟨t, ht, f, rfl, hf⟩ := hus.get' hi
          have hf9 := e9 _ _ (e18 _ _ hf)
          refine ⟨rfl, .ref f, rfl, f, _, 1, nV t.2, rfl, rfl, sqT hf9, at1, .ref ro, rfl, ro, _, rfl, .inl (sqL (e9 _ _ hro8)), ((row.map nV).length : Int), 1, rfl, rfl, rfl, _, rfl, ?_⟩
          have ei : V.int (((row.map nV).length : Int) - 1) = nV (row.length - 1) := by
            rw [hlm]
            show V.int _ = V.int (((row.length - 1 : Nat)) : Int)
            congr 1
            omega
          show if decide (nV t.2 = V.int (((row.map nV).length : Int) - 1)) = true then _ else _
          rw [ei, h2i]
          cases hti : (t.2 == row.length - 1) with
          | true => exact iteT ⟨.ref f, rfl, hY _ _ t (ex0 _) ⟨f, rfl, hf9⟩ (fil_yes ht hti)⟩
          | false => exact iteF (hN _ (ex0 _) (fil_no ht hti))
        rw [take_all hus.len] at hacc
        have e19 := Ex.tr e18 e9
        have hro9 := e9 _ _ hro8
        have hfl : (wb.ts.filter fun t => t.2 == row.length - 1).length ≤ 1000 := Nat.le_trans (List.length_filter_le _ _) hlts
        -- near
        refine ⟨.ref D, rfl, D, rfl, ⟨_, sqL hD9⟩, fun D2 hD2 => lc_listD (xs := acc) stb_tie (fun i => ((wb.ts.filter fun t => t.2 == row.length - 1).take i).filter fun t => Nat.blt (lap k (hg row t.1) (row.getLastD 0)) d) hD9 hD2 rfl (fun i _ => ?_) (fun i z H10 QY QN hi e10 hY hN => ?_) (fun H10 acc2 e10 hD10 hacc2 => ?_)⟩
        · exact Nat.le_trans fil_len (by omega)
        · obtain ⟨t, ht, f, rfl, hf⟩ := hacc.get' hi
          have hm := List.mem_filter.mp (List.mem_of_getElem? ht)
          have tt := Tw.W.T.ties t hm.1
          have t2 : t.2 = row.length - 1 := by simpa using hm.2
          have hf10 := e10 _ _ hf
          have hro10 := e10 _ _ hro9
          refine ⟨rfl, .ref za, rfl, za, _, 0, nV k, rfl, rfl, sqT (e10 _ _ (e19 _ _ hza)), at0, .ref ro, rfl, .ref f, rfl, f, _, 0, nV t.1, rfl, rfl, sqT hf10, at0, ro, _, (t.1 : Int), _, rfl, rfl, sqL hro10, at_hg (by omega), .ref ro, rfl, 1, rfl, ro, _, -1, nV (row.getLastD 0), rfl, rfl, sqL hro10, at_lastD hne, k, hg row t.1, row.getLastD 0, rfl, hall _ (by omega), by omega, fun H11 e11 => ?_⟩
          refine ⟨.ref za, rfl, za, _, 1, nV d, rfl, rfl, sqT (e11 _ _ (e10 _ _ (e19 _ _ hza))), at1, (lap k (hg row t.1) (row.getLastD 0) : Int), (d : Int), rfl, rfl, _, rfl, ?_⟩
          rw [dec_lt]
          cases hbl : Nat.blt (lap k (hg row t.1) (row.getLastD 0)) d with
          | true => exact iteT ⟨.ref f, rfl, hY _ _ t e11 ⟨f, rfl, e11 _ _ hf10⟩ (fil_yes ht hbl)⟩
          | false => exact iteF (hN _ e11 (fil_no ht hbl))
        rw [take_all hacc.len] at hacc2
        have hro10 := e10 _ _ hro9
        -- if near != []
        refine ⟨.ref D2, rfl, Nat.zero_le _, fun l hl => ?_⟩
        have e11 : Ex H10 (upd H10 l (.lst [])) := Ex.up hl
        refine rd_lne (e11 _ _ hD10) (hacc2.imp fun v t z => IsInts.up e11 z) upd_same ⟨_, rfl, ?_⟩
        have hro11 := e11 _ _ hro10
        have e511 : Ex H5 (upd H10 l (.lst [])) := Ex.tr e7 (Ex.tr e8 (Ex.tr e9 (Ex.tr e10 e11)))
        cases hem : ((wb.ts.filter fun t => t.2 == row.length - 1).filter fun t => Nat.blt (lap k (hg row t.1) (row.getLastD 0)) d).isEmpty with
        | false =>
          have hs : lfStep wb k d row = .go (row.dropLast ++ [row.getLastD 0 + 1]) := by
            unfold lfStep
            rw [if_pos hh0, if_neg (by rw [hb8']; decide), if_neg (by rw [hem]; decide)]
          rw [hs] at hstep
          rcases hstep with ⟨_, z, hrun'⟩ | z
          · cases z
            refine iteT ⟨.ref ro, rfl, 1, rfl, ro, _, -1, nV (row.getLastD 0), rfl, rfl, sqL hro11, at_lastD hne, (row.getLastD 0 : Int), 1, rfl, rfl, .ref ro, rfl, 1, rfl, ro, _, -1, (row.map nV).length - 1, rfl, rfl, hro11, ixN_last (by rw [hlm]; exact hl1), ?_⟩
            have es : (row.map nV).set ((row.map nV).length - 1) (V.int ((row.getLastD 0 : Int) + 1)) = (row.dropLast ++ [row.getLastD 0 + 1]).map nV := set_last (y := row.getLastD 0 + 1) hne
            refine ⟨row.dropLast ++ [row.getLastD 0 + 1], _, _, rfl, fun b' o' hb' => ?_, ?_, hrun', by simp, ?_, ?_, ?_⟩
            · rw [upd_ne (ne_of_none hb' nro)]
              exact e511 _ _ hb'
            · rw [upd_same]
              exact congrArg (fun l => some (HO.lst l)) es
            · rw [List.dropLast_concat]
              exact hrow
            · rw [last_app]
              exact hlk
            · rw [List.length_append, List.length_dropLast]
              show _ + 1 ≤ _
              omega
          · cases z
        | true =>
          have e111 := Ex.tr e15 e511
          refine iteF ⟨.ref ro, rfl, ro, _, rfl, .inl (sqL hro11), .ref wa, rfl, wa, _, 0, nV wb.n, rfl, rfl, sqT (e111 _ _ hwa), at0, rfl, _, rfl, ?_⟩
          show if decide (V.int (((row.map nV).length : Nat) : Int) = nV wb.n) = true then _ else _
          rw [hlm, h2i]
          cases hln : (row.length == wb.n) with
          | true =>
            have hs : lfStep wb k d row = .done (some row) := by
              unfold lfStep
              rw [if_pos hh0, if_neg (by rw [hb8']; decide), if_pos hem, if_pos hln]
            rw [hs] at hstep
            rcases hstep with ⟨_, z, _⟩ | z
            · cases z
            · cases z
              refine iteT ⟨.ref ro, rfl, ro, _, rfl, .inl ⟨sqL hro11, fun l2 hl2 => ?_⟩⟩
              exact q _ _ (Ex.tr e111 (Ex.up hl2)) ⟨l2, rfl, upd_same⟩
          | false =>
            have hs : lfStep wb k d row = .go (row ++ [0]) := by
              unfold lfStep
              rw [if_pos hh0, if_neg (by rw [hb8']; decide), if_pos hem, if_neg (by rw [hln]; decide)]
            rw [hs] at hstep
            rcases hstep with ⟨_, z, hrun'⟩ | z
            · cases z
              have hlt : row.length < wb.n := by
                have : row.length ≠ wb.n := by simpa using hln
                omega
              refine iteF ⟨.ref ro, rfl, .inl ⟨rfl, _, .inl (.inl hro11)⟩, ro, _, .int 0, rfl, rfl, hro11, smallT (by rw [hlm]; omega), ?_⟩
              refine ⟨row ++ [0], _, _, rfl, fun b' o' hb' => ?_, ?_, hrun', by simp, ?_, ?_, ?_⟩
              · rw [upd_ne (ne_of_none hb' nro)]
                exact e511 _ _ hb'
              · rw [upd_same, List.map_append]
                rfl
              · rw [List.dropLast_concat]
                obtain ⟨rr, x, rfl⟩ : ∃ rr x, row = rr ++ [x] := ⟨row.dropLast, row.getLast hne, (List.dropLast_concat_getLast hne).symm⟩
                rw [last_app] at hlk
                rw [List.dropLast_concat] at hrow
                intro y hy
                rcases List.mem_append.mp hy with hy | hy
                · exact hrow y hy
                · rw [List.mem_singleton] at hy
                  rw [hy]
                  exact hlk
              · rw [last_app]
                exact Nat.zero_le _
              · rw [List.length_append]
                show _ + 1 ≤ _
                omega
            · cases z
/-! ### _law_tight -/
abbrev s_law_tight : Stmt := topS 72
theorem sc_law_tight : FnScope ["_law_pen_here", "_law_web_here", "_law_ring"] ["_law_pen_here", "_law_web_here"] (defScope s_law_tight) := ⟨rfl, rfl, rfl, by decide +kernel, rfl, by decide +kernel, by decide +kernel⟩
theorem ok_law_tight (T : Tx K mg "_law_tight" s_law_tight) (B : Bl mg) (D_law_first : Dn P w K mg base "_law_first" 2 ["_law_web_here", "_law_ring"] sp_law_first) (D_law_draw : Dn P w K mg base "_law_draw" 1 ["_law_pen_here", "_law_many"] sp_law_draw) : Dn P w K mg base "_law_tight" 3 ["_law_pen_here", "_law_web_here"] sp_law_tight := by
  obtain ⟨f, fd, F, m⟩ := T.ex
  refine ⟨f, fd, m, F.kp, F.binds (fun _ _ _ _ _ _ us hl => match us, hl with | [_, _], _ => rfl), F.ok sc_law_tight (fun vs H Q E h => ?_) (fun cdv A outer s H vs Q E hr h => ?_)⟩
  · obtain ⟨a, v, wb, r, rfl, hp, hv, W, htl, hr1, hr2, q⟩ := h
    rfl
  · obtain ⟨a, v, wb, r, rfl, hp, hv, W, htl, hr1, hr2, q⟩ := h
    refine ⟨_, (pss_cons (ps_for PassesOwn.never rfl (pi_listK K rfl (pe_lst (pa_cons (pe_tup (pa_cons pe_int (pa_cons pe_int pa_nil))) (pa_cons (pe_tup (pa_cons pe_int (pa_cons pe_int pa_nil))) (pa_cons (pe_tup (pa_cons pe_int (pa_cons pe_int pa_nil))) (pa_cons (pe_tup (pa_cons pe_int (pa_cons pe_int pa_nil))) (pa_cons (pe_tup (pa_cons pe_int (pa_cons pe_int pa_nil))) (pa_cons (pe_tup (pa_cons pe_int (pa_cons pe_int pa_nil))) (pa_cons (pe_tup (pa_cons pe_int (pa_cons pe_int pa_nil))) (pa_cons (pe_tup (pa_cons pe_int (pa_cons pe_int pa_nil))) (pa_cons (pe_tup (pa_cons pe_int (pa_cons pe_int pa_nil))) pa_nil))))))))))) (pg_name (i := 2) sc_law_tight.nd rfl (by first | exact Or.inl rfl | exact Or.inr rfl))
        (pss_one (ps_if (pt_cmpR op_notN (pe_d D_law_first (hr.mono (by decide)) rfl (pa_cons (pv 1) (pa_cons (pv 2) pa_nil))) pe_non (nomark _))
          (pss_one (ps_ret (pe_ifExp (pt_cmpR op_gt (pe_d D_law_draw (hr.mono (by decide)) rfl (pa_cons (pv 0) (pa_cons pe_int pa_nil))) pe_int (nomark _)) (pv 2) (pe_tup (pa_cons (pe_op op_mul pe_int (pe_ix (ix_tupK K rfl) (pv 2) pe_int (fun _ _ => rfl))) (pa_cons (pe_op op_mul pe_int (pe_ix (ix_tupK K rfl) (pv 2) pe_int (fun _ _ => rfl))) pa_nil))))))
          pss_nil)))
      (pss_one (ps_ret (pe_tup (pa_cons (pe_callB (call_max2 rfl) (by rfl) B.max_ (by decide +kernel) (pa_cons pe_int (pa_cons (pe_ix (ix_tupK K rfl) (pv 1) pe_int (fun _ _ => rfl)) pa_nil))) (pa_cons pe_int pa_nil)))))), ?_⟩
    refine ⟨by show 2 ≤ sizeLine; decide, fun p1 n1 => ?_⟩
    have e1 : Ex H (upd H p1 (HO.tup [V.int 2, V.int 1])) := Ex.up n1
    have h1 : IsInts (upd H p1 (HO.tup [V.int 2, V.int 1])) (.ref p1) [2, 1] := ⟨p1, rfl, upd_same⟩
    generalize upd H p1 (HO.tup [V.int 2, V.int 1]) = H1 at e1 h1 ⊢
    have d1 : Ex H H1 := e1
    refine ⟨by show 2 ≤ sizeLine; decide, fun p2 n2 => ?_⟩
    have e2 : Ex H1 (upd H1 p2 (HO.tup [V.int 5, V.int 2])) := Ex.up n2
    have h2 : IsInts (upd H1 p2 (HO.tup [V.int 5, V.int 2])) (.ref p2) [5, 2] := ⟨p2, rfl, upd_same⟩
    generalize upd H1 p2 (HO.tup [V.int 5, V.int 2]) = H2 at e2 h2 ⊢
    have d2 : Ex H H2 := Ex.tr d1 e2
    refine ⟨by show 2 ≤ sizeLine; decide, fun p3 n3 => ?_⟩
    have e3 : Ex H2 (upd H2 p3 (HO.tup [V.int 7, V.int 3])) := Ex.up n3
    have h3 : IsInts (upd H2 p3 (HO.tup [V.int 7, V.int 3])) (.ref p3) [7, 3] := ⟨p3, rfl, upd_same⟩
    generalize upd H2 p3 (HO.tup [V.int 7, V.int 3]) = H3 at e3 h3 ⊢
    have d3 : Ex H H3 := Ex.tr d2 e3
    refine ⟨by show 2 ≤ sizeLine; decide, fun p4 n4 => ?_⟩
    have e4 : Ex H3 (upd H3 p4 (HO.tup [V.int 3, V.int 1])) := Ex.up n4
    have h4 : IsInts (upd H3 p4 (HO.tup [V.int 3, V.int 1])) (.ref p4) [3, 1] := ⟨p4, rfl, upd_same⟩
    generalize upd H3 p4 (HO.tup [V.int 3, V.int 1]) = H4 at e4 h4 ⊢
    have d4 : Ex H H4 := Ex.tr d3 e4
    refine ⟨by show 2 ≤ sizeLine; decide, fun p5 n5 => ?_⟩
    have e5 : Ex H4 (upd H4 p5 (HO.tup [V.int 7, V.int 2])) := Ex.up n5
    have h5 : IsInts (upd H4 p5 (HO.tup [V.int 7, V.int 2])) (.ref p5) [7, 2] := ⟨p5, rfl, upd_same⟩
    generalize upd H4 p5 (HO.tup [V.int 7, V.int 2]) = H5 at e5 h5 ⊢
    have d5 : Ex H H5 := Ex.tr d4 e5
    refine ⟨by show 2 ≤ sizeLine; decide, fun p6 n6 => ?_⟩
    have e6 : Ex H5 (upd H5 p6 (HO.tup [V.int 4, V.int 1])) := Ex.up n6
    have h6 : IsInts (upd H5 p6 (HO.tup [V.int 4, V.int 1])) (.ref p6) [4, 1] := ⟨p6, rfl, upd_same⟩
    generalize upd H5 p6 (HO.tup [V.int 4, V.int 1]) = H6 at e6 h6 ⊢
    have d6 : Ex H H6 := Ex.tr d5 e6
    refine ⟨by show 2 ≤ sizeLine; decide, fun p7 n7 => ?_⟩
    have e7 : Ex H6 (upd H6 p7 (HO.tup [V.int 9, V.int 2])) := Ex.up n7
    have h7 : IsInts (upd H6 p7 (HO.tup [V.int 9, V.int 2])) (.ref p7) [9, 2] := ⟨p7, rfl, upd_same⟩
    generalize upd H6 p7 (HO.tup [V.int 9, V.int 2]) = H7 at e7 h7 ⊢
    have d7 : Ex H H7 := Ex.tr d6 e7
    refine ⟨by show 2 ≤ sizeLine; decide, fun p8 n8 => ?_⟩
    have e8 : Ex H7 (upd H7 p8 (HO.tup [V.int 5, V.int 1])) := Ex.up n8
    have h8 : IsInts (upd H7 p8 (HO.tup [V.int 5, V.int 1])) (.ref p8) [5, 1] := ⟨p8, rfl, upd_same⟩
    generalize upd H7 p8 (HO.tup [V.int 5, V.int 1]) = H8 at e8 h8 ⊢
    have d8 : Ex H H8 := Ex.tr d7 e8
    refine ⟨by show 2 ≤ sizeLine; decide, fun p9 n9 => ?_⟩
    have e9 : Ex H8 (upd H8 p9 (HO.tup [V.int 6, V.int 1])) := Ex.up n9
    have h9 : IsInts (upd H8 p9 (HO.tup [V.int 6, V.int 1])) (.ref p9) [6, 1] := ⟨p9, rfl, upd_same⟩
    generalize upd H8 p9 (HO.tup [V.int 6, V.int 1]) = H9 at e9 h9 ⊢
    have d9 : Ex H H9 := Ex.tr d8 e9
    have hall : All2 (IsInts H9) [V.ref p1, V.ref p2, V.ref p3, V.ref p4, V.ref p5, V.ref p6, V.ref p7, V.ref p8, V.ref p9] (prow rings9) := ⟨(IsInts.up e9 (IsInts.up e8 (IsInts.up e7 (IsInts.up e6 (IsInts.up e5 (IsInts.up e4 (IsInts.up e3 (IsInts.up e2 h1)))))))), (IsInts.up e9 (IsInts.up e8 (IsInts.up e7 (IsInts.up e6 (IsInts.up e5 (IsInts.up e4 (IsInts.up e3 h2))))))), (IsInts.up e9 (IsInts.up e8 (IsInts.up e7 (IsInts.up e6 (IsInts.up e5 (IsInts.up e4 h3)))))), (IsInts.up e9 (IsInts.up e8 (IsInts.up e7 (IsInts.up e6 (IsInts.up e5 h4))))), (IsInts.up e9 (IsInts.up e8 (IsInts.up e7 (IsInts.up e6 h5)))), (IsInts.up e9 (IsInts.up e8 (IsInts.up e7 h6))), (IsInts.up e9 (IsInts.up e8 h7)), (IsInts.up e9 h8), h9, trivial⟩
    have hvl : ([V.ref p1, V.ref p2, V.ref p3, V.ref p4, V.ref p5, V.ref p6, V.ref p7, V.ref p8, V.ref p9]).length = 9 := hall.len
    refine ⟨by show 9 ≤ sizeLine; decide, fun L nL => ?_⟩
    have eL : Ex H9 (upd H9 L (.lst [V.ref p1, V.ref p2, V.ref p3, V.ref p4, V.ref p5, V.ref p6, V.ref p7, V.ref p8, V.ref p9])) := Ex.up nL
    have hallL := hall.imp (S := IsInts (upd H9 L (.lst [V.ref p1, V.ref p2, V.ref p3, V.ref p4, V.ref p5, V.ref p6, V.ref p7, V.ref p8, V.ref p9]))) fun v r z => z.up eL
    have d10 := Ex.tr d9 eL
    have hpL := hp.up d10
    have nLa : L ≠ a := (hp.up d9).nn nL
    refine ⟨L, rfl, ⟨_, sqL upd_same⟩, for_list (xs := [V.ref p1, V.ref p2, V.ref p3, V.ref p4, V.ref p5, V.ref p6, V.ref p7, V.ref p8, V.ref p9]) (fun j σ H' => ∃ y2 : Option V, σ = [some (.ref a), some v, y2] ∧ Ex (upd H9 L (.lst [V.ref p1, V.ref p2, V.ref p3, V.ref p4, V.ref p5, V.ref p6, V.ref p7, V.ref p8, V.ref p9])) H' ∧ tightL wb (rings9.drop j) = some r) ⟨none, rfl, ex0 _, htl⟩ (fun j σ H' _ p => ?_) (fun j z σ H' hj p => ?_) (fun σ H' p => ?_)⟩
    · obtain ⟨y2, rfl, e, _⟩ := p
      exact sqL (e _ _ upd_same)
    · obtain ⟨y2, rfl, e, htl'⟩ := p
      have eH := Ex.tr d10 e
      obtain ⟨rr, hrr, hz⟩ := hallL.get' hj
      rw [List.getElem?_map] at hrr
      obtain ⟨rj, hrj, rfl⟩ := Option.map_eq_some_iff.mp hrr
      have hjl : j < rings9.length := (List.getElem?_eq_some_iff.mp hrj).1
      have hdr : rings9.drop j = rj :: rings9.drop (j + 1) := by
        rw [List.drop_eq_getElem_cons hjl]
        congr 1
        exact (List.getElem?_eq_some_iff.mp hrj).2
      have hsm : ∀ r ∈ rings9, 1 ≤ r.2 ∧ r.2 ≤ r.1 ∧ r.1 ≤ 24 := by decide
      have hs := hsm rj (List.mem_of_getElem? hrj)
      rw [hdr] at htl'
      have htl2 : (match lawFirst wb rj.1 rj.2 with | some (some _) => some rj | some none => tightL wb (rings9.drop (j + 1)) | none => none) = some r := htl'
      have hz' := hz.up e
      cases hlf : lawFirst wb rj.1 rj.2 with
      | none =>
        rw [hlf] at htl2
        cases htl2
      | some o =>
        rw [hlf] at htl2
        refine ⟨v, rfl, z, rfl, v, z, wb, rj.1, rj.2, o, rfl, ⟨hv.up eH, hz', W, ⟨hs.1, hs.2.1, hs.2.2⟩⟩, hlf, ?_⟩
        cases o with
        | none =>
          exact fun H6 e6 => ⟨rfl, _, rfl, iteF ⟨_, rfl, Ex.tr e e6, htl2⟩⟩
        | some row =>
          intro x H6 e6 hx
          obtain ⟨xa, rfl, hxa⟩ := hx
          have : rj = r := Option.some.inj htl2
          subst this
          refine ⟨rfl, _, rfl, ?_⟩
          rw [decide_eq_false (show ¬ (V.ref xa = V.non) from fun z => nomatch z)]
          have eH6 := Ex.tr eH e6
          have hz6 := hz'.up e6
          have hp6 := hp.up eH6
          refine iteT ⟨.ref a, rfl, a, 4, rfl, hp6, by decide, by decide, fun rd H7 hrd b7 hp7 => ?_⟩
          have hz7 := IsInts.upB hp6 b7 hz6
          have bH7 := (Ex.b a eH6).tr b7
          refine ⟨(rd : Int), 0, rfl, rfl, _, rfl, ?_⟩
          cases decide ((0 : Int) < (rd : Int)) with
          | true => exact iteT ⟨z, rfl, q z H7 1 (.inl rfl) bH7 hp7 (by rw [Nat.one_mul, Nat.one_mul]; exact hz7)⟩
          | false =>
            obtain ⟨za, rfl, hza⟩ := hz7
            refine iteF ⟨.ref za, rfl, za, _, 0, nV rj.1, rfl, rfl, sqT hza, at0, 2, (rj.1 : Int), rfl, rfl, .inl ⟨by decide, by decide⟩, .ref za, rfl, za, _, 1, nV rj.2, rfl, rfl, sqT hza, at1, 2, (rj.2 : Int), rfl, rfl, .inl ⟨by decide, by decide⟩, by show 2 ≤ sizeLine; decide, fun pr hpr => ?_⟩
            have e8 : Ex H7 (upd H7 pr (.tup [.int (2 * (rj.1 : Int)), .int (2 * (rj.2 : Int))])) := Ex.up hpr
            refine q (.ref pr) _ 2 (.inr rfl) (bH7.tr (Ex.b a e8)) (hp7.up e8) ⟨pr, rfl, ?_⟩
            rw [upd_same]
            have ek : V.int (2 * (rj.1 : Int)) = nV (2 * rj.1) := by
              show V.int _ = V.int ((2 * rj.1 : Nat) : Int)
              rw [Int.natCast_mul]
              rfl
            have ed : V.int (2 * (rj.2 : Int)) = nV (2 * rj.2) := by
              show V.int _ = V.int ((2 * rj.2 : Nat) : Int)
              rw [Int.natCast_mul]
              rfl
            show some (HO.tup [V.int (2 * (rj.1 : Int)), V.int (2 * (rj.2 : Int))]) = _
            rw [ek, ed]
            rfl
    · obtain ⟨y2, rfl, e, htl'⟩ := p
      rw [hvl] at htl'
      cases htl'
/-! ### _law_fit_spots -/
abbrev s_law_fit_spots : Stmt := topS 70
theorem sc_law_fit_spots : FnScope ["_law_web_here", "_law_ring", "_law_spots", "_law_tie"] ["_law_web_here", "_law_ring", "_law_spots"] (defScope s_law_fit_spots) := ⟨rfl, rfl, rfl, by decide +kernel, rfl, by decide +kernel, by decide +kernel⟩
theorem ok_law_fit_spots (T : Tx K mg "_law_fit_spots" s_law_fit_spots) (B : Bl mg) (D_law_apart : Dn P w K mg base "_law_apart" 1 ["_law_k", "_law_one", "_law_other"] sp_law_apart) : Dn P w K mg base "_law_fit_spots" 2 ["_law_web_here", "_law_ring", "_law_spots"] sp_law_fit_spots := by
  obtain ⟨f, fd, F, m⟩ := T.ex
  refine ⟨f, fd, m, F.kp, F.binds (fun _ _ _ _ _ _ us hl => match us, hl with | [_, _, _], _ => rfl), F.ok sc_law_fit_spots (fun vs H Q E h => ?_) (fun cdv A outer s H vs Q E hr h => ?_)⟩
  · obtain ⟨v, u, x, wb, k, d, hu, rfl, Tw, ⟨y, rfl, hy⟩, hl, hk, q⟩ := h
    rfl
  · obtain ⟨v, u, x, wb, k, d, hu, rfl, Tw, ⟨y, rfl, hy⟩, hl, hk, q⟩ := h
    refine ⟨_, (pss_one (ps_ret (pe_cmpR (op_eqDK K rfl hr.units) (pe_lc (own := [("_law_tie", 3)]) rfl sc_law_fit_spots.nd (pi_tupK K rfl (pe_ix (ix_tupK K rfl) (pv 0) pe_int (fun _ _ => rfl))) (blkOk_by (N := ["_law_web_here", "_law_ring", "_law_spots", "_law_tie"]) (sc := defScope s_law_fit_spots) (by decide +kernel)) (fun _ _ _ _ _ => (pg_name (i := 3) sc_law_fit_spots.nd rfl (by first | exact Or.inl rfl | exact Or.inr rfl))) (fun _ _ _ _ _ => (pts_one (pt_cmpR op_lt (pe_d D_law_apart (hr.mono (by decide)) rfl (pa_cons (pe_ix (ix_tupK K rfl) (pv 1) pe_int (fun _ _ => rfl)) (pa_cons (pe_ix (ix_tupK K rfl) (pv 2) (pe_ix (ix_tupK K rfl) (pv 3) pe_int (fun _ _ => rfl)) (fun _ _ => rfl)) (pa_cons (pe_ix (ix_tupK K rfl) (pv 2) (pe_ix (ix_tupK K rfl) (pv 3) pe_int (fun _ _ => rfl)) (fun _ _ => rfl)) pa_nil)))) (pe_ix (ix_tupK K rfl) (pv 1) pe_int (fun _ _ => rfl)) (nomark _)))) (fun _ _ _ _ _ => (pv 3))) (pe_lst pa_nil) (nomark _)))), ?_⟩
    obtain ⟨wa, wt, rfl, hwa, hwt⟩ := id Tw.web
    obtain ⟨wta, us, rfl, hwta, hus⟩ := id hwt
    obtain ⟨z, rfl, hz⟩ := id Tw.ring
    have hlts := ties_few Tw.W
    have hlus := hus.len
    refine ⟨.ref wa, rfl, wa, _, 1, .ref wta, rfl, rfl, sqT hwa, at1, wta, rfl, ⟨us, sqT hwta⟩, fun D hD => lc_tupD (xs := us) stb_tie (fun i => (wb.ts.take i).filter fun t => Nat.blt (lap k (hg hu t.1) (hg hu t.2)) d) hwta hD rfl (fun i _ => ?_) (fun i s H2 QY QN hi e hY hN => ?_) (fun H2 acc e hD2 hacc => ?_)⟩
    · exact Nat.le_trans fil_len (by omega)
    · obtain ⟨t, ht, f, rfl, hf⟩ := hus.get' hi
      have tt := Tw.W.T.ties t (List.mem_of_getElem? ht)
      have hf2 := e _ _ hf
      have hy2 := e _ _ hy
      have k1 : hg hu t.1 < k := hk _ (by rw [hg_at (by omega)]; exact List.getElem_mem _)
      have k2 : hg hu t.2 < k := hk _ (by rw [hg_at (by omega)]; exact List.getElem_mem _)
      refine ⟨rfl, .ref z, rfl, z, _, 0, nV k, rfl, rfl, sqT (e _ _ hz), at0, .ref y, rfl, .ref f, rfl, f, _, 0, nV t.1, rfl, rfl, sqT hf2, at0, y, _, (t.1 : Int), _, rfl, rfl, sqT hy2, at_hg (by omega), .ref y, rfl, .ref f, rfl, f, _, 1, nV t.2, rfl, rfl, sqT hf2, at1, y, _, (t.2 : Int), _, rfl, rfl, sqT hy2, at_hg (by omega), k, hg hu t.1, hg hu t.2, rfl, by omega, by omega, fun H3 e3 => ?_⟩
      refine ⟨.ref z, rfl, z, _, 1, nV d, rfl, rfl, sqT (e3 _ _ (e _ _ hz)), at1, (lap k (hg hu t.1) (hg hu t.2) : Int), (d : Int), rfl, rfl, _, rfl, ?_⟩
      rw [dec_lt]
      cases hb : Nat.blt (lap k (hg hu t.1) (hg hu t.2)) d with
      | true => exact iteT ⟨.ref f, rfl, hY _ _ t e3 ⟨f, rfl, e3 _ _ hf2⟩ (fil_yes ht hb)⟩
      | false => exact iteF (hN _ e3 (fil_no ht hb))
    · rw [take_all hlus] at hacc
      refine ⟨Nat.zero_le _, fun l hl2 => ?_⟩
      have e2 : Ex H2 (upd H2 l (.lst [])) := Ex.up hl2
      refine rd_leq (e2 _ _ hD2) (hacc.imp fun v t z => IsInts.up e2 z) upd_same ?_
      rw [fitB_empty]
      exact q _ (Ex.tr e e2)
/-! ### _law_some_hues -/
abbrev s_law_some_hues : Stmt := topS 73
theorem sc_law_some_hues : FnScope ["_law_pen_here", "_law_web_here", "_law_ring", "_law_found", "_law_turn", "_law_place", "_law_other"] ["_law_pen_here", "_law_web_here", "_law_ring"] (defScope s_law_some_hues) := ⟨rfl, rfl, rfl, by decide +kernel, rfl, by decide +kernel, by decide +kernel⟩
theorem ok_law_some_hues (T : Tx K mg "_law_some_hues" s_law_some_hues) (B : Bl mg) (D_law_first : Dn P w K mg base "_law_first" 2 ["_law_web_here", "_law_ring"] sp_law_first) (D_law_draw : Dn P w K mg base "_law_draw" 1 ["_law_pen_here", "_law_many"] sp_law_draw) (D_law_fit_spots : Dn P w K mg base "_law_fit_spots" 2 ["_law_web_here", "_law_ring", "_law_spots"] sp_law_fit_spots) : Dn P w K mg base "_law_some_hues" 3 ["_law_pen_here", "_law_web_here", "_law_ring"] sp_law_some_hues := by
  obtain ⟨f, fd, F, m⟩ := T.ex
  refine ⟨f, fd, m, F.kp, F.binds (fun _ _ _ _ _ _ us hl => match us, hl with | [_, _, _], _ => rfl), F.ok sc_law_some_hues (fun vs H Q E h => ?_) (fun cdv A outer s H vs Q E hr h => ?_)⟩
  · obtain ⟨a, v, u, wb, k, d, h0, rfl, hp, Tw, hlf, ok0, q⟩ := h
    rfl
  · obtain ⟨a, v, u, wb, k, d, h0, rfl, hp, Tw, hlf, ok0, q⟩ := h
    refine ⟨_, (pss_cons (ps_set (i := 3) sc_law_some_hues.nd rfl (by first | exact Or.inl rfl | exact Or.inr rfl) (pe_d D_law_first (hr.mono (by decide)) rfl (pa_cons (pv 1) (pa_cons (pv 2) pa_nil))))
      (pss_cons (ps_for PassesOwn.never rfl (pi_range1 (by rfl) B.range_ (pa_cons (pe_op op_mul pe_int (pe_ix (ix_tupK K rfl) (pv 1) pe_int (fun _ _ => rfl))) pa_nil)) (pg_name (i := 4) sc_law_some_hues.nd rfl (by first | exact Or.inl rfl | exact Or.inr rfl))
        (pss_cons (ps_set (i := 5) sc_law_some_hues.nd rfl (by first | exact Or.inl rfl | exact Or.inr rfl) (pe_d D_law_draw (hr.mono (by decide)) rfl (pa_cons (pv 0) (pa_cons (pe_ix (ix_tupK K rfl) (pv 1) pe_int (fun _ _ => rfl)) pa_nil))))
        (pss_cons (ps_set (i := 6) sc_law_some_hues.nd rfl (by first | exact Or.inl rfl | exact Or.inr rfl) (pe_op (op_catAK K rfl) (pe_op (op_catAK K rfl) (pe_slice (sl_tupAK K rfl) (pv 3) po_none (po_some (pv 5))) (pe_tup (pa_cons (pe_d D_law_draw (hr.mono (by decide)) rfl (pa_cons (pv 0) (pa_cons (pe_ix (ix_tupK K rfl) (pv 2) pe_int (fun _ _ => rfl)) pa_nil))) pa_nil))) (pe_slice (sl_tupAK K rfl) (pv 3) (po_some (pe_op op_add (pv 5) pe_int)) po_none)))
        (pss_one (ps_if (pt_val (pe_d D_law_fit_spots (hr.mono (by decide)) rfl (pa_cons (pv 1) (pa_cons (pv 2) (pa_cons (pv 6) pa_nil)))))
          (pss_one (ps_set (i := 3) sc_law_some_hues.nd rfl (by first | exact Or.inl rfl | exact Or.inr rfl) (pv 6)))
          pss_nil)))))
      (pss_one (ps_ret (pv 3))))), ?_⟩
    have hn := Tw.W.hi
    have hn0 := Tw.W.lo
    have hd1 := Tw.R.one
    have hdk := Tw.R.le
    have hk24 := Tw.R.most
    refine ⟨v, rfl, u, rfl, v, u, wb, k, d, some h0, rfl, Tw, hlf, fun x H1 e1 hx => ?_⟩
    have Tw1 := Tw.up e1
    obtain ⟨wa, wt, rfl, hwa, hwt⟩ := id Tw1.web
    refine ⟨.ref wa, rfl, wa, _, 0, nV wb.n, rfl, rfl, sqT hwa, at0, 2, (wb.n : Int), rfl, rfl, .inl ⟨by decide, by decide⟩, 2 * (wb.n : Int), rfl, by omega, by omega, ?_⟩
    rw [show (2 * (wb.n : Int)).toNat = 2 * wb.n by omega]
    refine for_range0 (n := 2 * wb.n) (fun i σ H' => ∃ (fv : V) (h : List Nat) (y4 y5 y6 : Option V), σ = [some (.ref a), some (.ref wa), some u, some fv, y4, y5, y6] ∧ ExB a H H' ∧ PenAt H' a ∧ IsInts H' fv h ∧ HuesOk wb k d h) ⟨x, h0, none, none, none, rfl, Ex.b a e1, hp.up e1, hx, ok0⟩ (fun i σ H' hi p => ?_) (fun σ H' p => ?_)
    · obtain ⟨fv, h, y4, y5, y6, rfl, b2, hp2, ⟨fa, rfl, hfa⟩, ok⟩ := p
      have hl := ok.len
      have hlm : (h.map nV).length = h.length := List.length_map ..
      have Tw2 := Tw.upB hp b2
      obtain ⟨wt2, hwa2⟩ : ∃ wt2, H' wa = some (.tup [nV wb.n, wt2]) := by
        obtain ⟨a', t', e1', e2', _⟩ := Tw2.web
        cases e1'
        exact ⟨t', e2'⟩
      -- place
      refine ⟨.ref a, rfl, .ref wa, rfl, wa, _, 0, nV wb.n, rfl, rfl, sqT hwa2, at0, a, wb.n, rfl, hp2, by omega, by omega, fun p H3 hpl b3 hp3 => ?_⟩
      have hfa3 := b3 _ _ (hp2.ne hfa) hfa
      have Tw3 := Tw2.upB hp2 b3
      -- found[:place]
      refine ⟨.ref fa, rfl, nV p, rfl, (p : Int), rfl, ?_⟩
      refine rd_to p hfa3 (by rw [hlm]; omega) fun p1 hp1 => ?_
      have e4 : Ex H3 (upd H3 p1 (.tup ((h.map nV).take p))) := Ex.up hp1
      obtain ⟨ua, rfl, hua⟩ := id (Tw3.ring.up e4)
      -- draw(pen, ring[0])
      refine ⟨.ref a, rfl, .ref ua, rfl, ua, _, 0, nV k, rfl, rfl, sqT hua, at0, a, k, rfl, hp3.up e4, by omega, by omega, fun s H5 hs b5 hp5 => ⟨by show 1 ≤ sizeLine; decide, fun p2 hp2' => ?_⟩⟩
      have hp4 := hp3.up e4
      have b45 := (Ex.b a e4).tr b5
      have hp1a : p1 ≠ a := hp3.nn hp1
      have h15 : H5 p1 = some (.tup ((h.map nV).take p)) := b5 _ _ hp1a upd_same
      have e6 : Ex H5 (upd H5 p2 (.tup [nV s])) := Ex.up hp2'
      refine rd_cat (xs := (h.map nV).take p) (ys := [nV s]) (e6 _ _ h15) upd_same ?_ fun c H7 e7 hc => ?_
      · rw [List.length_take]
        show _ + 1 ≤ _
        omega
      have e57 := Ex.tr e6 e7
      have hfa7 := e57 _ _ (b45 _ _ (hp3.ne hfa3) hfa3)
      -- found[place + 1:]
      refine ⟨.ref fa, rfl, nV p, rfl, (p : Int), 1, rfl, rfl, ((p : Int) + 1), rfl, ?_⟩
      refine rd_fromP (p + 1) hfa7 (by omega) (by rw [hlm]; omega) fun p3 hp3' => ?_
      refine rd_cat (xs := (h.map nV).take p ++ [nV s]) (ys := (h.map nV).drop (p + 1)) ?_ upd_same ?_ fun c2 H9 e9 hc2 => ?_
      · rw [upd_ne (ne_of_none hc hp3')]
        exact hc
      · rw [List.length_append, List.length_take, List.length_drop, hlm]
        show _ + 1 + _ ≤ _
        omega
      have e79 := Ex.tr (Ex.up (o := .tup ((h.map nV).drop (p + 1))) hp3') e9
      have e59 := Ex.tr e57 e79
      have Tw9 := (Tw3.upB hp3 b45).up e59
      have hp9 := hp5.up e59
      have b9 : ExB a H H9 := b2.tr (b3.tr (b45.tr (Ex.b a e59)))
      have hc9 : IsInts H9 (.ref c2) (h.set p s) := ⟨c2, rfl, by rw [hc2, ← set_parts (by omega)]⟩
      have hfa9 := e79 _ _ hfa7
      have hset : (h.set p s).length = wb.n := by rw [List.length_set]; exact hl
      have hlt : ∀ y ∈ h.set p s, y < k := fun y hy => by
        rcases List.mem_or_eq_of_mem_set hy with z | z
        · exact hues_lt ok y z
        · rw [z]; exact hs
      -- if fit_spots(..)
      refine ⟨.ref wa, rfl, .ref ua, rfl, .ref c2, rfl, .ref wa, .ref ua, .ref c2, wb, k, d, h.set p s, rfl, Tw9, hc9, hset, hlt, fun H10 e10 => ⟨_, rfl, ?_⟩⟩
      cases hfb : fitB wb k d (h.set p s) with
      | true => exact iteT ⟨.ref c2, rfl, .ref c2, h.set p s, _, _, _, rfl, b9.tr (Ex.b a e10), hp9.up e10, hc9.up e10, fitB_hues Tw.W.T hset hlt hfb⟩
      | false => exact iteF ⟨.ref fa, h, _, _, _, rfl, b9.tr (Ex.b a e10), hp9.up e10, ⟨fa, rfl, e10 _ _ hfa9⟩, ok⟩
    · obtain ⟨fv, h, y4, y5, y6, rfl, b2, hp2, hf, ok⟩ := p
      exact ⟨fv, rfl, q fv H' h b2 hp2 hf ok⟩
/-! ### is_whole -/
abbrev sis_whole : Stmt := topS 9
theorem scis_whole : FnScope ["thing"] ["thing"] (defScope sis_whole) := ⟨rfl, rfl, rfl, by decide +kernel, rfl, by decide +kernel, by decide +kernel⟩
theorem okis_whole (T : Tx K mg "is_whole" sis_whole) (B : Bl mg)  : Dn P w K mg base "is_whole" 1 ["thing"] spis_whole := by
  obtain ⟨f, fd, F, m⟩ := T.ex
  refine ⟨f, fd, m, F.kp, F.binds (fun _ _ _ _ _ _ us hl => match us, hl with | [_], _ => rfl), F.ok scis_whole (fun vs H Q E h => ?_) (fun cdv A outer s H vs Q E hr h => ?_)⟩
  · obtain ⟨i, rfl, q⟩ := h
    rfl
  · obtain ⟨i, rfl, q⟩ := h
    refine ⟨_, (pss_one (ps_ret (pe_and (pe_callB call_isi (by rfl) B.isinstance_ (by decide +kernel) (pa_cons (pv 0) (pa_cons (pe_bltn (v := .ty "int") (by rfl) B.int_ (by decide +kernel) rfl) pa_nil))) (pe_one (pe_not (pe_callB call_isi (by rfl) B.isinstance_ (by decide +kernel) (pa_cons (pv 0) (pa_cons (pe_bltn (v := .ty "bool") (by rfl) B.bool_ (by decide +kernel) rfl) pa_nil)))))))), ?_⟩
    exact ⟨.int i, rfl, .int i, .ty "int", .type "int", .type "int", true, rfl, .ty "int", .base (.int i), kit_ty (by decide +kernel), true, rfl, iteT ⟨.int i, rfl, .int i, .ty "bool", _, _, false, rfl, .ty "bool", .base (.int i), kit_ty (by decide +kernel), false, rfl, q _ (ex0 _)⟩⟩
/-! ### is_many -/
abbrev sis_many : Stmt := topS 22
theorem scis_many : FnScope ["thing"] ["thing"] (defScope sis_many) := ⟨rfl, rfl, rfl, by decide +kernel, rfl, by decide +kernel, by decide +kernel⟩
theorem okis_many (T : Tx K mg "is_many" sis_many) (B : Bl mg) (Dis_whole : Dn P w K mg base "is_whole" 1 ["thing"] spis_whole) : Dn P w K mg base "is_many" 2 ["thing"] spis_many := by
  obtain ⟨tMOST_PLACES, hMOST_PLACES⟩ := B.MOST_PLACES
  obtain ⟨f, fd, F, m⟩ := T.ex
  refine ⟨f, fd, m, F.kp, F.binds (fun _ _ _ _ _ _ us hl => match us, hl with | [_], _ => rfl), F.ok scis_many (fun vs H Q E h => ?_) (fun cdv A outer s H vs Q E hr h => ?_)⟩
  · obtain ⟨n, rfl, h1, h2, q⟩ := h
    rfl
  · obtain ⟨n, rfl, h1, h2, q⟩ := h
    refine ⟨_, (pss_one (ps_ret (pe_and (pe_d Dis_whole (hr.mono (by decide)) rfl (pa_cons (pv 0) pa_nil)) (pe_one (pe_chain op_le op_le pe_int (pv 0) (pe_glob (v := .int 8) rfl hMOST_PLACES ⟨_, rfl⟩)))))), ?_⟩
    refine ⟨nV n, rfl, (n : Int), rfl, fun H1 e1 => ⟨true, rfl, iteT ?_⟩⟩
    refine ⟨nV n, rfl, 1, (n : Int), rfl, rfl, _, rfl, ?_⟩
    rw [decide_eq_true (show (1 : Int) ≤ (n : Int) by omega)]
    refine iteT ⟨(n : Int), 8, rfl, rfl, ?_⟩
    show Q (.bl (decide ((n : Int) ≤ 8))) H1
    rw [decide_eq_true (show (n : Int) ≤ 8 by omega)]
    exact q _ e1
/-! ### is_number_of -/
abbrev sis_number_of : Stmt := topS 10
theorem scis_number_of : FnScope ["thing", "many"] ["thing", "many"] (defScope sis_number_of) := ⟨rfl, rfl, rfl, by decide +kernel, rfl, by decide +kernel, by decide +kernel⟩
theorem okis_number_of (T : Tx K mg "is_number_of" sis_number_of) (B : Bl mg) (Dis_whole : Dn P w K mg base "is_whole" 1 ["thing"] spis_whole) : Dn P w K mg base "is_number_of" 2 ["thing", "many"] spis_number_of := by
  obtain ⟨f, fd, F, m⟩ := T.ex
  refine ⟨f, fd, m, F.kp, F.binds (fun _ _ _ _ _ _ us hl => match us, hl with | [_, _], _ => rfl), F.ok scis_number_of (fun vs H Q E h => ?_) (fun cdv A outer s H vs Q E hr h => ?_)⟩
  · obtain ⟨i, m, rfl, h1, h2, q⟩ := h
    rfl
  · obtain ⟨i, m, rfl, h1, h2, q⟩ := h
    refine ⟨_, (pss_one (ps_ret (pe_and (pe_d Dis_whole (hr.mono (by decide)) rfl (pa_cons (pv 0) pa_nil)) (pe_one (pe_chain op_le op_lt pe_int (pv 0) (pv 1)))))), ?_⟩
    refine ⟨.int i, rfl, i, rfl, fun H1 e1 => ⟨true, rfl, iteT ?_⟩⟩
    refine ⟨.int i, rfl, 0, i, rfl, rfl, _, rfl, ?_⟩
    rw [decide_eq_true h1]
    refine iteT ⟨.int m, rfl, i, m, rfl, rfl, ?_⟩
    show Q (.bl (decide (i < m))) H1
    rw [decide_eq_true h2]
    exact q _ e1
/-! ### is_pair -/
abbrev sis_pair : Stmt := topS 21
theorem scis_pair : FnScope ["thing", "many"] ["thing", "many"] (defScope sis_pair) := ⟨rfl, rfl, rfl, by decide +kernel, rfl, by decide +kernel, by decide +kernel⟩
theorem okis_pair (T : Tx K mg "is_pair" sis_pair) (B : Bl mg) (Dis_number_of : Dn P w K mg base "is_number_of" 2 ["thing", "many"] spis_number_of) : Dn P w K mg base "is_pair" 3 ["thing", "many"] spis_pair := by
  obtain ⟨f, fd, F, m⟩ := T.ex
  refine ⟨f, fd, m, F.kp, F.binds (fun _ _ _ _ _ _ us hl => match us, hl with | [_, _], _ => rfl), F.ok scis_pair (fun vs H Q E h => ?_) (fun cdv A outer s H vs Q E hr h => ?_)⟩
  · obtain ⟨v, i, j, n, rfl, ⟨a, rfl, ha⟩, h1, h2, h3, q⟩ := h
    rfl
  · obtain ⟨v, i, j, n, rfl, ⟨a, rfl, ha⟩, h1, h2, h3, q⟩ := h
    refine ⟨_, (pss_cons (ps_if (PW.pt (pw_or (pt_not (pt_val (pe_callB call_isi (by rfl) B.isinstance_ (by decide +kernel) (pa_cons (pv 0) (pa_cons (pe_bltn (v := .ty "tuple") (by rfl) B.tuple_ (by decide +kernel) rfl) pa_nil))))) (pw_or1 (pt_cmpR op_ne (pe_callB (call_lenK K rfl) (by rfl) B.len_ (by decide +kernel) (pa_cons (pv 0) pa_nil)) pe_int (nomark _)))))
        (pss_one (ps_ret pe_bl))
        pss_nil)
      (pss_one (ps_ret (pe_and (pe_d Dis_number_of (hr.mono (by decide)) rfl (pa_cons (pe_ix (ix_tupK K rfl) (pv 0) pe_int (fun _ _ => rfl)) (pa_cons (pv 1) pa_nil))) (pe_and (pe_d Dis_number_of (hr.mono (by decide)) rfl (pa_cons (pe_ix (ix_tupK K rfl) (pv 0) pe_int (fun _ _ => rfl)) (pa_cons (pv 1) pa_nil))) (pe_one (pe_cmpR op_ne (pe_ix (ix_tupK K rfl) (pv 0) pe_int (fun _ _ => rfl)) (pe_ix (ix_tupK K rfl) (pv 0) pe_int (fun _ _ => rfl)) (nomark _)))))))), ?_⟩
    refine ⟨.ref a, rfl, .ref a, .ty "tuple", .type "tuple", .type "tuple", true, rfl, .ty _, .base (.tup ha), kit_ty (by decide +kernel), true, rfl, iteF ?_⟩
    refine ⟨.ref a, rfl, a, _, rfl, .inr (sqT ha), rfl, _, rfl, iteNS rfl ?_⟩
    refine ⟨.ref a, rfl, a, _, 0, nV i, rfl, rfl, sqT ha, at0, nV n, rfl, (i : Int), (n : Int), rfl, by omega, by omega, fun H1 e1 => ⟨true, rfl, iteT ?_⟩⟩
    have ha1 := e1 _ _ ha
    refine ⟨.ref a, rfl, a, _, 1, nV j, rfl, rfl, sqT ha1, at1, nV n, rfl, (j : Int), (n : Int), rfl, by omega, by omega, fun H2 e2 => ⟨true, rfl, iteT ?_⟩⟩
    have ha2 := e2 _ _ ha1
    refine ⟨.ref a, rfl, a, _, 0, nV i, rfl, rfl, sqT ha2, at0, .ref a, rfl, a, _, 1, nV j, rfl, rfl, sqT ha2, at1, rfl, ?_⟩
    rw [decide_eq_false (fun z => h3 (by have := V.int.inj z; omega))]
    exact q _ (Ex.tr e1 e2)
/-! ### is_web -/
abbrev sis_web : Stmt := topS 23
theorem scis_web : FnScope ["thing", "last", "tie"] ["thing"] (defScope sis_web) := ⟨rfl, rfl, rfl, by decide +kernel, rfl, by decide +kernel, by decide +kernel⟩
theorem okis_web (T : Tx K mg "is_web" sis_web) (B : Bl mg) (Dis_many : Dn P w K mg base "is_many" 2 ["thing"] spis_many) (Dis_pair : Dn P w K mg base "is_pair" 3 ["thing", "many"] spis_pair) : Dn P w K mg base "is_web" 4 ["thing"] spis_web := by
  obtain ⟨f, fd, F, m⟩ := T.ex
  refine ⟨f, fd, m, F.kp, F.binds (fun _ _ _ _ _ _ us hl => match us, hl with | [_], _ => rfl), F.ok scis_web (fun vs H Q E h => ?_) (fun cdv A outer s H vs Q E hr h => ?_)⟩
  · obtain ⟨v, wb, rfl, ⟨a, u, rfl, ha, b, us, rfl, hb, hus⟩, W, q⟩ := h
    rfl
  · obtain ⟨v, wb, rfl, ⟨a, u, rfl, ha, b, us, rfl, hb, hus⟩, W, q⟩ := h
    refine ⟨_, (pss_cons (ps_if (PW.pt (pw_or (pt_not (pt_val (pe_callB call_isi (by rfl) B.isinstance_ (by decide +kernel) (pa_cons (pv 0) (pa_cons (pe_bltn (v := .ty "tuple") (by rfl) B.tuple_ (by decide +kernel) rfl) pa_nil))))) (pw_or (pt_cmpR op_ne (pe_callB (call_lenK K rfl) (by rfl) B.len_ (by decide +kernel) (pa_cons (pv 0) pa_nil)) pe_int (nomark _)) (pw_or1 (pt_not (pt_val (pe_d Dis_many (hr.mono (by decide)) rfl (pa_cons (pe_ix (ix_tupK K rfl) (pv 0) pe_int (fun _ _ => rfl)) pa_nil))))))))
        (pss_one (ps_ret pe_bl))
        pss_nil)
      (pss_cons (ps_if (pt_not (pt_val (pe_callB call_isi (by rfl) B.isinstance_ (by decide +kernel) (pa_cons (pe_ix (ix_tupK K rfl) (pv 0) pe_int (fun _ _ => rfl)) (pa_cons (pe_bltn (v := .ty "tuple") (by rfl) B.tuple_ (by decide +kernel) rfl) pa_nil)))))
        (pss_one (ps_ret pe_bl))
        pss_nil)
      (pss_cons (ps_set (i := 1) scis_web.nd rfl (by first | exact Or.inl rfl | exact Or.inr rfl) (pe_tup (pa_cons (pe_un un_neg pe_int) (pa_cons (pe_un un_neg pe_int) pa_nil))))
      (pss_cons (ps_for PassesOwn.never rfl (pi_tupK K rfl (pe_ix (ix_tupK K rfl) (pv 0) pe_int (fun _ _ => rfl))) (pg_name (i := 2) scis_web.nd rfl (by first | exact Or.inl rfl | exact Or.inr rfl))
        (pss_cons (ps_if (PW.pt (pw_or (pt_not (pt_val (pe_d Dis_pair (hr.mono (by decide)) rfl (pa_cons (pv 2) (pa_cons (pe_ix (ix_tupK K rfl) (pv 0) pe_int (fun _ _ => rfl)) pa_nil))))) (pw_or (pt_cmpR op_gt (pe_ix (ix_tupK K rfl) (pv 2) pe_int (fun _ _ => rfl)) (pe_ix (ix_tupK K rfl) (pv 2) pe_int (fun _ _ => rfl)) (nomark _)) (pw_or1 (pt_cmpR (op_leT hr.units0) (pv 2) (pv 1) (nomark _))))))
          (pss_one (ps_ret pe_bl))
          pss_nil)
        (pss_one (ps_set (i := 1) scis_web.nd rfl (by first | exact Or.inl rfl | exact Or.inr rfl) (pv 2)))))
      (pss_one (ps_ret pe_bl)))))), ?_⟩
    have hn := W.lo
    have hn2 := W.hi
    refine ⟨.ref a, rfl, .ref a, .ty "tuple", .type "tuple", .type "tuple", true, rfl, .ty _, .base (.tup ha), kit_ty (by decide +kernel), true, rfl, iteF ?_⟩
    refine ⟨.ref a, rfl, a, _, rfl, .inr (sqT ha), rfl, _, rfl, iteNS rfl ?_⟩
    refine ⟨.ref a, rfl, a, _, 0, nV wb.n, rfl, rfl, sqT ha, at0, wb.n, rfl, by omega, by omega, fun H1 e1 => ⟨true, rfl, iteF ?_⟩⟩
    have ha1 := e1 _ _ ha
    have hb1 := e1 _ _ hb
    refine ⟨.ref a, rfl, a, _, 1, .ref b, rfl, rfl, sqT ha1, at1, .ref b, .ty "tuple", .type "tuple", .type "tuple", true, rfl, .ty _, .base (.tup hb1), kit_ty (by decide +kernel), true, rfl, iteF ?_⟩
    -- last = (-1, -1)
    refine ⟨1, rfl, 1, rfl, by show 2 ≤ sizeLine; decide, fun p hp => ?_⟩
    have e2 : Ex H1 (upd H1 p (.tup [.int (-1), .int (-1)])) := Ex.up hp
    -- the ties
    refine ⟨.ref a, rfl, a, _, 1, .ref b, rfl, rfl, sqT (e2 _ _ ha1), at1, b, rfl, ⟨us, sqT (e2 _ _ hb1)⟩, ?_⟩
    refine for_tup (xs := us) (fun i σ H' => ∃ (l : V) (y : Option V) (p1 p2 : Int), σ = [some (.ref a), some l, y] ∧ Ex H H' ∧ (∃ t, l = .ref t ∧ H' t = some (.tup [.int p1, .int p2])) ∧ (i < us.length → ∀ t, wb.ts[i]? = some t → p1 < t.1 ∨ (p1 = t.1 ∧ p2 < t.2)) ∧ ∀ j, i ≤ j → ∀ t t', wb.ts[j]? = some t → wb.ts[j + 1]? = some t' → (t.1 < t'.1 ∨ t.1 = t'.1 ∧ t.2 < t'.2)) ?_ (fun i σ H' _ p => ?_) (fun i x σ H' hi p => ?_) (fun σ H' p => ?_)
    · refine ⟨.ref p, none, -1, -1, rfl, Ex.tr e1 e2, ⟨p, rfl, upd_same⟩, fun _ t ht => .inl (by omega), fun j _ t t' h1 h2 => ?_⟩
      exact risingW_at W.ris h1 h2
    · obtain ⟨l, y, p1, p2, rfl, eH, _⟩ := p
      exact sqT (eH _ _ hb)
    · obtain ⟨l, y, p1, p2, rfl, eH, ⟨t0, rfl, ht0⟩, hlt, hri⟩ := p
      obtain ⟨t, ht, c, rfl, hc⟩ := hus.get' hi
      have hT := W.T.ties t (List.mem_of_getElem? ht)
      have hc' := eH _ _ hc
      have ha' := eH _ _ ha
      have hil : i < us.length := (List.getElem?_eq_some_iff.mp hi).1
      refine ⟨.ref c, rfl, .ref a, rfl, a, _, 0, nV wb.n, rfl, rfl, sqT ha', at0, .ref c, t.1, t.2, wb.n, rfl, ⟨c, rfl, hc'⟩, by omega, by omega, by omega, fun H3 e3 => ⟨true, rfl, iteF ?_⟩⟩
      have hc3 := e3 _ _ hc'
      refine ⟨.ref c, rfl, c, _, 0, nV t.1, rfl, rfl, sqT hc3, at0, .ref c, rfl, c, _, 1, nV t.2, rfl, rfl, sqT hc3, at1, (t.1 : Int), (t.2 : Int), rfl, rfl, _, rfl, ?_⟩
      rw [decide_eq_false (show ¬ ((t.2 : Int) < (t.1 : Int)) by omega)]
      refine iteF ⟨.ref c, rfl, .ref t0, rfl, c, t0, [(t.1 : Int), (t.2 : Int)], [p1, p2], rfl, rfl, sqT hc3, sqT (e3 _ _ ht0), _, rfl, ?_⟩
      have hl := hlt hil t ht
      have e4 : Ob.lexAt (fun j => decide ([(t.1 : Int), (t.2 : Int)].getD j 0 = [p1, p2].getD j 0)) (fun j => decide ([(t.1 : Int), (t.2 : Int)].getD j 0 ≤ [p1, p2].getD j 0)) (decide (([(t.1 : Int), (t.2 : Int)] : List Int).length ≤ ([p1, p2] : List Int).length)) 0 (min ([(t.1 : Int), (t.2 : Int)] : List Int).length ([p1, p2] : List Int).length) = false := by
        show (if decide ((t.1 : Int) = p1) = true then (if decide ((t.2 : Int) = p2) = true then true else decide ((t.2 : Int) ≤ p2)) else decide ((t.1 : Int) ≤ p1)) = false
        by_cases z : (t.1 : Int) = p1
        · rw [if_pos (decide_eq_true z), if_neg (by simp; omega)]
          exact decide_eq_false (by omega)
        · rw [if_neg (by simpa using z)]
          exact decide_eq_false (by omega)
      rw [e4]
      refine iteF ⟨.ref c, rfl, .ref c, some (.ref c), (t.1 : Int), (t.2 : Int), rfl, eH.trans e3, ⟨c, rfl, hc3⟩, fun _ t' ht' => ?_, fun j hj => hri j (by omega)⟩
      have := hri i (Nat.le_refl _) t t' ht ht'
      omega
    · obtain ⟨l, y, p1, p2, rfl, eH, _⟩ := p
      exact q _ eH
/-! ### check_web -/
abbrev scheck_web : Stmt := topS 24
theorem sccheck_web : FnScope ["web"] ["web"] (defScope scheck_web) := ⟨rfl, rfl, rfl, by decide +kernel, rfl, by decide +kernel, by decide +kernel⟩
theorem okcheck_web (T : Tx K mg "check_web" scheck_web) (B : Bl mg) (Dis_web : Dn P w K mg base "is_web" 4 ["thing"] spis_web) : Dn P w K mg base "check_web" 5 ["web"] spcheck_web := by
  obtain ⟨f, fd, F, m⟩ := T.ex
  refine ⟨f, fd, m, F.kp, F.binds (fun _ _ _ _ _ _ us hl => match us, hl with | [_], _ => rfl), F.ok sccheck_web (fun vs H Q E h => ?_) (fun cdv A outer s H vs Q E hr h => ?_)⟩
  · obtain ⟨v, wb, rfl, hv, W, q⟩ := h
    rfl
  · obtain ⟨v, wb, rfl, hv, W, q⟩ := h
    refine ⟨_, (pss_one (ps_if (pt_not (pt_val (pe_d Dis_web (hr.mono (by decide)) rfl (pa_cons (pv 0) pa_nil))))
        (pss_one ps_never)
        pss_nil)), ?_⟩
    exact ⟨v, rfl, v, wb, rfl, hv, W, fun H1 e1 => ⟨true, rfl, iteF (q _ e1)⟩⟩
/-! ### common_part -/
abbrev scommon_part : Stmt := topS 12
theorem sccommon_part : FnScope ["one", "other"] ["one", "other"] (defScope scommon_part) := ⟨rfl, rfl, rfl, by decide +kernel, rfl, by decide +kernel, by decide +kernel⟩
theorem okcommon_part (T : Tx K mg "common_part" scommon_part) (B : Bl mg)  : Dn P w K mg base "common_part" 1 ["one", "other"] spcommon_part := by
  obtain ⟨f, fd, F, m⟩ := T.ex
  refine ⟨f, fd, m, F.kp, F.binds (fun _ _ _ _ _ _ us hl => match us, hl with | [_, _], _ => rfl), F.ok sccommon_part (fun vs H Q E h => ?_) (fun cdv A outer s H vs Q E hr h => ?_)⟩
  · obtain ⟨a, b, rfl, q⟩ := h
    rfl
  · obtain ⟨a, b, rfl, q⟩ := h
    refine ⟨_, (pss_cons (ps_while PassesOwn.never (pt_cmpR op_gt (pv 1) pe_int (nomark _))
        (pss_one (ps_par (i := 0) (j := 1) (by rfl) sccommon_part.nd rfl rfl (by decide) rfl rfl (pa_cons (pv 1) (pa_cons (pe_op op_mod (pv 0) (pv 1)) pa_nil)) (by rfl))))
      (pss_one (ps_ret (pv 0)))), ?_⟩
    refine ⟨fun m σ H' => ∃ x : Nat, σ = [some (nV x), some (nV m)] ∧ Ex H H' ∧ Nat.gcd x m = Nat.gcd a b, ⟨b, a, rfl, ex0 _, rfl⟩, ?_⟩
    rintro y σ H0 ⟨x, rfl, eH, hg⟩
    refine ⟨nV y, rfl, (y : Int), 0, rfl, rfl, _, rfl, ite2 (fun hc => ?_) (fun hc => ?_)⟩
    · have hy : 0 < y := by
        have : (0 : Int) < (y : Int) := of_decide_eq_true hc
        omega
      refine ⟨fun σ H' => ∃ x' y' : Nat, σ = [some (nV x'), some (nV y')] ∧ Ex H H' ∧ Nat.gcd x' y' = Nat.gcd a b ∧ y' < y, ?_, ?_⟩
      · rintro σ' H2 ⟨x', y', h1, h2, h3, h4⟩
        exact ⟨y', h4, x', h1, h2, h3⟩
      · refine ⟨nV y, rfl, nV x, rfl, nV y, rfl, (x : Int), (y : Int), rfl, rfl, by show (0 : Int) < (y : Int); omega, ?_⟩
        refine ⟨nV y, V.int ((x : Int) % (y : Int)), rfl, y, x % y, ?_, eH, ?_, Nat.mod_lt _ hy⟩
        · show [some (nV y), some (V.int ((x : Int) % (y : Int)))] = [some (nV y), some (V.int (((x % y : Nat)) : Int))]
          rw [Int.natCast_emod]
        · rw [← hg, Nat.gcd_comm y (x % y), Nat.gcd_comm x y]
          exact (Nat.gcd_rec y x).symm
    · have hy : y = 0 := by
        have : ¬ (0 : Int) < (y : Int) := fun z => hc (decide_eq_true z)
        omega
      subst hy
      rw [Nat.gcd_zero_right] at hg
      exact ⟨nV x, rfl, by rw [hg]; exact q _ eH⟩
/-! ### is_shorter -/
abbrev sis_shorter : Stmt := topS 18
theorem scis_shorter : FnScope ["one", "other"] ["one", "other"] (defScope sis_shorter) := ⟨rfl, rfl, rfl, by decide +kernel, rfl, by decide +kernel, by decide +kernel⟩
theorem okis_shorter (T : Tx K mg "is_shorter" sis_shorter) (B : Bl mg)  : Dn P w K mg base "is_shorter" 1 ["one", "other"] spis_shorter := by
  obtain ⟨f, fd, F, m⟩ := T.ex
  refine ⟨f, fd, m, F.kp, F.binds (fun _ _ _ _ _ _ us hl => match us, hl with | [_, _], _ => rfl), F.ok scis_shorter (fun vs H Q E h => ?_) (fun cdv A outer s H vs Q E hr h => ?_)⟩
  · obtain ⟨u, v, a, b, c, d, rfl, ⟨x, rfl, hx⟩, ⟨y, rfl, hy⟩, h1, h2, h3, h4, q⟩ := h
    rfl
  · obtain ⟨u, v, a, b, c, d, rfl, ⟨x, rfl, hx⟩, ⟨y, rfl, hy⟩, h1, h2, h3, h4, q⟩ := h
    refine ⟨_, (pss_one (ps_ret (pe_cmpR op_lt (pe_op op_mul (pe_ix (ix_tupK K rfl) (pv 0) pe_int (fun _ _ => rfl)) (pe_ix (ix_tupK K rfl) (pv 1) pe_int (fun _ _ => rfl))) (pe_op op_mul (pe_ix (ix_tupK K rfl) (pv 1) pe_int (fun _ _ => rfl)) (pe_ix (ix_tupK K rfl) (pv 0) pe_int (fun _ _ => rfl))) (nomark _)))), ?_⟩
    refine ⟨.ref x, rfl, x, _, 0, nV a, rfl, rfl, sqT hx, at0, .ref y, rfl, y, _, 1, nV d, rfl, rfl, sqT hy, at1, (a : Int), (d : Int), rfl, rfl, .inl ⟨by omega, by omega⟩, ?_⟩
    refine ⟨.ref y, rfl, y, _, 0, nV c, rfl, rfl, sqT hy, at0, .ref x, rfl, x, _, 1, nV b, rfl, rfl, sqT hx, at1, (c : Int), (b : Int), rfl, rfl, .inl ⟨by omega, by omega⟩, _, _, rfl, rfl, ?_⟩
    have e : decide ((a : Int) * (d : Int) < (c : Int) * (b : Int)) = shorter (a, b) (c, d) := by
      unfold shorter
      rw [Bool.eq_iff_iff, decide_eq_true_iff, Nat.blt_eq, ← Int.natCast_mul, ← Int.natCast_mul]
      show _ ↔ a * d < c * b
      omega
    show Q (.bl (decide ((a : Int) * (d : Int) < (c : Int) * (b : Int)))) H
    rw [e]
    exact q _ (ex0 _)
/-! ### plain_rings -/
abbrev splain_rings : Stmt := topS 55
theorem scplain_rings : FnScope ["most", "found", "k", "d", "at"] ["most"] (defScope splain_rings) := ⟨rfl, rfl, rfl, by decide +kernel, rfl, by decide +kernel, by decide +kernel⟩
theorem okplain_rings (T : Tx K mg "plain_rings" splain_rings) (B : Bl mg) (Dcommon_part : Dn P w K mg base "common_part" 1 ["one", "other"] spcommon_part) (Dis_shorter : Dn P w K mg base "is_shorter" 1 ["one", "other"] spis_shorter) : Dn P w K mg base "plain_rings" 2 ["most"] spplain_rings := by
  obtain ⟨f, fd, F, m⟩ := T.ex
  refine ⟨f, fd, m, F.kp, F.binds (fun _ _ _ _ _ _ us hl => match us, hl with | [_], _ => rfl), F.ok scplain_rings (fun vs H Q E h => ?_) (fun cdv A outer s H vs Q E hr h => ?_)⟩
  · obtain ⟨n, rfl, hn2, hn5, q⟩ := h
    rfl
  · obtain ⟨n, rfl, hn2, hn5, q⟩ := h
    refine ⟨_, (pss_cons (ps_set (i := 1) scplain_rings.nd rfl (by first | exact Or.inl rfl | exact Or.inr rfl) (pe_lst (pa_cons (pe_tup (pa_cons pe_int (pa_cons pe_int pa_nil))) pa_nil)))
      (pss_cons (ps_for PassesOwn.never rfl (pi_range2 (by rfl) B.range_ (pa_cons pe_int (pa_cons (pe_op op_add (pv 0) pe_int) pa_nil))) (pg_name (i := 2) scplain_rings.nd rfl (by first | exact Or.inl rfl | exact Or.inr rfl))
        (pss_one (ps_for PassesOwn.never rfl (pi_range2 (by rfl) B.range_ (pa_cons pe_int (pa_cons (pe_op op_add (pe_op op_fdiv (pv 2) pe_int) pe_int) pa_nil))) (pg_name (i := 3) scplain_rings.nd rfl (by first | exact Or.inl rfl | exact Or.inr rfl))
          (pss_one (ps_if (pt_cmpR op_eq (pe_d Dcommon_part (hr.mono (by decide)) rfl (pa_cons (pv 2) (pa_cons (pv 3) pa_nil))) pe_int (nomark _))
            (pss_cons (ps_set (i := 4) scplain_rings.nd rfl (by first | exact Or.inl rfl | exact Or.inr rfl) pe_int)
            (pss_cons (ps_while PassesOwn.never (PW.pt (pw_and (pt_cmpR op_lt (pv 4) (pe_callB (call_lenK K rfl) (by rfl) B.len_ (by decide +kernel) (pa_cons (pv 1) pa_nil)) (nomark _)) (pw_and1 (pt_val (pe_d Dis_shorter (hr.mono (by decide)) rfl (pa_cons (pe_ix (ix_listK K rfl) (pv 1) (pv 4) (fun _ _ => rfl)) (pa_cons (pe_tup (pa_cons (pv 2) (pa_cons (pv 3) pa_nil))) pa_nil)))))))
              (pss_one (ps_set (i := 4) scplain_rings.nd rfl (by first | exact Or.inl rfl | exact Or.inr rfl) (pe_op op_add (pv 4) pe_int))))
            (pss_one (ps_expr (pe_bm PySem.F.plainAttrs_list PySem.F.slot_list_insert PySem.F.type_list_insert mt_insert (pv 1) (pa_cons (pv 4) (pa_cons (pe_tup (pa_cons (pv 2) (pa_cons (pv 3) pa_nil))) pa_nil)))))))
            pss_nil)))))
      (pss_one (ps_ret (pv 1))))), ?_⟩
    -- found = [(1, 1)]
    refine ⟨by show 2 ≤ sizeLine; decide, fun p0 hp0 => ⟨by show 1 ≤ sizeLine; decide, fun fo hfo => ?_⟩⟩
    have e1 := Ex.tr (Ex.up (o := .tup [.int 1, .int 1]) hp0) (Ex.up (o := .lst [.ref p0]) hfo)
    have np : p0 ≠ fo := ne_of_none (upd_same (H := H) (a := p0)) hfo
    have nfo : H fo = none := fb (Ex.up (o := .tup [.int 1, .int 1]) hp0) hfo
    refine ⟨nV n, rfl, (n : Int), 1, rfl, rfl, 2, (n : Int) + 1, rfl, ⟨by omega, by omega, by omega, by omega⟩, ?_⟩
    rw [show ((n : Int) + 1 - 2).toNat = n - 1 by omega]
    refine for_range (lo := 2) (n := n - 1) (fun i σ H' => ∃ y2 y3 y4 : Option V, σ = [some (nV n), some (.ref fo), y2, y3, y4] ∧ Ex H H' ∧ ∃ vs, H' fo = some (.lst vs) ∧ All2 (fun v (r : Nat × Nat) => IsInts H' v [r.1, r.2]) vs ((List.range' 2 i).foldl plK [(1, 1)]) ∧ (∀ r ∈ (List.range' 2 i).foldl plK [(1, 1)], r.1 < 100 ∧ r.2 < 100) ∧ vs.length ≤ 1 + i * 10) ⟨none, none, none, rfl, e1, [.ref p0], upd_same, ⟨⟨p0, rfl, by rw [upd_ne np, upd_same]; rfl⟩, trivial⟩, by simp, by simp⟩ (fun i σ H' hi p => ?_) (fun σ H' p => ?_)
    · obtain ⟨y2, y3, y4, rfl, e2, vs, hvs, hal, hsm, hlen⟩ := p
      have ek : V.int (2 + (i : Int)) = nV (2 + i) := rfl
      rw [ek]
      have hr1 : (List.range' 2 (i + 1)).foldl plK [(1, 1)] = plK ((List.range' 2 i).foldl plK [(1, 1)]) (2 + i) := by
        rw [List.range'_1_concat, List.foldl_append]
        rfl
      generalize hfd : (List.range' 2 i).foldl plK [(1, 1)] = fd0 at hal hsm hr1
      generalize hk : 2 + i = k at hr1
      have hk5 : k ≤ 5 := by omega
      refine ⟨nV k, rfl, (k : Int), 2, rfl, rfl, ⟨by decide, by decide⟩, (k : Int) / 2, 1, rfl, rfl, 1, (k : Int) / 2 + 1, rfl, ⟨by omega, by omega, by omega, by omega⟩, ?_⟩
      rw [show ((k : Int) / 2 + 1 - 1).toNat = k / 2 by omega]
      refine for_range (lo := 1) (n := k / 2) (fun t σ H'' => ∃ y3 y4 : Option V, σ = [some (nV n), some (.ref fo), some (nV k), y3, y4] ∧ Ex H H'' ∧ ∃ vs, H'' fo = some (.lst vs) ∧ All2 (fun v (r : Nat × Nat) => IsInts H'' v [r.1, r.2]) vs ((List.range' 1 t).foldl (fun fd d => if Nat.gcd k d == 1 then insR fd (k, d) else fd) fd0) ∧ (∀ r ∈ (List.range' 1 t).foldl (fun fd d => if Nat.gcd k d == 1 then insR fd (k, d) else fd) fd0, r.1 < 100 ∧ r.2 < 100) ∧ vs.length ≤ 1 + i * 10 + t) ⟨_, _, rfl, e2, vs, hvs, hal, hsm, hlen⟩ (fun t σ H'' ht p => ?_) (fun σ H'' p => ?_)
      · obtain ⟨y3', y4', rfl, e3, vs, hvs, hal, hsm, hlen⟩ := p
        have ed : V.int (1 + (t : Int)) = nV (1 + t) := rfl
        rw [ed]
        have hr2 : (List.range' 1 (t + 1)).foldl (fun fd d => if Nat.gcd k d == 1 then insR fd (k, d) else fd) fd0 = (if Nat.gcd k (1 + t) == 1 then insR ((List.range' 1 t).foldl (fun fd d => if Nat.gcd k d == 1 then insR fd (k, d) else fd) fd0) (k, 1 + t) else (List.range' 1 t).foldl (fun fd d => if Nat.gcd k d == 1 then insR fd (k, d) else fd) fd0) := by
          rw [List.range'_1_concat, List.foldl_append]
          rfl
        generalize hfd1 : (List.range' 1 t).foldl (fun fd d => if Nat.gcd k d == 1 then insR fd (k, d) else fd) fd0 = fd at hal hsm hr2
        generalize hdd : 1 + t = d at hr2
        have hd5 : d ≤ 5 := by omega
        refine ⟨nV k, rfl, nV d, rfl, k, d, rfl, fun H4 e4 => ⟨rfl, _, rfl, ?_⟩⟩
        have eg : decide (nV (Nat.gcd k d) = V.int 1) = (Nat.gcd k d == 1) := by
          rw [Bool.eq_iff_iff, decide_eq_true_iff, beq_iff_eq]
          constructor
          · intro z
            have := V.int.inj z
            omega
          · intro z
            rw [z]
            rfl
        rw [eg]
        have hvs4 := e4 _ _ hvs
        have hal4 := hal.imp (S := fun v (r : Nat × Nat) => IsInts H4 v [r.1, r.2]) fun v r z => IsInts.up e4 z
        cases hg1 : (Nat.gcd k d == 1) with
        | false =>
          refine iteF ⟨_, _, rfl, Ex.tr e3 e4, vs, hvs4, ?_, ?_, by omega⟩
          · rw [hr2, hg1]
            exact hal4
          · rw [hr2, hg1]
            exact hsm
        | true =>
          refine iteT ?_
          -- at = 0; while ..
          refine Evl.q_while (fun m σ' H5 => ∃ c : Nat, σ' = [some (nV n), some (.ref fo), some (nV k), some (nV d), some (nV c)] ∧ Ex H4 H5 ∧ c ≤ fd.length ∧ m = fd.length - c ∧ fd.takeWhile (fun a => shorter a (k, d)) = fd.take c ++ (fd.drop c).takeWhile (fun a => shorter a (k, d))) fd.length ⟨0, rfl, ex0 _, Nat.zero_le _, rfl, rfl⟩ (fun m2 σ' H5 hW => ?_)
          obtain ⟨c, rfl, e5, hc, rfl, htw⟩ := hW
          have hvs5 := e5 _ _ hvs4
          have hal5 := hal4.imp (S := fun v (r : Nat × Nat) => IsInts H5 v [r.1, r.2]) fun v r z => IsInts.up e5 z
          have hvl := hal.len
          refine ⟨Nat.blt c fd.length && (match fd[c]? with | some a => shorter a (k, d) | none => false), Evl.et_and (Evl.et_test fun H7 e Q q => ?tA) fun hcl => Evl.et_B fun H7 e Q q => ?tB, fun hb H7 e7 => ?yes, fun hb H7 e7 => ?no⟩
          case tA =>
            refine ⟨nV c, rfl, .ref fo, rfl, fo, _, rfl, .inl (sqL (e _ _ hvs5)), (c : Int), _, rfl, rfl, ?_⟩
            show Q (.bl (decide ((c : Int) < ((vs.length : Nat) : Int)))) H7
            rw [hvl, dec_lt]
            exact q _ (ex0 _)
          case tB =>
            rw [Nat.blt_eq] at hcl
            have hfc : fd[c]? = some fd[c] := List.getElem?_eq_getElem hcl
            obtain ⟨x, hx, l, rfl, hl⟩ := hal5.get hfc
            have hmem := hsm fd[c] (List.getElem_mem _)
            refine ⟨.ref fo, rfl, nV c, rfl, fo, _, (c : Int), .ref l, rfl, rfl, sqL (e _ _ hvs5), atI_nat hx, nV k, rfl, nV d, rfl, by show 2 ≤ sizeLine; decide, fun p hp => ?_⟩
            refine ⟨.ref l, .ref p, (fd[c]).1, (fd[c]).2, k, d, rfl, ⟨l, rfl, (Ex.up hp) _ _ (e _ _ hl)⟩, ⟨p, rfl, upd_same⟩, by omega, by omega, by omega, by omega, fun H8 e8 => ?_⟩
            rw [hfc] at q
            exact q _ (Ex.tr (Ex.up hp) e8)
          case yes =>
            rw [Bool.and_eq_true, Nat.blt_eq] at hb
            have hfc : fd[c]? = some fd[c] := List.getElem?_eq_getElem hb.1
            rw [hfc] at hb
            refine ⟨fun σ' H8 => ∃ c' : Nat, c' = c + 1 ∧ σ' = [some (nV n), some (.ref fo), some (nV k), some (nV d), some (nV c')] ∧ Ex H4 H8, ?_, ⟨nV c, rfl, (c : Int), 1, rfl, rfl, c + 1, rfl, rfl, Ex.tr e5 e7⟩⟩
            rintro σ' H8 ⟨c', rfl, h1, h2⟩
            refine ⟨fd.length - (c + 1), by omega, c + 1, h1, h2, by omega, rfl, ?_⟩
            rw [htw, List.take_add_one, hfc, List.drop_eq_getElem_cons hb.1, List.takeWhile_cons, if_pos hb.2, List.append_assoc]
            rfl
          case no =>
            have hct : fd.takeWhile (fun a => shorter a (k, d)) = fd.take c := by
              rw [htw]
              rcases Nat.lt_or_ge c fd.length with z | z
              · rw [List.drop_eq_getElem_cons z, List.takeWhile_cons]
                rw [Bool.and_eq_false_iff] at hb
                have hfc : fd[c]? = some fd[c] := List.getElem?_eq_getElem z
                rw [hfc] at hb
                rcases hb with hb | hb
                · rw [← Bool.not_eq_true, Nat.blt_eq] at hb
                  exact absurd z hb
                · have hb' : shorter fd[c] (k, d) = false := hb
                  rw [if_neg (by rw [hb']; decide), List.append_nil]
              · rw [List.drop_of_length_le z]
                simp
            have hdt : fd.dropWhile (fun a => shorter a (k, d)) = fd.drop c := by
              have h1 : fd.takeWhile (fun a => shorter a (k, d)) ++ fd.dropWhile (fun a => shorter a (k, d)) = fd := List.takeWhile_append_dropWhile
              rw [hct] at h1
              have h2 : fd.take c ++ fd.drop c = fd := List.take_append_drop c fd
              exact List.append_cancel_left (h1.trans h2.symm)
            have hvs7 := e7 _ _ hvs5
            refine ⟨.ref fo, rfl, .inl ⟨rfl, _, .inl (.inl hvs7)⟩, nV c, rfl, nV k, rfl, nV d, rfl, by show 2 ≤ sizeLine; decide, fun p hp => ?_⟩
            have e8 : Ex H7 (upd H7 p (.tup [nV k, nV d])) := Ex.up hp
            have hvs8 := e8 _ _ hvs7
            refine ⟨fo, vs, (c : Int), .ref p, rfl, rfl, hvs8, smallT (by omega), by omega, by omega, ?_⟩
            rw [show ((c : Int)).toNat = c from Int.toNat_natCast c]
            refine ⟨_, _, rfl, fun b o' hb' => ?_, _, upd_same, ?_, ?_, ?_⟩
            · rw [upd_ne (ne_of_none hb' nfo)]
              exact e8 _ _ (e7 _ _ (e5 _ _ (e4 _ _ (e3 _ _ hb'))))
            · rw [hr2, hg1]
              show All2 _ _ (insR fd (k, d))
              unfold insR
              rw [hct, hdt]
              have hal8 : All2 (fun v (r : Nat × Nat) => IsInts (upd (upd H7 p (.tup [nV k, nV d])) fo (.lst (vs.take c ++ [.ref p] ++ vs.drop c))) v [r.1, r.2]) vs fd := hal5.imp fun v r z => stb_ints.up _ _ _ _ _ _ hvs8 (IsInts.up (Ex.tr e7 e8) z)
              rw [show fd.take c ++ (k, d) :: fd.drop c = fd.take c ++ [(k, d)] ++ fd.drop c by simp]
              refine All2.app (All2.app (All2.take c hal8) ⟨?_, trivial⟩) (All2.drop c hal8)
              exact stb_ints.up _ _ _ _ _ _ hvs8 ⟨p, rfl, upd_same⟩
            · rw [hr2, hg1]
              show ∀ r ∈ insR fd (k, d), _
              unfold insR
              intro r hr
              rcases List.mem_append.mp hr with hr | hr
              · exact hsm r ((List.takeWhile_sublist _).subset hr)
              · rcases List.mem_cons.mp hr with e | hr
                · rw [e]
                  exact ⟨by show k < 100; omega, by show d < 100; omega⟩
                · exact hsm r ((List.dropWhile_sublist _).subset hr)
            · rw [List.length_append, List.length_append, List.length_take, List.length_drop, List.length_singleton]
              omega
      · obtain ⟨y3', y4', rfl, e3, vs, hvs, hal, hsm, hlen⟩ := p
        refine ⟨_, _, _, rfl, e3, vs, hvs, ?_, ?_, by omega⟩
        · rw [hr1]
          exact hal
        · rw [hr1]
          exact hsm
    · obtain ⟨y2, y3, y4, rfl, e2, vs, hvs, hal, hsm, hlen⟩ := p
      have e3 : (List.range' 2 (n - 1)).foldl plK [(1, 1)] = plT n := plT_ok hn2 hn5
      rw [e3] at hal
      exact ⟨.ref fo, rfl, q _ _ e2 ⟨fo, vs, rfl, hvs, All2.mapR.mpr hal⟩⟩
/-! ### ties_back -/
abbrev sties_back : Stmt := topS 49
theorem scties_back : FnScope ["web", "found", "place", "one", "other"] ["web"] (defScope sties_back) := ⟨rfl, rfl, rfl, by decide +kernel, rfl, by decide +kernel, by decide +kernel⟩
theorem okties_back (T : Tx K mg "ties_back" sties_back) (B : Bl mg)  : Dn P w K mg base "ties_back" 1 ["web"] spties_back := by
  obtain ⟨f, fd, F, m⟩ := T.ex
  refine ⟨f, fd, m, F.kp, F.binds (fun _ _ _ _ _ _ us hl => match us, hl with | [_], _ => rfl), F.ok scties_back (fun vs H Q E h => ?_) (fun cdv A outer s H vs Q E hr h => ?_)⟩
  · obtain ⟨v, wb, rfl, ⟨a, t, rfl, ha, b, us, rfl, hb, hus⟩, hn, hts, q⟩ := h
    rfl
  · obtain ⟨v, wb, rfl, ⟨a, t, rfl, ha, b, us, rfl, hb, hus⟩, hn, hts, q⟩ := h
    refine ⟨_, (pss_cons (ps_set (i := 1) scties_back.nd rfl (by first | exact Or.inl rfl | exact Or.inr rfl) (pe_lst pa_nil))
      (pss_cons (ps_for PassesOwn.never rfl (pi_range1 (by rfl) B.range_ (pa_cons (pe_ix (ix_tupK K rfl) (pv 0) pe_int (fun _ _ => rfl)) pa_nil)) (pg_name (i := 2) scties_back.nd rfl (by first | exact Or.inl rfl | exact Or.inr rfl))
        (pss_one (ps_expr (pe_bm PySem.F.plainAttrs_list PySem.F.slot_list_append PySem.F.type_list_append mt_append (pv 1) (pa_cons (pe_lc (own := [("one", 3), ("other", 4)]) rfl scties_back.nd (pi_tupK K rfl (pe_ix (ix_tupK K rfl) (pv 0) pe_int (fun _ _ => rfl))) (blkOk_by (N := ["web", "found", "place", "one", "other"]) (sc := defScope sties_back) (by decide +kernel)) (fun _ _ _ _ _ => (pg_tupK K rfl (n := 2) rfl (pgs_cons (pg_name (i := 3) scties_back.nd rfl (by first | exact Or.inl rfl | exact Or.inr rfl)) (pgs_cons (pg_name (i := 4) scties_back.nd rfl (by first | exact Or.inl rfl | exact Or.inr rfl)) pgs_nil)))) (fun _ _ _ _ _ => (pts_one (pt_cmpR op_eq (pv 4) (pv 2) (nomark _)))) (fun _ _ _ _ _ => (pv 3))) pa_nil)))))
      (pss_one (ps_ret (pv 1))))), ?_⟩
    refine ⟨Nat.zero_le _, fun o no => ?_⟩
    have e0 : Ex H (upd H o (.lst [])) := Ex.up no
    refine ⟨.ref a, rfl, a, _, 0, nV wb.n, rfl, rfl, sqT (e0 _ _ ha), at0, (wb.n : Int), rfl, by omega, by omega, ?_⟩
    refine for_range0 (n := wb.n) (fun i σ H' => ∃ y2 y3 y4 : Option V, σ = [some (.ref a), some (.ref o), y2, y3, y4] ∧ Ex H H' ∧ ∃ vs, H' o = some (.lst vs) ∧ All2 (fun v ns => ∃ c, v = .ref c ∧ c ≠ o ∧ H' c = some (.lst (ns.map nV))) vs ((back wb).take i)) ⟨none, none, none, rfl, e0, [], upd_same, by rw [List.take_zero]; trivial⟩ (fun i σ H' hi p => ?_) (fun σ H' p => ?_)
    · obtain ⟨y2, y3, y4, rfl, e, vs, ho, hvs⟩ := p
      refine ⟨.ref o, rfl, .inl ⟨rfl, _, .inl (.inl ho)⟩, .ref a, rfl, a, _, 1, .ref b, rfl, rfl, sqT (e _ _ ha), at1, b, rfl, ⟨us, sqT (e _ _ hb)⟩, fun D hD => lc_tupD (xs := us) (stb_val nV) (fun j => ((wb.ts.take j).filter fun t => t.2 == i).map (·.1)) (e _ _ hb) hD rfl (fun j _ => ?_) (fun j z H2 QY QN hj e2 hY hN => ?_) (fun H2 acc e2 hD2 hacc => ?_)⟩
      · rw [List.length_map]
        exact Nat.le_trans fil_len (by omega)
      · obtain ⟨t, ht, f, rfl, hf⟩ := hus.get' hj
        have hf2 := e2 _ _ (e _ _ hf)
        refine ⟨f, _, rfl, sqT hf2, rfl, nV t.1, [nV t.2], rfl, nV t.2, [], rfl, rfl, rfl, nV t.2, rfl, nV i, rfl, rfl, _, rfl, ?_⟩
        have e3 : decide (nV t.2 = nV i) = (t.2 == i) := by
          rw [Bool.eq_iff_iff, decide_eq_true_iff, beq_iff_eq]
          constructor
          · intro z
            have := V.int.inj z
            omega
          · intro z
            rw [z]
        rw [e3]
        cases hti : (t.2 == i) with
        | true => exact iteT ⟨nV t.1, rfl, hY _ _ t.1 (ex0 _) rfl (out_yes ht hti)⟩
        | false => exact iteF (hN _ (ex0 _) (out_no ht hti))
      · have hlus := hus.len
        rw [take_all (by rw [hlus])] at hacc
        have ho2 := e2 _ _ ho
        have hDo : D ≠ o := fun z => by
          rw [z, ho] at hD
          cases hD
        refine ⟨o, vs, .ref D, rfl, rfl, ho2, ?_, ?_⟩
        · rw [hvs.len, List.length_take]
          exact smallT (by omega)
        refine ⟨_, _, _, rfl, fun b' o' hb' => ?_, vs ++ [.ref D], upd_same, ?_⟩
        · rw [upd_ne (ne_of_none hb' no)]
          exact e2 _ _ (e _ _ hb')
        · have hbi : (back wb)[i]? = some ((wb.ts.filter fun t => t.2 == i).map (·.1)) := by
            unfold back
            rw [List.getElem?_map, range_get hi]
            rfl
          rw [List.take_add_one, hbi]
          refine All2.app (hvs.imp fun v ns hv => ?_) ⟨⟨D, rfl, hDo, ?_⟩, trivial⟩
          · obtain ⟨c, h1, h2, h3⟩ := hv
            exact ⟨c, h1, h2, by rw [upd_ne h2]; exact e2 _ _ h3⟩
          · rw [upd_ne hDo, hD2, hacc.map_eq]
    · obtain ⟨y2, y3, y4, rfl, e, vs, ho, hvs⟩ := p
      rw [take_all (by unfold back; rw [List.length_map, List.length_range])] at hvs
      exact ⟨.ref o, rfl, q _ _ e ⟨o, vs, rfl, ho, hvs.imp fun v ns hv => let ⟨c, h1, _, h3⟩ := hv; ⟨c, h1, h3⟩⟩⟩
/-! ### has_threes -/
abbrev shas_threes : Stmt := topS 51
theorem schas_threes : FnScope ["web", "one", "other", "place"] ["web"] (defScope shas_threes) := ⟨rfl, rfl, rfl, by decide +kernel, rfl, by decide +kernel, by decide +kernel⟩
theorem okhas_threes (T : Tx K mg "has_threes" shas_threes) (B : Bl mg)  : Dn P w K mg base "has_threes" 1 ["web"] sphas_threes := by
  obtain ⟨f, fd, F, m⟩ := T.ex
  refine ⟨f, fd, m, F.kp, F.binds (fun _ _ _ _ _ _ us hl => match us, hl with | [_], _ => rfl), F.ok schas_threes (fun vs H Q E h => ?_) (fun cdv A outer s H vs Q E hr h => ?_)⟩
  · obtain ⟨v, wb, rfl, hv, hn, q⟩ := h
    rfl
  · obtain ⟨v, wb, rfl, hv, hn, q⟩ := h
    refine ⟨_, (pss_cons (ps_for PassesOwn.never rfl (pi_tupK K rfl (pe_ix (ix_tupK K rfl) (pv 0) pe_int (fun _ _ => rfl))) (pg_tupK K rfl (n := 2) rfl (pgs_cons (pg_name (i := 1) schas_threes.nd rfl (by first | exact Or.inl rfl | exact Or.inr rfl)) (pgs_cons (pg_name (i := 2) schas_threes.nd rfl (by first | exact Or.inl rfl | exact Or.inr rfl)) pgs_nil)))
        (pss_one (ps_if (pt_cmpR (op_neDK K rfl hr.units) (pe_lc (own := [("place", 3)]) rfl schas_threes.nd (pi_range1 (by rfl) B.range_ (pa_cons (pe_ix (ix_tupK K rfl) (pv 0) pe_int (fun _ _ => rfl)) pa_nil)) (blkOk_by (N := ["web", "one", "other", "place"]) (sc := defScope shas_threes) (by decide +kernel)) (fun _ _ _ _ _ => (pg_name (i := 3) schas_threes.nd rfl (by first | exact Or.inl rfl | exact Or.inr rfl))) (fun _ _ _ _ _ => (pts_one (PW.pt (pw_and (pt_cmpR (op_inTK K rfl (units65 hr)) (pe_tup (pa_cons (pv 1) (pa_cons (pv 3) pa_nil))) (pe_ix (ix_tupK K rfl) (pv 0) pe_int (fun _ _ => rfl)) (by rfl)) (pw_and1 (pt_cmpR (op_inTK K rfl (units65 hr)) (pe_tup (pa_cons (pv 2) (pa_cons (pv 3) pa_nil))) (pe_ix (ix_tupK K rfl) (pv 0) pe_int (fun _ _ => rfl)) (by rfl))))))) (fun _ _ _ _ _ => (pv 3))) (pe_lst pa_nil) (nomark _))
          (pss_one (ps_ret pe_bl))
          pss_nil)))
      (pss_one (ps_ret pe_bl))), ?_⟩
    obtain ⟨a, t, rfl, ha, b, us, rfl, hb, hus⟩ := id hv
    have hti : ∀ H', Ex H H' → IsTies H' (.ref b) wb.ts := fun H' e => IsTies.up e ⟨b, us, rfl, hb, hus⟩
    have hsh : SeqAt.shaped (.tuple (wb.ts.map fun t => dT [t.1, t.2])) = true := by
      have := ties_shaped (wb.ts.map fun t => [t.1, t.2])
      rwa [List.map_map] at this
    refine ⟨.ref a, rfl, a, _, 1, .ref b, rfl, rfl, sqT ha, at1, b, rfl, ⟨us, sqT hb⟩, for_tup (xs := us) (fun i σ H' => ∃ y1 y2 y3 : Option V, σ = [some (.ref a), y1, y2, y3] ∧ Ex H H' ∧ ((wb.ts.take i).any fun t => !((List.range wb.n).filter fun p => has wb.ts t.1 p && has wb.ts t.2 p).isEmpty) = false) ⟨none, none, none, rfl, ex0 _, rfl⟩ (fun i σ H' _ p => ?_) (fun i z σ H' hi p => ?_) (fun σ H' p => ?_)⟩
    · obtain ⟨y1, y2, y3, rfl, e, _⟩ := p
      exact sqT (e _ _ hb)
    · obtain ⟨y1, y2, y3, rfl, e, hno⟩ := p
      obtain ⟨t, ht, f, rfl, hf⟩ := hus.get' hi
      refine ⟨f, _, rfl, sqT (e _ _ hf), rfl, nV t.1, [nV t.2], rfl, nV t.2, [], rfl, rfl, ?_⟩
      refine ⟨.ref a, rfl, a, _, 0, nV wb.n, rfl, rfl, sqT (e _ _ ha), at0, (wb.n : Int), rfl, by omega, by omega, fun D hD => lc_range0 (n := wb.n) (stb_val nV) (fun j => ((List.range wb.n).take j).filter fun p => has wb.ts t.1 p && has wb.ts t.2 p) hD rfl (fun j hj => ?_) (fun j H2 QY QN hj e2 hY hN => ?_) (fun H2 acc e2 hD2 hacc => ?_)⟩
      · exact Nat.le_trans fil_len (by rw [List.length_range]; omega)
      · have inT : ∀ (x : Nat) (p : Addr) (H3 : Hp), Ex H2 H3 → H3 p = some (.tup [nV x, nV j]) → ∀ Q : VK, Q (.bl (has wb.ts x j)) H3 → rInT K (.ref p) (.ref b) H3 Q := fun x p H3 e3 hp Q hQ => by
          refine ⟨dT [x, j], _, IsInts.dp ⟨p, rfl, hp⟩, (hti H3 (Ex.tr e (Ex.tr e2 e3))).dp, dT_shaped _, hsh, ?_⟩
          rw [any_has]
          exact hQ
        refine ⟨rfl, nV t.1, rfl, nV j, rfl, by show 2 ≤ sizeLine; decide, fun p hp => ?_⟩
        have e3 : Ex H2 (upd H2 p (.tup [nV t.1, nV j])) := Ex.up hp
        refine ⟨.ref a, rfl, a, _, 1, .ref b, rfl, rfl, sqT (e3 _ _ (e2 _ _ (e _ _ ha))), at1, inT t.1 p _ e3 upd_same _ ⟨_, rfl, ?_⟩⟩
        cases h1 : has wb.ts t.1 j with
        | false => exact iteF (hN _ e3 (fil_no (range_get hj) (by rw [h1]; rfl)))
        | true =>
          refine iteT ⟨nV t.2, rfl, nV j, rfl, by show 2 ≤ sizeLine; decide, fun p2 hp2 => ?_⟩
          have e4 := Ex.tr e3 (Ex.up (o := .tup [nV t.2, nV j]) hp2)
          refine ⟨.ref a, rfl, a, _, 1, .ref b, rfl, rfl, sqT (e4 _ _ (e2 _ _ (e _ _ ha))), at1, inT t.2 p2 _ e4 upd_same _ ⟨_, rfl, ?_⟩⟩
          cases h2 : has wb.ts t.2 j with
          | false => exact iteF (hN _ e4 (fil_no (range_get hj) (by rw [h1, h2]; rfl)))
          | true => exact iteT ⟨nV j, rfl, hY _ _ j e4 rfl (fil_yes (range_get hj) (by rw [h1, h2]; rfl))⟩
      · rw [take_all (by rw [List.length_range])] at hacc
        refine ⟨Nat.zero_le _, fun l hl => ?_⟩
        have e3 : Ex H2 (upd H2 l (.lst [])) := Ex.up hl
        refine ⟨.list (((List.range wb.n).filter fun p => has wb.ts t.1 p && has wb.ts t.2 p).map dI), .list [], .lst (sqL (e3 _ _ hD2)) (by rw [hacc.map_eq]; exact dp_nat _), .lst (sqL upd_same) .nil, intl_shaped _, intl_shaped [], _, rfl, ?_⟩
        rw [eqv_nil]
        cases hem : ((List.range wb.n).filter fun p => has wb.ts t.1 p && has wb.ts t.2 p).isEmpty with
        | true =>
          refine iteF ⟨_, _, _, rfl, Ex.tr e (Ex.tr e2 e3), ?_⟩
          rw [List.take_add_one, ht, List.any_append, hno, Bool.false_or]
          show (!(((List.range wb.n).filter fun p => has wb.ts t.1 p && has wb.ts t.2 p).isEmpty) || false) = false
          rw [hem]
          rfl
        | false =>
          refine iteT ?_
          have eT : hasThrees wb = true := by
            unfold hasThrees
            rw [List.any_eq_true]
            exact ⟨t, List.mem_of_getElem? ht, by rw [hem]; rfl⟩
          rw [eT] at q
          exact q _ (Ex.tr e (Ex.tr e2 e3))
    · obtain ⟨y1, y2, y3, rfl, e, hno⟩ := p
      rw [take_all hus.len] at hno
      have eT : hasThrees wb = false := hno
      rw [eT] at q
      exact q _ e
/-! ### apart -/
abbrev sapart : Stmt := topS 17
theorem scapart : FnScope ["spots", "one", "other"] ["spots", "one", "other"] (defScope sapart) := ⟨rfl, rfl, rfl, by decide +kernel, rfl, by decide +kernel, by decide +kernel⟩
theorem okapart (T : Tx K mg "apart" sapart) (B : Bl mg)  : Dn P w K mg base "apart" 1 ["spots", "one", "other"] spapart := by
  obtain ⟨f, fd, F, m⟩ := T.ex
  refine ⟨f, fd, m, F.kp, F.binds (fun _ _ _ _ _ _ us hl => match us, hl with | [_, _, _], _ => rfl), F.ok scapart (fun vs H Q E h => ?_) (fun cdv A outer s H vs Q E hr h => ?_)⟩
  · obtain ⟨k, a, b, rfl, ha, hb, q⟩ := h
    rfl
  · obtain ⟨k, a, b, rfl, ha, hb, q⟩ := h
    refine ⟨_, (pss_one (ps_ret (pe_callB (call_min2 rfl) (by rfl) B.min_ (by decide +kernel) (pa_cons (pe_op op_mod (pe_op op_sub (pv 1) (pv 2)) (pv 0)) (pa_cons (pe_op op_mod (pe_op op_sub (pv 2) (pv 1)) (pv 0)) pa_nil))))), ?_⟩
    have e1 : ((a : Int) - (b : Int)) % (k : Int) = (((a + k - b) % k : Nat) : Int) := by
      rw [Int.natCast_emod, Int.natCast_sub (by omega), Int.natCast_add, show ((a : Int) + k - b) = (a - b) + k by omega, Int.add_emod_right]
    have e2 : ((b : Int) - (a : Int)) % (k : Int) = (((b + k - a) % k : Nat) : Int) := by
      rw [Int.natCast_emod, Int.natCast_sub (by omega), Int.natCast_add, show ((b : Int) + k - a) = (b - a) + k by omega, Int.add_emod_right]
    refine ⟨nV a, rfl, nV b, rfl, (a : Int), (b : Int), rfl, rfl, nV k, rfl, ((a : Int) - (b : Int)), (k : Int), rfl, rfl, by show (0 : Int) < (k : Int); omega, ?_⟩
    refine ⟨nV b, rfl, nV a, rfl, (b : Int), (a : Int), rfl, rfl, nV k, rfl, ((b : Int) - (a : Int)), (k : Int), rfl, rfl, by show (0 : Int) < (k : Int); omega, _, _, rfl, ?_⟩
    rw [e1, e2]
    have e3 : (if (((b + k - a) % k : Nat) : Int) < (((a + k - b) % k : Nat) : Int) then (((b + k - a) % k : Nat) : Int) else (((a + k - b) % k : Nat) : Int)) = ((ap k a b : Nat) : Int) := by
      unfold ap
      split <;> omega
    rw [e3]
    exact q _ (ex0 _)
/-! ### fits -/
abbrev sfits : Stmt := topS 50
theorem scfits : FnScope ["ring", "back", "row", "place", "spot", "one"] ["ring", "back", "row", "place", "spot"] (defScope sfits) := ⟨rfl, rfl, rfl, by decide +kernel, rfl, by decide +kernel, by decide +kernel⟩
theorem okfits (T : Tx K mg "fits" sfits) (B : Bl mg) (Dapart : Dn P w K mg base "apart" 1 ["spots", "one", "other"] spapart) : Dn P w K mg base "fits" 2 ["ring", "back", "row", "place", "spot"] spfits := by
  obtain ⟨f, fd, F, m⟩ := T.ex
  refine ⟨f, fd, m, F.kp, F.binds (fun _ _ _ _ _ _ us hl => match us, hl with | [_, _, _, _, _], _ => rfl), F.ok scfits (fun vs H Q E h => ?_) (fun cdv A outer s H vs Q E hr h => ?_)⟩
  · obtain ⟨u, b, r, k, d, bk, row, p, s, rfl, ⟨z, rfl, hz⟩, ⟨c, vs, rfl, hc, hvs⟩, hrow, hp, hbl, ho, hk, hs, q⟩ := h
    rfl
  · obtain ⟨u, b, r, k, d, bk, row, p, s, rfl, ⟨z, rfl, hz⟩, ⟨c, vs, rfl, hc, hvs⟩, hrow, hp, hbl, ho, hk, hs, q⟩ := h
    refine ⟨_, (pss_one (ps_ret (pe_callB (cr_all rfl) (by rfl) B.all_ (by decide +kernel) (pa_cons (pe_lc (own := [("one", 5)]) rfl scfits.nd (pi_listK K rfl (pe_ix (ix_listK K rfl) (pv 1) (pv 3) (fun _ _ => rfl))) (blkOk_by (N := ["ring", "back", "row", "place", "spot", "one"]) (sc := defScope sfits) (by decide +kernel)) (fun _ _ _ _ _ => (pg_name (i := 5) scfits.nd rfl (by first | exact Or.inl rfl | exact Or.inr rfl))) (fun _ _ _ _ _ => pts_nil) (fun _ _ _ _ _ => (pe_cmpR op_ge (pe_d Dapart (hr.mono (by decide)) rfl (pa_cons (pe_ix (ix_tupK K rfl) (pv 0) pe_int (fun _ _ => rfl)) (pa_cons (pe_ix (ix_seqK K rfl) (pv 2) (pv 5) (fun _ _ => rfl)) (pa_cons (pv 4) pa_nil)))) (pe_ix (ix_tupK K rfl) (pv 0) pe_int (fun _ _ => rfl)) (nomark _)))) pa_nil)))), ?_⟩
    obtain ⟨x, hx, l, rfl, hl⟩ := hvs.get (i := p) (b := bk.getD p []) (by rw [List.getD_eq_getElem?_getD, List.getElem?_eq_getElem hp]; rfl)
    refine ⟨.ref c, rfl, nV p, rfl, c, vs, (p : Int), .ref l, rfl, rfl, sqL hc, atI_nat hx, l, rfl, ⟨_, sqL hl⟩, fun D hD => lc_listD (xs := (bk.getD p []).map nV) (stb_val V.bl) (fun i => ((bk.getD p []).take i).map fun o => Nat.ble d (ap k (hg row o) s)) hl hD rfl (fun i _ => ?_) (fun i y H2 QY QN hi e hY _ => ?_) (fun H2 acc e hD2 hacc => ?_)⟩
    · rw [List.length_map, List.length_take]
      omega
    · obtain ⟨n, hn, rfl⟩ := nV_get hi
      have hnr := ho n (List.mem_of_getElem? hn)
      have hz2 := e _ _ hz
      have hk1 : hg row n < k := hk _ (by rw [hg_at hnr]; exact List.getElem_mem _)
      refine ⟨rfl, .ref z, rfl, z, _, 0, nV k, rfl, rfl, sqT hz2, at0, r, rfl, nV n, rfl, ?_⟩
      have fin : ∀ H3, Ex H2 H3 → rIxT K (.ref z) (.int 1) H3 (fun y H4 => ∃ i j, nV (ap k (hg row n) s) = .int i ∧ y = .int j ∧ QY (.bl (decide (j ≤ i))) H4) := fun H3 e3 => by
        refine ⟨z, _, 1, nV d, rfl, rfl, sqT (e3 _ _ hz2), at1, _, _, rfl, rfl, ?_⟩
        refine hY _ _ (Nat.ble d (ap k (hg row n) s)) e3 ?_ (out_map hn)
        congr 1
        rw [Bool.eq_iff_iff, Nat.ble_eq, decide_eq_true_iff]
        omega
      rcases hrow with ⟨y, rfl, hy⟩ | ⟨y, rfl, hy⟩
      · exact .inr (.inl ⟨y, _, (n : Int), nV (hg row n), rfl, rfl, sqT (e _ _ hy), at_hg hnr, nV s, rfl, k, hg row n, s, rfl, hk1, hs, fun H3 e3 => ⟨.ref z, rfl, fin H3 e3⟩⟩)
      · exact .inl ⟨y, _, (n : Int), nV (hg row n), rfl, rfl, sqL (e _ _ hy), at_hg hnr, nV s, rfl, k, hg row n, s, rfl, hk1, hs, fun H3 e3 => ⟨.ref z, rfl, fin H3 e3⟩⟩
    · rw [List.length_map, take_all rfl] at hacc
      refine ⟨D, _, rfl, sqL (by rw [hD2, hacc.map_eq]), ?_⟩
      have e1 : ((bk.getD p []).map fun o => Nat.ble d (ap k (hg row o) s)).all id = fits k d bk row p s := by
        unfold fits
        rw [List.all_map]
        rfl
      rw [e1]
      exact q _ e
/-! ### first_row -/
abbrev sfirst_row : Stmt := topS 52
theorem scfirst_row : FnScope ["web", "ring", "known", "back", "place", "loose", "row", "spot", "last", "tie"] ["web", "ring", "known"] (defScope sfirst_row) := ⟨rfl, rfl, rfl, by decide +kernel, rfl, by decide +kernel, by decide +kernel⟩
theorem okfirst_row (T : Tx K mg "first_row" sfirst_row) (B : Bl mg) (Dties_back : Dn P w K mg base "ties_back" 1 ["web"] spties_back) (Dhas_threes : Dn P w K mg base "has_threes" 1 ["web"] sphas_threes) (Dfits : Dn P w K mg base "fits" 2 ["ring", "back", "row", "place", "spot"] spfits) : Dn P w K mg base "first_row" 3 ["web", "ring", "known"] spfirst_row := by
  obtain ⟨f, fd, F, m⟩ := T.ex
  refine ⟨f, fd, m, F.kp, F.binds (fun _ _ _ _ _ _ us hl => match us, hl with | [_, _, _], _ => rfl), F.ok scfirst_row (fun vs H Q E h => ?_) (fun cdv A outer s H vs Q E hr h => ?_)⟩
  · obtain ⟨v, u, y, wb, k, d, kn, r, rfl, Tw, ⟨ya, rfl, hya⟩, hkl, hfr, q⟩ := h
    rfl
  · obtain ⟨v, u, y, wb, k, d, kn, r, rfl, Tw, ⟨ya, rfl, hya⟩, hkl, hfr, q⟩ := h
    refine ⟨_, (pss_cons (ps_if (PW.pt (pw_or (PW.pt (pw_and (pt_cmpR (op_neDK K rfl hr.units) (pe_ix (ix_tupK K rfl) (pv 0) pe_int (fun _ _ => rfl)) (pe_tup pa_nil) (nomark _)) (pw_and1 (pt_cmpR op_lt (pe_ix (ix_tupK K rfl) (pv 1) pe_int (fun _ _ => rfl)) (pe_op op_mul pe_int (pe_ix (ix_tupK K rfl) (pv 1) pe_int (fun _ _ => rfl))) (nomark _))))) (pw_or1 (PW.pt (pw_and (pt_cmpR op_lt (pe_ix (ix_tupK K rfl) (pv 1) pe_int (fun _ _ => rfl)) (pe_op op_mul pe_int (pe_ix (ix_tupK K rfl) (pv 1) pe_int (fun _ _ => rfl))) (nomark _)) (pw_and1 (pt_val (pe_d Dhas_threes (hr.mono (by decide)) rfl (pa_cons (pv 0) pa_nil)))))))))
        (pss_one (ps_ret pe_non))
        pss_nil)
      (pss_cons (ps_set (i := 3) scfirst_row.nd rfl (by first | exact Or.inl rfl | exact Or.inr rfl) (pe_d Dties_back (hr.mono (by decide)) rfl (pa_cons (pv 0) pa_nil)))
      (pss_cons (ps_setLc (i := 5) (own := [("place", 4)]) rfl scfirst_row.nd rfl rfl (sw_true rfl rfl rfl (by decide +kernel)) (pi_range1 (by rfl) B.range_ (pa_cons (pe_ix (ix_tupK K rfl) (pv 0) pe_int (fun _ _ => rfl)) pa_nil)) (blkOk_by (N := ["web", "ring", "known", "back", "place", "loose", "row", "spot", "last", "tie"]) (sc := defScope sfirst_row) (by decide +kernel)) (fun _ _ _ _ _ => (pg_name (i := 4) scfirst_row.nd rfl (by first | exact Or.inl rfl | exact Or.inr rfl))) (fun _ _ _ _ _ => (pts_one (pt_cmpR (op_eqDK K rfl hr.units) (pe_lc (own := [("tie", 9)]) rfl scfirst_row.nd (pi_tupK K rfl (pe_ix (ix_tupK K rfl) (pv 0) pe_int (fun _ _ => rfl))) (blkOk_by (N := ["web", "ring", "known", "back", "place", "loose", "row", "spot", "last", "tie"]) (sc := relS (lcSc (asgV (bodyS sfirst_row 2))) (defScope sfirst_row)) (by decide +kernel)) (fun _ _ _ _ _ => (pg_name (i := 9) scfirst_row.nd rfl (by first | exact Or.inl rfl | exact Or.inr rfl))) (fun _ _ _ _ _ => (pts_one (pt_cmpR (op_in_seqK K rfl) (pv 4) (pv 9) (by rfl)))) (fun _ _ _ _ _ => (pv 9))) (pe_lst pa_nil) (nomark _)))) (fun _ _ _ _ _ => (pv 4)))
      (pss_cons (ps_set (i := 6) scfirst_row.nd rfl (by first | exact Or.inl rfl | exact Or.inr rfl) (pe_lst pa_nil))
      (pss_cons (ps_set (i := 7) scfirst_row.nd rfl (by first | exact Or.inl rfl | exact Or.inr rfl) pe_int)
      (pss_cons (ps_while PassesOwn.never (pt_cmpR op_lt (pe_callB (call_lenK K rfl) (by rfl) B.len_ (by decide +kernel) (pa_cons (pv 6) pa_nil)) (pe_ix (ix_tupK K rfl) (pv 0) pe_int (fun _ _ => rfl)) (nomark _))
        (pss_cons (ps_set (i := 4) scfirst_row.nd rfl (by first | exact Or.inl rfl | exact Or.inr rfl) (pe_callB (call_lenK K rfl) (by rfl) B.len_ (by decide +kernel) (pa_cons (pv 6) pa_nil)))
        (pss_cons (ps_while PassesOwn.never (PW.pt (pw_and (pt_cmpR op_lt (pv 7) (pe_ix (ix_tupK K rfl) (pv 1) pe_int (fun _ _ => rfl)) (nomark _)) (pw_and1 (pt_not (PW.pt (pw_and (pt_cmpR (op_in_seqK K rfl) (pe_ix (ix_tupK K rfl) (pv 2) (pv 4) (fun _ _ => rfl)) (pe_tup (pa_cons pe_non (pa_cons (pv 7) pa_nil))) (by rfl)) (pw_and1 (pt_val (pe_d Dfits (hr.mono (by decide)) rfl (pa_cons (pv 1) (pa_cons (pv 3) (pa_cons (pv 6) (pa_cons (pv 4) (pa_cons (pv 7) pa_nil))))))))))))))
          (pss_one (ps_set (i := 7) scfirst_row.nd rfl (by first | exact Or.inl rfl | exact Or.inr rfl) (pe_op op_add (pv 7) pe_int))))
        (pss_one (ps_if (pt_cmpR op_lt (pv 7) (pe_ix (ix_tupK K rfl) (pv 1) pe_int (fun _ _ => rfl)) (nomark _))
          (pss_cons (ps_expr (pe_bm PySem.F.plainAttrs_list PySem.F.slot_list_append PySem.F.type_list_append mt_append (pv 6) (pa_cons (pv 7) pa_nil)))
          (pss_one (ps_set (i := 7) scfirst_row.nd rfl (by first | exact Or.inl rfl | exact Or.inr rfl) pe_int)))
          (pss_one (ps_if (pt_cmpR (op_eqDK K rfl hr.units) (pv 6) (pe_lst pa_nil) (nomark _))
            (pss_one (ps_ret pe_non))
            (pss_cons (ps_set (i := 8) scfirst_row.nd rfl (by first | exact Or.inl rfl | exact Or.inr rfl) (pe_bm0 PySem.F.plainAttrs_list PySem.F.slot_list_pop PySem.F.type_list_pop mt_pop (pv 6)))
            (pss_one (ps_set (i := 7) scfirst_row.nd rfl (by first | exact Or.inl rfl | exact Or.inr rfl) (pe_ifExp (pt_cmpR (op_in_seqK K rfl) (pe_callB (call_lenK K rfl) (by rfl) B.len_ (by decide +kernel) (pa_cons (pv 6) pa_nil)) (pv 5) (by rfl)) (pe_ix (ix_tupK K rfl) (pv 1) pe_int (fun _ _ => rfl)) (pe_op op_add (pv 8) pe_int))))))))))))
      (pss_one (ps_ret (pe_callTy call_tuple_of (by rfl) B.tuple_ (by decide +kernel) (pa_cons (pv 6) pa_nil)))))))))), ?_⟩
    have hn := Tw.W.hi
    have hn0 := Tw.W.lo
    have hd1 := Tw.R.one
    have hdk := Tw.R.le
    have hk24 := Tw.R.most
    obtain ⟨wa, wt, rfl, hwa, hwt⟩ := id Tw.web
    obtain ⟨wta, us, rfl, hwta, hus⟩ := id hwt
    obtain ⟨za, rfl, hza⟩ := id Tw.ring
    have htup : ∀ H', Ex H H' → IsTies H' (.ref wta) wb.ts := fun H' e => hwt.up e
    have hlts : wb.ts.length ≤ 1000 := ties_few Tw.W
    unfold firstRow at hfr
    -- the first test
    refine Evl.q_when (b := (!wb.ts.isEmpty && Nat.blt k (2 * d)) || (Nat.blt k (3 * d) && hasThrees wb)) (Evl.et_or (Evl.et_and (Evl.et_test fun H1 e Q q => ?tA) fun _ => Evl.et_test fun H1 e Q q => ?tB) fun _ => Evl.et_and (Evl.et_test fun H1 e Q q => ?tC) fun _ => Evl.et_B fun H1 e Q q => ?tD) (fun hb H1 e => ?ret) (fun hb H1 e1 => ?go)
    case tA =>
      refine ⟨.ref wa, rfl, wa, _, 1, .ref wta, rfl, rfl, sqT (e _ _ hwa), at1, Nat.zero_le _, fun p hp => ?_⟩
      exact rd_tne (htup _ (Ex.tr e (Ex.up hp))) upd_same (q _ (Ex.up hp))
    case tB =>
      refine ⟨.ref za, rfl, za, _, 0, nV k, rfl, rfl, sqT (e _ _ hza), at0, .ref za, rfl, za, _, 1, nV d, rfl, rfl, sqT (e _ _ hza), at1, 2, (d : Int), rfl, rfl, .inl ⟨by omega, by omega⟩, (k : Int), _, rfl, rfl, ?_⟩
      have := dec_lt2 k 2 d
      show Q (.bl (decide ((k : Int) < ((2 : Nat) : Int) * (d : Int)))) H1
      rw [this]
      exact q _ (ex0 _)
    case tC =>
      refine ⟨.ref za, rfl, za, _, 0, nV k, rfl, rfl, sqT (e _ _ hza), at0, .ref za, rfl, za, _, 1, nV d, rfl, rfl, sqT (e _ _ hza), at1, 3, (d : Int), rfl, rfl, .inl ⟨by omega, by omega⟩, (k : Int), _, rfl, rfl, ?_⟩
      have := dec_lt2 k 3 d
      show Q (.bl (decide ((k : Int) < ((3 : Nat) : Int) * (d : Int)))) H1
      rw [this]
      exact q _ (ex0 _)
    case tD =>
      exact ⟨.ref wa, rfl, .ref wa, wb, rfl, Tw.web.up e, hn, fun H2 e2 => q _ e2⟩
    case ret =>
      rw [if_pos hb] at hfr
      have : r = none := (Option.some.inj hfr).symm
      subst this
      exact q _ e
    rw [if_neg (by rw [hb]; decide)] at hfr
    -- back
    refine ⟨.ref wa, rfl, .ref wa, wb, rfl, Tw.web.up e1, hn, hlts, fun bv H2 e2 hbv => ?_⟩
    have e12 := Ex.tr e1 e2
    -- loose
    refine ⟨.ref wa, rfl, wa, _, 0, nV wb.n, rfl, rfl, sqT (e12 _ _ hwa), at0, (wb.n : Int), rfl, by omega, by omega, fun lo hlo => lc_range0 (n := wb.n) (stb_val nV) (fun j => ((List.range wb.n).take j).filter fun p => (wb.ts.filter fun t => t.1 == p || t.2 == p).isEmpty) hlo rfl (fun j hj => ?_) (fun j H3 QY QN hj e3 hY hN => ?_) (fun H3 acc e3 hlo3 hacc => ?_)⟩
    · exact Nat.le_trans fil_len (by rw [List.length_range]; omega)
    · have e13 := Ex.tr e12 e3
      refine ⟨rfl, .ref wa, rfl, wa, _, 1, .ref wta, rfl, rfl, sqT (e13 _ _ hwa), at1, wta, rfl, ⟨us, sqT (e13 _ _ hwta)⟩, fun D hD => lc_tupD (xs := us) stb_tie (fun i => (wb.ts.take i).filter fun t => t.1 == j || t.2 == j) (e13 _ _ hwta) hD rfl (fun i _ => ?_) (fun i z H4 QY' QN' hi e4 hY' hN' => ?_) (fun H4 acc e4 hD4 hacc => ?_)⟩
      · exact Nat.le_trans fil_len (by omega)
      · obtain ⟨t, ht, f, rfl, hf⟩ := hus.get' hi
        have hf4 := e4 _ _ (e13 _ _ hf)
        refine ⟨rfl, nV j, rfl, .ref f, rfl, f, _, rfl, .inr (sqT hf4), rfl, flat_nat [t.1, t.2], _, rfl, ?_⟩
        show if inV (nV j) ([t.1, t.2].map nV) = true then _ else _
        rw [inV_tie]
        cases hti : (t.1 == j || t.2 == j) with
        | true => exact iteT ⟨.ref f, rfl, hY' _ _ t (ex0 _) ⟨f, rfl, hf4⟩ (fil_yes ht hti)⟩
        | false => exact iteF (hN' _ (ex0 _) (fil_no ht hti))
      · rw [take_all hus.len] at hacc
        refine ⟨Nat.zero_le _, fun l hl => ?_⟩
        have e5 : Ex H4 (upd H4 l (.lst [])) := Ex.up hl
        refine ⟨.list ((wb.ts.filter fun t => t.1 == j || t.2 == j).map fun t => dT [t.1, t.2]), .list [], .lst (sqL (e5 _ _ hD4)) (dp_all2 (fun v t z => IsInts.dp z) (hacc.imp fun v t z => IsInts.up e5 z)), .lst (sqL upd_same) .nil, ?_, rows_shaped [], _, rfl, ?_⟩
        · have := rows_shaped ((wb.ts.filter fun t => t.1 == j || t.2 == j).map fun t => [t.1, t.2])
          rwa [List.map_map] at this
        have e6 : PyData.eqv (.list ((wb.ts.filter fun t => t.1 == j || t.2 == j).map fun t => dT [t.1, t.2])) (.list []) = (wb.ts.filter fun t => t.1 == j || t.2 == j).isEmpty := by
          have := eqv_rnil ((wb.ts.filter fun t => t.1 == j || t.2 == j).map fun t => [t.1, t.2])
          rw [List.map_map] at this
          rw [show ((wb.ts.filter fun t => t.1 == j || t.2 == j).map fun t => dT [t.1, t.2]) = (wb.ts.filter fun t => t.1 == j || t.2 == j).map (dT ∘ fun t => [t.1, t.2]) from rfl, this, List.isEmpty_map]
        rw [e6]
        have e45 := Ex.tr e4 e5
        cases hem : (wb.ts.filter fun t => t.1 == j || t.2 == j).isEmpty with
        | true => exact iteT ⟨nV j, rfl, hY _ _ j e45 rfl (fil_yes (range_get hj) hem)⟩
        | false => exact iteF (hN _ e45 (fil_no (range_get hj) hem))
    rw [take_all (by rw [List.length_range])] at hacc
    have hloose : H3 lo = some (.lst ((loose wb).map nV)) := by rw [hlo3, hacc.map_eq]; rfl
    have e13 := Ex.tr e12 e3
    have hbv3 := hbv.up e3
    -- row = [], spot = 0
    refine ⟨Nat.zero_le _, fun ro nro => ?_⟩
    have e4 : Ex H3 (upd H3 ro (.lst [])) := Ex.up nro
    refine ⟨fun m σ H' => ∃ (row : List Nat) (spot : Nat) (y4 y8 : Option V), σ = [some (.ref wa), some (.ref za), some (.ref ya), some bv, y4, some (.ref lo), some (.ref ro), some (nV spot), y8, none] ∧ Ex H3 H' ∧ H' ro = some (.lst (row.map nV)) ∧ run (frStep wb k d kn) m (row, spot) = some r ∧ (∀ y ∈ row, y < k) ∧ spot ≤ k ∧ row.length ≤ wb.n, ⟨fuel, [], 0, _, _, rfl, e4, upd_same, hfr, by simp, Nat.zero_le _, Nat.zero_le _⟩, ?_⟩
    rintro m σ H5 ⟨row, spot, y4, y8, rfl, e5, hro, hrun, hrow, hspot, hrl⟩
    obtain ⟨m', rfl, hstep⟩ := run_go hrun
    have e15 := Ex.tr e13 e5
    have hlm : (row.map nV).length = row.length := List.length_map ..
    refine ⟨.ref ro, rfl, ro, _, rfl, .inl (sqL hro), .ref wa, rfl, wa, _, 0, nV wb.n, rfl, rfl, sqT (e15 _ _ hwa), at0, _, (wb.n : Int), rfl, rfl, _, rfl, ?_⟩
    rw [hlm, dec_lt]
    cases hlt : Nat.blt row.length wb.n with
    | false =>
      refine iteF ⟨.ref ro, rfl, ro, _, rfl, .inl ⟨sqL hro, fun l hl => ?_⟩⟩
      have hs : frStep wb k d kn (row, spot) = .done (some row) := by
        unfold frStep
        rw [if_neg (by rw [hlt]; decide)]
      rw [hs] at hstep
      rcases hstep with ⟨_, z, _⟩ | z
      · cases z
      · cases z
        exact q _ _ (Ex.tr e15 (Ex.up hl)) ⟨l, rfl, upd_same⟩
    | true =>
      have hrn : row.length < wb.n := by rwa [Nat.blt_eq] at hlt
      refine iteT ⟨fun σ H' => ∃ (row : List Nat) (spot : Nat) (y4 y8 : Option V), σ = [some (.ref wa), some (.ref za), some (.ref ya), some bv, y4, some (.ref lo), some (.ref ro), some (nV spot), y8, none] ∧ Ex H3 H' ∧ H' ro = some (.lst (row.map nV)) ∧ run (frStep wb k d kn) m' (row, spot) = some r ∧ (∀ y ∈ row, y < k) ∧ spot ≤ k ∧ row.length ≤ wb.n, fun σ' H' hN => ⟨m', Nat.lt_succ_self _, hN⟩, ?_⟩
      -- place = len(row)
      refine ⟨.ref ro, rfl, ro, _, rfl, .inl (sqL hro), ?_⟩
      have ew : V.int ((row.map nV).length : Int) = nV row.length := by rw [hlm]
      rw [ew]
      -- the inner while
      refine Evl.q_while (fun m σ H' => ∃ s : Nat, σ = [some (.ref wa), some (.ref za), some (.ref ya), some bv, some (nV row.length), some (.ref lo), some (.ref ro), some (nV s), y8, none] ∧ Ex H3 H' ∧ H' ro = some (.lst (row.map nV)) ∧ s ≤ k ∧ m = k - s ∧ seek (fun s => knOk kn row.length s && fits k d (back wb) row row.length s) (k - s) s = frSeek wb k d kn row spot) (k - spot) ⟨spot, rfl, e5, hro, hspot, rfl, rfl⟩ (fun m2 σ' H6 hW => ?_)
      obtain ⟨s, rfl, e6, hro6, hsk, rfl, hseek⟩ := hW
      have e16 := Ex.tr e13 e6
      refine ⟨Nat.blt s k && !(knOk kn row.length s && fits k d (back wb) row row.length s), Evl.et_and (Evl.et_test fun H7 e Q q => ?tA) fun hs => Evl.et_not (Evl.et_and (Evl.et_test fun H7 e Q q => ?tB) fun _ => Evl.et_B fun H7 e Q q => ?tC), fun hb H7 e7 => ?yes, fun hb H7 e7 => ?no⟩
      case tA =>
        refine ⟨nV s, rfl, .ref za, rfl, za, _, 0, nV k, rfl, rfl, sqT (e _ _ (e16 _ _ hza)), at0, (s : Int), (k : Int), rfl, rfl, ?_⟩
        show Q (.bl (decide ((s : Int) < (k : Int)))) H7
        rw [dec_lt]
        exact q _ (ex0 _)
      case tB =>
        have hkn : ∃ o, kn[row.length]? = some o := ⟨_, List.getElem?_eq_getElem (by omega)⟩
        obtain ⟨o, hkn⟩ := hkn
        refine ⟨.ref ya, rfl, nV row.length, rfl, ya, _, (row.length : Int), oV o, rfl, rfl, sqT (e _ _ (e16 _ _ hya)), atI_nat (by rw [List.getElem?_map, hkn]; rfl), nV s, rfl, by show 2 ≤ sizeLine; decide, fun p hp => ?_⟩
        refine ⟨p, [.non, nV s], rfl, .inr (sqT upd_same), by cases o <;> rfl, rfl, ?_⟩
        show Q (.bl (inV (oV o) [.non, nV s])) _
        rw [inV_knOk hkn]
        exact q _ (Ex.up hp)
      case tC =>
        have hsk' : s < k := by rwa [Nat.blt_eq] at hs
        refine ⟨.ref za, rfl, bv, rfl, .ref ro, rfl, nV row.length, rfl, nV s, rfl, .ref za, bv, .ref ro, k, d, back wb, row, row.length, s, rfl, Tw.ring.up (Ex.tr e16 e), (hbv3.up e6).up e, .inr ⟨ro, rfl, e _ _ hro6⟩, ?_, ?_, ?_, hrow, hsk', fun H8 e8 => q _ e8⟩
        · unfold back
          rw [List.length_map, List.length_range]
          exact hrn
        · rw [back_get hrn, List.length_map]
          exact Nat.le_trans (List.length_filter_le _ _) hlts
        · intro o ho
          rw [back_get hrn] at ho
          obtain ⟨t, ht, rfl⟩ := List.mem_map.mp ho
          rw [List.mem_filter, beq_iff_eq] at ht
          have := Tw.W.T.ties t ht.1
          omega
      case yes =>
        rw [Bool.and_eq_true, Bool.not_eq_true', Nat.blt_eq] at hb
        refine ⟨fun σ H' => ∃ s' : Nat, s' = s + 1 ∧ σ = [some (.ref wa), some (.ref za), some (.ref ya), some bv, some (nV row.length), some (.ref lo), some (.ref ro), some (nV s'), y8, none] ∧ Ex H3 H' ∧ H' ro = some (.lst (row.map nV)), ?_, ?_⟩
        · rintro σ' H8 ⟨s', rfl, h1, h2, h3⟩
          refine ⟨k - (s + 1), by omega, s + 1, h1, h2, h3, by omega, rfl, ?_⟩
          rw [← hseek, seek_at hb.1, if_neg (by rw [hb.2]; decide)]
        · refine ⟨nV s, rfl, (s : Int), 1, rfl, rfl, s + 1, rfl, ?_, Ex.tr e6 e7, e7 _ _ hro6⟩
          rfl
      case no =>
        have hfs : frSeek wb k d kn row spot = s := by
          rw [← hseek]
          rcases Nat.lt_or_ge s k with z | z
          · rw [seek_at z]
            have : (knOk kn row.length s && fits k d (back wb) row row.length s) = true := by
              rw [Bool.and_eq_false_iff] at hb
              rcases hb with hb | hb
              · rw [← Bool.not_eq_true, Nat.blt_eq] at hb
                exact absurd z hb
              · simpa using hb
            rw [if_pos this]
          · exact seek_end z
        have e17 := Ex.tr e16 e7
        have hro7 := e7 _ _ hro6
        -- if spot < ring[0]
        refine ⟨nV s, rfl, .ref za, rfl, za, _, 0, nV k, rfl, rfl, sqT (e17 _ _ hza), at0, (s : Int), (k : Int), rfl, rfl, _, rfl, ?_⟩
        rw [dec_lt]
        cases hsb : Nat.blt s k with
        | true =>
          have hs : frStep wb k d kn (row, spot) = .go (row ++ [s], 0) := by
            unfold frStep
            rw [if_pos hlt]
            simp only [hfs]
            rw [if_pos hsb]
          rw [hs] at hstep
          rcases hstep with ⟨_, z, hrun'⟩ | z
          · cases z
            refine iteT ⟨.ref ro, rfl, .inl ⟨rfl, _, .inl (.inl hro7)⟩, nV s, rfl, ro, _, nV s, rfl, rfl, hro7, smallT (by rw [hlm]; omega), ?_⟩
            refine ⟨row ++ [s], 0, _, _, rfl, fun b' o' hb' => ?_, ?_, hrun', ?_, Nat.zero_le _, by rw [List.length_append]; show row.length + 1 ≤ _; omega⟩
            · rw [upd_ne (ne_of_none hb' nro)]
              exact e7 _ _ (e6 _ _ hb')
            · rw [upd_same, List.map_append]
              rfl
            · intro y hy
              rcases List.mem_append.mp hy with hy | hy
              · exact hrow y hy
              · rw [List.mem_singleton] at hy
                rw [hy]
                rwa [Nat.blt_eq] at hsb
          · cases z
        | false =>
          -- row == []
          refine iteF ⟨.ref ro, rfl, Nat.zero_le _, fun l hl => ?_⟩
          have e8 : Ex H7 (upd H7 l (.lst [])) := Ex.up hl
          refine ⟨.list (row.map dI), .list [], .lst (sqL (e8 _ _ hro7)) (dp_nat row), .lst (sqL upd_same) .nil, intl_shaped _, intl_shaped [], _, rfl, ?_⟩
          rw [eqv_nil]
          cases hem : row.isEmpty with
          | true =>
            have hs : frStep wb k d kn (row, spot) = .done none := by
              unfold frStep
              rw [if_pos hlt]
              simp only [hfs]
              rw [if_neg (by rw [hsb]; decide), if_pos hem]
            rw [hs] at hstep
            rcases hstep with ⟨_, z, _⟩ | z
            · cases z
            · cases z
              exact iteT (q _ (Ex.tr e17 e8))
          | false =>
            have hne : row ≠ [] := fun z => by rw [z] at hem; simp at hem
            have hs : frStep wb k d kn (row, spot) = .go (row.dropLast, if (loose wb).contains row.dropLast.length then k else row.getLastD 0 + 1) := by
              unfold frStep
              rw [if_pos hlt]
              simp only [hfs]
              rw [if_neg (by rw [hsb]; decide), if_neg (by rw [hem]; decide)]
            rw [hs] at hstep
            rcases hstep with ⟨_, z, hrun'⟩ | z
            · cases z
              have hro8 := e8 _ _ hro7
              refine iteF ⟨.ref ro, rfl, .inl ⟨rfl, _, .inl (.inl hro8)⟩, ro, _, _, rfl, rfl, hro8, last_get hne, ?_⟩
              have edl : (row.map nV).dropLast = row.dropLast.map nV := by rw [List.map_dropLast]
              rw [edl]
              have e39 : Ex H3 (upd (upd H7 l (.lst [])) ro (.lst (row.dropLast.map nV))) := fun b' o' hb' => by
                rw [upd_ne (ne_of_none hb' nro)]
                exact e8 _ _ (e7 _ _ (e6 _ _ hb'))
              have e19 := Ex.tr e13 e39
              have hlast : row.getLastD 0 < k := hrow _ (last_mem hne)
              have fin : ∀ s', s' = (if (loose wb).contains row.dropLast.length then k else row.getLastD 0 + 1) → s' ≤ k → ∃ (row' : List Nat) (spot' : Nat) (y4' y8' : Option V), [some (V.ref wa), some (.ref za), some (.ref ya), some bv, some (nV row.length), some (.ref lo), some (.ref ro), some (nV s'), some (nV (row.getLastD 0)), none] = [some (V.ref wa), some (.ref za), some (.ref ya), some bv, y4', some (.ref lo), some (.ref ro), some (nV spot'), y8', none] ∧ Ex H3 (upd (upd H7 l (.lst [])) ro (.lst (row.dropLast.map nV))) ∧ (upd (upd H7 l (.lst [])) ro (.lst (row.dropLast.map nV))) ro = some (.lst (row'.map nV)) ∧ run (frStep wb k d kn) m' (row', spot') = some r ∧ (∀ y ∈ row', y < k) ∧ spot' ≤ k ∧ row'.length ≤ wb.n := fun s' hs' hk' => by
                refine ⟨row.dropLast, s', _, _, rfl, e39, upd_same, by rw [hs']; exact hrun', fun y hy => hrow y (List.dropLast_subset _ hy), hk', ?_⟩
                rw [List.length_dropLast]
                omega
              refine ⟨.ref ro, rfl, ro, _, rfl, .inl (sqL upd_same), .ref lo, rfl, lo, _, rfl, .inl (sqL (e39 _ _ hloose)), rfl, flat_nat _, _, rfl, ?_⟩
              show if inV (V.int (((row.dropLast.map nV).length : Nat) : Int)) ((loose wb).map nV) = true then _ else _
              rw [List.length_map, inV_nat]
              cases hin : (loose wb).contains row.dropLast.length with
              | true =>
                refine iteT ⟨.ref za, rfl, za, _, 0, nV k, rfl, rfl, sqT (e19 _ _ hza), at0, ?_⟩
                exact fin k (by rw [hin]; rfl) (Nat.le_refl _)
              | false =>
                refine iteF ⟨nV (row.getLastD 0), rfl, (row.getLastD 0 : Int), 1, rfl, rfl, ?_⟩
                exact fin (row.getLastD 0 + 1) (by rw [hin]; rfl) hlast
            · cases z
/-! ### least_ring -/
abbrev sleast_ring : Stmt := topS 56
theorem scleast_ring : FnScope ["web", "ring"] ["web"] (defScope sleast_ring) := ⟨rfl, rfl, rfl, by decide +kernel, rfl, by decide +kernel, by decide +kernel⟩
theorem okleast_ring (T : Tx K mg "least_ring" sleast_ring) (B : Bl mg) (Dplain_rings : Dn P w K mg base "plain_rings" 2 ["most"] spplain_rings) (Dfirst_row : Dn P w K mg base "first_row" 3 ["web", "ring", "known"] spfirst_row) : Dn P w K mg base "least_ring" 4 ["web"] spleast_ring := by
  obtain ⟨f, fd, F, m⟩ := T.ex
  refine ⟨f, fd, m, F.kp, F.binds (fun _ _ _ _ _ _ us hl => match us, hl with | [_], _ => rfl), F.ok scleast_ring (fun vs H Q E h => ?_) (fun cdv A outer s H vs Q E hr h => ?_)⟩
  · obtain ⟨v, wb, r, rfl, hv, W, hne, hls, q⟩ := h
    rfl
  · obtain ⟨v, wb, r, rfl, hv, W, hne, hls, q⟩ := h
    refine ⟨_, (pss_cons (ps_if (pt_cmpR (op_eqDK K rfl hr.units) (pe_ix (ix_tupK K rfl) (pv 0) pe_int (fun _ _ => rfl)) (pe_tup pa_nil) (nomark _))
        (pss_one (ps_ret (pe_tup (pa_cons pe_int (pa_cons pe_int pa_nil)))))
        pss_nil)
      (pss_cons (ps_for PassesOwn.never rfl (pi_listK K rfl (pe_slice (sl_listK K rfl) (pe_d Dplain_rings (hr.mono (by decide)) rfl (pa_cons (pe_ix (ix_tupK K rfl) (pv 0) pe_int (fun _ _ => rfl)) pa_nil)) (po_some pe_int) po_none)) (pg_name (i := 1) scleast_ring.nd rfl (by first | exact Or.inl rfl | exact Or.inr rfl))
        (pss_one (ps_if (pt_cmpR op_notN (pe_d Dfirst_row (hr.mono (by decide)) rfl (pa_cons (pv 0) (pa_cons (pv 1) (pa_cons (pe_op (op_catAK K rfl) (pe_tup (pa_cons pe_int pa_nil)) (pe_op op_repA (pe_tup (pa_cons pe_non pa_nil)) (pe_op op_sub (pe_ix (ix_tupK K rfl) (pv 0) pe_int (fun _ _ => rfl)) pe_int))) pa_nil)))) pe_non (nomark _))
          (pss_one (ps_ret (pv 1)))
          pss_nil)))
      (pss_one (ps_ret (pe_tup (pa_cons (pe_ix (ix_tupK K rfl) (pv 0) pe_int (fun _ _ => rfl)) (pa_cons pe_int pa_nil))))))), ?_⟩
    have hn := W.hi
    have hn0 := W.lo
    obtain ⟨wa, wt, rfl, hwa, hwt⟩ := id hv
    obtain ⟨wta, us, rfl, _⟩ := id hwt
    -- if web[1] == ()
    refine ⟨.ref wa, rfl, wa, _, 1, .ref wta, rfl, rfl, sqT hwa, at1, Nat.zero_le _, fun p hp => rd_teq (hwt.up (Ex.up hp)) upd_same ⟨_, rfl, ?_⟩⟩
    have hie : wb.ts.isEmpty = false := by
      cases h : wb.ts with
      | nil => exact absurd h hne
      | cons a b => rfl
    rw [hie]
    have e1 : Ex H (upd H p (.tup [])) := Ex.up hp
    refine iteF ⟨.ref wa, rfl, wa, _, 0, nV wb.n, rfl, rfl, sqT (e1 _ _ hwa), at0, wb.n, rfl, hn0, hn, fun lv H2 e2 hl => ?_⟩
    obtain ⟨la, vs, rfl, hla, hvs⟩ := hl
    have e12 := Ex.tr e1 e2
    refine ⟨1, rfl, la, vs, rfl, sqL hla, fun p2 hp2 => ?_⟩
    have ecut : cutV vs (some 1) none = vs.drop 1 := by
      refine cut_from (k := 1) ?_
      have := hvs.len
      rw [List.length_map] at this
      have h2 : 1 ≤ (plT wb.n).length := by
        have : wb.n = 2 ∨ wb.n = 3 ∨ wb.n = 4 ∨ wb.n = 5 := by omega
        rcases this with e | e | e | e <;> rw [e] <;> decide
      omega
    rw [ecut]
    have e3 : Ex H2 (upd H2 p2 (.lst (vs.drop 1))) := Ex.up hp2
    have e13 := Ex.tr e12 e3
    have hd : All2 (IsInts (upd H2 p2 (.lst (vs.drop 1)))) (vs.drop 1) ((plT wb.n).tail.map fun r => [r.1, r.2]) := by
      have h1 := (All2.drop 1 hvs).imp fun v r z => IsInts.up e3 z
      rw [← List.map_drop, List.drop_one] at h1
      rw [List.drop_one] at h1 ⊢
      exact h1
    refine ⟨p2, rfl, ⟨_, sqL upd_same⟩, for_list (xs := vs.drop 1) (fun j σ H' => ∃ y1 : Option V, σ = [some (.ref wa), y1] ∧ Ex (upd H2 p2 (.lst (vs.drop 1))) H' ∧ leastL wb ((plT wb.n).tail.drop j) = some r) ⟨none, rfl, ex0 _, hls⟩ (fun j σ H' _ p => ?_) (fun j z σ H' hj p => ?_) (fun σ H' p => ?_)⟩
    · obtain ⟨y1, rfl, e4, _⟩ := p
      exact sqL (e4 _ _ upd_same)
    · obtain ⟨y1, rfl, e4, hls'⟩ := p
      have e14 := Ex.tr e13 e4
      obtain ⟨rr, hrr, hz⟩ := hd.get' hj
      rw [List.getElem?_map] at hrr
      obtain ⟨rj, hrj, rfl⟩ := Option.map_eq_some_iff.mp hrr
      have hjl : j < (plT wb.n).tail.length := (List.getElem?_eq_some_iff.mp hrj).1
      have hdr : (plT wb.n).tail.drop j = rj :: (plT wb.n).tail.drop (j + 1) := by
        rw [List.drop_eq_getElem_cons hjl]
        congr 1
        exact (List.getElem?_eq_some_iff.mp hrj).2
      have hsm := plT_small hn0 hn rj (List.mem_of_mem_tail (List.mem_of_getElem? hrj))
      rw [hdr] at hls'
      have hR : ROk rj.1 rj.2 := ⟨hsm.2.1, hsm.2.2, by omega⟩
      have hls2 : (match firstRow wb rj.1 rj.2 (kn0 wb.n) with | some (some _) => some rj | some none => leastL wb ((plT wb.n).tail.drop (j + 1)) | none => none) = some r := hls'
      refine ⟨.ref wa, rfl, z, rfl, ?_⟩
      refine rd_kn0 (w := wb) rfl (hv.up e14) hn0 hn fun c H5 e5 hc => ?_
      have e15 := Ex.tr e14 e5
      cases hfr : firstRow wb rj.1 rj.2 (kn0 wb.n) with
      | none =>
        rw [hfr] at hls2
        cases hls2
      | some o =>
        rw [hfr] at hls2
        refine ⟨.ref wa, z, c, wb, rj.1, rj.2, kn0 wb.n, o, rfl, ⟨hv.up e15, (hz.up e4).up e5, W, hR⟩, hc, kn0_len (by omega), hfr, ?_⟩
        cases o with
        | none =>
          exact fun H6 e6 => ⟨rfl, _, rfl, iteF ⟨_, rfl, Ex.tr e4 (Ex.tr e5 e6), hls2⟩⟩
        | some row =>
          intro x H6 e6 hx
          obtain ⟨xa, rfl, hxa⟩ := hx
          refine ⟨rfl, _, rfl, ?_⟩
          rw [decide_eq_false (show ¬ (V.ref xa = V.non) from fun z => nomatch z)]
          refine iteT ⟨z, rfl, ?_⟩
          have : rj = r := Option.some.inj hls2
          subst this
          exact q _ _ (Ex.tr e15 e6) (((hz.up e4).up e5).up e6)
    · obtain ⟨y1, rfl, e4, hls'⟩ := p
      have hlen : (vs.drop 1).length = (plT wb.n).tail.length := by
        have := hd.len
        rw [List.length_map] at this
        exact this
      rw [hlen, List.drop_of_length_le (Nat.le_refl _)] at hls'
      cases hls'
/-! ### shortest -/
abbrev sshortest : Stmt := topS 57
theorem scshortest : FnScope ["web"] ["web"] (defScope sshortest) := ⟨rfl, rfl, rfl, by decide +kernel, rfl, by decide +kernel, by decide +kernel⟩
theorem okshortest (T : Tx K mg "shortest" sshortest) (B : Bl mg) (Dcheck_web : Dn P w K mg base "check_web" 5 ["web"] spcheck_web) (Dleast_ring : Dn P w K mg base "least_ring" 4 ["web"] spleast_ring) : Dn P w K mg base "shortest" 6 ["web"] spshortest := by
  obtain ⟨f, fd, F, m⟩ := T.ex
  refine ⟨f, fd, m, F.kp, F.binds (fun _ _ _ _ _ _ us hl => match us, hl with | [_], _ => rfl), F.ok scshortest (fun vs H Q E h => ?_) (fun cdv A outer s H vs Q E hr h => ?_)⟩
  · obtain ⟨v, wb, r, rfl, hv, W, hne, hls, q⟩ := h
    rfl
  · obtain ⟨v, wb, r, rfl, hv, W, hne, hls, q⟩ := h
    refine ⟨_, (pss_cons (ps_expr (pe_d Dcheck_web (hr.mono (by decide)) rfl (pa_cons (pv 0) pa_nil)))
      (pss_one (ps_ret (pe_d Dleast_ring (hr.mono (by decide)) rfl (pa_cons (pv 0) pa_nil))))), ?_⟩
    exact ⟨v, rfl, v, wb, rfl, hv, W, fun H1 e1 => ⟨v, rfl, v, wb, r, rfl, hv.up e1, W, hne, hls, fun x H2 e2 hx => q x H2 (Ex.tr e1 e2) hx⟩⟩
/-! ### is_ring -/
abbrev sis_ring : Stmt := topS 15
theorem scis_ring : FnScope ["thing"] ["thing"] (defScope sis_ring) := ⟨rfl, rfl, rfl, by decide +kernel, rfl, by decide +kernel, by decide +kernel⟩
theorem okis_ring (T : Tx K mg "is_ring" sis_ring) (B : Bl mg) (Dis_whole : Dn P w K mg base "is_whole" 1 ["thing"] spis_whole) : Dn P w K mg base "is_ring" 2 ["thing"] spis_ring := by
  obtain ⟨tMOST_SPOTS, hMOST_SPOTS⟩ := B.MOST_SPOTS
  obtain ⟨f, fd, F, m⟩ := T.ex
  refine ⟨f, fd, m, F.kp, F.binds (fun _ _ _ _ _ _ us hl => match us, hl with | [_], _ => rfl), F.ok scis_ring (fun vs H Q E h => ?_) (fun cdv A outer s H vs Q E hr h => ?_)⟩
  · obtain ⟨v, k, d, rfl, ⟨a, rfl, ha⟩, ⟨r1, r2, r3⟩, q⟩ := h
    rfl
  · obtain ⟨v, k, d, rfl, ⟨a, rfl, ha⟩, ⟨r1, r2, r3⟩, q⟩ := h
    refine ⟨_, (pss_cons (ps_if (PW.pt (pw_or (pt_not (pt_val (pe_callB call_isi (by rfl) B.isinstance_ (by decide +kernel) (pa_cons (pv 0) (pa_cons (pe_bltn (v := .ty "tuple") (by rfl) B.tuple_ (by decide +kernel) rfl) pa_nil))))) (pw_or (pt_cmpR op_ne (pe_callB (call_lenK K rfl) (by rfl) B.len_ (by decide +kernel) (pa_cons (pv 0) pa_nil)) pe_int (nomark _)) (pw_or (pt_not (pt_val (pe_d Dis_whole (hr.mono (by decide)) rfl (pa_cons (pe_ix (ix_tupK K rfl) (pv 0) pe_int (fun _ _ => rfl)) pa_nil)))) (pw_or1 (pt_not (pt_val (pe_d Dis_whole (hr.mono (by decide)) rfl (pa_cons (pe_ix (ix_tupK K rfl) (pv 0) pe_int (fun _ _ => rfl)) pa_nil)))))))))
        (pss_one (ps_ret pe_bl))
        pss_nil)
      (pss_one (ps_ret (pe_chain3 op_le op_le op_le pe_int (pe_ix (ix_tupK K rfl) (pv 0) pe_int (fun _ _ => rfl)) (pe_ix (ix_tupK K rfl) (pv 0) pe_int (fun _ _ => rfl)) (pe_glob (v := .int 24) rfl hMOST_SPOTS ⟨_, rfl⟩))))), ?_⟩
    refine ⟨.ref a, rfl, .ref a, .ty "tuple", .type "tuple", .type "tuple", true, rfl, .ty _, .base (.tup ha), kit_ty (by decide +kernel), true, rfl, iteF ?_⟩
    refine ⟨.ref a, rfl, a, _, rfl, .inr (sqT ha), rfl, _, rfl, iteNS rfl ?_⟩
    refine ⟨.ref a, rfl, a, _, 0, nV k, rfl, rfl, sqT ha, at0, (k : Int), rfl, fun H1 e1 => ⟨true, rfl, iteF ?_⟩⟩
    have ha1 := e1 _ _ ha
    refine ⟨.ref a, rfl, a, _, 1, nV d, rfl, rfl, sqT ha1, at1, (d : Int), rfl, fun H2 e2 => ⟨true, rfl, iteF ?_⟩⟩
    have ha2 := e2 _ _ ha1
    refine ⟨.ref a, rfl, a, _, 1, nV d, rfl, rfl, sqT ha2, at1, 1, (d : Int), rfl, rfl, _, rfl, ?_⟩
    rw [decide_eq_true (show (1 : Int) ≤ (d : Int) by omega)]
    refine iteT ⟨.ref a, rfl, a, _, 0, nV k, rfl, rfl, sqT ha2, at0, (d : Int), (k : Int), rfl, rfl, _, rfl, ?_⟩
    rw [decide_eq_true (show (d : Int) ≤ (k : Int) by omega)]
    refine iteT ⟨(k : Int), 24, rfl, rfl, ?_⟩
    show Q (.bl (decide ((k : Int) ≤ 24))) H2
    rw [decide_eq_true (show (k : Int) ≤ 24 by omega)]
    exact q _ (Ex.tr e1 e2)
/-! ### check_ring -/
abbrev scheck_ring : Stmt := topS 16
theorem sccheck_ring : FnScope ["ring"] ["ring"] (defScope scheck_ring) := ⟨rfl, rfl, rfl, by decide +kernel, rfl, by decide +kernel, by decide +kernel⟩
theorem okcheck_ring (T : Tx K mg "check_ring" scheck_ring) (B : Bl mg) (Dis_ring : Dn P w K mg base "is_ring" 2 ["thing"] spis_ring) : Dn P w K mg base "check_ring" 3 ["ring"] spcheck_ring := by
  obtain ⟨f, fd, F, m⟩ := T.ex
  refine ⟨f, fd, m, F.kp, F.binds (fun _ _ _ _ _ _ us hl => match us, hl with | [_], _ => rfl), F.ok sccheck_ring (fun vs H Q E h => ?_) (fun cdv A outer s H vs Q E hr h => ?_)⟩
  · obtain ⟨v, k, d, rfl, hv, hr1, q⟩ := h
    rfl
  · obtain ⟨v, k, d, rfl, hv, hr1, q⟩ := h
    refine ⟨_, (pss_one (ps_if (pt_not (pt_val (pe_d Dis_ring (hr.mono (by decide)) rfl (pa_cons (pv 0) pa_nil))))
        (pss_one ps_never)
        pss_nil)), ?_⟩
    refine ⟨v, rfl, v, k, d, rfl, hv, hr1, fun H1 e1 => ⟨true, rfl, iteF ?_⟩⟩
    exact q _ e1
/-! ### check_both -/
abbrev scheck_both : Stmt := topS 31
theorem sccheck_both : FnScope ["web", "ring"] ["web", "ring"] (defScope scheck_both) := ⟨rfl, rfl, rfl, by decide +kernel, rfl, by decide +kernel, by decide +kernel⟩
theorem okcheck_both (T : Tx K mg "check_both" scheck_both) (B : Bl mg) (Dcheck_web : Dn P w K mg base "check_web" 5 ["web"] spcheck_web) (Dcheck_ring : Dn P w K mg base "check_ring" 3 ["ring"] spcheck_ring) : Dn P w K mg base "check_both" 6 ["web", "ring"] spcheck_both := by
  obtain ⟨f, fd, F, m⟩ := T.ex
  refine ⟨f, fd, m, F.kp, F.binds (fun _ _ _ _ _ _ us hl => match us, hl with | [_, _], _ => rfl), F.ok sccheck_both (fun vs H Q E h => ?_) (fun cdv A outer s H vs Q E hr h => ?_)⟩
  · obtain ⟨v, u, wb, k, d, rfl, Tw, q⟩ := h
    rfl
  · obtain ⟨v, u, wb, k, d, rfl, Tw, q⟩ := h
    refine ⟨_, (pss_cons (ps_expr (pe_d Dcheck_web (hr.mono (by decide)) rfl (pa_cons (pv 0) pa_nil)))
      (pss_one (ps_expr (pe_d Dcheck_ring (hr.mono (by decide)) rfl (pa_cons (pv 1) pa_nil))))), ?_⟩
    exact ⟨v, rfl, v, wb, rfl, Tw.web, Tw.W, fun H1 e1 => ⟨u, rfl, u, k, d, rfl, Tw.ring.up e1, Tw.R, fun H2 e2 => q _ (Ex.tr e1 e2)⟩⟩
/-! ### are_numbers_of -/
abbrev sare_numbers_of : Stmt := topS 11
theorem scare_numbers_of : FnScope ["thing", "size", "many", "one"] ["thing", "size", "many"] (defScope sare_numbers_of) := ⟨rfl, rfl, rfl, by decide +kernel, rfl, by decide +kernel, by decide +kernel⟩
theorem okare_numbers_of (T : Tx K mg "are_numbers_of" sare_numbers_of) (B : Bl mg) (Dis_number_of : Dn P w K mg base "is_number_of" 2 ["thing", "many"] spis_number_of) : Dn P w K mg base "are_numbers_of" 3 ["thing", "size", "many"] spare_numbers_of := by
  obtain ⟨f, fd, F, m⟩ := T.ex
  refine ⟨f, fd, m, F.kp, F.binds (fun _ _ _ _ _ _ us hl => match us, hl with | [_, _, _], _ => rfl), F.ok scare_numbers_of (fun vs H Q E h => ?_) (fun cdv A outer s H vs Q E hr h => ?_)⟩
  · obtain ⟨v, ns, size, many, rfl, ⟨a, rfl, ha⟩, hl, hz, hm, q⟩ := h
    rfl
  · obtain ⟨v, ns, size, many, rfl, ⟨a, rfl, ha⟩, hl, hz, hm, q⟩ := h
    refine ⟨_, (pss_cons (ps_if (PW.pt (pw_or (pt_not (pt_val (pe_callB call_isi (by rfl) B.isinstance_ (by decide +kernel) (pa_cons (pv 0) (pa_cons (pe_bltn (v := .ty "tuple") (by rfl) B.tuple_ (by decide +kernel) rfl) pa_nil))))) (pw_or1 (pt_cmpR op_ne (pe_callB (call_lenK K rfl) (by rfl) B.len_ (by decide +kernel) (pa_cons (pv 0) pa_nil)) (pv 1) (nomark _)))))
        (pss_one (ps_ret pe_bl))
        pss_nil)
      (pss_one (ps_ret (pe_callB (cr_all rfl) (by rfl) B.all_ (by decide +kernel) (pa_cons (pe_lc (own := [("one", 3)]) rfl scare_numbers_of.nd (pi_tupK K rfl (pv 0)) (blkOk_by (N := ["thing", "size", "many", "one"]) (sc := defScope sare_numbers_of) (by decide +kernel)) (fun _ _ _ _ _ => (pg_name (i := 3) scare_numbers_of.nd rfl (by first | exact Or.inl rfl | exact Or.inr rfl))) (fun _ _ _ _ _ => pts_nil) (fun _ _ _ _ _ => (pe_d Dis_number_of (hr.mono (by decide)) rfl (pa_cons (pv 3) (pa_cons (pv 2) pa_nil))))) pa_nil))))), ?_⟩
    -- if not isinstance(thing, tuple) or len(thing) != size
    refine ⟨.ref a, rfl, .ref a, .ty "tuple", .type "tuple", .type "tuple", true, rfl, .ty _, .base (.tup ha), kit_ty (by decide +kernel), true, rfl, iteF ?_⟩
    refine ⟨.ref a, rfl, a, _, rfl, .inr (sqT ha), nV size, rfl, rfl, _, rfl, iteNS ?_ ?_⟩
    · rw [List.length_map, hl]
    -- all([..])
    refine ⟨.ref a, rfl, a, rfl, ⟨_, sqT ha⟩, fun D hD => lc_tupD (stb_val V.bl) (fun i => List.replicate i true) ha hD rfl (fun i hi => ?_) (fun i x H1 QY QN hi e hy hn => ?_) (fun H1 acc e hD1 hacc => ?_)⟩
    · rw [List.length_replicate]
      rw [List.length_map] at hi
      omega
    · obtain ⟨n, hn', rfl⟩ := nV_get hi
      refine ⟨rfl, nV n, rfl, nV many, rfl, n, many, rfl, by omega, ?_, fun H2 e2 => hy _ H2 true e2 rfl (by rw [List.replicate_succ'])⟩
      have := hm n (List.mem_of_getElem? hn')
      omega
    · refine ⟨D, List.replicate (ns.map nV).length true, rfl, sqL (by rw [hD1, hacc.map_eq]), ?_⟩
      have e1 : (List.replicate (ns.map nV).length true).all id = true := by
        rw [List.all_eq_true]
        intro x hx
        exact (List.mem_replicate.mp hx).2
      rw [e1]
      exact q _ e
/-! ### clash_of -/
abbrev sclash_of : Stmt := topS 29
theorem scclash_of : FnScope ["web", "ring", "spots", "one", "other"] ["web", "ring", "spots"] (defScope sclash_of) := ⟨rfl, rfl, rfl, by decide +kernel, rfl, by decide +kernel, by decide +kernel⟩
theorem okclash_of (T : Tx K mg "clash_of" sclash_of) (B : Bl mg) (Dapart : Dn P w K mg base "apart" 1 ["spots", "one", "other"] spapart) : Dn P w K mg base "clash_of" 2 ["web", "ring", "spots"] spclash_of := by
  obtain ⟨f, fd, F, m⟩ := T.ex
  refine ⟨f, fd, m, F.kp, F.binds (fun _ _ _ _ _ _ us hl => match us, hl with | [_, _, _], _ => rfl), F.ok scclash_of (fun vs H Q E h => ?_) (fun cdv A outer s H vs Q E hr h => ?_)⟩
  · obtain ⟨v, u, x, wb, k, d, hu, rfl, Tr, q⟩ := h
    rfl
  · obtain ⟨v, u, x, wb, k, d, hu, rfl, Tr, q⟩ := h
    refine ⟨_, (pss_cons (ps_for PassesOwn.never rfl (pi_tupK K rfl (pe_ix (ix_tupK K rfl) (pv 0) pe_int (fun _ _ => rfl))) (pg_tupK K rfl (n := 2) rfl (pgs_cons (pg_name (i := 3) scclash_of.nd rfl (by first | exact Or.inl rfl | exact Or.inr rfl)) (pgs_cons (pg_name (i := 4) scclash_of.nd rfl (by first | exact Or.inl rfl | exact Or.inr rfl)) pgs_nil)))
        (pss_one (ps_if (pt_cmpR op_lt (pe_d Dapart (hr.mono (by decide)) rfl (pa_cons (pe_ix (ix_tupK K rfl) (pv 1) pe_int (fun _ _ => rfl)) (pa_cons (pe_ix (ix_tupK K rfl) (pv 2) (pv 3) (fun _ _ => rfl)) (pa_cons (pe_ix (ix_tupK K rfl) (pv 2) (pv 4) (fun _ _ => rfl)) pa_nil)))) (pe_ix (ix_tupK K rfl) (pv 1) pe_int (fun _ _ => rfl)) (nomark _))
          (pss_one (ps_ret (pe_tup (pa_cons (pv 3) (pa_cons (pv 4) pa_nil)))))
          pss_nil)))
      (pss_one (ps_ret pe_non))), ?_⟩
    obtain ⟨a, t, rfl, ha, b, us, rfl, hb, hus⟩ := Tr.two.web
    obtain ⟨c, rfl, hc⟩ := Tr.two.ring
    obtain ⟨y, rfl, hy⟩ := Tr.hues
    refine ⟨.ref a, rfl, a, _, 1, .ref b, rfl, rfl, sqT ha, at1, b, rfl, ⟨us, sqT hb⟩, for_tup (xs := us) (fun i σ H' => ∃ y1 y2 : Option V, σ = [some (.ref a), some (.ref c), some (.ref y), y1, y2] ∧ Ex H H') ⟨none, none, rfl, ex0 _⟩ (fun i σ H' _ p => ?_) (fun i z σ H' hi p => ?_) (fun σ H' p => ?_)⟩
    · obtain ⟨y1, y2, rfl, e⟩ := p
      exact sqT (e _ _ hb)
    · obtain ⟨y1, y2, rfl, e⟩ := p
      obtain ⟨t, ht, f, rfl, hf⟩ := hus.get' hi
      have hT := Tr.two.W.T.ties t (List.mem_of_getElem? ht)
      have hl := Tr.ok.len
      have h1 := Tr.ok.lt t.1 (by omega)
      have h2 := Tr.ok.lt t.2 (by omega)
      have hfar := Tr.ok.far t (List.mem_of_getElem? ht)
      have hc' := e _ _ hc
      have hy' := e _ _ hy
      refine ⟨f, _, rfl, sqT (e _ _ hf), rfl, nV t.1, [nV t.2], rfl, nV t.2, [], rfl, rfl, ?_⟩
      refine ⟨.ref c, rfl, c, _, 0, nV k, rfl, rfl, sqT hc', at0, .ref y, rfl, nV t.1, rfl, y, _, (t.1 : Int), _, rfl, rfl, sqT hy', at_hg (by omega), .ref y, rfl, nV t.2, rfl, y, _, (t.2 : Int), _, rfl, rfl, sqT hy', at_hg (by omega), k, hg hu t.1, hg hu t.2, rfl, h1, h2, fun H2 e2 => ?_⟩
      refine ⟨.ref c, rfl, c, _, 1, nV d, rfl, rfl, sqT (e2 _ _ hc'), at1, (ap k (hg hu t.1) (hg hu t.2) : Int), (d : Int), rfl, rfl, _, rfl, ?_⟩
      rw [decide_eq_false (by omega)]
      exact iteF ⟨_, _, rfl, Ex.tr e e2⟩
    · obtain ⟨y1, y2, rfl, e⟩ := p
      exact q _ e
/-! ### are_hues -/
abbrev sare_hues : Stmt := topS 30
theorem scare_hues : FnScope ["web", "ring", "thing"] ["web", "ring", "thing"] (defScope sare_hues) := ⟨rfl, rfl, rfl, by decide +kernel, rfl, by decide +kernel, by decide +kernel⟩
theorem okare_hues (T : Tx K mg "are_hues" sare_hues) (B : Bl mg) (Dare_numbers_of : Dn P w K mg base "are_numbers_of" 3 ["thing", "size", "many"] spare_numbers_of) (Dclash_of : Dn P w K mg base "clash_of" 2 ["web", "ring", "spots"] spclash_of) : Dn P w K mg base "are_hues" 4 ["web", "ring", "thing"] spare_hues := by
  obtain ⟨f, fd, F, m⟩ := T.ex
  refine ⟨f, fd, m, F.kp, F.binds (fun _ _ _ _ _ _ us hl => match us, hl with | [_, _, _], _ => rfl), F.ok scare_hues (fun vs H Q E h => ?_) (fun cdv A outer s H vs Q E hr h => ?_)⟩
  · obtain ⟨v, u, x, wb, k, d, hu, rfl, Tr, q⟩ := h
    rfl
  · obtain ⟨v, u, x, wb, k, d, hu, rfl, Tr, q⟩ := h
    refine ⟨_, (pss_one (ps_ret (pe_and (pe_d Dare_numbers_of (hr.mono (by decide)) rfl (pa_cons (pv 2) (pa_cons (pe_ix (ix_tupK K rfl) (pv 0) pe_int (fun _ _ => rfl)) (pa_cons (pe_ix (ix_tupK K rfl) (pv 1) pe_int (fun _ _ => rfl)) pa_nil)))) (pe_one (pe_cmpR op_isN (pe_d Dclash_of (hr.mono (by decide)) rfl (pa_cons (pv 0) (pa_cons (pv 1) (pa_cons (pv 2) pa_nil)))) pe_non (nomark _)))))), ?_⟩
    obtain ⟨a, t, rfl, ha, ht⟩ := id Tr.two.web
    obtain ⟨c, rfl, hc⟩ := id Tr.two.ring
    refine ⟨x, rfl, .ref a, rfl, a, _, 0, nV wb.n, rfl, rfl, sqT ha, at0, .ref c, rfl, c, _, 0, nV k, rfl, rfl, sqT hc, at0, x, hu, wb.n, k, rfl, Tr.hues, Tr.ok.len, ?_, ?_, fun H1 e1 => ⟨true, rfl, iteT ?_⟩⟩
    · have := Tr.two.W.hi
      rw [Tr.ok.len]
      omega
    · intro n hn
      obtain ⟨i, hi, rfl⟩ := List.mem_iff_getElem.mp hn
      rw [← hg_at hi]
      exact Tr.ok.lt i (by rw [← Tr.ok.len]; exact hi)
    · exact ⟨.ref a, rfl, .ref c, rfl, x, rfl, .ref a, .ref c, x, wb, k, d, hu, rfl, Tr.up e1, fun H2 e2 => ⟨rfl, q _ (Ex.tr e1 e2)⟩⟩
/-! ### check_hues -/
abbrev scheck_hues : Stmt := topS 32
theorem sccheck_hues : FnScope ["web", "ring", "hues"] ["web", "ring", "hues"] (defScope scheck_hues) := ⟨rfl, rfl, rfl, by decide +kernel, rfl, by decide +kernel, by decide +kernel⟩
theorem okcheck_hues (T : Tx K mg "check_hues" scheck_hues) (B : Bl mg) (Dare_hues : Dn P w K mg base "are_hues" 4 ["web", "ring", "thing"] spare_hues) : Dn P w K mg base "check_hues" 5 ["web", "ring", "hues"] spcheck_hues := by
  obtain ⟨f, fd, F, m⟩ := T.ex
  refine ⟨f, fd, m, F.kp, F.binds (fun _ _ _ _ _ _ us hl => match us, hl with | [_, _, _], _ => rfl), F.ok sccheck_hues (fun vs H Q E h => ?_) (fun cdv A outer s H vs Q E hr h => ?_)⟩
  · obtain ⟨v, u, x, wb, k, d, hu, rfl, Tr, q⟩ := h
    rfl
  · obtain ⟨v, u, x, wb, k, d, hu, rfl, Tr, q⟩ := h
    refine ⟨_, (pss_one (ps_if (pt_not (pt_val (pe_d Dare_hues (hr.mono (by decide)) rfl (pa_cons (pv 0) (pa_cons (pv 1) (pa_cons (pv 2) pa_nil))))))
        (pss_one ps_never)
        pss_nil)), ?_⟩
    exact ⟨v, rfl, u, rfl, x, rfl, v, u, x, wb, k, d, hu, rfl, Tr, fun H1 e1 => ⟨true, rfl, iteF (q _ e1)⟩⟩
/-! ### moved_by -/
abbrev smoved_by : Stmt := topS 62
theorem scmoved_by : FnScope ["ring", "hues", "other", "spot"] ["ring", "hues", "other"] (defScope smoved_by) := ⟨rfl, rfl, rfl, by decide +kernel, rfl, by decide +kernel, by decide +kernel⟩
theorem okmoved_by (T : Tx K mg "moved_by" smoved_by) (B : Bl mg)  : Dn P w K mg base "moved_by" 1 ["ring", "hues", "other"] spmoved_by := by
  obtain ⟨f, fd, F, m⟩ := T.ex
  refine ⟨f, fd, m, F.kp, F.binds (fun _ _ _ _ _ _ us hl => match us, hl with | [_, _, _], _ => rfl), F.ok scmoved_by (fun vs H Q E h => ?_) (fun cdv A outer s H vs Q E hr h => ?_)⟩
  · obtain ⟨u, x, y, k, d, d', hu, rfl, ⟨z, rfl, hz⟩, hk, ⟨a, rfl, ha⟩, hlt, hl, ⟨o, rfl, ho⟩, q⟩ := h
    rfl
  · obtain ⟨u, x, y, k, d, d', hu, rfl, ⟨z, rfl, hz⟩, hk, ⟨a, rfl, ha⟩, hlt, hl, ⟨o, rfl, ho⟩, q⟩ := h
    refine ⟨_, (pss_one (ps_ret (pe_callTy call_tuple_of (by rfl) B.tuple_ (by decide +kernel) (pa_cons (pe_lc (own := [("spot", 3)]) rfl scmoved_by.nd (pi_tupK K rfl (pv 1)) (blkOk_by (N := ["ring", "hues", "other", "spot"]) (sc := defScope smoved_by) (by decide +kernel)) (fun _ _ _ _ _ => (pg_name (i := 3) scmoved_by.nd rfl (by first | exact Or.inl rfl | exact Or.inr rfl))) (fun _ _ _ _ _ => pts_nil) (fun _ _ _ _ _ => (pe_op op_fdiv (pe_op op_mul (pv 3) (pe_ix (ix_tupK K rfl) (pv 2) pe_int (fun _ _ => rfl))) (pe_ix (ix_tupK K rfl) (pv 0) pe_int (fun _ _ => rfl))))) pa_nil)))), ?_⟩
    refine ⟨.ref a, rfl, a, rfl, ⟨_, sqT ha⟩, fun D hD => lc_tupD (xs := hu.map nV) (stb_val nV) (fun i => (hu.take i).map id) ha hD rfl (fun i _ => ?_) (fun i s H3 QY QN hi e hy' _ => ?_) (fun H3 acc e hD3 hacc => ?_)⟩
    · rw [List.length_map, List.length_take]
      omega
    · obtain ⟨n, hn', rfl⟩ := nV_get hi
      have hnk := hlt n (List.mem_of_getElem? hn')
      refine ⟨rfl, nV n, rfl, .ref o, rfl, o, _, 0, nV (k + 1), rfl, rfl, sqT (e _ _ ho), at0, (n : Int), ((k + 1 : Nat) : Int), rfl, rfl, .inl ⟨by omega, by omega⟩, .ref z, rfl, z, _, 0, nV k, rfl, rfl, sqT (e _ _ hz), at0, _, (k : Int), rfl, rfl, ⟨by omega, by omega⟩, ?_⟩
      refine hy' _ _ n (ex0 _) ?_ (out_map (f := id) hn')
      have e1 : (n : Int) * ((k + 1 : Nat) : Int) / (k : Int) = (n : Int) := by
        rw [← Int.natCast_mul, ← Int.natCast_ediv]
        congr 1
        rw [Nat.mul_add, Nat.mul_one, Nat.mul_comm n k, Nat.mul_add_div (by omega), Nat.div_eq_of_lt hnk]
        rfl
      show V.int ((n : Int) * ((k + 1 : Nat) : Int) / (k : Int)) = nV n
      rw [e1]
    · rw [List.length_map, take_all rfl, List.map_id] at hacc
      refine ⟨D, acc, rfl, .inl ⟨sqL hD3, fun l hl' => q _ _ (Ex.tr e (Ex.up hl')) ⟨l, rfl, ?_⟩⟩⟩
      rw [upd_same, hacc.map_eq]
/-! ### moved_hues -/
abbrev smoved_hues : Stmt := topS 63
theorem scmoved_hues : FnScope ["web", "ring", "hues", "other"] ["web", "ring", "hues", "other"] (defScope smoved_hues) := ⟨rfl, rfl, rfl, by decide +kernel, rfl, by decide +kernel, by decide +kernel⟩
theorem okmoved_hues (T : Tx K mg "moved_hues" smoved_hues) (B : Bl mg) (Dcheck_both : Dn P w K mg base "check_both" 6 ["web", "ring"] spcheck_both) (Dcheck_hues : Dn P w K mg base "check_hues" 5 ["web", "ring", "hues"] spcheck_hues) (Dcheck_ring : Dn P w K mg base "check_ring" 3 ["ring"] spcheck_ring) (Dis_shorter : Dn P w K mg base "is_shorter" 1 ["one", "other"] spis_shorter) (Dmoved_by : Dn P w K mg base "moved_by" 1 ["ring", "hues", "other"] spmoved_by) : Dn P w K mg base "moved_hues" 7 ["web", "ring", "hues", "other"] spmoved_hues := by
  obtain ⟨f, fd, F, m⟩ := T.ex
  refine ⟨f, fd, m, F.kp, F.binds (fun _ _ _ _ _ _ us hl => match us, hl with | [_, _, _, _], _ => rfl), F.ok scmoved_hues (fun vs H Q E h => ?_) (fun cdv A outer s H vs Q E hr h => ?_)⟩
  · obtain ⟨v, u, x, y, wb, k, d, hu, rfl, Tr, hy, hk, q⟩ := h
    rfl
  · obtain ⟨v, u, x, y, wb, k, d, hu, rfl, Tr, hy, hk, q⟩ := h
    refine ⟨_, (pss_cons (ps_expr (pe_d Dcheck_both (hr.mono (by decide)) rfl (pa_cons (pv 0) (pa_cons (pv 1) pa_nil))))
      (pss_cons (ps_expr (pe_d Dcheck_hues (hr.mono (by decide)) rfl (pa_cons (pv 0) (pa_cons (pv 1) (pa_cons (pv 2) pa_nil)))))
      (pss_cons (ps_expr (pe_d Dcheck_ring (hr.mono (by decide)) rfl (pa_cons (pv 3) pa_nil)))
      (pss_cons (ps_if (pt_val (pe_d Dis_shorter (hr.mono (by decide)) rfl (pa_cons (pv 3) (pa_cons (pv 1) pa_nil))))
        (pss_one ps_never)
        pss_nil)
      (pss_one (ps_ret (pe_d Dmoved_by (hr.mono (by decide)) rfl (pa_cons (pv 1) (pa_cons (pv 2) (pa_cons (pv 3) pa_nil)))))))))), ?_⟩
    have h1 := Tr.two.R.one
    have h2 := Tr.two.R.le
    have hn := Tr.two.W.hi
    refine ⟨v, rfl, u, rfl, v, u, wb, k, d, rfl, Tr.two, fun H1 e1 => ⟨v, rfl, u, rfl, x, rfl, v, u, x, wb, k, d, hu, rfl, Tr.up e1, fun H2 e2 => ?_⟩⟩
    have e12 := Ex.tr e1 e2
    refine ⟨y, rfl, y, k + 1, d, rfl, hy.up e12, ⟨h1, by omega, hk⟩, fun H3 e3 => ?_⟩
    have e13 := Ex.tr e12 e3
    have Tr3 := Tr.up e13
    refine ⟨y, rfl, u, rfl, y, u, k + 1, d, k, d, rfl, hy.up e13, Tr3.two.ring, by omega, by omega, by omega, by omega, fun H4 e4 => ⟨_, rfl, ?_⟩⟩
    have es : shorter (k + 1, d) (k, d) = false := by
      unfold shorter
      rw [← Bool.not_eq_true, Nat.blt_eq]
      show ¬ (k + 1) * d < k * d
      rw [Nat.add_mul]
      omega
    rw [es]
    have Tr4 := Tr3.up e4
    refine iteF ⟨u, rfl, x, rfl, y, rfl, u, x, y, k, d, d, hu, rfl, Tr4.two.ring, by omega, Tr4.hues, hues_lt Tr.ok, by rw [Tr.ok.len]; omega, (hy.up e13).up e4, fun z H5 e5 hz => q z H5 (Ex.tr e13 (Ex.tr e4 e5)) hz⟩
/-! ### _law_cell -/
abbrev s_law_cell : Stmt := topS 65
theorem sc_law_cell : FnScope ["_law_script", "_law_k"] ["_law_script", "_law_k"] (defScope s_law_cell) := ⟨rfl, rfl, rfl, by decide +kernel, rfl, by decide +kernel, by decide +kernel⟩
theorem ok_law_cell (T : Tx K mg "_law_cell" s_law_cell) (B : Bl mg)  : Dn P w K mg base "_law_cell" 1 ["_law_script", "_law_k"] (sp_law_cell K) := by
  obtain ⟨f, fd, F, m⟩ := T.ex
  refine ⟨f, fd, m, F.kp, F.binds (fun _ _ _ _ _ _ us hl => match us, hl with | [_, _], _ => rfl), F.ok sc_law_cell (fun vs H Q E h => ?_) (fun cdv A outer s H vs Q E hr h => ?_)⟩
  · obtain ⟨a, ns, k, rfl, hS, q⟩ := h
    rfl
  · obtain ⟨a, ns, k, rfl, hS, q⟩ := h
    refine ⟨_, (pss_cons (ps_if (pt_cmpR op_lt (pv 1) (pe_callB (call_lenK K rfl) (by rfl) B.len_ (by decide +kernel) (pa_cons (pv 0) pa_nil)) (nomark _))
        (pss_one (ps_ret (pe_ix (ix_listK K rfl) (pv 0) (pv 1) (fun _ _ => rfl))))
        pss_nil)
      (pss_one (ps_ret pe_int))), ?_⟩
    refine ⟨nV k, rfl, .ref a, rfl, a, _, rfl, .inl hS, (k : Int), _, rfl, rfl, _, rfl, ite2 (fun h => ?_) (fun _ => q 0)⟩
    have hk : k < ns.length := by
      have := of_decide_eq_true h
      rw [List.length_map] at this
      omega
    exact ⟨.ref a, rfl, nV k, rfl, a, _, (k : Int), .int ns[k], rfl, rfl, hS, atI_nat (by rw [List.getElem?_map, List.getElem?_eq_getElem hk]; rfl), q _⟩
/-! ### all_rows -/
abbrev sall_rows : Stmt := topS 53
theorem scall_rows : FnScope ["web", "ring", "known", "back", "rows", "place", "more", "row", "spot"] ["web", "ring", "known"] (defScope sall_rows) := ⟨rfl, rfl, rfl, by decide +kernel, rfl, by decide +kernel, by decide +kernel⟩
theorem okall_rows (T : Tx K mg "all_rows" sall_rows) (B : Bl mg) (Dties_back : Dn P w K mg base "ties_back" 1 ["web"] spties_back) (Dfits : Dn P w K mg base "fits" 2 ["ring", "back", "row", "place", "spot"] spfits) : Dn P w K mg base "all_rows" 3 ["web", "ring", "known"] spall_rows := by
  obtain ⟨f, fd, F, m⟩ := T.ex
  refine ⟨f, fd, m, F.kp, F.binds (fun _ _ _ _ _ _ us hl => match us, hl with | [_, _, _], _ => rfl), F.ok scall_rows (fun vs H Q E h => ?_) (fun cdv A outer s H vs Q E hr h => ?_)⟩
  · obtain ⟨v, u, y, wb, k, d, kn, rfl, Tw, hk12, ⟨ya, rfl, hya⟩, hkl, q⟩ := h
    rfl
  · obtain ⟨v, u, y, wb, k, d, kn, rfl, Tw, hk12, ⟨ya, rfl, hya⟩, hkl, q⟩ := h
    refine ⟨_, (pss_cons (ps_set (i := 3) scall_rows.nd rfl (by first | exact Or.inl rfl | exact Or.inr rfl) (pe_d Dties_back (hr.mono (by decide)) rfl (pa_cons (pv 0) pa_nil)))
      (pss_cons (ps_set (i := 4) scall_rows.nd rfl (by first | exact Or.inl rfl | exact Or.inr rfl) (pe_lst (pa_cons (pe_tup pa_nil) pa_nil)))
      (pss_cons (ps_for PassesOwn.never rfl (pi_range1 (by rfl) B.range_ (pa_cons (pe_ix (ix_tupK K rfl) (pv 0) pe_int (fun _ _ => rfl)) pa_nil)) (pg_name (i := 5) scall_rows.nd rfl (by first | exact Or.inl rfl | exact Or.inr rfl))
        (pss_cons (ps_set (i := 6) scall_rows.nd rfl (by first | exact Or.inl rfl | exact Or.inr rfl) (pe_lst pa_nil))
        (pss_cons (ps_for PassesOwn.never rfl (pi_listK K rfl (pv 4)) (pg_name (i := 7) scall_rows.nd rfl (by first | exact Or.inl rfl | exact Or.inr rfl))
          (pss_one (ps_for PassesOwn.never rfl (pi_range1 (by rfl) B.range_ (pa_cons (pe_ix (ix_tupK K rfl) (pv 1) pe_int (fun _ _ => rfl)) pa_nil)) (pg_name (i := 8) scall_rows.nd rfl (by first | exact Or.inl rfl | exact Or.inr rfl))
            (pss_one (ps_if (PW.pt (pw_and (pt_cmpR (op_in_seqK K rfl) (pe_ix (ix_tupK K rfl) (pv 2) (pv 5) (fun _ _ => rfl)) (pe_tup (pa_cons pe_non (pa_cons (pv 8) pa_nil))) (by rfl)) (pw_and1 (pt_val (pe_d Dfits (hr.mono (by decide)) rfl (pa_cons (pv 1) (pa_cons (pv 3) (pa_cons (pv 7) (pa_cons (pv 5) (pa_cons (pv 8) pa_nil))))))))))
              (pss_one (ps_expr (pe_bm PySem.F.plainAttrs_list PySem.F.slot_list_append PySem.F.type_list_append mt_append (pv 6) (pa_cons (pe_op (op_catAK K rfl) (pv 7) (pe_tup (pa_cons (pv 8) pa_nil))) pa_nil))))
              pss_nil)))))
        (pss_one (ps_set (i := 4) scall_rows.nd rfl (by first | exact Or.inl rfl | exact Or.inr rfl) (pv 6))))))
      (pss_one (ps_ret (pv 4)))))), ?_⟩
    have hn := Tw.W.hi
    have hn0 := Tw.W.lo
    have hT := Tw.W.T
    obtain ⟨wa, wt, rfl, hwa, hwt⟩ := id Tw.web
    obtain ⟨za, rfl, hza⟩ := id Tw.ring
    have hlts : wb.ts.length ≤ 1000 := ties_few Tw.W
    -- back
    refine ⟨.ref wa, rfl, .ref wa, wb, rfl, Tw.web, hn, hlts, fun bv H2 e2 hbv => ?_⟩
    -- rows = [()]
    refine ⟨Nat.zero_le _, fun p0 hp0 => ⟨by show 1 ≤ sizeLine; decide, fun r0 hr0 => ?_⟩⟩
    have e3 := Ex.tr (Ex.up (o := .tup []) hp0) (Ex.up (o := .lst [.ref p0]) hr0)
    have np : p0 ≠ r0 := ne_of_none (upd_same (H := H2) (a := p0)) hr0
    refine ⟨.ref wa, rfl, wa, _, 0, nV wb.n, rfl, rfl, sqT (e3 _ _ (e2 _ _ hwa)), at0, (wb.n : Int), rfl, by omega, by omega, ?_⟩
    refine for_range0 (n := wb.n) (fun i σ H' => ∃ (rv : V) (y5 y6 y7 y8 : Option V), σ = [some (.ref wa), some (.ref za), some (.ref ya), some bv, some rv, y5, y6, y7, y8] ∧ Ex H2 H' ∧ IsRows H' rv (arAt wb k d kn i)) ⟨.ref r0, none, none, none, none, rfl, e3, r0, [.ref p0], rfl, upd_same, ⟨p0, rfl, by rw [upd_ne np, upd_same]; rfl⟩, trivial⟩ (fun i σ H' hi p => ?_) (fun σ H' p => ?_)
    · obtain ⟨rv, y5, y6, y7, y8, rfl, e4, ra, rvs, rfl, hra, hrv⟩ := p
      -- more = []
      refine ⟨Nat.zero_le _, fun mo nmo => ?_⟩
      have e5 := Ex.tr e4 (Ex.up (o := .lst []) nmo)
      have nH2 : H2 mo = none := fb e4 nmo
      refine ⟨.ref ra, rfl, ra, rfl, ⟨rvs, sqL ((Ex.up (o := .lst []) nmo) _ _ hra)⟩, for_list (xs := rvs) (fun j σ H6 => ∃ y7 y8 : Option V, σ = [some (.ref wa), some (.ref za), some (.ref ya), some bv, some (.ref ra), some (nV i), some (.ref mo), y7, y8] ∧ Ex H' H6 ∧ ∃ ms, H6 mo = some (.lst ms) ∧ All2 (IsInts H6) ms (((arAt wb k d kn i).take j).flatMap (arOne wb k d kn i))) ⟨_, _, rfl, Ex.up nmo, [], upd_same, trivial⟩ (fun j σ H6 _ p => ?_) (fun j z σ H6 hj p => ?_) (fun σ H6 p => ?_)⟩
      · obtain ⟨y7, y8, rfl, e6, _⟩ := p
        exact sqL (e6 _ _ hra)
      · obtain ⟨y7', y8', rfl, e6, ms, hmo, hms⟩ := p
        obtain ⟨row, hrow, c, rfl, hc⟩ := hrv.get' hj
        obtain ⟨m1, m2, m3⟩ := (mem_ar hT i (by omega) row).mp (List.mem_of_getElem? hrow)
        have e26 := Ex.tr e4 e6
        have e16 := Ex.tr e2 e26
        have hcnt : (((arAt wb k d kn i).take j).flatMap (arOne wb k d kn i)).length ≤ 248832 := by
          have h1 := flat_len (f := arOne wb k d kn i) (m := k) ((arAt wb k d kn i).take j) fun _ => arOne_len
          have h2 : ((arAt wb k d kn i).take j).length ≤ k ^ i := Nat.le_trans (by rw [List.length_take]; omega) (ar_len (w := wb) (d := d) (known := kn) i)
          have h3 : ((arAt wb k d kn i).take j).length * k ≤ k ^ i * k := Nat.mul_le_mul_right _ h2
          have h4 : k ^ (i + 1) ≤ 248832 := pow12 hk12 (by omega)
          rw [Nat.pow_succ] at h4
          omega
        refine ⟨.ref za, rfl, za, _, 0, nV k, rfl, rfl, sqT (e16 _ _ hza), at0, (k : Int), rfl, by omega, by omega, ?_⟩
        refine for_range0 (n := k) (fun t σ H7 => ∃ y8 : Option V, σ = [some (.ref wa), some (.ref za), some (.ref ya), some bv, some (.ref ra), some (nV i), some (.ref mo), some (.ref c), y8] ∧ Ex H' H7 ∧ ∃ ms, H7 mo = some (.lst ms) ∧ All2 (IsInts H7) ms (((arAt wb k d kn i).take j).flatMap (arOne wb k d kn i) ++ (((List.range k).take t).filter fun s => knOk kn i s && fits k d (back wb) row i s).map fun s => row ++ [s])) ⟨_, rfl, e6, ms, hmo, by
          rw [List.take_zero]
          show All2 _ _ (_ ++ [])
          rw [List.append_nil]
          exact hms⟩ (fun s σ H7 hs p => ?_) (fun σ H7 p => ?_)
        · obtain ⟨y8'', rfl, e7, ms, hmo, hms⟩ := p
          have e27 := Ex.tr e4 e7
          have e17 := Ex.tr e2 e27
          have hc7 := e7 _ _ hc
          refine Evl.s_when (b := knOk kn i s && fits k d (back wb) row i s) (Evl.et_and (Evl.et_test fun H8 e Q q => ?tB) fun _ => Evl.et_B fun H8 e Q q => ?tC) (fun hb H8 e8 => ?yes) (fun hb H8 e8 => ?no)
          case tB =>
            have hkn : ∃ o, kn[i]? = some o := ⟨_, List.getElem?_eq_getElem (by omega)⟩
            obtain ⟨o, hkn⟩ := hkn
            refine ⟨.ref ya, rfl, nV i, rfl, ya, _, (i : Int), oV o, rfl, rfl, sqT (e _ _ (e17 _ _ hya)), atI_nat (by rw [List.getElem?_map, hkn]; rfl), nV s, rfl, by show 2 ≤ sizeLine; decide, fun p hp => ?_⟩
            refine ⟨p, [.non, nV s], rfl, .inr (sqT upd_same), by cases o <;> rfl, rfl, ?_⟩
            show Q (.bl (inV (oV o) [.non, nV s])) _
            rw [inV_knOk hkn]
            exact q _ (Ex.up hp)
          case tC =>
            refine ⟨.ref za, rfl, bv, rfl, .ref c, rfl, nV i, rfl, nV s, rfl, .ref za, bv, .ref c, k, d, back wb, row, i, s, rfl, Tw.ring.up (Ex.tr e17 e), (hbv.up e27).up e, .inl ⟨c, rfl, e _ _ hc7⟩, ?_, ?_, ?_, ?_, hs, fun H9 e9 => q _ e9⟩
            · unfold back
              rw [List.length_map, List.length_range]
              exact hi
            · rw [back_get hi, List.length_map]
              exact Nat.le_trans (List.length_filter_le _ _) hlts
            · intro o ho
              rw [back_get hi] at ho
              obtain ⟨t, ht, rfl⟩ := List.mem_map.mp ho
              rw [List.mem_filter, beq_iff_eq] at ht
              have := hT.ties t ht.1
              omega
            · intro y hy
              obtain ⟨x, hx, rfl⟩ := hg_mem hy
              exact (m2 x (by omega)).1
          case no =>
            refine ⟨_, rfl, Ex.tr e7 e8, ms, e8 _ _ hmo, ?_⟩
            rw [out_no (range_get hs) hb]
            exact hms.imp fun v r z => z.up e8
          case yes =>
            have hmo8 := e8 _ _ hmo
            refine ⟨.ref mo, rfl, .inl ⟨rfl, _, .inl (.inl hmo8)⟩, .ref c, rfl, nV s, rfl, by show 1 ≤ sizeLine; decide, fun p1 hp1 => ?_⟩
            have e9 : Ex H8 (upd H8 p1 (.tup [nV s])) := Ex.up hp1
            refine rd_cat (xs := row.map nV) (ys := [nV s]) (e9 _ _ (e8 _ _ hc7)) upd_same ?_ fun c2 H10 e10 hc2 => ?_
            · rw [List.length_map]
              show _ + 1 ≤ _
              omega
            have e810 := Ex.tr e9 e10
            have hmo10 := e810 _ _ hmo8
            have hlen10 : ms.length < 1000000 := by
              have h1 := hms.len
              rw [List.length_append, List.length_map] at h1
              have h2 := fil_len (l := List.range k) (i := s) (p := fun s => knOk kn i s && fits k d (back wb) row i s)
              rw [List.length_range] at h2
              omega
            refine ⟨mo, ms, .ref c2, rfl, rfl, hmo10, smallM hlen10, _, rfl, fun b o' hb' => ?_, ms ++ [.ref c2], upd_same, ?_⟩
            · rw [upd_ne (ne_of_none hb' nmo)]
              exact e810 _ _ (e8 _ _ (e7 _ _ hb'))
            · rw [out_yes (range_get hs) hb, ← List.append_assoc]
              refine All2.app (hms.imp fun v r z => stb_ints.up _ _ _ _ _ _ hmo10 ((z.up e8).up e810)) ⟨stb_ints.up _ _ _ _ _ _ hmo10 ⟨c2, rfl, ?_⟩, trivial⟩
              rw [hc2, List.map_append]
              rfl
        · obtain ⟨y8'', rfl, e7, ms, hmo, hms⟩ := p
          rw [show (List.range k).take k = List.range k from take_all (by rw [List.length_range])] at hms
          refine ⟨_, _, rfl, e7, ms, hmo, ?_⟩
          rw [List.take_add_one, hrow, List.flatMap_append]
          show All2 _ _ (_ ++ ([row].flatMap (arOne wb k d kn i)))
          rw [List.flatMap_cons, List.flatMap_nil, List.append_nil]
          exact hms
      · obtain ⟨y7', y8', rfl, e6, ms, hmo, hms⟩ := p
        rw [take_all hrv.len] at hms
        exact ⟨.ref mo, rfl, .ref mo, _, _, _, _, rfl, Ex.tr e4 e6, mo, ms, rfl, hmo, hms⟩
    · obtain ⟨rv, y5, y6, y7, y8, rfl, e4, hrv⟩ := p
      exact ⟨rv, rfl, q _ _ (Ex.tr e2 e4) hrv⟩
/-! ### are_tied -/
abbrev sare_tied : Stmt := topS 26
theorem scare_tied : FnScope ["web", "one", "other"] ["web", "one", "other"] (defScope sare_tied) := ⟨rfl, rfl, rfl, by decide +kernel, rfl, by decide +kernel, by decide +kernel⟩
theorem okare_tied (T : Tx K mg "are_tied" sare_tied) (B : Bl mg)  : Dn P w K mg base "are_tied" 1 ["web", "one", "other"] spare_tied := by
  obtain ⟨f, fd, F, m⟩ := T.ex
  refine ⟨f, fd, m, F.kp, F.binds (fun _ _ _ _ _ _ us hl => match us, hl with | [_, _, _], _ => rfl), F.ok scare_tied (fun vs H Q E h => ?_) (fun cdv A outer s H vs Q E hr h => ?_)⟩
  · obtain ⟨v, wb, a, b, rfl, ⟨x, u, rfl, hx, hu⟩, q⟩ := h
    rfl
  · obtain ⟨v, wb, a, b, rfl, ⟨x, u, rfl, hx, hu⟩, q⟩ := h
    refine ⟨_, (pss_one (ps_ret (pe_cmpR (op_inTK K rfl (units65 hr)) (pe_tup (pa_cons (pe_callB (call_min2 rfl) (by rfl) B.min_ (by decide +kernel) (pa_cons (pv 1) (pa_cons (pv 2) pa_nil))) (pa_cons (pe_callB (call_max2 rfl) (by rfl) B.max_ (by decide +kernel) (pa_cons (pv 1) (pa_cons (pv 2) pa_nil))) pa_nil))) (pe_ix (ix_tupK K rfl) (pv 0) pe_int (fun _ _ => rfl)) (by rfl)))), ?_⟩
    have e1 : (if (b : Int) < (a : Int) then (b : Int) else (a : Int)) = ((min a b : Nat) : Int) := by split <;> omega
    have e2 : (if (b : Int) > (a : Int) then (b : Int) else (a : Int)) = ((max a b : Nat) : Int) := by split <;> omega
    refine ⟨nV a, rfl, nV b, rfl, (a : Int), (b : Int), rfl, nV a, rfl, nV b, rfl, (a : Int), (b : Int), rfl, by show 2 ≤ sizeLine; decide, fun p hp => ?_⟩
    rw [e1, e2]
    have e : Ex H (upd H p (.tup [nV (min a b), nV (max a b)])) := Ex.up hp
    refine ⟨.ref x, rfl, x, _, 1, u, rfl, rfl, sqT (e _ _ hx), at1, dT [min a b, max a b], _, IsInts.dp ⟨p, rfl, upd_same⟩, (hu.up e).dp, dT_shaped _, ?_, ?_⟩
    · have := ties_shaped (wb.ts.map fun t => [t.1, t.2])
      rwa [List.map_map] at this
    · rw [any_has]
      exact q _ e
/-! ### is_next -/
abbrev sis_next : Stmt := topS 38
theorem scis_next : FnScope ["web", "ring", "hues", "one", "other"] ["web", "ring", "hues", "one", "other"] (defScope sis_next) := ⟨rfl, rfl, rfl, by decide +kernel, rfl, by decide +kernel, by decide +kernel⟩
theorem okis_next (T : Tx K mg "is_next" sis_next) (B : Bl mg) (Dare_tied : Dn P w K mg base "are_tied" 1 ["web", "one", "other"] spare_tied) : Dn P w K mg base "is_next" 2 ["web", "ring", "hues", "one", "other"] spis_next := by
  obtain ⟨f, fd, F, m⟩ := T.ex
  refine ⟨f, fd, m, F.kp, F.binds (fun _ _ _ _ _ _ us hl => match us, hl with | [_, _, _, _, _], _ => rfl), F.ok scis_next (fun vs H Q E h => ?_) (fun cdv A outer s H vs Q E hr h => ?_)⟩
  · obtain ⟨v, u, x, wb, k, d, hu, a, b, rfl, Tr, ha, hb, q⟩ := h
    rfl
  · obtain ⟨v, u, x, wb, k, d, hu, a, b, rfl, Tr, ha, hb, q⟩ := h
    refine ⟨_, (pss_one (ps_ret (pe_and (pe_d Dare_tied (hr.mono (by decide)) rfl (pa_cons (pv 0) (pa_cons (pv 3) (pa_cons (pv 4) pa_nil)))) (pe_one (pe_cmpR op_eq (pe_op op_mod (pe_op op_add (pe_ix (ix_tupK K rfl) (pv 2) (pv 3) (fun _ _ => rfl)) (pe_ix (ix_tupK K rfl) (pv 1) pe_int (fun _ _ => rfl))) (pe_ix (ix_tupK K rfl) (pv 1) pe_int (fun _ _ => rfl))) (pe_ix (ix_tupK K rfl) (pv 2) (pv 4) (fun _ _ => rfl)) (nomark _)))))), ?_⟩
    refine ⟨v, rfl, nV a, rfl, nV b, rfl, v, wb, a, b, rfl, Tr.two.web, fun H1 e1 => ⟨_, rfl, ?_⟩⟩
    have Tr1 := Tr.up e1
    cases ht : tie wb a b with
    | false =>
      refine iteF ?_
      have e : nx wb k d hu a b = false := by
        unfold nx
        rw [ht]
        rfl
      rw [e] at q
      exact q _ e1
    | true =>
      refine iteT ?_
      obtain ⟨y, rfl, hy⟩ := Tr1.hues
      obtain ⟨z, rfl, hz⟩ := Tr1.two.ring
      have hl := Tr.ok.len
      refine ⟨.ref y, rfl, nV a, rfl, y, _, (a : Int), _, rfl, rfl, sqT hy, at_hg (by omega), .ref z, rfl, z, _, 1, nV d, rfl, rfl, sqT hz, at1, (hg hu a : Int), (d : Int), rfl, rfl, .ref z, rfl, z, _, 0, nV k, rfl, rfl, sqT hz, at0, (hg hu a : Int) + (d : Int), (k : Int), rfl, rfl, ?_, .ref y, rfl, nV b, rfl, y, _, (b : Int), _, rfl, rfl, sqT hy, at_hg (by omega), rfl, ?_⟩
      · have := Tr.two.R.one
        have := Tr.two.R.le
        show (0 : Int) < (k : Int)
        omega
      · have e : decide (V.int (((hg hu a : Int) + (d : Int)) % (k : Int)) = nV (hg hu b)) = nx wb k d hu a b := by
          unfold nx
          rw [ht, Bool.true_and, Bool.eq_iff_iff, decide_eq_true_iff, beq_iff_eq]
          rw [show (((hg hu a : Int) + (d : Int)) % (k : Int)) = (((hg hu a + d) % k : Nat) : Int) by rw [Int.natCast_emod, Int.natCast_add]]
          constructor
          · intro z
            have := V.int.inj z
            omega
          · intro z
            rw [z]
        rw [e]
        exact q _ e1
/-! ### rounds_full -/
abbrev srounds_full : Stmt := topS 39
theorem scrounds_full : FnScope ["web", "ring", "hues", "found", "place", "rows", "more", "row"] ["web", "ring", "hues"] (defScope srounds_full) := ⟨rfl, rfl, rfl, by decide +kernel, rfl, by decide +kernel, by decide +kernel⟩
theorem okrounds_full (T : Tx K mg "rounds_full" srounds_full) (B : Bl mg) (Dis_next : Dn P w K mg base "is_next" 2 ["web", "ring", "hues", "one", "other"] spis_next) : Dn P w K mg base "rounds_full" 3 ["web", "ring", "hues"] sprounds_full := by
  obtain ⟨f, fd, F, m⟩ := T.ex
  refine ⟨f, fd, m, F.kp, F.binds (fun _ _ _ _ _ _ us hl => match us, hl with | [_, _, _], _ => rfl), F.ok scrounds_full (fun vs H Q E h => ?_) (fun cdv A outer s H vs Q E hr h => ?_)⟩
  · obtain ⟨v, u, x, wb, k, d, hu, rfl, Tr, q⟩ := h
    rfl
  · obtain ⟨v, u, x, wb, k, d, hu, rfl, Tr, q⟩ := h
    refine ⟨_, (pss_cons (ps_set (i := 3) scrounds_full.nd rfl (by first | exact Or.inl rfl | exact Or.inr rfl) (pe_lst pa_nil))
      (pss_cons (ps_setLc (i := 5) (own := [("place", 4)]) rfl scrounds_full.nd rfl rfl (sw_true rfl rfl rfl (by decide +kernel)) (pi_range1 (by rfl) B.range_ (pa_cons (pe_ix (ix_tupK K rfl) (pv 0) pe_int (fun _ _ => rfl)) pa_nil)) (blkOk_by (N := ["web", "ring", "hues", "found", "place", "rows", "more", "row"]) (sc := defScope srounds_full) (by decide +kernel)) (fun _ _ _ _ _ => (pg_name (i := 4) scrounds_full.nd rfl (by first | exact Or.inl rfl | exact Or.inr rfl))) (fun _ _ _ _ _ => pts_nil) (fun _ _ _ _ _ => (pe_tup (pa_cons (pv 4) pa_nil))))
      (pss_cons (ps_while PassesOwn.never (pt_cmpR (op_neDK K rfl hr.units) (pv 5) (pe_lst pa_nil) (nomark _))
        (pss_cons (ps_set (i := 6) scrounds_full.nd rfl (by first | exact Or.inl rfl | exact Or.inr rfl) (pe_lst pa_nil))
        (pss_cons (ps_for PassesOwn.never rfl (pi_listK K rfl (pv 5)) (pg_name (i := 7) scrounds_full.nd rfl (by first | exact Or.inl rfl | exact Or.inr rfl))
          (pss_one (ps_for PassesOwn.never rfl (pi_range2 (by rfl) B.range_ (pa_cons (pe_op op_add (pe_ix (ix_tupK K rfl) (pv 7) pe_int (fun _ _ => rfl)) pe_int) (pa_cons (pe_ix (ix_tupK K rfl) (pv 0) pe_int (fun _ _ => rfl)) pa_nil))) (pg_name (i := 4) scrounds_full.nd rfl (by first | exact Or.inl rfl | exact Or.inr rfl))
            (pss_one (ps_if (PW.pt (pw_and (pt_cmpR (op_notIn_seqK K rfl) (pv 4) (pv 7) (by rfl)) (pw_and1 (pt_val (pe_d Dis_next (hr.mono (by decide)) rfl (pa_cons (pv 0) (pa_cons (pv 1) (pa_cons (pv 2) (pa_cons (pe_ix (ix_tupK K rfl) (pv 7) (pe_un un_neg pe_int) (fun _ _ => rfl)) (pa_cons (pv 4) pa_nil))))))))))
              (pss_one (ps_expr (pe_bm PySem.F.plainAttrs_list PySem.F.slot_list_append PySem.F.type_list_append mt_append (pv 6) (pa_cons (pe_op (op_catAK K rfl) (pv 7) (pe_tup (pa_cons (pv 4) pa_nil))) pa_nil))))
              pss_nil)))))
        (pss_cons (ps_set (i := 3) scrounds_full.nd rfl (by first | exact Or.inl rfl | exact Or.inr rfl) (pe_op op_cat (pv 3) (pe_lc (own := [("row", 7)]) rfl scrounds_full.nd (pi_listK K rfl (pv 6)) (blkOk_by (N := ["web", "ring", "hues", "found", "place", "rows", "more", "row"]) (sc := defScope srounds_full) (by decide +kernel)) (fun _ _ _ _ _ => (pg_name (i := 7) scrounds_full.nd rfl (by first | exact Or.inl rfl | exact Or.inr rfl))) (fun _ _ _ _ _ => (pts_one (pt_val (pe_d Dis_next (hr.mono (by decide)) rfl (pa_cons (pv 0) (pa_cons (pv 1) (pa_cons (pv 2) (pa_cons (pe_ix (ix_tupK K rfl) (pv 7) (pe_un un_neg pe_int) (fun _ _ => rfl)) (pa_cons (pe_ix (ix_tupK K rfl) (pv 7) pe_int (fun _ _ => rfl)) pa_nil))))))))) (fun _ _ _ _ _ => (pv 7)))))
        (pss_one (ps_set (i := 5) scrounds_full.nd rfl (by first | exact Or.inl rfl | exact Or.inr rfl) (pv 6)))))))
      (pss_one (ps_ret (pe_callB cr_sortA (by rfl) B.sorted_ (by decide +kernel) (pa_cons (pv 3) pa_nil))))))), ?_⟩
    have hn := Tr.two.W.hi
    have hn0 := Tr.two.W.lo
    obtain ⟨wa, wt, rfl, hwa, _⟩ := id Tr.two.web
    generalize hR : nx wb k d hu = R at q
    -- found = []
    refine ⟨Nat.zero_le _, fun o no => ?_⟩
    have e0 : Ex H (upd H o (.lst [])) := Ex.up no
    -- rows = [(place,) ..]
    refine ⟨.ref wa, rfl, wa, _, 0, nV wb.n, rfl, rfl, sqT (e0 _ _ hwa), at0, (wb.n : Int), rfl, by omega, by omega, fun D hD => lc_range0 (n := wb.n) stb_ints (fun i => ((List.range wb.n).take i).map fun p => [p]) hD rfl (fun i hi => ?_) (fun i H1 QY QN hi e1 hY _ => ?_) (fun H1 acc e1 hD1 hacc => ?_)⟩
    · rw [List.length_map, List.length_take, List.length_range]
      omega
    · refine ⟨rfl, nV i, rfl, by show 1 ≤ sizeLine; decide, fun p hp => hY _ _ [i] (Ex.up hp) ⟨p, rfl, upd_same⟩ (out_map (range_get hi))⟩
    rw [take_all (by rw [List.length_range])] at hacc
    -- the while
    refine ⟨fun m σ H' => ∃ (i : Nat) (fv rv : V) (y4 y6 y7 : Option V), m = wb.n - i ∧ i ≤ wb.n ∧ σ = [some (.ref wa), some u, some x, some fv, y4, some rv, y6, y7] ∧ Ex H H' ∧ IsRows H' fv (fnd R wb.n i) ∧ IsRows H' rv (lev R wb.n i), ⟨wb.n, 0, .ref o, .ref D, _, none, none, by omega, by omega, rfl, Ex.tr e0 e1, ⟨o, [], rfl, e1 _ _ upd_same, trivial⟩, D, acc, rfl, hD1, hacc⟩, ?_⟩
    rintro m σ H2 ⟨i, fv, rv, y4, y6, y7, rfl, hi, rfl, e2, hf, hr⟩
    obtain ⟨fa, fvs, rfl, hfa, hfv⟩ := hf
    obtain ⟨ra, rvs, rfl, hra, hrv⟩ := hr
    refine ⟨.ref ra, rfl, Nat.zero_le _, fun l hl => ?_⟩
    have e3 : Ex H2 (upd H2 l (.lst [])) := Ex.up hl
    refine ⟨.list ((lev R wb.n i).map dT), .list [], .lst (sqL (e3 _ _ hra)) (dp_all2 (fun v t z => IsInts.dp z) (hrv.imp fun v r z => z.up e3)), .lst (sqL upd_same) .nil, rows_shaped _, rows_shaped [], _, rfl, ?_⟩
    rw [eqv_rnil]
    cases hem : (lev R wb.n i).isEmpty with
    | true =>
      have hlev : lev R wb.n i = [] := List.isEmpty_iff.mp hem
      refine iteF ⟨.ref fa, rfl, ?_⟩
      refine rd_sorted (e3 _ _ hfa) (hfv.imp fun v r z => z.up e3) (fun r hr z => ?_) fun v H3 zs e4 h1 h2 h3 => ?_
      · obtain ⟨j, hj, W, _⟩ := (mem_fnd i).mp hr
        have := W.len
        rw [z] at this
        simp at this
      · rw [fall_of hi hlev] at h2
        exact q v H3 zs (Ex.tr e2 (Ex.tr e3 e4)) h1 h2 h3
    | false =>
      have hlev : lev R wb.n i ≠ [] := fun z => by rw [z] at hem; simp at hem
      have hin : i < wb.n := by
        rcases Nat.lt_or_ge i wb.n with z | z
        · exact z
        · exact absurd (lev_none z) hlev
      refine iteT ⟨fun σ H' => ∃ (fv rv : V) (y4 y6 y7 : Option V), σ = [some (.ref wa), some u, some x, some fv, y4, some rv, y6, y7] ∧ Ex H H' ∧ IsRows H' fv (fnd R wb.n (i + 1)) ∧ IsRows H' rv (lev R wb.n (i + 1)), ?_, ?_⟩
      · rintro σ' H' ⟨fv, rv, y4, y6, y7, h1, h2, h3, h4⟩
        exact ⟨wb.n - (i + 1), by omega, i + 1, fv, rv, y4, y6, y7, rfl, by omega, h1, h2, h3, h4⟩
      -- more = []
      refine ⟨Nat.zero_le _, fun mo nmo => ?_⟩
      have e4 := Ex.tr e3 (Ex.up (o := .lst []) nmo)
      have nH2 : H2 mo = none := fb e3 nmo
      refine ⟨.ref ra, rfl, ra, rfl, ⟨rvs, sqL (e4 _ _ hra)⟩, for_list (xs := rvs) (fun j σ H' => ∃ y4 y7 : Option V, σ = [some (.ref wa), some u, some x, some (.ref fa), y4, some (.ref ra), some (.ref mo), y7] ∧ Ex H2 H' ∧ ∃ ms, H' mo = some (.lst ms) ∧ All2 (IsInts H') ms (grs R wb.n ((lev R wb.n i).take j))) ⟨_, _, rfl, e4, [], upd_same, trivial⟩ (fun j σ H' _ p => ?_) (fun j z σ H' hj p => ?_) (fun σ H' p => ?_)⟩
      · obtain ⟨y4, y7, rfl, e5, _⟩ := p
        exact sqL (e5 _ _ hra)
      · obtain ⟨y4', y7', rfl, e5, ms, hmo, hms⟩ := p
        obtain ⟨row, hrow, c, rfl, hc⟩ := hrv.get' hj
        have Wr := (mem_lev i row).mp (List.mem_of_getElem? hrow)
        have hne : row ≠ [] := fun z => by
          have := Wr.len
          rw [z] at this
          simp at this
        have hhd : row.headD 0 < wb.n := by
          cases row with
          | nil => exact absurd rfl hne
          | cons a b => exact Wr.lt a (by simp)
        have hc5 := e5 _ _ hc
        have hwa5 := e5 _ _ (e2 _ _ hwa)
        have hgrs : grs R wb.n ((lev R wb.n i).take (j + 1)) = grs R wb.n ((lev R wb.n i).take j) ++ gr R wb.n row := by
          unfold grs
          rw [List.take_add_one, hrow, List.flatMap_append]
          simp
        have hcnt : (grs R wb.n ((lev R wb.n i).take j)).length ≤ 78125 := by
          have h1 := flat_len (f := gr R wb.n) (m := wb.n) ((lev R wb.n i).take j) fun _ => gr_len
          have h2 := lev5 (R := R) hn (show i ≤ 5 by omega)
          have h3 : ((lev R wb.n i).take j).length ≤ 15625 := by
            rw [List.length_take]
            omega
          have h4 : ((lev R wb.n i).take j).length * wb.n ≤ 15625 * 5 := Nat.mul_le_mul h3 hn
          unfold grs
          omega
        refine ⟨.ref c, rfl, c, _, 0, nV (row.headD 0), rfl, rfl, sqT hc5, at_headD hne, (row.headD 0 : Int), 1, rfl, rfl, .ref wa, rfl, wa, _, 0, nV wb.n, rfl, rfl, sqT hwa5, at0, (row.headD 0 : Int) + 1, (wb.n : Int), rfl, ⟨by omega, by omega, by omega, by omega⟩, ?_⟩
        have hto : ((wb.n : Int) - ((row.headD 0 : Int) + 1)).toNat = wb.n - (row.headD 0 + 1) := by omega
        rw [hto]
        refine for_range (lo := (row.headD 0 : Int) + 1) (n := wb.n - (row.headD 0 + 1)) (fun t σ H' => ∃ y4 : Option V, σ = [some (.ref wa), some u, some x, some (.ref fa), y4, some (.ref ra), some (.ref mo), some (.ref c)] ∧ Ex H2 H' ∧ ∃ ms, H' mo = some (.lst ms) ∧ All2 (IsInts H') ms (grs R wb.n ((lev R wb.n i).take j) ++ ((List.range' (row.headD 0 + 1) t).filter fun p => !(row.contains p) && R (row.getLastD 0) p).map fun p => row ++ [p])) ⟨y4', rfl, e5, ms, hmo, by
          rw [List.range'_zero]
          show All2 _ _ (_ ++ [])
          rw [List.append_nil]
          exact hms⟩ (fun t σ H' ht p => ?_) (fun σ H' p => ?_)
        · obtain ⟨y4'', rfl, e6, ms, hmo, hms⟩ := p
          have ep : V.int ((row.headD 0 : Int) + 1 + (t : Int)) = nV (row.headD 0 + 1 + t) := by
            congr 1
          rw [ep]
          generalize hpl : row.headD 0 + 1 + t = pl
          have hpn : pl < wb.n := by omega
          have hc6 := e6 _ _ hc
          have hlast : row.getLastD 0 < wb.n := Wr.lt _ (last_mem hne)
          have hr1 : List.range' (row.headD 0 + 1) (t + 1) = List.range' (row.headD 0 + 1) t ++ [pl] := by rw [List.range'_1_concat, hpl]
          refine ⟨nV pl, rfl, .ref c, rfl, c, _, rfl, .inr (sqT hc6), rfl, flat_nat row, _, rfl, ?_⟩
          show if (!inV (nV pl) (row.map nV)) = true then _ else _
          rw [inV_nat]
          cases hcon : row.contains pl with
          | true =>
            refine iteF ?_
            refine ⟨_, rfl, e6, ms, hmo, ?_⟩
            rw [hr1, List.filter_append]
            simp only [List.filter_cons, hcon, Bool.not_true, Bool.false_and, Bool.false_eq_true, if_false, List.filter_nil, List.append_nil]
            exact hms
          | false =>
            refine iteT ?_
            refine ⟨.ref wa, rfl, u, rfl, x, rfl, .ref c, rfl, 1, rfl, c, _, -1, nV (row.getLastD 0), rfl, rfl, sqT hc6, at_lastD hne, nV pl, rfl, .ref wa, u, x, wb, k, d, hu, row.getLastD 0, pl, rfl, (Tr.up e2).up e6, hlast, hpn, fun H7 e7 => ⟨_, rfl, ?_⟩⟩
            rw [hR]
            cases hnx : R (row.getLastD 0) pl with
            | false =>
              refine iteF ⟨_, rfl, Ex.tr e6 e7, ms, e7 _ _ hmo, ?_⟩
              rw [hr1, List.filter_append]
              simp only [List.filter_cons, hcon, hnx, Bool.and_false, Bool.false_eq_true, if_false, List.filter_nil, List.append_nil]
              exact hms.imp fun v r z => z.up e7
            | true =>
              have hmo7 := e7 _ _ hmo
              refine iteT ⟨.ref mo, rfl, .inl ⟨rfl, _, .inl (.inl hmo7)⟩, .ref c, rfl, nV pl, rfl, by show 1 ≤ sizeLine; decide, fun p1 hp1 => ?_⟩
              have e8 : Ex H7 (upd H7 p1 (.tup [nV pl])) := Ex.up hp1
              refine rd_cat (xs := row.map nV) (ys := [nV pl]) (e8 _ _ (e7 _ _ hc6)) upd_same ?_ fun c2 H9 e9 hc2 => ?_
              · have h1 : row.length ≤ wb.n := by
                  have := Wr.nd.length_le_of_subset (show row ⊆ List.range wb.n from fun z hz => List.mem_range.mpr (Wr.lt z hz))
                  rwa [List.length_range] at this
                rw [List.length_map]
                show _ + 1 ≤ _
                omega
              have e79 := Ex.tr e8 e9
              have hmo9 := e79 _ _ hmo7
              have hlen9 : ms.length ≤ 78130 := by
                have h1 := hms.len
                rw [List.length_append, List.length_map] at h1
                have h2 := List.length_filter_le (fun p => !(row.contains p) && R (row.getLastD 0) p) (List.range' (row.headD 0 + 1) t)
                rw [List.length_range'] at h2
                omega
              refine ⟨mo, ms, .ref c2, rfl, rfl, hmo9, smallT (by omega), _, rfl, fun b o' hb => ?_, ms ++ [.ref c2], upd_same, ?_⟩
              · rw [upd_ne (ne_of_none hb nH2)]
                exact e79 _ _ (e7 _ _ (e6 _ _ hb))
              · rw [hr1, List.filter_append, List.map_append, ← List.append_assoc]
                simp only [List.filter_cons, hcon, hnx, Bool.not_false, Bool.and_self, if_true, List.filter_nil, List.map_cons, List.map_nil]
                refine All2.app (hms.imp fun v r z => stb_ints.up _ _ _ _ _ _ hmo9 ((z.up e7).up e79)) ⟨stb_ints.up _ _ _ _ _ _ hmo9 ⟨c2, rfl, ?_⟩, trivial⟩
                rw [hc2, List.map_append]
                rfl
        · obtain ⟨y4'', rfl, e6, ms, hmo, hms⟩ := p
          refine ⟨_, _, rfl, e6, ms, hmo, ?_⟩
          rw [hgrs]
          exact hms
      · obtain ⟨y4', y7', rfl, e5, ms, hmo, hms⟩ := p
        rw [take_all hrv.len] at hms
        have hms' : All2 (IsInts H') ms (lev R wb.n (i + 1)) := hms
        -- found = found + [..]
        refine ⟨.ref fa, rfl, .ref mo, rfl, mo, rfl, ⟨_, sqL hmo⟩, fun D2 hD2 => lc_listD (xs := ms) stb_ints (fun j => ((lev R wb.n (i + 1)).take j).filter (closes R)) hmo hD2 rfl (fun j _ => ?_) (fun j z H6 QY QN hj e6 hY hN => ?_) (fun H6 acc e6 hD6 hacc6 => ?_)⟩
        · exact Nat.le_trans fil_len (Nat.le_trans (lev5 hn (by omega)) (by decide))
        · obtain ⟨row, hrow, hz⟩ := hms'.get' hj
          obtain ⟨c, rfl, hc⟩ := hz
          have Wr := (mem_lev (i + 1) row).mp (List.mem_of_getElem? hrow)
          have hne : row ≠ [] := fun z => by
            have := Wr.len
            rw [z] at this
            simp at this
          have hhd : row.headD 0 < wb.n := by
            cases row with
            | nil => exact absurd rfl hne
            | cons a b => exact Wr.lt a (by simp)
          have hc6 := e6 _ _ hc
          refine ⟨rfl, .ref wa, rfl, u, rfl, x, rfl, .ref c, rfl, 1, rfl, c, _, -1, nV (row.getLastD 0), rfl, rfl, sqT hc6, at_lastD hne, .ref c, rfl, c, _, 0, nV (row.headD 0), rfl, rfl, sqT hc6, at_headD hne, .ref wa, u, x, wb, k, d, hu, row.getLastD 0, row.headD 0, rfl, ((Tr.up e2).up e5).up e6, Wr.lt _ (last_mem hne), hhd, fun H7 e7 => ⟨_, rfl, ?_⟩⟩
          rw [hR]
          cases hcl : R (row.getLastD 0) (row.headD 0) with
          | true => exact iteT ⟨.ref c, rfl, hY _ _ row e7 ⟨c, rfl, e7 _ _ hc6⟩ (fil_yes hrow hcl)⟩
          | false => exact iteF (hN _ e7 (fil_no hrow hcl))
        · rw [take_all hms'.len] at hacc6
          have e56 := Ex.tr e5 e6
          refine ⟨fa, D2, fvs, acc, rfl, rfl, e56 _ _ hfa, hD6, ?_, fun p hp => ?_⟩
          · have h1 := fnd5 (R := R) hn i (by omega)
            have h2 := hfv.len
            have h3 := hacc6.len
            have h4 := List.length_filter_le (closes R) (lev R wb.n (i + 1))
            have h5 := lev5 (R := R) hn (show i + 1 ≤ 5 by omega)
            refine small ?_
            have h6 : i * 15625 ≤ 4 * 15625 := Nat.mul_le_mul_right _ (by omega)
            omega
          · have e7 : Ex H6 (upd H6 p (.lst (fvs ++ acc))) := Ex.up hp
            refine ⟨.ref mo, rfl, .ref p, .ref mo, _, _, _, rfl, Ex.tr e2 (Ex.tr e56 e7), ⟨p, _, rfl, upd_same, ?_⟩, ⟨mo, ms, rfl, e7 _ _ (e6 _ _ hmo), hms'.imp fun v r z => (z.up e6).up e7⟩⟩
            show All2 _ (fvs ++ acc) (fnd R wb.n i ++ (lev R wb.n (i + 1)).filter (closes R))
            exact All2.app (hfv.imp fun v r z => (z.up e56).up e7) (hacc6.imp fun v r z => z.up e7)
/-! ### always_full -/
abbrev salways_full : Stmt := topS 60
theorem scalways_full : FnScope ["web", "ring", "rows", "row"] ["web", "ring"] (defScope salways_full) := ⟨rfl, rfl, rfl, by decide +kernel, rfl, by decide +kernel, by decide +kernel⟩
theorem okalways_full (T : Tx K mg "always_full" salways_full) (B : Bl mg) (Dcheck_both : Dn P w K mg base "check_both" 6 ["web", "ring"] spcheck_both) (Dall_rows : Dn P w K mg base "all_rows" 3 ["web", "ring", "known"] spall_rows) (Drounds_full : Dn P w K mg base "rounds_full" 3 ["web", "ring", "hues"] sprounds_full) : Dn P w K mg base "always_full" 7 ["web", "ring"] spalways_full := by
  obtain ⟨f, fd, F, m⟩ := T.ex
  refine ⟨f, fd, m, F.kp, F.binds (fun _ _ _ _ _ _ us hl => match us, hl with | [_, _], _ => rfl), F.ok scalways_full (fun vs H Q E h => ?_) (fun cdv A outer s H vs Q E hr h => ?_)⟩
  · obtain ⟨v, u, wb, k, d, rfl, Tw, hk12, hne, q⟩ := h
    rfl
  · obtain ⟨v, u, wb, k, d, rfl, Tw, hk12, hne, q⟩ := h
    refine ⟨_, (pss_cons (ps_expr (pe_d Dcheck_both (hr.mono (by decide)) rfl (pa_cons (pv 0) (pa_cons (pv 1) pa_nil))))
      (pss_cons (ps_if (pt_cmpR (op_eqDK K rfl hr.units) (pe_ix (ix_tupK K rfl) (pv 0) pe_int (fun _ _ => rfl)) (pe_tup pa_nil) (nomark _))
        (pss_one (ps_ret pe_bl))
        pss_nil)
      (pss_cons (ps_set (i := 2) scalways_full.nd rfl (by first | exact Or.inl rfl | exact Or.inr rfl) (pe_d Dall_rows (hr.mono (by decide)) rfl (pa_cons (pv 0) (pa_cons (pv 1) (pa_cons (pe_op (op_catAK K rfl) (pe_tup (pa_cons pe_int pa_nil)) (pe_op op_repA (pe_tup (pa_cons pe_non pa_nil)) (pe_op op_sub (pe_ix (ix_tupK K rfl) (pv 0) pe_int (fun _ _ => rfl)) pe_int))) pa_nil)))))
      (pss_one (ps_ret (pe_and (pe_cmpR (op_neDK K rfl hr.units) (pv 2) (pe_lst pa_nil) (nomark _)) (pe_one (pe_not (pe_callB (cr_any rfl) (by rfl) B.any_ (by decide +kernel) (pa_cons (pe_lc (own := [("row", 3)]) rfl scalways_full.nd (pi_listK K rfl (pv 2)) (blkOk_by (N := ["web", "ring", "rows", "row"]) (sc := defScope salways_full) (by decide +kernel)) (fun _ _ _ _ _ => (pg_name (i := 3) scalways_full.nd rfl (by first | exact Or.inl rfl | exact Or.inr rfl))) (fun _ _ _ _ _ => pts_nil) (fun _ _ _ _ _ => (pe_cmpR (op_eqDK K rfl hr.units) (pe_d Drounds_full (hr.mono (by decide)) rfl (pa_cons (pv 0) (pa_cons (pv 1) (pa_cons (pv 3) pa_nil)))) (pe_lst pa_nil) (nomark _)))) pa_nil)))))))))), ?_⟩
    have hn := Tw.W.hi
    have hn0 := Tw.W.lo
    refine ⟨v, rfl, u, rfl, v, u, wb, k, d, rfl, Tw, fun H1 e1 => ?_⟩
    have Tw1 := Tw.up e1
    obtain ⟨wa, wt, rfl, hwa, hwt⟩ := id Tw1.web
    obtain ⟨wta, us, rfl, _⟩ := id hwt
    refine ⟨.ref wa, rfl, wa, _, 1, .ref wta, rfl, rfl, sqT hwa, at1, Nat.zero_le _, fun p hp => rd_teq (hwt.up (Ex.up hp)) upd_same ⟨_, rfl, ?_⟩⟩
    have hie : wb.ts.isEmpty = false := by
      cases h : wb.ts with
      | nil => exact absurd h hne
      | cons a b => rfl
    rw [hie]
    have e2 := Ex.tr e1 (Ex.up (o := .tup []) hp)
    refine iteF ⟨.ref wa, rfl, u, rfl, ?_⟩
    refine rd_kn0 (w := wb) rfl (Tw.web.up e2) hn0 hn fun c H3 e3 hc => ?_
    have e13 := Ex.tr e2 e3
    refine ⟨.ref wa, u, c, wb, k, d, kn0 wb.n, rfl, Tw.up e13, hk12, hc, kn0_len (by omega), fun rv H4 e4 hr => ?_⟩
    obtain ⟨ra, vs, rfl, hra, hvs⟩ := hr
    have e14 := Ex.tr e13 e4
    refine ⟨.ref ra, rfl, Nat.zero_le _, fun l hl => ?_⟩
    have e5 : Ex H4 (upd H4 l (.lst [])) := Ex.up hl
    refine ⟨.list ((arAt wb k d (kn0 wb.n) wb.n).map dT), .list [], .lst (sqL (e5 _ _ hra)) (dp_all2 (fun v t z => IsInts.dp z) (hvs.imp fun v r z => z.up e5)), .lst (sqL upd_same) .nil, rows_shaped _, rows_shaped [], _, rfl, ?_⟩
    rw [eqv_rnil]
    have e15 := Ex.tr e14 e5
    unfold afull at q
    cases hem : (arAt wb k d (kn0 wb.n) wb.n).isEmpty with
    | true =>
      rw [hem] at q
      exact iteF (q _ e15)
    | false =>
      rw [hem] at q
      refine iteT ⟨.ref ra, rfl, ra, rfl, ⟨_, sqL (e5 _ _ hra)⟩, fun D hD => lc_listD (xs := vs) (stb_val V.bl) (fun j => ((arAt wb k d (kn0 wb.n) wb.n).take j).map fun row => (fall (nx wb k d row) wb.n).isEmpty) (e5 _ _ hra) hD rfl (fun j _ => ?_) (fun j z H6 QY QN hj e6 hY _ => ?_) (fun H6 acc e6 hD6 hacc => ?_)⟩
      · rw [List.length_map, List.length_take]
        have h1 := ar_len (w := wb) (k := k) (d := d) (known := kn0 wb.n) wb.n
        have h2 := pow12 hk12 hn
        omega
      · obtain ⟨row, hrow, hz⟩ := hvs.get' hj
        have ho := ar_hues Tw.W.T (List.mem_of_getElem? hrow)
        have e16 := Ex.tr e15 e6
        refine ⟨rfl, .ref wa, rfl, u, rfl, z, rfl, .ref wa, u, z, wb, k, d, row, rfl, ⟨Tw.up e16, (hz.up e5).up e6, ho⟩, fun rv H7 zs e7 hr hperm _ => ?_⟩
        obtain ⟨ya, ys, rfl, hya, hys⟩ := hr
        refine ⟨Nat.zero_le _, fun l2 hl2 => ?_⟩
        have e8 : Ex H7 (upd H7 l2 (.lst [])) := Ex.up hl2
        refine ⟨.list (zs.map dT), .list [], .lst (sqL (e8 _ _ hya)) (dp_all2 (fun v t z => IsInts.dp z) (hys.imp fun v r z => z.up e8)), .lst (sqL upd_same) .nil, rows_shaped _, rows_shaped [], ?_⟩
        rw [eqv_rnil]
        have ez : zs.isEmpty = (fall (nx wb k d row) wb.n).isEmpty := by
          have := hperm.length_eq
          cases zs with
          | nil =>
            cases h : fall (nx wb k d row) wb.n with
            | nil => rfl
            | cons a b => rw [h] at this; simp at this
          | cons a b =>
            cases h : fall (nx wb k d row) wb.n with
            | nil => rw [h] at this; simp at this
            | cons a b => rfl
        exact hY _ _ _ (Ex.tr e7 e8) (by rw [ez]) (out_map hrow)
      · rw [take_all hvs.len] at hacc
        refine ⟨D, _, rfl, sqL (by rw [hD6, hacc.map_eq]), _, rfl, ?_⟩
        have e7 : ((arAt wb k d (kn0 wb.n) wb.n).map fun row => (fall (nx wb k d row) wb.n).isEmpty).any id = (arAt wb k d (kn0 wb.n) wb.n).any fun row => (fall (nx wb k d row) wb.n).isEmpty := by
          rw [List.any_map]
          rfl
        rw [e7]
        exact q _ (Ex.tr e15 e6)
/-! ### check_three -/
abbrev scheck_three : Stmt := topS 40
theorem sccheck_three : FnScope ["web", "ring", "hues"] ["web", "ring", "hues"] (defScope scheck_three) := ⟨rfl, rfl, rfl, by decide +kernel, rfl, by decide +kernel, by decide +kernel⟩
theorem okcheck_three (T : Tx K mg "check_three" scheck_three) (B : Bl mg) (Dcheck_both : Dn P w K mg base "check_both" 6 ["web", "ring"] spcheck_both) (Dcheck_hues : Dn P w K mg base "check_hues" 5 ["web", "ring", "hues"] spcheck_hues) : Dn P w K mg base "check_three" 7 ["web", "ring", "hues"] spcheck_three := by
  obtain ⟨f, fd, F, m⟩ := T.ex
  refine ⟨f, fd, m, F.kp, F.binds (fun _ _ _ _ _ _ us hl => match us, hl with | [_, _, _], _ => rfl), F.ok sccheck_three (fun vs H Q E h => ?_) (fun cdv A outer s H vs Q E hr h => ?_)⟩
  · obtain ⟨v, u, x, wb, k, d, hu, rfl, Tr, q⟩ := h
    rfl
  · obtain ⟨v, u, x, wb, k, d, hu, rfl, Tr, q⟩ := h
    refine ⟨_, (pss_cons (ps_expr (pe_d Dcheck_both (hr.mono (by decide)) rfl (pa_cons (pv 0) (pa_cons (pv 1) pa_nil))))
      (pss_one (ps_expr (pe_d Dcheck_hues (hr.mono (by decide)) rfl (pa_cons (pv 0) (pa_cons (pv 1) (pa_cons (pv 2) pa_nil))))))), ?_⟩
    exact ⟨v, rfl, u, rfl, v, u, wb, k, d, rfl, Tr.two, fun H1 e1 => ⟨v, rfl, u, rfl, x, rfl, v, u, x, wb, k, d, hu, rfl, Tr.up e1, fun H2 e2 => q _ (Ex.tr e1 e2)⟩⟩
/-! ### full_rounds -/
abbrev sfull_rounds : Stmt := topS 41
theorem scfull_rounds : FnScope ["web", "ring", "hues"] ["web", "ring", "hues"] (defScope sfull_rounds) := ⟨rfl, rfl, rfl, by decide +kernel, rfl, by decide +kernel, by decide +kernel⟩
theorem okfull_rounds (T : Tx K mg "full_rounds" sfull_rounds) (B : Bl mg) (Dcheck_three : Dn P w K mg base "check_three" 7 ["web", "ring", "hues"] spcheck_three) (Drounds_full : Dn P w K mg base "rounds_full" 3 ["web", "ring", "hues"] sprounds_full) : Dn P w K mg base "full_rounds" 8 ["web", "ring", "hues"] spfull_rounds := by
  obtain ⟨f, fd, F, m⟩ := T.ex
  refine ⟨f, fd, m, F.kp, F.binds (fun _ _ _ _ _ _ us hl => match us, hl with | [_, _, _], _ => rfl), F.ok scfull_rounds (fun vs H Q E h => ?_) (fun cdv A outer s H vs Q E hr h => ?_)⟩
  · obtain ⟨v, u, x, wb, k, d, hu, rfl, Tr, q⟩ := h
    rfl
  · obtain ⟨v, u, x, wb, k, d, hu, rfl, Tr, q⟩ := h
    refine ⟨_, (pss_cons (ps_expr (pe_d Dcheck_three (hr.mono (by decide)) rfl (pa_cons (pv 0) (pa_cons (pv 1) (pa_cons (pv 2) pa_nil)))))
      (pss_one (ps_ret (pe_d Drounds_full (hr.mono (by decide)) rfl (pa_cons (pv 0) (pa_cons (pv 1) (pa_cons (pv 2) pa_nil))))))), ?_⟩
    exact ⟨v, rfl, u, rfl, x, rfl, v, u, x, wb, k, d, hu, rfl, Tr, fun H1 e1 => ⟨v, rfl, u, rfl, x, rfl, v, u, x, wb, k, d, hu, rfl, Tr.up e1, fun z H2 zs e2 h1 h2 h3 => q z H2 zs (Ex.tr e1 e2) h1 h2 h3⟩⟩
/-! ### is_full -/
abbrev sis_full : Stmt := topS 42
theorem scis_full : FnScope ["web", "ring", "hues", "thing", "one", "other"] ["web", "ring", "hues", "thing"] (defScope sis_full) := ⟨rfl, rfl, rfl, by decide +kernel, rfl, by decide +kernel, by decide +kernel⟩
theorem okis_full (T : Tx K mg "is_full" sis_full) (B : Bl mg) (Dare_numbers_of : Dn P w K mg base "are_numbers_of" 3 ["thing", "size", "many"] spare_numbers_of) (Dis_next : Dn P w K mg base "is_next" 2 ["web", "ring", "hues", "one", "other"] spis_next) : Dn P w K mg base "is_full" 4 ["web", "ring", "hues", "thing"] spis_full := by
  obtain ⟨f, fd, F, m⟩ := T.ex
  refine ⟨f, fd, m, F.kp, F.binds (fun _ _ _ _ _ _ us hl => match us, hl with | [_, _, _, _], _ => rfl), F.ok scis_full (fun vs H Q E h => ?_) (fun cdv A outer s H vs Q E hr h => ?_)⟩
  · obtain ⟨v, u, x, y, wb, k, d, hu, row, rfl, Tr, ⟨p, rfl, hp⟩, hrd, q⟩ := h
    rfl
  · obtain ⟨v, u, x, y, wb, k, d, hu, row, rfl, Tr, ⟨p, rfl, hp⟩, hrd, q⟩ := h
    refine ⟨_, (pss_cons (ps_if (PW.pt (pw_or (pt_not (pt_val (pe_callB call_isi (by rfl) B.isinstance_ (by decide +kernel) (pa_cons (pv 3) (pa_cons (pe_bltn (v := .ty "tuple") (by rfl) B.tuple_ (by decide +kernel) rfl) pa_nil))))) (pw_or (pt_cmpR op_lt (pe_callB (call_lenK K rfl) (by rfl) B.len_ (by decide +kernel) (pa_cons (pv 3) pa_nil)) pe_int (nomark _)) (pw_or1 (pt_not (pt_val (pe_d Dare_numbers_of (hr.mono (by decide)) rfl (pa_cons (pv 3) (pa_cons (pe_callB (call_lenK K rfl) (by rfl) B.len_ (by decide +kernel) (pa_cons (pv 3) pa_nil)) (pa_cons (pe_ix (ix_tupK K rfl) (pv 0) pe_int (fun _ _ => rfl)) pa_nil))))))))))
        (pss_one (ps_ret pe_bl))
        pss_nil)
      (pss_cons (ps_if (PW.pt (pw_or (pt_cmpR op_ne (pe_lenSetT (by rfl) B.len_ (by rfl) B.set_ (pv 3)) (pe_callB (call_lenK K rfl) (by rfl) B.len_ (by decide +kernel) (pa_cons (pv 3) pa_nil)) (nomark _)) (pw_or1 (pt_cmpR op_ne (pe_ix (ix_tupK K rfl) (pv 3) pe_int (fun _ _ => rfl)) (pe_callB (cr_minT rfl hr.units) (by rfl) B.min_ (by decide +kernel) (pa_cons (pv 3) pa_nil)) (nomark _)))))
        (pss_one (ps_ret pe_bl))
        pss_nil)
      (pss_one (ps_ret (pe_callB (cr_all rfl) (by rfl) B.all_ (by decide +kernel) (pa_cons (pe_lc (own := [("one", 4), ("other", 5)]) rfl scis_full.nd (RZ.pi_zipA (by rfl) B.zip_ (pa_cons (pv 3) (pa_cons (pe_op (op_catAK K rfl) (pe_slice (sl_tupAK K rfl) (pv 3) (po_some pe_int) po_none) (pe_slice (sl_tupAK K rfl) (pv 3) po_none (po_some pe_int))) pa_nil))) (blkOk_by (N := ["web", "ring", "hues", "thing", "one", "other"]) (sc := defScope sis_full) (by decide +kernel)) (fun _ _ _ _ _ => (pg_tupK K rfl (n := 2) rfl (pgs_cons (pg_name (i := 4) scis_full.nd rfl (by first | exact Or.inl rfl | exact Or.inr rfl)) (pgs_cons (pg_name (i := 5) scis_full.nd rfl (by first | exact Or.inl rfl | exact Or.inr rfl)) pgs_nil)))) (fun _ _ _ _ _ => pts_nil) (fun _ _ _ _ _ => (pe_d Dis_next (hr.mono (by decide)) rfl (pa_cons (pv 0) (pa_cons (pv 1) (pa_cons (pv 2) (pa_cons (pv 4) (pa_cons (pv 5) pa_nil)))))))) pa_nil)))))), ?_⟩
    obtain ⟨c, wt, rfl, hc, _⟩ := id Tr.two.web
    have h2 := hrd.two
    have hlt := hrd.lt
    have hn := Tr.two.W.hi
    have hlen : row.length ≤ 5 := by
      have := hrd.nd.length_le_of_subset (show row ⊆ List.range wb.n from fun z hz => List.mem_range.mpr (hlt z hz))
      rw [List.length_range] at this
      omega
    have hlm : (row.map nV).length = row.length := List.length_map ..
    refine ⟨.ref p, rfl, .ref p, .ty "tuple", .type "tuple", .type "tuple", true, rfl, .ty _, .base (.tup hp), kit_ty (by decide +kernel), true, rfl, iteF ?_⟩
    refine ⟨.ref p, rfl, p, _, rfl, .inr (sqT hp), ((row.map nV).length : Int), 2, rfl, rfl, _, rfl, ?_⟩
    rw [decide_eq_false (by omega)]
    refine iteF ⟨.ref p, rfl, .ref p, rfl, p, _, rfl, .inr (sqT hp), .ref c, rfl, c, _, 0, nV wb.n, rfl, rfl, sqT hc, at0, .ref p, row, (row.map nV).length, wb.n, rfl, ⟨p, rfl, hp⟩, hlm.symm, by omega, hlt, fun H1 e1 => ⟨true, rfl, iteF ?_⟩⟩
    have hp1 := e1 _ _ hp
    -- len(set(thing)) != len(thing) or thing[0] != min(thing)
    refine ⟨.ref p, rfl, p, row.map (fun n : Nat => ((n : Nat) : Int)), rfl, sqT (by rw [← map_nV]; exact hp1), ?_, by rw [List.length_map]; omega, .ref p, rfl, p, _, rfl, .inr (sqT hp1), rfl, _, rfl, iteNS ?_ ?_⟩
    · unfold List.Nodup
      rw [List.pairwise_map]
      exact List.Pairwise.imp (fun h z => h (by omega)) hrd.nd
    · rw [List.length_map, List.length_map]
    obtain ⟨r0, rt, rfl⟩ : ∃ r0 rt, row = r0 :: rt := by
      cases row with
      | nil => exact absurd h2 (by simp)
      | cons a b => exact ⟨a, b, rfl⟩
    refine ⟨.ref p, rfl, p, _, 0, nV r0, rfl, rfl, sqT hp1, at0, .ref p, rfl, p, (r0 : Int), rt.map (fun n : Nat => ((n : Nat) : Int)), rfl, sqT (by rw [hp1, map_nV]; rfl), ?_⟩
    rw [min_head (n := r0) rt (fun z hz => hrd.big z hz)]
    refine ⟨rfl, _, rfl, iteNS rfl ?_⟩
    -- zip(thing, thing[1:] + thing[:1])
    have hch := hrd.ch
    refine ⟨.ref p, rfl, .ref p, rfl, 1, rfl, ?_⟩
    refine rd_fromP 1 hp1 (Nat.le_refl _) (by rw [hlm]; omega) fun p2 hp2 => ?_
    have e2 : Ex H1 (upd H1 p2 (.tup (((r0 :: rt).map nV).drop 1))) := Ex.up hp2
    refine ⟨.ref p, rfl, 1, rfl, ?_⟩
    refine rd_to 1 (e2 _ _ hp1) (by rw [hlm]; omega) fun p3 hp3 => ?_
    have e3 := Ex.tr e2 (Ex.up (o := .tup (((r0 :: rt).map nV).take 1)) hp3)
    refine rd_cat (show _ = some (HO.tup (((r0 :: rt).map nV).drop 1)) from ?_) (show _ = some (HO.tup (((r0 :: rt).map nV).take 1)) from upd_same) (by rw [List.length_drop, List.length_take, hlm]; omega) fun p4 H4 e4 hp4 => ?_
    · rw [upd_ne (ne_of_none (upd_same (H := H1) (a := p2)) hp3), upd_same]
    have e14 := Ex.tr e1 (Ex.tr e3 e4)
    have hp' := e14 _ _ hp
    have hl2 : ((r0 :: rt).map nV).length = (((r0 :: rt).map nV).drop 1 ++ ((r0 :: rt).map nV).take 1).length := by
      rw [List.length_append, List.length_drop, List.length_take, hlm]
      omega
    refine ⟨p, p4, _, _, rfl, .inr ⟨sqT hp', sqT hp4, fun D hD => lc_data (stb_val V.bl) (walk_zipT hl2) (fun i => List.replicate i true) hD (fun H5 e5 => ⟨sqT (e5 _ _ hp'), sqT (e5 _ _ hp4)⟩) rfl (fun i hi => ?_) (fun i z H5 H6 QY QN hi e5 hy hY _ => ?_) (fun H5 acc e5 hD5 hacc => ?_)⟩⟩
    · rw [List.length_replicate]
      omega
    · obtain ⟨T, z1, z2, rfl, hT, rfl, g1, g2⟩ := hy
      obtain ⟨n1, f1, rfl⟩ := nV_get g1
      have g2' : ((rt ++ [r0]).map nV)[i]? = some z2 := by
        rw [List.map_append]
        exact g2
      obtain ⟨n2, f2, rfl⟩ := nV_get g2'
      have hnx : nx wb k d hu n1 n2 = true := ch_at hch f1 (by
        show ((r0 :: (rt ++ [r0])))[i + 1]? = some n2
        rw [List.getElem?_cons_succ]
        exact f2)
      have m1 : n1 < wb.n := hlt n1 (List.mem_of_getElem? f1)
      have m2 : n2 < wb.n := by
        have := List.mem_of_getElem? f2
        exact hlt n2 (by simp at this ⊢; exact this.symm)
      have e6 := Ex.tr (Ex.tr e14 e5) (Ex.up (o := .tup [nV n1, nV n2]) hT)
      refine ⟨T, [nV n1, nV n2], rfl, sqT upd_same, rfl, nV n1, [nV n2], rfl, nV n2, [], rfl, rfl, rfl, ?_⟩
      refine ⟨.ref c, rfl, u, rfl, x, rfl, nV n1, rfl, nV n2, rfl, .ref c, u, x, wb, k, d, hu, n1, n2, rfl, Tr.up e6, m1, m2, fun H7 e7 => ?_⟩
      rw [hnx]
      exact hY _ H7 true (Ex.tr (Ex.up hT) e7) rfl (by rw [List.replicate_succ'])
    · refine ⟨D, List.replicate ((r0 :: rt).map nV).length true, rfl, sqL (by rw [hD5, hacc.map_eq]), ?_⟩
      have e1' : (List.replicate ((r0 :: rt).map nV).length true).all id = true := by
        rw [List.all_eq_true]
        intro x hx
        exact (List.mem_replicate.mp hx).2
      rw [e1']
      exact q _ (Ex.tr e14 e5)
/-! ### laps_of -/
abbrev slaps_of : Stmt := topS 44
theorem sclaps_of : FnScope ["web", "ring", "hues", "full"] ["web", "ring", "hues", "full"] (defScope slaps_of) := ⟨rfl, rfl, rfl, by decide +kernel, rfl, by decide +kernel, by decide +kernel⟩
theorem oklaps_of (T : Tx K mg "laps_of" slaps_of) (B : Bl mg) (Dcheck_three : Dn P w K mg base "check_three" 7 ["web", "ring", "hues"] spcheck_three) (Dis_full : Dn P w K mg base "is_full" 4 ["web", "ring", "hues", "thing"] spis_full) : Dn P w K mg base "laps_of" 8 ["web", "ring", "hues", "full"] splaps_of := by
  obtain ⟨f, fd, F, m⟩ := T.ex
  refine ⟨f, fd, m, F.kp, F.binds (fun _ _ _ _ _ _ us hl => match us, hl with | [_, _, _, _], _ => rfl), F.ok sclaps_of (fun vs H Q E h => ?_) (fun cdv A outer s H vs Q E hr h => ?_)⟩
  · obtain ⟨v, u, x, y, wb, k, d, hu, row, rfl, Tr, hy, hrd, q⟩ := h
    rfl
  · obtain ⟨v, u, x, y, wb, k, d, hu, row, rfl, Tr, hy, hrd, q⟩ := h
    refine ⟨_, (pss_cons (ps_expr (pe_d Dcheck_three (hr.mono (by decide)) rfl (pa_cons (pv 0) (pa_cons (pv 1) (pa_cons (pv 2) pa_nil)))))
      (pss_cons (ps_if (pt_not (pt_val (pe_d Dis_full (hr.mono (by decide)) rfl (pa_cons (pv 0) (pa_cons (pv 1) (pa_cons (pv 2) (pa_cons (pv 3) pa_nil)))))))
        (pss_one ps_never)
        pss_nil)
      (pss_one (ps_ret (pe_op op_fdiv (pe_op op_mul (pe_callB (call_lenK K rfl) (by rfl) B.len_ (by decide +kernel) (pa_cons (pv 3) pa_nil)) (pe_ix (ix_tupK K rfl) (pv 1) pe_int (fun _ _ => rfl))) (pe_ix (ix_tupK K rfl) (pv 1) pe_int (fun _ _ => rfl))))))), ?_⟩
    refine ⟨v, rfl, u, rfl, x, rfl, v, u, x, wb, k, d, hu, rfl, Tr, fun H1 e1 => ⟨v, rfl, u, rfl, x, rfl, y, rfl, v, u, x, y, wb, k, d, hu, row, rfl, Tr.up e1, hy.up e1, hrd, fun H2 e2 => ⟨true, rfl, iteF ?_⟩⟩⟩
    have Tr2 := (Tr.up e1).up e2
    obtain ⟨p, rfl, hp⟩ := (hy.up e1).up e2
    obtain ⟨z, rfl, hz⟩ := Tr2.two.ring
    have h1 := Tr.two.R.one
    have h2 := Tr.two.R.le
    have h3 := Tr.two.R.most
    refine ⟨.ref p, rfl, p, _, rfl, .inr (sqT hp), .ref z, rfl, z, _, 1, nV d, rfl, rfl, sqT hz, at1, ((row.map nV).length : Int), (d : Int), rfl, rfl, .inr ⟨by omega, by omega⟩, .ref z, rfl, z, _, 0, nV k, rfl, rfl, sqT hz, at0, _, (k : Int), rfl, rfl, ⟨by omega, by omega⟩, ?_⟩
    have e : (((row.map nV).length : Int) * (d : Int)) / (k : Int) = ((row.length * d / k : Nat) : Int) := by
      rw [List.length_map, Int.natCast_ediv, Int.natCast_mul]
    show Q (V.int ((((row.map nV).length : Int) * (d : Int)) / (k : Int))) H2
    rw [e]
    exact q _ (Ex.tr e1 e2)
/-! ### turned_on -/
abbrev sturned_on : Stmt := topS 34
theorem scturned_on : FnScope ["web", "ring", "hues", "steps", "spot"] ["web", "ring", "hues", "steps"] (defScope sturned_on) := ⟨rfl, rfl, rfl, by decide +kernel, rfl, by decide +kernel, by decide +kernel⟩
theorem okturned_on (T : Tx K mg "turned_on" sturned_on) (B : Bl mg) (Dcheck_both : Dn P w K mg base "check_both" 6 ["web", "ring"] spcheck_both) (Dcheck_hues : Dn P w K mg base "check_hues" 5 ["web", "ring", "hues"] spcheck_hues) : Dn P w K mg base "turned_on" 7 ["web", "ring", "hues", "steps"] spturned_on := by
  obtain ⟨f, fd, F, m⟩ := T.ex
  refine ⟨f, fd, m, F.kp, F.binds (fun _ _ _ _ _ _ us hl => match us, hl with | [_, _, _, _], _ => rfl), F.ok scturned_on (fun vs H Q E h => ?_) (fun cdv A outer s H vs Q E hr h => ?_)⟩
  · obtain ⟨v, u, x, wb, k, d, hu, c, rfl, Tr, q⟩ := h
    rfl
  · obtain ⟨v, u, x, wb, k, d, hu, c, rfl, Tr, q⟩ := h
    refine ⟨_, (pss_cons (ps_expr (pe_d Dcheck_both (hr.mono (by decide)) rfl (pa_cons (pv 0) (pa_cons (pv 1) pa_nil))))
      (pss_cons (ps_expr (pe_d Dcheck_hues (hr.mono (by decide)) rfl (pa_cons (pv 0) (pa_cons (pv 1) (pa_cons (pv 2) pa_nil)))))
      (pss_one (ps_ret (pe_callTy call_tuple_of (by rfl) B.tuple_ (by decide +kernel) (pa_cons (pe_lc (own := [("spot", 4)]) rfl scturned_on.nd (pi_tupK K rfl (pv 2)) (blkOk_by (N := ["web", "ring", "hues", "steps", "spot"]) (sc := defScope sturned_on) (by decide +kernel)) (fun _ _ _ _ _ => (pg_name (i := 4) scturned_on.nd rfl (by first | exact Or.inl rfl | exact Or.inr rfl))) (fun _ _ _ _ _ => pts_nil) (fun _ _ _ _ _ => (pe_op op_mod (pe_op op_add (pv 4) (pv 3)) (pe_ix (ix_tupK K rfl) (pv 1) pe_int (fun _ _ => rfl))))) pa_nil)))))), ?_⟩
    refine ⟨v, rfl, u, rfl, v, u, wb, k, d, rfl, Tr.two, fun H1 e1 => ⟨v, rfl, u, rfl, x, rfl, v, u, x, wb, k, d, hu, rfl, Tr.up e1, fun H2 e2 => ?_⟩⟩
    have Tr2 := (Tr.up e1).up e2
    obtain ⟨y, rfl, hy⟩ := Tr2.hues
    obtain ⟨z, rfl, hz⟩ := Tr2.two.ring
    have hl := Tr.ok.len
    have hn := Tr.two.W.hi
    refine ⟨.ref y, rfl, y, rfl, ⟨_, sqT hy⟩, fun D hD => lc_tupD (xs := hu.map nV) (stb_val nV) (fun i => (hu.take i).map fun s => (s + c) % k) hy hD rfl (fun i _ => ?_) (fun i s H3 QY QN hi e hy' _ => ?_) (fun H3 acc e hD3 hacc => ?_)⟩
    · rw [List.length_map, List.length_take]
      omega
    · obtain ⟨n, hn', rfl⟩ := nV_get hi
      refine ⟨rfl, nV n, rfl, nV c, rfl, (n : Int), (c : Int), rfl, rfl, .ref z, rfl, z, _, 0, nV k, rfl, rfl, sqT (e _ _ hz), at0, (n : Int) + (c : Int), (k : Int), rfl, rfl, ?_, ?_⟩
      · have := Tr.two.R.one
        have := Tr.two.R.le
        show (0 : Int) < (k : Int)
        omega
      · refine hy' _ _ ((n + c) % k) (ex0 _) ?_ (out_map hn')
        show V.int (((n : Int) + (c : Int)) % (k : Int)) = V.int (((n + c) % k : Nat) : Int)
        rw [Int.natCast_emod, Int.natCast_add]
    · rw [List.length_map, take_all rfl] at hacc
      refine ⟨D, acc, rfl, .inl ⟨sqL hD3, fun l hl' => q _ _ (Ex.tr (Ex.tr e1 e2) (Ex.tr e (Ex.up hl'))) ⟨l, rfl, ?_⟩⟩⟩
      rw [upd_same, hacc.map_eq]
      rfl
/-! ### mirrored_by -/
abbrev smirrored_by : Stmt := topS 35
theorem scmirrored_by : FnScope ["ring", "hues", "spot"] ["ring", "hues"] (defScope smirrored_by) := ⟨rfl, rfl, rfl, by decide +kernel, rfl, by decide +kernel, by decide +kernel⟩
theorem okmirrored_by (T : Tx K mg "mirrored_by" smirrored_by) (B : Bl mg)  : Dn P w K mg base "mirrored_by" 1 ["ring", "hues"] spmirrored_by := by
  obtain ⟨f, fd, F, m⟩ := T.ex
  refine ⟨f, fd, m, F.kp, F.binds (fun _ _ _ _ _ _ us hl => match us, hl with | [_, _], _ => rfl), F.ok scmirrored_by (fun vs H Q E h => ?_) (fun cdv A outer s H vs Q E hr h => ?_)⟩
  · obtain ⟨u, x, k, d, hu, rfl, ⟨z, rfl, hz⟩, ⟨y, rfl, hy⟩, hk, hl, q⟩ := h
    rfl
  · obtain ⟨u, x, k, d, hu, rfl, ⟨z, rfl, hz⟩, ⟨y, rfl, hy⟩, hk, hl, q⟩ := h
    refine ⟨_, (pss_one (ps_ret (pe_callTy call_tuple_of (by rfl) B.tuple_ (by decide +kernel) (pa_cons (pe_lc (own := [("spot", 2)]) rfl scmirrored_by.nd (pi_tupK K rfl (pv 1)) (blkOk_by (N := ["ring", "hues", "spot"]) (sc := defScope smirrored_by) (by decide +kernel)) (fun _ _ _ _ _ => (pg_name (i := 2) scmirrored_by.nd rfl (by first | exact Or.inl rfl | exact Or.inr rfl))) (fun _ _ _ _ _ => pts_nil) (fun _ _ _ _ _ => (pe_op op_mod (pe_op op_sub pe_int (pv 2)) (pe_ix (ix_tupK K rfl) (pv 0) pe_int (fun _ _ => rfl))))) pa_nil)))), ?_⟩
    refine ⟨.ref y, rfl, y, rfl, ⟨_, sqT hy⟩, fun D hD => lc_tupD (xs := hu.map nV) (stb_val nV) (fun i => (hu.take i).map fun s => (k - s) % k) hy hD rfl (fun i _ => ?_) (fun i s H3 QY QN hi e hy' _ => ?_) (fun H3 acc e hD3 hacc => ?_)⟩
    · rw [List.length_map, List.length_take]
      omega
    · obtain ⟨n, hn', rfl⟩ := nV_get hi
      have hnk := hk n (List.mem_of_getElem? hn')
      refine ⟨rfl, nV n, rfl, 0, (n : Int), rfl, rfl, .ref z, rfl, z, _, 0, nV k, rfl, rfl, sqT (e _ _ hz), at0, (0 : Int) - (n : Int), (k : Int), rfl, rfl, ?_, ?_⟩
      · show (0 : Int) < (k : Int)
        omega
      · refine hy' _ _ ((k - n) % k) (ex0 _) ?_ (out_map hn')
        show V.int (((0 : Int) - (n : Int)) % (k : Int)) = V.int (((k - n) % k : Nat) : Int)
        rw [Int.natCast_emod, Int.natCast_sub (by omega), show ((k : Int) - n) = (0 - n) + k by omega, Int.add_emod_right]
    · rw [List.length_map, take_all rfl] at hacc
      refine ⟨D, acc, rfl, .inl ⟨sqL hD3, fun l hl' => q _ _ (Ex.tr e (Ex.up hl')) ⟨l, rfl, ?_⟩⟩⟩
      rw [upd_same, hacc.map_eq]
      rfl
/-! ### mirrored_hues -/
abbrev smirrored_hues : Stmt := topS 36
theorem scmirrored_hues : FnScope ["web", "ring", "hues"] ["web", "ring", "hues"] (defScope smirrored_hues) := ⟨rfl, rfl, rfl, by decide +kernel, rfl, by decide +kernel, by decide +kernel⟩
theorem okmirrored_hues (T : Tx K mg "mirrored_hues" smirrored_hues) (B : Bl mg) (Dcheck_both : Dn P w K mg base "check_both" 6 ["web", "ring"] spcheck_both) (Dcheck_hues : Dn P w K mg base "check_hues" 5 ["web", "ring", "hues"] spcheck_hues) (Dmirrored_by : Dn P w K mg base "mirrored_by" 1 ["ring", "hues"] spmirrored_by) : Dn P w K mg base "mirrored_hues" 7 ["web", "ring", "hues"] spmirrored_hues := by
  obtain ⟨f, fd, F, m⟩ := T.ex
  refine ⟨f, fd, m, F.kp, F.binds (fun _ _ _ _ _ _ us hl => match us, hl with | [_, _, _], _ => rfl), F.ok scmirrored_hues (fun vs H Q E h => ?_) (fun cdv A outer s H vs Q E hr h => ?_)⟩
  · obtain ⟨v, u, x, wb, k, d, hu, rfl, Tr, q⟩ := h
    rfl
  · obtain ⟨v, u, x, wb, k, d, hu, rfl, Tr, q⟩ := h
    refine ⟨_, (pss_cons (ps_expr (pe_d Dcheck_both (hr.mono (by decide)) rfl (pa_cons (pv 0) (pa_cons (pv 1) pa_nil))))
      (pss_cons (ps_expr (pe_d Dcheck_hues (hr.mono (by decide)) rfl (pa_cons (pv 0) (pa_cons (pv 1) (pa_cons (pv 2) pa_nil)))))
      (pss_one (ps_ret (pe_d Dmirrored_by (hr.mono (by decide)) rfl (pa_cons (pv 1) (pa_cons (pv 2) pa_nil))))))), ?_⟩
    refine ⟨v, rfl, u, rfl, v, u, wb, k, d, rfl, Tr.two, fun H1 e1 => ⟨v, rfl, u, rfl, x, rfl, v, u, x, wb, k, d, hu, rfl, Tr.up e1, fun H2 e2 => ?_⟩⟩
    have Tr2 := (Tr.up e1).up e2
    refine ⟨u, rfl, x, rfl, u, x, k, d, hu, rfl, Tr2.two.ring, Tr2.hues, ?_, ?_, fun z H3 e3 hz => q _ _ (Ex.tr (Ex.tr e1 e2) e3) hz⟩
    · exact hues_lt Tr.ok
    · have := Tr.two.W.hi
      rw [Tr.ok.len]
      omega
/-! ### full_holds -/
abbrev sfull_holds : Stmt := topS 43
theorem scfull_holds : FnScope ["web", "ring", "hues", "thing"] ["web", "ring", "hues", "thing"] (defScope sfull_holds) := ⟨rfl, rfl, rfl, by decide +kernel, rfl, by decide +kernel, by decide +kernel⟩
theorem okfull_holds (T : Tx K mg "full_holds" sfull_holds) (B : Bl mg) (Dcheck_three : Dn P w K mg base "check_three" 7 ["web", "ring", "hues"] spcheck_three) (Dis_full : Dn P w K mg base "is_full" 4 ["web", "ring", "hues", "thing"] spis_full) : Dn P w K mg base "full_holds" 8 ["web", "ring", "hues", "thing"] spfull_holds := by
  obtain ⟨f, fd, F, m⟩ := T.ex
  refine ⟨f, fd, m, F.kp, F.binds (fun _ _ _ _ _ _ us hl => match us, hl with | [_, _, _, _], _ => rfl), F.ok scfull_holds (fun vs H Q E h => ?_) (fun cdv A outer s H vs Q E hr h => ?_)⟩
  · obtain ⟨v, u, x, y, wb, k, d, hu, row, rfl, Tr, hy, hrd, q⟩ := h
    rfl
  · obtain ⟨v, u, x, y, wb, k, d, hu, row, rfl, Tr, hy, hrd, q⟩ := h
    refine ⟨_, (pss_cons (ps_expr (pe_d Dcheck_three (hr.mono (by decide)) rfl (pa_cons (pv 0) (pa_cons (pv 1) (pa_cons (pv 2) pa_nil)))))
      (pss_one (ps_ret (pe_d Dis_full (hr.mono (by decide)) rfl (pa_cons (pv 0) (pa_cons (pv 1) (pa_cons (pv 2) (pa_cons (pv 3) pa_nil)))))))), ?_⟩
    exact ⟨v, rfl, u, rfl, x, rfl, v, u, x, wb, k, d, hu, rfl, Tr, fun H1 e1 => ⟨v, rfl, u, rfl, x, rfl, y, rfl, v, u, x, y, wb, k, d, hu, row, rfl, Tr.up e1, hy.up e1, hrd, fun H2 e2 => q _ (Ex.tr e1 e2)⟩⟩
/-! ### _law_rounds_right -/
abbrev s_law_rounds_right : Stmt := topS 74
theorem sc_law_rounds_right : FnScope ["_law_web_here", "_law_ring", "_law_hues", "_law_rounds", "_law_row", "_law_laps", "_law_about"] ["_law_web_here", "_law_ring", "_law_hues"] (defScope s_law_rounds_right) := ⟨rfl, rfl, rfl, by decide +kernel, rfl, by decide +kernel, by decide +kernel⟩
theorem ok_law_rounds_right (T : Tx K mg "_law_rounds_right" s_law_rounds_right) (B : Bl mg) (Dfull_rounds : Dn P w K mg base "full_rounds" 8 ["web", "ring", "hues"] spfull_rounds) (Dlaps_of : Dn P w K mg base "laps_of" 8 ["web", "ring", "hues", "full"] splaps_of) (Dturned_on : Dn P w K mg base "turned_on" 7 ["web", "ring", "hues", "steps"] spturned_on) (Dmirrored_hues : Dn P w K mg base "mirrored_hues" 7 ["web", "ring", "hues"] spmirrored_hues) (Dfull_holds : Dn P w K mg base "full_holds" 8 ["web", "ring", "hues", "thing"] spfull_holds) : Dn P w K mg base "_law_rounds_right" 9 ["_law_web_here", "_law_ring", "_law_hues"] sp_law_rounds_right := by
  obtain ⟨f, fd, F, m⟩ := T.ex
  refine ⟨f, fd, m, F.kp, F.binds (fun _ _ _ _ _ _ us hl => match us, hl with | [_, _, _], _ => rfl), F.ok sc_law_rounds_right (fun vs H Q E h => ?_) (fun cdv A outer s H vs Q E hr h => ?_)⟩
  · obtain ⟨v, u, x, wb, k, d, hu, rfl, Tr, q⟩ := h
    rfl
  · obtain ⟨v, u, x, wb, k, d, hu, rfl, Tr, q⟩ := h
    refine ⟨_, (pss_cons (ps_set (i := 3) sc_law_rounds_right.nd rfl (by first | exact Or.inl rfl | exact Or.inr rfl) (pe_d Dfull_rounds (hr.mono (by decide)) rfl (pa_cons (pv 0) (pa_cons (pv 1) (pa_cons (pv 2) pa_nil)))))
      (pss_cons (ps_for PassesOwn.never rfl (pi_listK K rfl (pv 3)) (pg_name (i := 4) sc_law_rounds_right.nd rfl (by first | exact Or.inl rfl | exact Or.inr rfl))
        (pss_cons (ps_set (i := 5) sc_law_rounds_right.nd rfl (by first | exact Or.inl rfl | exact Or.inr rfl) (pe_d Dlaps_of (hr.mono (by decide)) rfl (pa_cons (pv 0) (pa_cons (pv 1) (pa_cons (pv 2) (pa_cons (pv 4) pa_nil))))))
        (pss_one (ps_if (PW.pt (pw_or (pt_not (pt_val (pe_d Dfull_holds (hr.mono (by decide)) rfl (pa_cons (pv 0) (pa_cons (pv 1) (pa_cons (pv 2) (pa_cons (pv 4) pa_nil))))))) (pw_or (pt_cmpR op_lt (pv 5) pe_int (nomark _)) (pw_or1 (pt_cmpR op_ne (pe_op op_mul (pe_callB (call_lenK K rfl) (by rfl) B.len_ (by decide +kernel) (pa_cons (pv 4) pa_nil)) (pe_ix (ix_tupK K rfl) (pv 1) pe_int (fun _ _ => rfl))) (pe_op op_mul (pv 5) (pe_ix (ix_tupK K rfl) (pv 1) pe_int (fun _ _ => rfl))) (nomark _))))))
          (pss_one (ps_ret pe_bl))
          pss_nil))))
      (pss_cons (ps_if (pt_cmpR (op_neDK K rfl hr.units) (pe_d Dfull_rounds (hr.mono (by decide)) rfl (pa_cons (pv 0) (pa_cons (pv 1) (pa_cons (pe_d Dturned_on (hr.mono (by decide)) rfl (pa_cons (pv 0) (pa_cons (pv 1) (pa_cons (pv 2) (pa_cons pe_int pa_nil))))) pa_nil)))) (pv 3) (nomark _))
        (pss_one (ps_ret pe_bl))
        pss_nil)
      (pss_cons (ps_set (i := 6) sc_law_rounds_right.nd rfl (by first | exact Or.inl rfl | exact Or.inr rfl) (pe_callB cr_sortA (by rfl) B.sorted_ (by decide +kernel) (pa_cons (pe_lc (own := [("_law_row", 4)]) rfl sc_law_rounds_right.nd (pi_listK K rfl (pv 3)) (blkOk_by (N := ["_law_web_here", "_law_ring", "_law_hues", "_law_rounds", "_law_row", "_law_laps", "_law_about"]) (sc := defScope s_law_rounds_right) (by decide +kernel)) (fun _ _ _ _ _ => (pg_name (i := 4) sc_law_rounds_right.nd rfl (by first | exact Or.inl rfl | exact Or.inr rfl))) (fun _ _ _ _ _ => pts_nil) (fun _ _ _ _ _ => (pe_op (op_catAK K rfl) (pe_slice (sl_tupAK K rfl) (pv 4) po_none (po_some pe_int)) (pe_backTK K rfl (pv 4))))) pa_nil)))
      (pss_one (ps_ret (pe_cmpR (op_eqDK K rfl hr.units) (pe_d Dfull_rounds (hr.mono (by decide)) rfl (pa_cons (pv 0) (pa_cons (pv 1) (pa_cons (pe_d Dmirrored_hues (hr.mono (by decide)) rfl (pa_cons (pv 0) (pa_cons (pv 1) (pa_cons (pv 2) pa_nil)))) pa_nil)))) (pv 6) (nomark _)))))))), ?_⟩
    have hn := Tr.two.W.hi
    have hn0 := Tr.two.W.lo
    have hk24 := Tr.two.R.most
    have hdk := Tr.two.R.le
    have hd1 := Tr.two.R.one
    obtain ⟨ua, rfl, hua⟩ := id Tr.two.ring
    refine ⟨v, rfl, .ref ua, rfl, x, rfl, v, .ref ua, x, wb, k, d, hu, rfl, Tr, fun rv H1 zs e1 hr hperm hsrt => ?_⟩
    obtain ⟨ra, rvs, rfl, hra, hrv⟩ := id hr
    have hrds : ∀ row ∈ zs, Rd (nx wb k d hu) wb.n row := fun row h => mem_fall.mp (hperm.mem_iff.mp h)
    refine ⟨.ref ra, rfl, ra, rfl, ⟨rvs, sqL hra⟩, for_list (xs := rvs) (fun j σ H' => ∃ y4 y5 : Option V, σ = [some v, some (.ref ua), some x, some (.ref ra), y4, y5, none] ∧ Ex H1 H') ⟨none, none, rfl, ex0 _⟩ (fun j σ H' _ p => ?_) (fun j z σ H' hj p => ?_) (fun σ H' p => ?_)⟩
    · obtain ⟨y4, y5, rfl, e⟩ := p
      exact sqL (e _ _ hra)
    · obtain ⟨y4, y5, rfl, e⟩ := p
      obtain ⟨row, hrow, c, rfl, hc⟩ := hrv.get' hj
      have hrd := hrds row (List.mem_of_getElem? hrow)
      have e01 := Ex.tr e1 e
      refine ⟨v, rfl, .ref ua, rfl, x, rfl, .ref c, rfl, v, .ref ua, x, .ref c, wb, k, d, hu, row, rfl, Tr.up e01, ⟨c, rfl, e _ _ hc⟩, hrd, fun H3 e3 => ?_⟩
      have hlaps := Rd.laps hd1 Tr.ok.lt hrd
      obtain ⟨lp, hlp⟩ : ∃ lp, row.length * d / k = lp := ⟨_, rfl⟩
      rw [hlp] at hlaps
      rw [hlp]
      have e13 := Ex.tr e e3
      dsimp only [gName]
      refine Evl.s_when (b := !true || (false || false)) (Evl.et_or (Evl.et_not (Evl.et_B fun H4 e4 Q q => ?rrA)) fun _ => Evl.et_or (Evl.et_test fun H4 e4 Q q => ?rrB) fun _ => Evl.et_test fun H4 e4 Q q => ?rrC) (fun hb => absurd hb (by decide)) (fun _ H4 e4 => ?rrG)
      case rrA =>
        have e14 := Ex.tr e13 e4
        exact ⟨v, rfl, .ref ua, rfl, x, rfl, .ref c, rfl, v, .ref ua, x, .ref c, wb, k, d, hu, row, rfl, Tr.up (Ex.tr e1 e14), ⟨c, rfl, e14 _ _ hc⟩, hrd, fun H5 e5 => q _ e5⟩
      case rrB =>
        refine ⟨nV lp, rfl, (lp : Int), 1, rfl, rfl, ?_⟩
        show Q (V.bl (decide ((lp : Int) < 1))) H4
        rw [decide_eq_false (show ¬ ((lp : Int) < 1) by omega)]
        exact q _ (ex0 _)
      case rrC =>
        have e14 := Ex.tr e13 e4
        have hua4 := e14 _ _ (e1 _ _ hua)
        refine ⟨.ref c, rfl, c, _, rfl, .inr (sqT (e14 _ _ hc)), .ref ua, rfl, ua, _, 1, nV d, rfl, rfl, sqT hua4, at1, ((row.map nV).length : Int), (d : Int), rfl, rfl, .inr ⟨by omega, by omega⟩, nV lp, rfl, .ref ua, rfl, ua, _, 0, nV k, rfl, rfl, sqT hua4, at0, (lp : Int), (k : Int), rfl, rfl, .inr ⟨by omega, by omega⟩, rfl, ?_⟩
        have heq : ((row.map nV).length : Int) * (d : Int) = (lp : Int) * (k : Int) := by
          rw [List.length_map, ← Int.natCast_mul, ← Int.natCast_mul, hlaps.2]
        show Q (V.bl !decide (V.int (((row.map nV).length : Int) * (d : Int)) = V.int ((lp : Int) * (k : Int)))) H4
        rw [heq, decide_eq_true rfl]
        exact q _ (ex0 _)
      case rrG => exact ⟨_, _, rfl, Ex.tr e13 e4⟩
    obtain ⟨y4, y5, rfl, e2⟩ := p
    have e02 := Ex.tr e1 e2
    refine ⟨v, rfl, .ref ua, rfl, v, rfl, .ref ua, rfl, x, rfl, v, .ref ua, x, wb, k, d, hu, 5, rfl, Tr.up e02, fun tv H3 e3 htv => ⟨v, .ref ua, tv, wb, k, d, turned k 5 hu, rfl, ⟨(Tr.two.up e02).up e3, htv, Tr.ok.turned Tr.two.W.T⟩, fun rv2 H4 zs2 e4 hr2 hp2 hs2 => ⟨.ref ra, rfl, ?_⟩⟩⟩
    have e24 := Ex.tr e2 (Ex.tr e3 e4)
    refine rd_rne hr2 (hr.up e24) ⟨_, rfl, ?_⟩
    have hfs : fall (nx wb k d (turned k 5 hu)) wb.n = fall (nx wb k d hu) wb.n := (fall_same (nx_turned Tr.ok) wb.n).2
    rw [hfs] at hp2
    have hz2 : zs2 = zs := Srt.unique hs2 hsrt (hp2.trans hperm.symm)
    rw [decide_eq_true hz2]
    refine iteF ?_
    have hrvl : rvs.length = zs.length := hrv.len
    have hzl : zs.length ≤ 78125 := by
      have h1 := fnd5 (R := nx wb k d hu) hn wb.n hn
      have h2 := hperm.length_eq
      have h3 : (fall (nx wb k d hu) wb.n).length = (fnd (nx wb k d hu) wb.n wb.n).length := rfl
      omega
    have hra4 := e24 _ _ hra
    have hrv4 := hrv.imp (S := IsInts H4) fun v r z => z.up e24
    refine ⟨.ref ra, rfl, ra, rfl, ⟨rvs, sqL hra4⟩, fun D hD => lc_listD (xs := rvs) stb_ints (fun j => (zs.take j).map turnRow) hra4 hD rfl (fun j _ => ?_) (fun j z H6 QY QN hj e6 hY _ => ?_) (fun H6 acc e6 hD6 hacc => ?_)⟩
    · rw [List.length_map, List.length_take]
      omega
    · obtain ⟨row, hrow, c, rfl, hc⟩ := hrv4.get' hj
      have hrd := hrds row (List.mem_of_getElem? hrow)
      have h2 := hrd.two
      have hl5 : row.length ≤ wb.n := by
        have := hrd.nd.length_le_of_subset (show row ⊆ List.range wb.n from fun z hz => List.mem_range.mpr (hrd.lt z hz))
        rwa [List.length_range] at this
      have hlm : (row.map nV).length = row.length := List.length_map ..
      have hc6 := e6 _ _ hc
      refine ⟨rfl, .ref c, rfl, (1 : Int), rfl, rd_to 1 hc6 (by rw [hlm]; omega) fun p1 hp1 => ?_⟩
      have e7 : Ex H6 (upd H6 p1 (.tup ((row.map nV).take 1))) := Ex.up hp1
      refine ⟨.ref c, rfl, c, _, rfl, sqT (e7 _ _ hc6), by rw [hlm]; omega, fun p2 hp2' => ?_⟩
      have e8 := Ex.up (o := .tup ((row.map nV).drop 1).reverse) hp2'
      refine rd_cat (xs := (row.map nV).take 1) (ys := ((row.map nV).drop 1).reverse) (e8 _ _ upd_same) upd_same ?_ fun c2 H9 e9 hc2 => ?_
      · rw [List.length_take, List.length_reverse, List.length_drop, hlm]
        omega
      · refine hY _ _ (turnRow row) (Ex.tr e7 (Ex.tr e8 e9)) ⟨c2, rfl, ?_⟩ (out_map hrow)
        rw [hc2]
        unfold turnRow
        rw [List.map_append, List.map_reverse, List.map_take, List.map_drop]
    rw [take_all hrvl] at hacc
    dsimp only [tNil]
    refine rd_sorted hD6 hacc (fun r hr z => ?_) fun sv H7 ys e7 hys hpy hsy => ?_
    · obtain ⟨r0, h0, rfl⟩ := List.mem_map.mp hr
      have h2 := (hrds r0 h0).two
      have h3 := congrArg List.length z
      unfold turnRow at h3
      rw [List.length_append, List.length_take, List.length_reverse, List.length_drop] at h3
      have h4 : ([] : List Nat).length = 0 := rfl
      omega
    have e07 := Ex.tr e1 (Ex.tr e24 (Ex.tr e6 e7))
    refine ⟨v, rfl, .ref ua, rfl, v, rfl, .ref ua, rfl, x, rfl, v, .ref ua, x, wb, k, d, hu, rfl, Tr.up e07, fun mv H8 e8 hmv => ⟨v, .ref ua, mv, wb, k, d, mirrored k hu, rfl, ⟨(Tr.two.up e07).up e8, hmv, Tr.ok.mirrored Tr.two.W.T⟩, fun rv3 H9 zs3 e9 hr3 hp3 hs3 => ⟨sv, rfl, ?_⟩⟩⟩
    have hz3 : zs3 = ys := Srt.unique hs3 hsy (hp3.trans ((fall_turn (nx_mirrored Tr.ok)).trans ((hperm.map turnRow).symm.trans hpy.symm)))
    refine rd_req hr3 (hys.up (Ex.tr e8 e9)) ?_
    rw [decide_eq_true hz3]
    exact q _ (Ex.tr e07 (Ex.tr e8 e9))
/-! ### judged -/
abbrev sjudged : Stmt := topS 59
theorem scjudged : FnScope ["web", "ring", "hues", "rounds", "best"] ["web", "ring", "hues"] (defScope sjudged) := ⟨rfl, rfl, rfl, by decide +kernel, rfl, by decide +kernel, by decide +kernel⟩
theorem okjudged (T : Tx K mg "judged" sjudged) (B : Bl mg) (Dcheck_three : Dn P w K mg base "check_three" 7 ["web", "ring", "hues"] spcheck_three) (Drounds_full : Dn P w K mg base "rounds_full" 3 ["web", "ring", "hues"] sprounds_full) (Dleast_ring : Dn P w K mg base "least_ring" 4 ["web"] spleast_ring) (Dfirst_row : Dn P w K mg base "first_row" 3 ["web", "ring", "known"] spfirst_row) : Dn P w K mg base "judged" 8 ["web", "ring", "hues"] spjudged := by
  obtain ⟨f, fd, F, m⟩ := T.ex
  refine ⟨f, fd, m, F.kp, F.binds (fun _ _ _ _ _ _ us hl => match us, hl with | [_, _, _], _ => rfl), F.ok scjudged (fun vs H Q E h => ?_) (fun cdv A outer s H vs Q E hr h => ?_)⟩
  · obtain ⟨v, u, x, wb, k, d, hu, rfl, Tr, hne, hfl, q⟩ := h
    rfl
  · obtain ⟨v, u, x, wb, k, d, hu, rfl, Tr, hne, hfl, q⟩ := h
    refine ⟨_, (pss_cons (ps_expr (pe_d Dcheck_three (hr.mono (by decide)) rfl (pa_cons (pv 0) (pa_cons (pv 1) (pa_cons (pv 2) pa_nil)))))
      (pss_cons (ps_if (pt_cmpR (op_eqDK K rfl hr.units) (pe_ix (ix_tupK K rfl) (pv 0) pe_int (fun _ _ => rfl)) (pe_tup pa_nil) (nomark _))
        (pss_one ps_never)
        pss_nil)
      (pss_cons (ps_set (i := 3) scjudged.nd rfl (by first | exact Or.inl rfl | exact Or.inr rfl) (pe_d Drounds_full (hr.mono (by decide)) rfl (pa_cons (pv 0) (pa_cons (pv 1) (pa_cons (pv 2) pa_nil)))))
      (pss_cons (ps_if (pt_cmpR (op_neDK K rfl hr.units) (pv 3) (pe_lst pa_nil) (nomark _))
        (pss_one (ps_ret (pe_tup (pa_cons pe_str (pa_cons (pe_ix (ix_listK K rfl) (pv 3) pe_int (fun _ _ => rfl)) pa_nil)))))
        pss_nil)
      (pss_cons (ps_set (i := 4) scjudged.nd rfl (by first | exact Or.inl rfl | exact Or.inr rfl) (pe_d Dleast_ring (hr.mono (by decide)) rfl (pa_cons (pv 0) pa_nil)))
      (pss_one (ps_ret (pe_tup (pa_cons pe_str (pa_cons (pv 4) (pa_cons (pe_d Dfirst_row (hr.mono (by decide)) rfl (pa_cons (pv 0) (pa_cons (pv 4) (pa_cons (pe_op op_repA (pe_tup (pa_cons pe_non pa_nil)) (pe_ix (ix_tupK K rfl) (pv 0) pe_int (fun _ _ => rfl))) pa_nil)))) pa_nil))))))))))), ?_⟩
    refine ⟨v, rfl, u, rfl, x, rfl, v, u, x, wb, k, d, hu, rfl, Tr, fun H1 e1 => ?_⟩
    have Tr1 := Tr.up e1
    obtain ⟨wa, wt, rfl, hwa, hwt⟩ := id Tr1.two.web
    obtain ⟨wta, us, rfl, _⟩ := id hwt
    refine ⟨.ref wa, rfl, wa, _, 1, .ref wta, rfl, rfl, sqT hwa, at1, Nat.zero_le _, fun p hp => rd_teq (hwt.up (Ex.up hp)) upd_same ⟨_, rfl, ?_⟩⟩
    have hie : wb.ts.isEmpty = false := by
      cases h : wb.ts with
      | nil => exact absurd h hne
      | cons a b => rfl
    rw [hie]
    have e2 : Ex H1 (upd H1 p (.tup [])) := Ex.up hp
    refine iteF ⟨.ref wa, rfl, u, rfl, x, rfl, .ref wa, u, x, wb, k, d, hu, rfl, Tr1.up e2, fun rv H3 zs e3 hr hperm _ => ?_⟩
    obtain ⟨ra, vs, rfl, hra, hvs⟩ := hr
    refine ⟨.ref ra, rfl, Nat.zero_le _, fun l hl => ?_⟩
    have e4 : Ex H3 (upd H3 l (.lst [])) := Ex.up hl
    refine ⟨.list (zs.map dT), .list [], .lst (sqL (e4 _ _ hra)) (dp_all2 (fun v t z => IsInts.dp z) (hvs.imp fun v r z => z.up e4)), .lst (sqL upd_same) .nil, rows_shaped _, rows_shaped [], _, rfl, ?_⟩
    rw [eqv_rnil]
    cases zs with
    | nil => exact absurd hperm.nil_eq.symm hfl
    | cons z0 zr =>
      cases vs with
      | nil => exact hvs.elim
      | cons v0 vr =>
        have hz0 := hvs.1.up e4
        refine iteT ⟨.ref ra, rfl, ra, _, 0, v0, rfl, rfl, sqL (e4 _ _ hra), at0, by show 2 ≤ sizeLine; decide, fun p2 hp2 => ?_⟩
        have e5 := Ex.tr e4 (Ex.up (o := .tup [.str "round", v0]) hp2)
        exact q p2 v0 z0 _ (Ex.tr e1 (Ex.tr e2 (Ex.tr e3 e5))) upd_same (hvs.1.up e5) (hperm.mem_iff.mp (by simp))
/-! ### tied_to -/
abbrev stied_to : Stmt := topS 27
theorem sctied_to : FnScope ["web", "place", "other"] ["web", "place"] (defScope stied_to) := ⟨rfl, rfl, rfl, by decide +kernel, rfl, by decide +kernel, by decide +kernel⟩
theorem oktied_to (T : Tx K mg "tied_to" stied_to) (B : Bl mg) (Dare_tied : Dn P w K mg base "are_tied" 1 ["web", "one", "other"] spare_tied) : Dn P w K mg base "tied_to" 2 ["web", "place"] sptied_to := by
  obtain ⟨f, fd, F, m⟩ := T.ex
  refine ⟨f, fd, m, F.kp, F.binds (fun _ _ _ _ _ _ us hl => match us, hl with | [_, _], _ => rfl), F.ok sctied_to (fun vs H Q E h => ?_) (fun cdv A outer s H vs Q E hr h => ?_)⟩
  · obtain ⟨v, wb, p, rfl, hv, hn, q⟩ := h
    rfl
  · obtain ⟨v, wb, p, rfl, hv, hn, q⟩ := h
    refine ⟨_, (pss_one (ps_ret (pe_callTy call_tuple_of (by rfl) B.tuple_ (by decide +kernel) (pa_cons (pe_lc (own := [("other", 2)]) rfl sctied_to.nd (pi_range1 (by rfl) B.range_ (pa_cons (pe_ix (ix_tupK K rfl) (pv 0) pe_int (fun _ _ => rfl)) pa_nil)) (blkOk_by (N := ["web", "place", "other"]) (sc := defScope stied_to) (by decide +kernel)) (fun _ _ _ _ _ => (pg_name (i := 2) sctied_to.nd rfl (by first | exact Or.inl rfl | exact Or.inr rfl))) (fun _ _ _ _ _ => (pts_one (pt_val (pe_d Dare_tied (hr.mono (by decide)) rfl (pa_cons (pv 0) (pa_cons (pv 1) (pa_cons (pv 2) pa_nil))))))) (fun _ _ _ _ _ => (pv 2))) pa_nil)))), ?_⟩
    obtain ⟨x, u, rfl, hx, hu⟩ := id hv
    refine ⟨.ref x, rfl, x, _, 0, nV wb.n, rfl, rfl, sqT hx, at0, (wb.n : Int), rfl, by omega, by omega, fun D hD => lc_range0 (n := wb.n) (stb_val nV) (fun i => ((List.range wb.n).take i).filter fun o => tie wb p o) hD rfl (fun i hi => ?_) (fun i H1 QY QN hi e hy hn' => ?_) (fun H1 acc e hD1 hacc => ?_)⟩
    · exact Nat.le_trans fil_len (by rw [List.length_range]; omega)
    · refine ⟨rfl, .ref x, rfl, nV p, rfl, nV i, rfl, .ref x, wb, p, i, rfl, hv.up e, fun H2 e2 => ⟨_, rfl, ?_⟩⟩
      cases ht : tie wb p i with
      | true => exact iteT ⟨nV i, rfl, hy _ _ i e2 rfl (fil_yes (range_get hi) ht)⟩
      | false => exact iteF (hn' _ e2 (fil_no (range_get hi) ht))
    · rw [take_all (by rw [List.length_range])] at hacc
      refine ⟨D, acc, rfl, .inl ⟨sqL hD1, fun l hl => q _ _ (Ex.tr e (Ex.up hl)) ⟨l, rfl, ?_⟩⟩⟩
      rw [upd_same, hacc.map_eq]
/-! ### is_free -/
abbrev sis_free : Stmt := topS 45
theorem scis_free : FnScope ["web", "ring", "hues", "place", "other"] ["web", "ring", "hues", "place"] (defScope sis_free) := ⟨rfl, rfl, rfl, by decide +kernel, rfl, by decide +kernel, by decide +kernel⟩
theorem okis_free (T : Tx K mg "is_free" sis_free) (B : Bl mg) (Dis_next : Dn P w K mg base "is_next" 2 ["web", "ring", "hues", "one", "other"] spis_next) (Dtied_to : Dn P w K mg base "tied_to" 2 ["web", "place"] sptied_to) : Dn P w K mg base "is_free" 3 ["web", "ring", "hues", "place"] spis_free := by
  obtain ⟨f, fd, F, m⟩ := T.ex
  refine ⟨f, fd, m, F.kp, F.binds (fun _ _ _ _ _ _ us hl => match us, hl with | [_, _, _, _], _ => rfl), F.ok scis_free (fun vs H Q E h => ?_) (fun cdv A outer s H vs Q E hr h => ?_)⟩
  · obtain ⟨v, u, x, wb, k, d, hu, p, rfl, Tr, hp, q⟩ := h
    rfl
  · obtain ⟨v, u, x, wb, k, d, hu, p, rfl, Tr, hp, q⟩ := h
    refine ⟨_, (pss_one (ps_ret (pe_not (pe_callB (cr_any rfl) (by rfl) B.any_ (by decide +kernel) (pa_cons (pe_lc (own := [("other", 4)]) rfl scis_free.nd (pi_tupK K rfl (pe_d Dtied_to (hr.mono (by decide)) rfl (pa_cons (pv 0) (pa_cons (pv 3) pa_nil)))) (blkOk_by (N := ["web", "ring", "hues", "place", "other"]) (sc := defScope sis_free) (by decide +kernel)) (fun _ _ _ _ _ => (pg_name (i := 4) scis_free.nd rfl (by first | exact Or.inl rfl | exact Or.inr rfl))) (fun _ _ _ _ _ => pts_nil) (fun _ _ _ _ _ => (pe_d Dis_next (hr.mono (by decide)) rfl (pa_cons (pv 0) (pa_cons (pv 1) (pa_cons (pv 2) (pa_cons (pv 3) (pa_cons (pv 4) pa_nil)))))))) pa_nil))))), ?_⟩
    have hn := Tr.two.W.hi
    refine ⟨v, rfl, nV p, rfl, v, wb, p, rfl, Tr.two.web, hn, fun z H1 e1 hz => ?_⟩
    obtain ⟨a, rfl, ha⟩ := hz
    have hL : ((List.range wb.n).filter fun o => tie wb p o).length ≤ wb.n := by
      have := List.length_filter_le (fun o => tie wb p o) (List.range wb.n)
      rwa [List.length_range] at this
    refine ⟨a, rfl, ⟨_, sqT ha⟩, fun D hD => lc_tupD (xs := ((List.range wb.n).filter fun o => tie wb p o).map nV) (stb_val V.bl) (fun i => (((List.range wb.n).filter fun o => tie wb p o).take i).map fun o => nx wb k d hu p o) ha hD rfl (fun i _ => ?_) (fun i s H2 QY QN hi e hY _ => ?_) (fun H2 acc e hD2 hacc => ?_)⟩
    · rw [List.length_map, List.length_take]
      omega
    · obtain ⟨n, hn', rfl⟩ := nV_get hi
      have hnr := (List.mem_filter.mp (List.mem_of_getElem? hn')).1
      refine ⟨rfl, v, rfl, u, rfl, x, rfl, nV p, rfl, nV n, rfl, v, u, x, wb, k, d, hu, p, n, rfl, (Tr.up e1).up e, hp, List.mem_range.mp hnr, fun H3 e3 => hY _ _ _ e3 rfl (out_map hn')⟩
    · rw [List.length_map, take_all rfl] at hacc
      refine ⟨D, _, rfl, sqL (by rw [hD2, hacc.map_eq]), _, rfl, ?_⟩
      have e2 : (!((((List.range wb.n).filter fun o => tie wb p o).map fun o => nx wb k d hu p o).any id)) = freeB wb k d hu p := by
        unfold freeB
        rw [Bool.eq_iff_iff, Bool.not_eq_true', List.any_eq_false, List.all_eq_true]
        constructor
        · intro h o ho
          rw [Bool.not_eq_true']
          cases t : tie wb p o with
          | false =>
            unfold nx
            rw [t]
            rfl
          | true =>
            have := h (nx wb k d hu p o) (List.mem_map.mpr ⟨o, List.mem_filter.mpr ⟨ho, t⟩, rfl⟩)
            simpa using this
        · intro h b hb
          obtain ⟨o, ho, rfl⟩ := List.mem_map.mp hb
          have := h o (List.mem_filter.mp ho).1
          simpa using this
      rw [e2]
      exact q _ (Ex.tr e1 e)
/-! ### may_move -/
abbrev smay_move : Stmt := topS 46
theorem scmay_move : FnScope ["web", "ring", "hues", "place"] ["web", "ring", "hues"] (defScope smay_move) := ⟨rfl, rfl, rfl, by decide +kernel, rfl, by decide +kernel, by decide +kernel⟩
theorem okmay_move (T : Tx K mg "may_move" smay_move) (B : Bl mg) (Dcheck_three : Dn P w K mg base "check_three" 7 ["web", "ring", "hues"] spcheck_three) (Dis_free : Dn P w K mg base "is_free" 3 ["web", "ring", "hues", "place"] spis_free) : Dn P w K mg base "may_move" 8 ["web", "ring", "hues"] spmay_move := by
  obtain ⟨f, fd, F, m⟩ := T.ex
  refine ⟨f, fd, m, F.kp, F.binds (fun _ _ _ _ _ _ us hl => match us, hl with | [_, _, _], _ => rfl), F.ok scmay_move (fun vs H Q E h => ?_) (fun cdv A outer s H vs Q E hr h => ?_)⟩
  · obtain ⟨v, u, x, wb, k, d, hu, rfl, Tr, q⟩ := h
    rfl
  · obtain ⟨v, u, x, wb, k, d, hu, rfl, Tr, q⟩ := h
    refine ⟨_, (pss_cons (ps_expr (pe_d Dcheck_three (hr.mono (by decide)) rfl (pa_cons (pv 0) (pa_cons (pv 1) (pa_cons (pv 2) pa_nil)))))
      (pss_one (ps_ret (pe_callTy call_tuple_of (by rfl) B.tuple_ (by decide +kernel) (pa_cons (pe_lc (own := [("place", 3)]) rfl scmay_move.nd (pi_range1 (by rfl) B.range_ (pa_cons (pe_ix (ix_tupK K rfl) (pv 0) pe_int (fun _ _ => rfl)) pa_nil)) (blkOk_by (N := ["web", "ring", "hues", "place"]) (sc := defScope smay_move) (by decide +kernel)) (fun _ _ _ _ _ => (pg_name (i := 3) scmay_move.nd rfl (by first | exact Or.inl rfl | exact Or.inr rfl))) (fun _ _ _ _ _ => (pts_one (pt_val (pe_d Dis_free (hr.mono (by decide)) rfl (pa_cons (pv 0) (pa_cons (pv 1) (pa_cons (pv 2) (pa_cons (pv 3) pa_nil)))))))) (fun _ _ _ _ _ => (pv 3))) pa_nil))))), ?_⟩
    have hn := Tr.two.W.hi
    refine ⟨v, rfl, u, rfl, x, rfl, v, u, x, wb, k, d, hu, rfl, Tr, fun H1 e1 => ?_⟩
    have Tr1 := Tr.up e1
    obtain ⟨a, t, rfl, ha, _⟩ := id Tr1.two.web
    refine ⟨.ref a, rfl, a, _, 0, nV wb.n, rfl, rfl, sqT ha, at0, (wb.n : Int), rfl, by omega, by omega, fun D hD => lc_range0 (n := wb.n) (stb_val nV) (fun i => ((List.range wb.n).take i).filter (freeB wb k d hu)) hD rfl (fun i hi => ?_) (fun i H2 QY QN hi e hY hN => ?_) (fun H2 acc e hD2 hacc => ?_)⟩
    · exact Nat.le_trans fil_len (by rw [List.length_range]; omega)
    · refine ⟨rfl, .ref a, rfl, u, rfl, x, rfl, nV i, rfl, .ref a, u, x, wb, k, d, hu, i, rfl, Tr1.up e, hi, fun H3 e3 => ⟨_, rfl, ?_⟩⟩
      cases ht : freeB wb k d hu i with
      | true => exact iteT ⟨nV i, rfl, hY _ _ i e3 rfl (fil_yes (range_get hi) ht)⟩
      | false => exact iteF (hN _ e3 (fil_no (range_get hi) ht))
    · rw [take_all (by rw [List.length_range])] at hacc
      refine ⟨D, acc, rfl, .inl ⟨sqL hD2, fun l hl => q _ _ (Ex.tr e1 (Ex.tr e (Ex.up hl))) ⟨l, rfl, ?_⟩⟩⟩
      rw [upd_same, hacc.map_eq]
/-! ### hues_hold -/
abbrev shues_hold : Stmt := topS 33
theorem schues_hold : FnScope ["web", "ring", "thing"] ["web", "ring", "thing"] (defScope shues_hold) := ⟨rfl, rfl, rfl, by decide +kernel, rfl, by decide +kernel, by decide +kernel⟩
theorem okhues_hold (T : Tx K mg "hues_hold" shues_hold) (B : Bl mg) (Dcheck_both : Dn P w K mg base "check_both" 6 ["web", "ring"] spcheck_both) (Dare_hues : Dn P w K mg base "are_hues" 4 ["web", "ring", "thing"] spare_hues) : Dn P w K mg base "hues_hold" 7 ["web", "ring", "thing"] sphues_hold := by
  obtain ⟨f, fd, F, m⟩ := T.ex
  refine ⟨f, fd, m, F.kp, F.binds (fun _ _ _ _ _ _ us hl => match us, hl with | [_, _, _], _ => rfl), F.ok schues_hold (fun vs H Q E h => ?_) (fun cdv A outer s H vs Q E hr h => ?_)⟩
  · obtain ⟨v, u, x, wb, k, d, hu, rfl, Tr, q⟩ := h
    rfl
  · obtain ⟨v, u, x, wb, k, d, hu, rfl, Tr, q⟩ := h
    refine ⟨_, (pss_cons (ps_expr (pe_d Dcheck_both (hr.mono (by decide)) rfl (pa_cons (pv 0) (pa_cons (pv 1) pa_nil))))
      (pss_one (ps_ret (pe_d Dare_hues (hr.mono (by decide)) rfl (pa_cons (pv 0) (pa_cons (pv 1) (pa_cons (pv 2) pa_nil))))))), ?_⟩
    exact ⟨v, rfl, u, rfl, v, u, wb, k, d, rfl, Tr.two, fun H1 e1 => ⟨v, rfl, u, rfl, x, rfl, v, u, x, wb, k, d, hu, rfl, Tr.up e1, fun H2 e2 => q _ (Ex.tr e1 e2)⟩⟩
/-! ### check_place -/
abbrev scheck_place : Stmt := topS 25
theorem sccheck_place : FnScope ["web", "place"] ["web", "place"] (defScope scheck_place) := ⟨rfl, rfl, rfl, by decide +kernel, rfl, by decide +kernel, by decide +kernel⟩
theorem okcheck_place (T : Tx K mg "check_place" scheck_place) (B : Bl mg) (Dis_number_of : Dn P w K mg base "is_number_of" 2 ["thing", "many"] spis_number_of) : Dn P w K mg base "check_place" 3 ["web", "place"] spcheck_place := by
  obtain ⟨f, fd, F, m⟩ := T.ex
  refine ⟨f, fd, m, F.kp, F.binds (fun _ _ _ _ _ _ us hl => match us, hl with | [_, _], _ => rfl), F.ok sccheck_place (fun vs H Q E h => ?_) (fun cdv A outer s H vs Q E hr h => ?_)⟩
  · obtain ⟨v, wb, p, rfl, ⟨a, u, rfl, ha, _⟩, hp, q⟩ := h
    rfl
  · obtain ⟨v, wb, p, rfl, ⟨a, u, rfl, ha, _⟩, hp, q⟩ := h
    refine ⟨_, (pss_one (ps_if (pt_not (pt_val (pe_d Dis_number_of (hr.mono (by decide)) rfl (pa_cons (pv 1) (pa_cons (pe_ix (ix_tupK K rfl) (pv 0) pe_int (fun _ _ => rfl)) pa_nil)))))
        (pss_one ps_never)
        pss_nil)), ?_⟩
    exact ⟨nV p, rfl, .ref a, rfl, a, _, 0, nV wb.n, rfl, rfl, sqT ha, at0, (p : Int), (wb.n : Int), rfl, by omega, by omega, fun H1 e1 => ⟨true, rfl, iteF (q _ e1)⟩⟩
/-! ### moved_on -/
abbrev smoved_on : Stmt := topS 47
theorem scmoved_on : FnScope ["web", "ring", "hues", "place"] ["web", "ring", "hues", "place"] (defScope smoved_on) := ⟨rfl, rfl, rfl, by decide +kernel, rfl, by decide +kernel, by decide +kernel⟩
theorem okmoved_on (T : Tx K mg "moved_on" smoved_on) (B : Bl mg) (Dcheck_three : Dn P w K mg base "check_three" 7 ["web", "ring", "hues"] spcheck_three) (Dcheck_place : Dn P w K mg base "check_place" 3 ["web", "place"] spcheck_place) (Dis_free : Dn P w K mg base "is_free" 3 ["web", "ring", "hues", "place"] spis_free) : Dn P w K mg base "moved_on" 8 ["web", "ring", "hues", "place"] spmoved_on := by
  obtain ⟨f, fd, F, m⟩ := T.ex
  refine ⟨f, fd, m, F.kp, F.binds (fun _ _ _ _ _ _ us hl => match us, hl with | [_, _, _, _], _ => rfl), F.ok scmoved_on (fun vs H Q E h => ?_) (fun cdv A outer s H vs Q E hr h => ?_)⟩
  · obtain ⟨v, u, x, wb, k, d, hu, p, rfl, Tr, hp, hf, q⟩ := h
    rfl
  · obtain ⟨v, u, x, wb, k, d, hu, p, rfl, Tr, hp, hf, q⟩ := h
    refine ⟨_, (pss_cons (ps_expr (pe_d Dcheck_three (hr.mono (by decide)) rfl (pa_cons (pv 0) (pa_cons (pv 1) (pa_cons (pv 2) pa_nil)))))
      (pss_cons (ps_expr (pe_d Dcheck_place (hr.mono (by decide)) rfl (pa_cons (pv 0) (pa_cons (pv 3) pa_nil))))
      (pss_cons (ps_if (pt_not (pt_val (pe_d Dis_free (hr.mono (by decide)) rfl (pa_cons (pv 0) (pa_cons (pv 1) (pa_cons (pv 2) (pa_cons (pv 3) pa_nil)))))))
        (pss_one ps_never)
        pss_nil)
      (pss_one (ps_ret (pe_op (op_catAK K rfl) (pe_op (op_catAK K rfl) (pe_slice (sl_tupAK K rfl) (pv 2) po_none (po_some (pv 3))) (pe_tup (pa_cons (pe_op op_mod (pe_op op_add (pe_ix (ix_tupK K rfl) (pv 2) (pv 3) (fun _ _ => rfl)) pe_int) (pe_ix (ix_tupK K rfl) (pv 1) pe_int (fun _ _ => rfl))) pa_nil))) (pe_slice (sl_tupAK K rfl) (pv 2) (po_some (pe_op op_add (pv 3) pe_int)) po_none))))))), ?_⟩
    have hn := Tr.two.W.hi
    have hl := Tr.ok.len
    refine ⟨v, rfl, u, rfl, x, rfl, v, u, x, wb, k, d, hu, rfl, Tr, fun H1 e1 => ?_⟩
    refine ⟨v, rfl, nV p, rfl, v, wb, p, rfl, (Tr.up e1).two.web, hp, fun H2 e2 => ?_⟩
    refine ⟨v, rfl, u, rfl, x, rfl, nV p, rfl, v, u, x, wb, k, d, hu, p, rfl, (Tr.up e1).up e2, hp, fun H3 e3 => ⟨_, rfl, ?_⟩⟩
    rw [hf]
    refine iteF ?_
    have e13 := Ex.tr e1 (Ex.tr e2 e3)
    have Tr3 := Tr.up e13
    obtain ⟨y, rfl, hy⟩ := Tr3.hues
    obtain ⟨z, rfl, hz⟩ := Tr3.two.ring
    have hlm : (hu.map nV).length = hu.length := List.length_map ..
    refine ⟨.ref y, rfl, nV p, rfl, (p : Int), rfl, ?_⟩
    refine rd_to p hy (by rw [hlm]; omega) fun p1 hp1 => ?_
    have e4 : Ex H3 (upd H3 p1 (.tup ((hu.map nV).take p))) := Ex.up hp1
    refine ⟨.ref y, rfl, nV p, rfl, y, _, (p : Int), _, rfl, rfl, sqT (e4 _ _ hy), at_hg (by omega), (hg hu p : Int), 1, rfl, rfl, .ref z, rfl, z, _, 0, nV k, rfl, rfl, sqT (e4 _ _ hz), at0, (hg hu p : Int) + 1, (k : Int), rfl, rfl, ?_, by show 1 ≤ sizeLine; decide, fun p2 hp2 => ?_⟩
    · have := Tr.two.R.one
      have := Tr.two.R.le
      show (0 : Int) < (k : Int)
      omega
    have e0 : V.int (((hg hu p : Int) + 1) % (k : Int)) = nV ((hg hu p + 1) % k) := by
      rw [show (((hg hu p : Int) + 1) % (k : Int)) = (((hg hu p + 1) % k : Nat) : Int) by rw [Int.natCast_emod, Int.natCast_add]; rfl]
    have e0' : (V.int (((hg hu p : Int) + 1) % (k : Int))) :: [] = [nV ((hg hu p + 1) % k)] := by rw [e0]
    have n1 : p1 ≠ p2 := ne_of_none (upd_same (H := H3) (a := p1)) hp2
    refine rd_cat (xs := (hu.map nV).take p) (ys := [nV ((hg hu p + 1) % k)]) ?_ ?_ ?_ fun c H5 e5 hc => ?_
    · rw [upd_ne n1, upd_same]
    · rw [upd_same]
      exact congrArg (fun l => some (HO.tup l)) e0'
    · rw [List.length_take]
      show _ + 1 ≤ _
      omega
    have e45 := Ex.tr e4 (Ex.tr (Ex.up hp2) e5)
    refine ⟨.ref y, rfl, nV p, rfl, (p : Int), 1, rfl, rfl, ((p : Int) + 1), rfl, ?_⟩
    refine rd_fromP (p + 1) (e45 _ _ hy) (by omega) (by rw [hlm]; omega) fun p3 hp3 => ?_
    refine rd_cat (xs := (hu.map nV).take p ++ [nV ((hg hu p + 1) % k)]) (ys := (hu.map nV).drop (p + 1)) ?_ upd_same ?_ fun c2 H6 e6 hc2 => ?_
    · rw [upd_ne (ne_of_none hc hp3)]
      exact hc
    · rw [List.length_append, List.length_take, List.length_drop, hlm]
      show _ + 1 + _ ≤ _
      omega
    refine q _ _ (Ex.tr e13 (Ex.tr e45 (Ex.tr (Ex.up hp3) e6))) ⟨c2, rfl, ?_⟩
    rw [hc2, ← set_parts (by omega)]
/-! ### _law_judged_right -/
abbrev s_law_judged_right : Stmt := topS 75
theorem sc_law_judged_right : FnScope ["_law_web_here", "_law_ring", "_law_hues", "_law_best", "_law_found", "_law_same", "_law_place"] ["_law_web_here", "_law_ring", "_law_hues"] (defScope s_law_judged_right) := ⟨rfl, rfl, rfl, by decide +kernel, rfl, by decide +kernel, by decide +kernel⟩
theorem ok_law_judged_right (T : Tx K mg "_law_judged_right" s_law_judged_right) (B : Bl mg) (Dshortest : Dn P w K mg base "shortest" 6 ["web"] spshortest) (Djudged : Dn P w K mg base "judged" 8 ["web", "ring", "hues"] spjudged) (Dmay_move : Dn P w K mg base "may_move" 8 ["web", "ring", "hues"] spmay_move) (Dhues_hold : Dn P w K mg base "hues_hold" 7 ["web", "ring", "thing"] sphues_hold) (Dfull_holds : Dn P w K mg base "full_holds" 8 ["web", "ring", "hues", "thing"] spfull_holds) (Dmoved_on : Dn P w K mg base "moved_on" 8 ["web", "ring", "hues", "place"] spmoved_on) : Dn P w K mg base "_law_judged_right" 9 ["_law_web_here", "_law_ring", "_law_hues"] sp_law_judged_right := by
  obtain ⟨f, fd, F, m⟩ := T.ex
  refine ⟨f, fd, m, F.kp, F.binds (fun _ _ _ _ _ _ us hl => match us, hl with | [_, _, _], _ => rfl), F.ok sc_law_judged_right (fun vs H Q E h => ?_) (fun cdv A outer s H vs Q E hr h => ?_)⟩
  · obtain ⟨v, u, x, wb, k, d, hu, r, rfl, Tr, hne, hll, hr1, hr2, hfl, q⟩ := h
    rfl
  · obtain ⟨v, u, x, wb, k, d, hu, r, rfl, Tr, hne, hll, hr1, hr2, hfl, q⟩ := h
    refine ⟨_, (pss_cons (ps_set (i := 3) sc_law_judged_right.nd rfl (by first | exact Or.inl rfl | exact Or.inr rfl) (pe_d Dshortest (hr.mono (by decide)) rfl (pa_cons (pv 0) pa_nil)))
      (pss_cons (ps_set (i := 4) sc_law_judged_right.nd rfl (by first | exact Or.inl rfl | exact Or.inr rfl) (pe_d Djudged (hr.mono (by decide)) rfl (pa_cons (pv 0) (pa_cons (pv 1) (pa_cons (pv 2) pa_nil)))))
      (pss_cons (ps_set (i := 5) sc_law_judged_right.nd rfl (by first | exact Or.inl rfl | exact Or.inr rfl) (pe_cmpR op_eq (pe_op op_mul (pe_ix (ix_tupK K rfl) (pv 3) pe_int (fun _ _ => rfl)) (pe_ix (ix_tupK K rfl) (pv 1) pe_int (fun _ _ => rfl))) (pe_op op_mul (pe_ix (ix_tupK K rfl) (pv 1) pe_int (fun _ _ => rfl)) (pe_ix (ix_tupK K rfl) (pv 3) pe_int (fun _ _ => rfl))) (nomark _)))
      (pss_cons (ps_if (PW.pt (pw_or (PW.pt (pw_and (pt_val (pv 5)) (pw_and1 (pt_cmpR op_ne (pe_ix (ix_tupK K rfl) (pv 4) pe_int (fun _ _ => rfl)) pe_str (nomark _))))) (pw_or1 (PW.pt (pw_and (pt_cmpR op_eq (pe_ix (ix_tupK K rfl) (pv 4) pe_int (fun _ _ => rfl)) pe_str (nomark _)) (pw_and1 (pt_not (pt_val (pe_d Dfull_holds (hr.mono (by decide)) rfl (pa_cons (pv 0) (pa_cons (pv 1) (pa_cons (pv 2) (pa_cons (pe_ix (ix_tupK K rfl) (pv 4) pe_int (fun _ _ => rfl)) pa_nil)))))))))))))
        (pss_one (ps_ret pe_bl))
        pss_nil)
      (pss_cons (ps_if (PW.pt (pw_and (pt_cmpR op_eq (pe_ix (ix_tupK K rfl) (pv 4) pe_int (fun _ _ => rfl)) pe_str (nomark _)) (pw_and1 (PW.pt (pw_or (pt_cmpR (op_neDK K rfl hr.units) (pe_ix (ix_tupK K rfl) (pv 4) pe_int (fun _ _ => rfl)) (pv 3) (nomark _)) (pw_or1 (pt_not (pt_val (pe_d Dhues_hold (hr.mono (by decide)) rfl (pa_cons (pv 0) (pa_cons (pv 3) (pa_cons (pe_ix (ix_tupK K rfl) (pv 4) pe_int (fun _ _ => rfl)) pa_nil))))))))))))
        (pss_one (ps_ret pe_bl))
        pss_nil)
      (pss_cons (ps_if (PW.pt (pw_and (pt_cmpR op_eq (pe_ix (ix_tupK K rfl) (pv 4) pe_int (fun _ _ => rfl)) pe_str (nomark _)) (pw_and1 (pt_cmpR (op_eqDK K rfl hr.units) (pe_d Dmay_move (hr.mono (by decide)) rfl (pa_cons (pv 0) (pa_cons (pv 1) (pa_cons (pv 2) pa_nil)))) (pe_tup pa_nil) (nomark _)))))
        (pss_one (ps_ret pe_bl))
        pss_nil)
      (pss_cons (ps_for PassesOwn.never rfl (pi_tupK K rfl (pe_d Dmay_move (hr.mono (by decide)) rfl (pa_cons (pv 0) (pa_cons (pv 1) (pa_cons (pv 2) pa_nil))))) (pg_name (i := 6) sc_law_judged_right.nd rfl (by first | exact Or.inl rfl | exact Or.inr rfl))
        (pss_one (ps_if (pt_not (pt_val (pe_d Dhues_hold (hr.mono (by decide)) rfl (pa_cons (pv 0) (pa_cons (pv 1) (pa_cons (pe_d Dmoved_on (hr.mono (by decide)) rfl (pa_cons (pv 0) (pa_cons (pv 1) (pa_cons (pv 2) (pa_cons (pv 6) pa_nil))))) pa_nil))))))
          (pss_one (ps_ret pe_bl))
          pss_nil)))
      (pss_one (ps_ret pe_bl))))))))), ?_⟩
    have hn := Tr.two.W.hi
    have hn0 := Tr.two.W.lo
    have hk24 := Tr.two.R.most
    have hdk := Tr.two.R.le
    have hd1 := Tr.two.R.one
    obtain ⟨ua, rfl, hua⟩ := id Tr.two.ring
    refine ⟨v, rfl, v, wb, r, rfl, Tr.two.web, Tr.two.W, hne, hll, fun bv H1 e1 hb => ?_⟩
    obtain ⟨ba, rfl, hba⟩ := hb
    refine ⟨v, rfl, .ref ua, rfl, x, rfl, v, .ref ua, x, wb, k, d, hu, rfl, Tr.up e1, hne, hfl, fun fa y row H2 e2 hfa hy hrow => ?_⟩
    have hrd := mem_fall.mp hrow
    have e02 := Ex.tr e1 e2
    have hua2 := e02 _ _ hua
    have hba2 := e2 _ _ hba
    obtain ⟨sm, hsm⟩ : ∃ sm : Bool, decide (V.int ((r.1 : Int) * (d : Int)) = V.int ((k : Int) * (r.2 : Int))) = sm := ⟨_, rfl⟩
    dsimp only [gName]
    refine Evl.q_asg (v := .bl sm) (fun H3 e3 Q q => ?jrS) fun H3 e3 => ?jrT
    case jrS =>
      refine ⟨.ref ba, rfl, ba, _, 0, nV r.1, rfl, rfl, sqT (e3 _ _ hba2), at0, .ref ua, rfl, ua, _, 1, nV d, rfl, rfl, sqT (e3 _ _ hua2), at1, (r.1 : Int), (d : Int), rfl, rfl, .inl ⟨by omega, by omega⟩, .ref ua, rfl, ua, _, 0, nV k, rfl, rfl, sqT (e3 _ _ hua2), at0, .ref ba, rfl, ba, _, 1, nV r.2, rfl, rfl, sqT (e3 _ _ hba2), at1, (k : Int), (r.2 : Int), rfl, rfl, .inl ⟨by omega, by omega⟩, rfl, ?_⟩
      show Q (.bl (decide (V.int ((r.1 : Int) * (d : Int)) = V.int ((k : Int) * (r.2 : Int))))) H3
      rw [hsm]
      exact q _ (ex0 _)
    have hfa := e3 _ _ hfa
    have hy := hy.up e3
    have e02 := Ex.tr e02 e3
    have isR : ∀ H' (Q : VK), Ex H3 H' → Q (.bl true) H' → tOp rEq (tOp (rIxT K) (tVar 4) (tC (.int 0))) (tC (.str "round")) [some v, some (.ref ua), some x, some (.ref ba), some (.ref fa), some (.bl sm), none] H' Q := fun H' Q e h => by
      refine ⟨.ref fa, rfl, fa, _, 0, .str "round", rfl, rfl, sqT (e _ _ hfa), at0, rfl, ?_⟩
      rw [decide_eq_true rfl]
      exact h
    have isS : ∀ H' (Q : VK), Ex H3 H' → Q (.bl false) H' → tOp rEq (tOp (rIxT K) (tVar 4) (tC (.int 0))) (tC (.str "shorter")) [some v, some (.ref ua), some x, some (.ref ba), some (.ref fa), some (.bl sm), none] H' Q := fun H' Q e h => by
      refine ⟨.ref fa, rfl, fa, _, 0, .str "round", rfl, rfl, sqT (e _ _ hfa), at0, rfl, ?_⟩
      rw [decide_eq_false (fun h => absurd (V.str.inj h) (by decide))]
      exact h
    refine Evl.q_when (b := (sm && !true) || (true && !true)) (Evl.et_or (Evl.et_and (Evl.et_B fun H4 e4 Q q => ⟨_, rfl, q _ (ex0 _)⟩) fun _ => Evl.et_test fun H4 e4 Q q => ?jrA) fun _ => Evl.et_and (Evl.et_test fun H4 e4 Q q => isR _ _ e4 (q _ (ex0 _))) fun _ => Evl.et_not (Evl.et_B fun H4 e4 Q q => ?jrB)) (fun hb => by cases sm <;> exact absurd hb (by decide)) (fun _ H4 e4 => ?jrG)
    case jrA =>
      refine ⟨.ref fa, rfl, fa, _, 0, .str "round", rfl, rfl, sqT (e4 _ _ hfa), at0, rfl, ?_⟩
      rw [decide_eq_true rfl]
      exact q _ (ex0 _)
    case jrB =>
      exact ⟨v, rfl, .ref ua, rfl, x, rfl, .ref fa, rfl, fa, _, 1, y, rfl, rfl, sqT (e4 _ _ hfa), at1, v, .ref ua, x, y, wb, k, d, hu, row, rfl, Tr.up (Ex.tr e02 e4), hy.up e4, hrd, fun H5 e5 => q _ e5⟩
    refine Evl.q_when (b := false && true) (Evl.et_and (Evl.et_test fun H5 e5 Q q => isS _ _ (Ex.tr e4 e5) (q _ (ex0 _))) fun h => absurd h (by decide)) (fun h => absurd h (by decide)) (fun _ H5 e5 => ?_)
    refine Evl.q_when (b := false && true) (Evl.et_and (Evl.et_test fun H6 e6 Q q => isS _ _ (Ex.tr e4 (Ex.tr e5 e6)) (q _ (ex0 _))) fun h => absurd h (by decide)) (fun h => absurd h (by decide)) (fun _ H6 e6 => ?_)
    have e06 := Ex.tr e02 (Ex.tr e4 (Ex.tr e5 e6))
    refine ⟨v, rfl, .ref ua, rfl, x, rfl, v, .ref ua, x, wb, k, d, hu, rfl, Tr.up e06, fun mv H7 e7 hmv => ?_⟩
    obtain ⟨ma, rfl, hma⟩ := hmv
    have e07 := Ex.tr e06 e7
    refine ⟨ma, rfl, ⟨_, sqT hma⟩, for_tup (xs := ((List.range wb.n).filter (freeB wb k d hu)).map nV) (fun j σ H' => ∃ y6 : Option V, σ = [some v, some (.ref ua), some x, some (.ref ba), some (.ref fa), some (.bl sm), y6] ∧ Ex H7 H') ⟨none, rfl, ex0 _⟩ (fun j σ H' _ p => ?_) (fun j z σ H' hj p => ?_) (fun σ H' p => ?_)⟩
    · obtain ⟨y6, rfl, e⟩ := p
      exact sqT (e _ _ hma)
    · obtain ⟨y6, rfl, e⟩ := p
      obtain ⟨p, hp, rfl⟩ := nV_get hj
      have hpm := List.mem_filter.mp (List.mem_of_getElem? hp)
      have hpn : p < wb.n := List.mem_range.mp hpm.1
      have e08 := Ex.tr e07 e
      have hok : HuesOk wb k d (hu.set p ((hg hu p + 1) % k)) := Tr.ok.moved Tr.two.W.T hd1 hpn fun q hq => by
        have h1 : freeB wb k d hu p = true := hpm.2
        unfold freeB at h1
        have h2 := List.all_eq_true.mp h1 q (List.mem_range.mpr hq)
        simpa using h2
      refine ⟨v, rfl, .ref ua, rfl, v, rfl, .ref ua, rfl, x, rfl, nV p, rfl, v, .ref ua, x, wb, k, d, hu, p, rfl, Tr.up e08, hpn, hpm.2, fun z H8 e8 hz => ⟨v, .ref ua, z, wb, k, d, _, rfl, ⟨(Tr.two.up e08).up e8, hz, hok⟩, fun H9 e9 => ⟨true, rfl, iteF ⟨_, rfl, Ex.tr e (Ex.tr e8 e9)⟩⟩⟩⟩
    · obtain ⟨y6, rfl, e⟩ := p
      exact q _ (Ex.tr e07 e)
/-! ### law -/
abbrev slaw : Stmt := topS 76
theorem sclaw : FnScope ["_law_script", "_law_cell_here", "_law_pen_here", "_law_many", "_law_web_here", "_law_ring", "_law_hues", "_law_best", "_law_far", "_law_longer"] ["_law_script"] (defScope slaw) := ⟨rfl, rfl, rfl, by decide +kernel, rfl, by decide +kernel, by decide +kernel⟩
theorem oklaw {f : Addr} {fd : FuncData} (F : Fun K "law" "law" slaw f fd) (B : Bl mg) (D_law_pen : Dn P w K mg base "_law_pen" 1 ["_law_cell_here"] sp_law_pen) (D_law_web : Dn P w K mg base "_law_web" 2 ["_law_pen_here", "_law_many"] sp_law_web) (D_law_tight : Dn P w K mg base "_law_tight" 3 ["_law_pen_here", "_law_web_here"] sp_law_tight) (D_law_some_hues : Dn P w K mg base "_law_some_hues" 3 ["_law_pen_here", "_law_web_here", "_law_ring"] sp_law_some_hues) (Dshortest : Dn P w K mg base "shortest" 6 ["web"] spshortest) (Dmoved_hues : Dn P w K mg base "moved_hues" 7 ["web", "ring", "hues", "other"] spmoved_hues) (D_law_cell : Dn P w K mg base "_law_cell" 1 ["_law_script", "_law_k"] (sp_law_cell K)) (D_law_draw : Dn P w K mg base "_law_draw" 1 ["_law_pen_here", "_law_many"] sp_law_draw) (Dalways_full : Dn P w K mg base "always_full" 7 ["web", "ring"] spalways_full) (D_law_rounds_right : Dn P w K mg base "_law_rounds_right" 9 ["_law_web_here", "_law_ring", "_law_hues"] sp_law_rounds_right) (D_law_judged_right : Dn P w K mg base "_law_judged_right" 9 ["_law_web_here", "_law_ring", "_law_hues"] sp_law_judged_right) (Dhues_hold : Dn P w K mg base "hues_hold" 7 ["web", "ring", "thing"] sphues_hold) : FnOk P w K mg base CX0 10 f fd ["_law_script"] (splaw K) := by
  refine F.ok sclaw (fun vs H Q E h => ?_) (fun cdv A outer s H vs Q E hr h => ?_)
  · obtain ⟨a, ns, rfl, hS, hl63, q⟩ := h
    rfl
  · obtain ⟨a, ns, rfl, hS, hl63, q⟩ := h
    refine ⟨_, (pss_cons (ps_for PassesOwn.never rfl (pi_listK K rfl (pe_op op_cat (pe_lst (pa_cons (pe_d D_law_cell (hr.mono (by decide)) rfl (pa_cons (pv 0) (pa_cons pe_int pa_nil))) pa_nil)) (pe_slice (sl_listK K rfl) (pv 0) (po_some pe_int) (po_some pe_int)))) (pg_name (i := 1) sclaw.nd rfl (by first | exact Or.inl rfl | exact Or.inr rfl))
        (pss_cons (ps_set (i := 2) sclaw.nd rfl (by first | exact Or.inl rfl | exact Or.inr rfl) (pe_d D_law_pen (hr.mono (by decide)) rfl (pa_cons (pv 1) pa_nil)))
        (pss_cons (ps_set (i := 3) sclaw.nd rfl (by first | exact Or.inl rfl | exact Or.inr rfl) (pe_op op_add pe_int (pe_d D_law_draw (hr.mono (by decide)) rfl (pa_cons (pv 2) (pa_cons pe_int pa_nil)))))
        (pss_cons (ps_set (i := 4) sclaw.nd rfl (by first | exact Or.inl rfl | exact Or.inr rfl) (pe_d D_law_web (hr.mono (by decide)) rfl (pa_cons (pv 2) (pa_cons (pv 3) pa_nil))))
        (pss_cons (ps_if (pt_cmpR (op_eqDK K rfl hr.units) (pe_ix (ix_tupK K rfl) (pv 4) pe_int (fun _ _ => rfl)) (pe_tup pa_nil) (nomark _))
          (pss_one (ps_set (i := 4) sclaw.nd rfl (by first | exact Or.inl rfl | exact Or.inr rfl) (pe_tup (pa_cons (pv 3) (pa_cons (pe_tup (pa_cons (pe_tup (pa_cons pe_int (pa_cons pe_int pa_nil))) pa_nil)) pa_nil)))))
          pss_nil)
        (pss_cons (ps_set (i := 5) sclaw.nd rfl (by first | exact Or.inl rfl | exact Or.inr rfl) (pe_d D_law_tight (hr.mono (by decide)) rfl (pa_cons (pv 2) (pa_cons (pv 4) pa_nil))))
        (pss_cons (ps_set (i := 6) sclaw.nd rfl (by first | exact Or.inl rfl | exact Or.inr rfl) (pe_d D_law_some_hues (hr.mono (by decide)) rfl (pa_cons (pv 2) (pa_cons (pv 4) (pa_cons (pv 5) pa_nil)))))
        (pss_cons (ps_if (PW.pt (pw_or (pt_not (pt_val (pe_d D_law_rounds_right (hr.mono (by decide)) rfl (pa_cons (pv 4) (pa_cons (pv 5) (pa_cons (pv 6) pa_nil)))))) (pw_or1 (pt_not (pt_val (pe_d D_law_judged_right (hr.mono (by decide)) rfl (pa_cons (pv 4) (pa_cons (pv 5) (pa_cons (pv 6) pa_nil)))))))))
          (pss_one (ps_ret pe_bl))
          pss_nil)
        (pss_cons (ps_set (i := 7) sclaw.nd rfl (by first | exact Or.inl rfl | exact Or.inr rfl) (pe_d Dshortest (hr.mono (by decide)) rfl (pa_cons (pv 4) pa_nil)))
        (pss_cons (ps_if (PW.pt (pw_or (pt_not (pt_val (pe_d Dalways_full (hr.mono (by decide)) rfl (pa_cons (pv 4) (pa_cons (pv 7) pa_nil))))) (pw_or1 (pt_val (pe_d Dalways_full (hr.mono (by decide)) rfl (pa_cons (pv 4) (pa_cons (pe_tup (pa_cons (pe_op op_add (pe_ix (ix_tupK K rfl) (pv 7) pe_int (fun _ _ => rfl)) pe_int) (pa_cons (pe_ix (ix_tupK K rfl) (pv 7) pe_int (fun _ _ => rfl)) pa_nil))) pa_nil)))))))
          (pss_one (ps_ret pe_bl))
          pss_nil)
        (pss_cons (ps_set (i := 8) sclaw.nd rfl (by first | exact Or.inl rfl | exact Or.inr rfl) (pe_tup (pa_cons (pe_op op_add (pe_ix (ix_tupK K rfl) (pv 5) pe_int (fun _ _ => rfl)) pe_int) (pa_cons (pe_ix (ix_tupK K rfl) (pv 5) pe_int (fun _ _ => rfl)) pa_nil))))
        (pss_cons (ps_set (i := 9) sclaw.nd rfl (by first | exact Or.inl rfl | exact Or.inr rfl) (pe_d Dmoved_hues (hr.mono (by decide)) rfl (pa_cons (pv 4) (pa_cons (pv 5) (pa_cons (pv 6) (pa_cons (pv 8) pa_nil))))))
        (pss_one (ps_if (PW.pt (pw_or (pt_not (pt_val (pe_d Dhues_hold (hr.mono (by decide)) rfl (pa_cons (pv 4) (pa_cons (pv 8) (pa_cons (pv 9) pa_nil)))))) (pw_or1 (pt_not (pt_val (pe_d D_law_rounds_right (hr.mono (by decide)) rfl (pa_cons (pv 4) (pa_cons (pv 8) (pa_cons (pv 9) pa_nil)))))))))
          (pss_one (ps_ret pe_bl))
          pss_nil))))))))))))))
      (pss_one (ps_ret pe_bl))), ?_⟩
    refine ⟨.ref a, rfl, a, ns, 0, rfl, hS, fun i => ⟨by show 1 ≤ sizeLine; decide, fun p1 hp1 => ?_⟩⟩
    have e1 : Ex H (upd H p1 (.lst [.int i])) := Ex.up hp1
    have hcl := cutV_length (ns.map V.int) (some 1) (some 2)
    rw [List.length_map] at hcl
    refine ⟨.ref a, rfl, (1 : Int), rfl, (2 : Int), rfl, a, _, rfl, Evl.ex_l e1 hS, fun p2 hp2 => ?_⟩
    have e2 := Ex.up (o := .lst (cutV (ns.map V.int) (some 1) (some 2))) hp2
    refine ⟨p1, p2, [.int i], cutV (ns.map V.int) (some 1) (some 2), rfl, rfl, e2 _ _ upd_same, upd_same, ?_, fun L nL => ?_⟩
    · show 1 + _ ≤ _
      exact small (by omega)
    have hall : ∀ x ∈ [V.int i] ++ cutV (ns.map V.int) (some 1) (some 2), ∃ c : Int, x = .int c := fun x hx => by
      rcases List.mem_append.mp hx with h | h
      · exact ⟨i, List.mem_singleton.mp h⟩
      · unfold cutV at h
        obtain ⟨c, _, hc⟩ := List.mem_map.mp (List.mem_of_mem_drop (List.mem_of_mem_take h))
        exact ⟨c, hc.symm⟩
    generalize [V.int i] ++ cutV (ns.map V.int) (some 1) (some 2) = xs at hall ⊢
    refine ⟨L, rfl, ⟨xs, sqL upd_same⟩, for_list (xs := xs) (fun j σ H' => ∃ y1 y2 y3 y4 y5 y6 y7 y8 y9 : Option V, σ = [some (.ref a), y1, y2, y3, y4, y5, y6, y7, y8, y9] ∧ H' L = some (.lst xs)) ⟨none, none, none, none, none, none, none, none, none, rfl, upd_same⟩ (fun j σ H' _ p => ?_) (fun j z σ H' hj p => ?_) (fun σ H' p => ?_)⟩
    · obtain ⟨y1, y2, y3, y4, y5, y6, y7, y8, y9, rfl, hL⟩ := p
      exact sqL hL
    · obtain ⟨y1, y2, y3, y4, y5, y6, y7, y8, y9, rfl, hL⟩ := p
      obtain ⟨c, rfl⟩ := hall z (List.mem_of_getElem? hj)
      refine ⟨.int c, rfl, c, rfl, fun pa H1 npa e1 hp1 => ?_⟩
      have nL : L ≠ pa := ne_of_none hL npa
      have hL1 := e1 _ _ hL
      refine ⟨.ref pa, rfl, pa, 4, rfl, hp1, by decide, by decide, fun m H2 hm b2 hp2 => ⟨2, (m : Int), rfl, rfl, ?_⟩⟩
      have hL2 := b2 _ _ nL hL1
      have hn : 2 + m ≤ 5 := by omega
      refine ⟨.ref pa, rfl, nV (2 + m), rfl, pa, 2 + m, rfl, hp2, hn, fun wv0 ts0 H3 b3 hp3 hw0 hts0 => ?_⟩
      have hL3 := b3 _ _ nL hL2
      dsimp only [gName]
      obtain ⟨wa0, wt0, rfl, hwa0, hwt0⟩ := id hw0
      obtain ⟨wta0, us0, rfl, _⟩ := id hwt0
      refine q_ifNew (b := ts0.isEmpty) (fun v H' => ∃ ts, ts ≠ [] ∧ ts.Sublist (pairs (2 + m)) ∧ IsWeb H' v ⟨2 + m, ts⟩) (Evl.et_test fun H4 e4 Q q => ?lwA) (fun hb H4 e4 Q q => ?lwB) (fun hb H4 e4 => ?lwC) (fun wv H4 e4 hG => ?lwD)
      case lwA => exact ⟨.ref wa0, rfl, wa0, _, 1, .ref wta0, rfl, rfl, sqT (e4 _ _ hwa0), at1, Nat.zero_le _, fun p hp => rd_teq (hwt0.up (Ex.tr e4 (Ex.up hp))) upd_same (q _ (Ex.up hp))⟩
      case lwB =>
        refine ⟨nV (2 + m), rfl, by show 2 ≤ sizeLine; decide, fun q1 hq1 => ⟨by show 1 ≤ sizeLine; decide, fun q2 hq2 => ⟨by show 2 ≤ sizeLine; decide, fun q3 hq3 => ?_⟩⟩⟩
        have f1 : Ex H4 (upd H4 q1 (.tup [.int 0, .int 1])) := Ex.up hq1
        have f2 := Ex.up (o := .tup [.ref q1]) hq2
        have f3 := Ex.up (o := .tup [nV (2 + m), .ref q2]) hq3
        exact q _ _ (Ex.tr f1 (Ex.tr f2 f3)) ⟨[(0, 1)], by simp, one_tie (by omega) hn, q3, .ref q2, rfl, upd_same, q2, [.ref q1], rfl, f3 _ _ upd_same, ⟨q1, rfl, f3 _ _ (f2 _ _ upd_same)⟩, trivial⟩
      case lwC =>
        refine ⟨.ref wa0, rfl, ts0, fun z => ?_, hts0, hw0.up e4⟩
        rw [z] at hb
        exact absurd hb (by decide)
      obtain ⟨ts, hne, hts, hw⟩ := hG
      have hL4 := e4 _ _ hL3
      have hp4 := hp3.up e4
      obtain ⟨r, F⟩ := facts_at check5 (show 2 ≤ 2 + m by omega) hn hne hts
      have hsm := F.small
      refine ⟨.ref pa, rfl, wv, rfl, pa, wv, ⟨2 + m, ts⟩, r, rfl, hp4, hw, F.wok, F.tgt, by omega, by omega, fun rv H5 g hg b5 hp5 hrv => ?_⟩
      have hL5 := b5 _ _ nL hL4
      obtain ⟨hR, h10⟩ := F.rok hg
      obtain ⟨h0, hlf, ok0⟩ := F.first hg
      have Tw5 : Two H5 wv rv ⟨2 + m, ts⟩ (g * r.1) (g * r.2) := ⟨hw.upB hp4 b5, hrv, F.wok, hR⟩
      refine ⟨.ref pa, rfl, wv, rfl, rv, rfl, pa, wv, rv, ⟨2 + m, ts⟩, g * r.1, g * r.2, h0, rfl, hp5, Tw5, hlf, ok0, fun xv H6 h b6 hp6 hx ok => ?_⟩
      have hL6 := b6 _ _ nL hL5
      have Tw6 := Tw5.upB hp5 b6
      have Tr6 : Three H6 wv rv xv ⟨2 + m, ts⟩ (g * r.1) (g * r.2) h := ⟨Tw6, hx, ok⟩
      have hfl : fall (nx ⟨2 + m, ts⟩ (g * r.1) (g * r.2) h) (2 + m) ≠ [] := tight F.T F.hi F.wit hg ok
      dsimp only [gName]
      refine Evl.q_when (b := !true || !true) (Evl.et_or (Evl.et_not (Evl.et_B fun H7 e7 Q q => ⟨wv, rfl, rv, rfl, xv, rfl, wv, rv, xv, ⟨2 + m, ts⟩, g * r.1, g * r.2, h, rfl, Tr6.up e7, fun H8 e8 => q _ e8⟩)) fun _ => Evl.et_not (Evl.et_B fun H7 e7 Q q => ⟨wv, rfl, rv, rfl, xv, rfl, wv, rv, xv, ⟨2 + m, ts⟩, g * r.1, g * r.2, h, r, rfl, Tr6.up e7, hne, F.lst, by omega, by omega, hfl, fun H8 e8 => q _ e8⟩)) (fun hb => absurd hb (by decide)) (fun _ H7 e7 => ?_)
      refine ⟨wv, rfl, wv, ⟨2 + m, ts⟩, r, rfl, Tw6.web.up e7, F.wok, hne, F.lst, fun bv H8 e8 hbv => ?_⟩
      obtain ⟨ba, rfl, hba⟩ := hbv
      have e68 := Ex.tr e7 e8
      dsimp only [gName]
      refine Evl.q_when (b := !true || false) (Evl.et_or (Evl.et_not (Evl.et_B fun H9 e9 Q q => ?lwE)) fun _ => Evl.et_B fun H9 e9 Q q => ?lwF) (fun hb => absurd hb (by decide)) (fun _ H9 e9 => ?lwG)
      case lwE =>
        refine ⟨wv, rfl, .ref ba, rfl, wv, .ref ba, ⟨2 + m, ts⟩, r.1, r.2, rfl, ⟨Tw6.web.up (Ex.tr e68 e9), ⟨ba, rfl, e9 _ _ hba⟩, F.wok, ⟨hsm.1, hsm.2.1, by omega⟩⟩, by omega, hne, fun H10 e10 => ?_⟩
        rw [afull_yes F]
        exact q _ e10
      case lwF =>
        refine ⟨wv, rfl, .ref ba, rfl, ba, _, 0, nV r.1, rfl, rfl, sqT (e9 _ _ hba), at0, (r.1 : Int), 1, rfl, rfl, .ref ba, rfl, ba, _, 1, nV r.2, rfl, rfl, sqT (e9 _ _ hba), at1, by show 2 ≤ sizeLine; decide, fun p hp => ?_⟩
        have f := Ex.up (o := .tup [nV (r.1 + 1), nV r.2]) hp
        refine ⟨wv, .ref p, ⟨2 + m, ts⟩, r.1 + 1, r.2, rfl, ⟨Tw6.web.up (Ex.tr (Ex.tr e68 e9) f), ⟨p, rfl, upd_same⟩, F.wok, ⟨hsm.1, by omega, by omega⟩⟩, by omega, hne, fun H10 e10 => ?_⟩
        rw [afull_no F]
        exact q _ (Ex.tr f e10)
      have e69 := Ex.tr e68 e9
      obtain ⟨ra, rfl, hra⟩ := id Tw6.ring
      have hra9 := e69 _ _ hra
      refine ⟨.ref ra, rfl, ra, _, 0, nV (g * r.1), rfl, rfl, sqT hra9, at0, ((g * r.1 : Nat) : Int), 1, rfl, rfl, .ref ra, rfl, ra, _, 1, nV (g * r.2), rfl, rfl, sqT hra9, at1, by show 2 ≤ sizeLine; decide, fun pf hpf => ?_⟩
      have f9 := Ex.up (o := .tup [nV (g * r.1 + 1), nV (g * r.2)]) hpf
      have e610 := Ex.tr e69 f9
      have hfar : IsInts (upd H9 pf (.tup [nV (g * r.1 + 1), nV (g * r.2)])) (.ref pf) [g * r.1 + 1, g * r.2] := ⟨pf, rfl, upd_same⟩
      refine ⟨wv, rfl, .ref ra, rfl, xv, rfl, .ref pf, rfl, wv, .ref ra, xv, .ref pf, ⟨2 + m, ts⟩, g * r.1, g * r.2, h, rfl, Tr6.up e610, hfar, by omega, fun lv H11 e11 hlv => ?_⟩
      have e611 := Ex.tr e610 e11
      have Tr11 : Three H11 wv (.ref pf) lv ⟨2 + m, ts⟩ (g * r.1 + 1) (g * r.2) h := ⟨⟨Tw6.web.up e611, hfar.up e11, F.wok, ⟨hR.one, by have := hR.le; omega, by omega⟩⟩, hlv, ok.wider F.T⟩
      dsimp only [gName]
      refine Evl.s_when (b := !true || !true) (Evl.et_or (Evl.et_not (Evl.et_B fun H12 e12 Q q => ⟨wv, rfl, .ref pf, rfl, lv, rfl, wv, .ref pf, lv, ⟨2 + m, ts⟩, g * r.1 + 1, g * r.2, h, rfl, Tr11.up e12, fun H8 e8 => q _ e8⟩)) fun _ => Evl.et_not (Evl.et_B fun H12 e12 Q q => ⟨wv, rfl, .ref pf, rfl, lv, rfl, wv, .ref pf, lv, ⟨2 + m, ts⟩, g * r.1 + 1, g * r.2, h, rfl, Tr11.up e12, fun H8 e8 => q _ e8⟩)) (fun hb => absurd hb (by decide)) (fun _ H12 e12 => ?_)
      exact ⟨_, _, _, _, _, _, _, _, _, rfl, e12 _ _ (e611 _ _ hL6)⟩
    · obtain ⟨y1, y2, y3, y4, y5, y6, y7, y8, y9, rfl, hL⟩ := p
      exact q _
end
end Rg
/-! ### the head: each def by its name, the top's run -/
namespace Rg
open PySem PySem.Spec PyProof.Rows L2
theorem toFun {x : Str} {st : Stmt} {f : Addr} {fd : FuncData} {K : PySem.W.Frag} (F : FunD K x x (defArgs st) (defBody st) (defScope st) [] [] f fd) : Fun K x x st f fd := by
  obtain ⟨oc, od, dV, kV, doc, pm, an, cdv, ct, osl, e, lk, hcd, hd, _⟩ := F.ex
  rcases hd with ⟨_, rfl⟩ | ⟨z, _⟩
  · exact ⟨⟨oc, od, kV, doc, pm, an, cdv, ct, osl, e, lk, hcd⟩, F.kp⟩
  · exact absurd rfl z
abbrev dD (p : Str × Nat) : He.DefD := ⟨(p.1, none), p.1, p.1, defArgs (topS p.2), defBody (topS p.2), defScope (topS p.2), [], []⟩
def tab0 : List (Str × Nat) := [("is_whole", 9), ("is_number_of", 10), ("are_numbers_of", 11), ("common_part", 12), ("is_ring", 15), ("check_ring", 16), ("apart", 17), ("is_shorter", 18), ("is_pair", 21), ("is_many", 22), ("is_web", 23), ("check_web", 24), ("check_place", 25), ("are_tied", 26), ("tied_to", 27), ("clash_of", 29), ("are_hues", 30), ("check_both", 31), ("check_hues", 32), ("hues_hold", 33), ("turned_on", 34), ("mirrored_by", 35), ("mirrored_hues", 36), ("is_next", 38), ("rounds_full", 39), ("check_three", 40), ("full_rounds", 41), ("is_full", 42), ("full_holds", 43), ("laps_of", 44)]
def tab1 : List (Str × Nat) := [("is_free", 45), ("may_move", 46), ("moved_on", 47), ("ties_back", 49), ("fits", 50), ("has_threes", 51), ("first_row", 52), ("all_rows", 53), ("plain_rings", 55), ("least_ring", 56), ("shortest", 57), ("judged", 59), ("always_full", 60), ("moved_by", 62), ("moved_hues", 63), ("_law_cell", 65), ("_law_pen", 66), ("_law_draw", 67), ("_law_web", 68), ("_law_apart", 69), ("_law_fit_spots", 70), ("_law_first", 71), ("_law_tight", 72), ("_law_some_hues", 73), ("_law_rounds_right", 74), ("_law_judged_right", 75), ("law", 76)]
def tab : List (Str × Nat) := tab0 ++ tab1
def fn : List He.DefD := tab.map dD
def fa : List He.Fa := (tab.map fun p => .glo p.1) ++ [.free "len", .free "min", .free "max", .free "abs", .free "all", .free "any", .free "sorted", .free "tuple", .free "isinstance", .free "set", .free "int", .free "bool", .free "range", .free "zip", .free "divmod", .int "MOST_SPOTS" 24, .int "MOST_PLACES" 8]
def nm0 : List Str := ["HueError", "NoRing", "NoHues", "NoPlace", "NoPaper", "Apart", "NoWeb", "MOST_SPOTS", "MOST_PLACES", "is_whole", "is_number_of", "are_numbers_of", "common_part", "is_ring", "check_ring", "apart", "is_shorter", "is_pair", "is_many", "is_web", "check_web", "check_place", "are_tied", "tied_to", "clash_of", "are_hues", "check_both", "check_hues", "hues_hold", "turned_on"]
def nm1 : List Str := ["mirrored_by", "mirrored_hues", "is_next", "rounds_full", "check_three", "full_rounds", "is_full", "full_holds", "laps_of", "is_free", "may_move", "moved_on", "ties_back", "fits", "has_threes", "first_row", "all_rows", "plain_rings", "least_ring", "shortest", "judged", "always_full", "moved_by", "moved_hues", "_law_cell", "_law_pen", "_law_draw", "_law_web", "_law_apart", "_law_fit_spots"]
def nm2 : List Str := ["_law_first", "_law_tight", "_law_some_hues", "_law_rounds_right", "_law_judged_right"]
def nms : List Str := nm0 ++ nm1 ++ nm2
abbrev R : PySem.W.OpenRow := PySem.W.OpenLaw.row PySem.Challenge.rw_ringhues_k31_whole_rounds_and_shortest_r
abbrev hk : PySem.W.Hook := He.hookD 2 fa fn
def ob (s : PySem.W.SharedT) : He.AlD := He.obsDG 2 fa fn (HandSHeadRun.getT s)
theorem ob_eq (s : PySem.W.SharedT) : ob s = hk.obs s.abs := He.obsDG_eq (HandSHeadRun.getT_eq s)
theorem hdRun (w : World) : HandSHeadRun.RunEq R (PySem.W.view R.prog [76]) hk ob 4000 nms w := by
  intro os
  kernel_rfl
theorem tx {K : PySem.W.Frag} {h : Heap} {mg : Str → Option Value} (X : K.In h) (G : h.Ns mainGlobals mg) (c : He.SaysD fa fn K) (i : Nat) {p : Str × Nat} (hi : tab[i]? = some p) : Tx K mg p.1 (topS p.2) := by
  obtain ⟨fd, F⟩ := c.def_ i (d := dD p) (by unfold fn; rw [List.getElem?_map, hi]; rfl)
  have g : (He.Fa.glo p.1).ok K = true := c.fact i (by
    have hl : i < (tab.map fun p => He.Fa.glo p.1).length := by
      rw [List.length_map]
      exact (List.getElem?_eq_some_iff.mp hi).1
    unfold fa
    rw [List.getElem?_append_left hl, List.getElem?_map, hi]
    rfl)
  exact ⟨_, fd, toFun F, He.glo_ok X G g⟩
theorem bl {K : PySem.W.Frag} {h : Heap} {mg : Str → Option Value} (X : K.In h) (G : h.Ns mainGlobals mg) (c : He.SaysD fa fn K) : Bl mg where
  len_ := He.free_ok X G (c.fact 57 (f := .free "len") rfl)
  min_ := He.free_ok X G (c.fact 58 (f := .free "min") rfl)
  max_ := He.free_ok X G (c.fact 59 (f := .free "max") rfl)
  abs_ := He.free_ok X G (c.fact 60 (f := .free "abs") rfl)
  all_ := He.free_ok X G (c.fact 61 (f := .free "all") rfl)
  any_ := He.free_ok X G (c.fact 62 (f := .free "any") rfl)
  sorted_ := He.free_ok X G (c.fact 63 (f := .free "sorted") rfl)
  tuple_ := He.free_ok X G (c.fact 64 (f := .free "tuple") rfl)
  isinstance_ := He.free_ok X G (c.fact 65 (f := .free "isinstance") rfl)
  set_ := He.free_ok X G (c.fact 66 (f := .free "set") rfl)
  int_ := He.free_ok X G (c.fact 67 (f := .free "int") rfl)
  bool_ := He.free_ok X G (c.fact 68 (f := .free "bool") rfl)
  range_ := He.free_ok X G (c.fact 69 (f := .free "range") rfl)
  zip_ := He.free_ok X G (c.fact 70 (f := .free "zip") rfl)
  divmod_ := He.free_ok X G (c.fact 71 (f := .free "divmod") rfl)
  MOST_SPOTS := He.int_ok X G (c.fact 72 (f := .int "MOST_SPOTS" 24) rfl)
  MOST_PLACES := He.int_ok X G (c.fact 73 (f := .int "MOST_PLACES" 8) rfl)
theorem facts {P : Program} {w : World} {K : PySem.W.Frag} {h : Heap} {mg : Str → Option Value} {f : Addr} (X : K.In h) (G : h.Ns mainGlobals mg) (hfa : mg ("law" : Str) = some (.ref f)) (c : He.SaysD fa fn K) :
    ∃ fd : FuncData, (∀ (s : Shared) (v : Value), BindsTo s fd ⟨[v], []⟩ [("_law_script", v)]) ∧ ∀ base : Heap, K.In base → base.Ns mainGlobals mg → FnOk P w K mg base CX0 10 f fd ["_law_script"] (splaw K) := by
  have B := bl X G c
  obtain ⟨fd, F⟩ := c.def_ 56 (d := dD ("law", 76)) rfl
  have e := hfa.symm.trans (He.glo_ok X G (c.fact 56 (f := .glo "law") rfl))
  cases e
  have b := FunD.bindsA (ps := ["_law_script"]) F fun _ _ _ _ _ _ us hl => match us, hl with | [_], _ => rfl
  refine ⟨fd, fun s v => b s [v] rfl, fun base _ _ => ?_⟩
  have D_law_pen : Dn P w K mg base "_law_pen" 1 ["_law_cell_here"] sp_law_pen := ok_law_pen (tx X G c 46 (p := ("_law_pen", 66)) rfl) B
  have D_law_draw : Dn P w K mg base "_law_draw" 1 ["_law_pen_here", "_law_many"] sp_law_draw := ok_law_draw (tx X G c 47 (p := ("_law_draw", 67)) rfl) B
  have D_law_web : Dn P w K mg base "_law_web" 2 ["_law_pen_here", "_law_many"] sp_law_web := ok_law_web (tx X G c 48 (p := ("_law_web", 68)) rfl) B D_law_draw
  have D_law_apart : Dn P w K mg base "_law_apart" 1 ["_law_k", "_law_one", "_law_other"] sp_law_apart := ok_law_apart (tx X G c 49 (p := ("_law_apart", 69)) rfl) B
  have D_law_first : Dn P w K mg base "_law_first" 2 ["_law_web_here", "_law_ring"] sp_law_first := ok_law_first (tx X G c 51 (p := ("_law_first", 71)) rfl) B D_law_apart
  have D_law_tight : Dn P w K mg base "_law_tight" 3 ["_law_pen_here", "_law_web_here"] sp_law_tight := ok_law_tight (tx X G c 52 (p := ("_law_tight", 72)) rfl) B D_law_first D_law_draw
  have D_law_fit_spots : Dn P w K mg base "_law_fit_spots" 2 ["_law_web_here", "_law_ring", "_law_spots"] sp_law_fit_spots := ok_law_fit_spots (tx X G c 50 (p := ("_law_fit_spots", 70)) rfl) B D_law_apart
  have D_law_some_hues : Dn P w K mg base "_law_some_hues" 3 ["_law_pen_here", "_law_web_here", "_law_ring"] sp_law_some_hues := ok_law_some_hues (tx X G c 53 (p := ("_law_some_hues", 73)) rfl) B D_law_first D_law_draw D_law_fit_spots
  have Dis_whole : Dn P w K mg base "is_whole" 1 ["thing"] spis_whole := okis_whole (tx X G c 0 (p := ("is_whole", 9)) rfl) B
  have Dis_many : Dn P w K mg base "is_many" 2 ["thing"] spis_many := okis_many (tx X G c 9 (p := ("is_many", 22)) rfl) B Dis_whole
  have Dis_number_of : Dn P w K mg base "is_number_of" 2 ["thing", "many"] spis_number_of := okis_number_of (tx X G c 1 (p := ("is_number_of", 10)) rfl) B Dis_whole
  have Dis_pair : Dn P w K mg base "is_pair" 3 ["thing", "many"] spis_pair := okis_pair (tx X G c 8 (p := ("is_pair", 21)) rfl) B Dis_number_of
  have Dis_web : Dn P w K mg base "is_web" 4 ["thing"] spis_web := okis_web (tx X G c 10 (p := ("is_web", 23)) rfl) B Dis_many Dis_pair
  have Dcheck_web : Dn P w K mg base "check_web" 5 ["web"] spcheck_web := okcheck_web (tx X G c 11 (p := ("check_web", 24)) rfl) B Dis_web
  have Dcommon_part : Dn P w K mg base "common_part" 1 ["one", "other"] spcommon_part := okcommon_part (tx X G c 3 (p := ("common_part", 12)) rfl) B
  have Dis_shorter : Dn P w K mg base "is_shorter" 1 ["one", "other"] spis_shorter := okis_shorter (tx X G c 7 (p := ("is_shorter", 18)) rfl) B
  have Dplain_rings : Dn P w K mg base "plain_rings" 2 ["most"] spplain_rings := okplain_rings (tx X G c 38 (p := ("plain_rings", 55)) rfl) B Dcommon_part Dis_shorter
  have Dties_back : Dn P w K mg base "ties_back" 1 ["web"] spties_back := okties_back (tx X G c 33 (p := ("ties_back", 49)) rfl) B
  have Dhas_threes : Dn P w K mg base "has_threes" 1 ["web"] sphas_threes := okhas_threes (tx X G c 35 (p := ("has_threes", 51)) rfl) B
  have Dapart : Dn P w K mg base "apart" 1 ["spots", "one", "other"] spapart := okapart (tx X G c 6 (p := ("apart", 17)) rfl) B
  have Dfits : Dn P w K mg base "fits" 2 ["ring", "back", "row", "place", "spot"] spfits := okfits (tx X G c 34 (p := ("fits", 50)) rfl) B Dapart
  have Dfirst_row : Dn P w K mg base "first_row" 3 ["web", "ring", "known"] spfirst_row := okfirst_row (tx X G c 36 (p := ("first_row", 52)) rfl) B Dties_back Dhas_threes Dfits
  have Dleast_ring : Dn P w K mg base "least_ring" 4 ["web"] spleast_ring := okleast_ring (tx X G c 39 (p := ("least_ring", 56)) rfl) B Dplain_rings Dfirst_row
  have Dshortest : Dn P w K mg base "shortest" 6 ["web"] spshortest := okshortest (tx X G c 40 (p := ("shortest", 57)) rfl) B Dcheck_web Dleast_ring
  have Dis_ring : Dn P w K mg base "is_ring" 2 ["thing"] spis_ring := okis_ring (tx X G c 4 (p := ("is_ring", 15)) rfl) B Dis_whole
  have Dcheck_ring : Dn P w K mg base "check_ring" 3 ["ring"] spcheck_ring := okcheck_ring (tx X G c 5 (p := ("check_ring", 16)) rfl) B Dis_ring
  have Dcheck_both : Dn P w K mg base "check_both" 6 ["web", "ring"] spcheck_both := okcheck_both (tx X G c 17 (p := ("check_both", 31)) rfl) B Dcheck_web Dcheck_ring
  have Dare_numbers_of : Dn P w K mg base "are_numbers_of" 3 ["thing", "size", "many"] spare_numbers_of := okare_numbers_of (tx X G c 2 (p := ("are_numbers_of", 11)) rfl) B Dis_number_of
  have Dclash_of : Dn P w K mg base "clash_of" 2 ["web", "ring", "spots"] spclash_of := okclash_of (tx X G c 15 (p := ("clash_of", 29)) rfl) B Dapart
  have Dare_hues : Dn P w K mg base "are_hues" 4 ["web", "ring", "thing"] spare_hues := okare_hues (tx X G c 16 (p := ("are_hues", 30)) rfl) B Dare_numbers_of Dclash_of
  have Dcheck_hues : Dn P w K mg base "check_hues" 5 ["web", "ring", "hues"] spcheck_hues := okcheck_hues (tx X G c 18 (p := ("check_hues", 32)) rfl) B Dare_hues
  have Dmoved_by : Dn P w K mg base "moved_by" 1 ["ring", "hues", "other"] spmoved_by := okmoved_by (tx X G c 43 (p := ("moved_by", 62)) rfl) B
  have Dmoved_hues : Dn P w K mg base "moved_hues" 7 ["web", "ring", "hues", "other"] spmoved_hues := okmoved_hues (tx X G c 44 (p := ("moved_hues", 63)) rfl) B Dcheck_both Dcheck_hues Dcheck_ring Dis_shorter Dmoved_by
  have D_law_cell : Dn P w K mg base "_law_cell" 1 ["_law_script", "_law_k"] (sp_law_cell K) := ok_law_cell (tx X G c 45 (p := ("_law_cell", 65)) rfl) B
  have Dall_rows : Dn P w K mg base "all_rows" 3 ["web", "ring", "known"] spall_rows := okall_rows (tx X G c 37 (p := ("all_rows", 53)) rfl) B Dties_back Dfits
  have Dare_tied : Dn P w K mg base "are_tied" 1 ["web", "one", "other"] spare_tied := okare_tied (tx X G c 13 (p := ("are_tied", 26)) rfl) B
  have Dis_next : Dn P w K mg base "is_next" 2 ["web", "ring", "hues", "one", "other"] spis_next := okis_next (tx X G c 23 (p := ("is_next", 38)) rfl) B Dare_tied
  have Drounds_full : Dn P w K mg base "rounds_full" 3 ["web", "ring", "hues"] sprounds_full := okrounds_full (tx X G c 24 (p := ("rounds_full", 39)) rfl) B Dis_next
  have Dalways_full : Dn P w K mg base "always_full" 7 ["web", "ring"] spalways_full := okalways_full (tx X G c 42 (p := ("always_full", 60)) rfl) B Dcheck_both Dall_rows Drounds_full
  have Dcheck_three : Dn P w K mg base "check_three" 7 ["web", "ring", "hues"] spcheck_three := okcheck_three (tx X G c 25 (p := ("check_three", 40)) rfl) B Dcheck_both Dcheck_hues
  have Dfull_rounds : Dn P w K mg base "full_rounds" 8 ["web", "ring", "hues"] spfull_rounds := okfull_rounds (tx X G c 26 (p := ("full_rounds", 41)) rfl) B Dcheck_three Drounds_full
  have Dis_full : Dn P w K mg base "is_full" 4 ["web", "ring", "hues", "thing"] spis_full := okis_full (tx X G c 27 (p := ("is_full", 42)) rfl) B Dare_numbers_of Dis_next
  have Dlaps_of : Dn P w K mg base "laps_of" 8 ["web", "ring", "hues", "full"] splaps_of := oklaps_of (tx X G c 29 (p := ("laps_of", 44)) rfl) B Dcheck_three Dis_full
  have Dturned_on : Dn P w K mg base "turned_on" 7 ["web", "ring", "hues", "steps"] spturned_on := okturned_on (tx X G c 20 (p := ("turned_on", 34)) rfl) B Dcheck_both Dcheck_hues
  have Dmirrored_by : Dn P w K mg base "mirrored_by" 1 ["ring", "hues"] spmirrored_by := okmirrored_by (tx X G c 21 (p := ("mirrored_by", 35)) rfl) B
  have Dmirrored_hues : Dn P w K mg base "mirrored_hues" 7 ["web", "ring", "hues"] spmirrored_hues := okmirrored_hues (tx X G c 22 (p := ("mirrored_hues", 36)) rfl) B Dcheck_both Dcheck_hues Dmirrored_by
  have Dfull_holds : Dn P w K mg base "full_holds" 8 ["web", "ring", "hues", "thing"] spfull_holds := okfull_holds (tx X G c 28 (p := ("full_holds", 43)) rfl) B Dcheck_three Dis_full
  have D_law_rounds_right : Dn P w K mg base "_law_rounds_right" 9 ["_law_web_here", "_law_ring", "_law_hues"] sp_law_rounds_right := ok_law_rounds_right (tx X G c 54 (p := ("_law_rounds_right", 74)) rfl) B Dfull_rounds Dlaps_of Dturned_on Dmirrored_hues Dfull_holds
  have Djudged : Dn P w K mg base "judged" 8 ["web", "ring", "hues"] spjudged := okjudged (tx X G c 41 (p := ("judged", 59)) rfl) B Dcheck_three Drounds_full Dleast_ring Dfirst_row
  have Dtied_to : Dn P w K mg base "tied_to" 2 ["web", "place"] sptied_to := oktied_to (tx X G c 14 (p := ("tied_to", 27)) rfl) B Dare_tied
  have Dis_free : Dn P w K mg base "is_free" 3 ["web", "ring", "hues", "place"] spis_free := okis_free (tx X G c 30 (p := ("is_free", 45)) rfl) B Dis_next Dtied_to
  have Dmay_move : Dn P w K mg base "may_move" 8 ["web", "ring", "hues"] spmay_move := okmay_move (tx X G c 31 (p := ("may_move", 46)) rfl) B Dcheck_three Dis_free
  have Dhues_hold : Dn P w K mg base "hues_hold" 7 ["web", "ring", "thing"] sphues_hold := okhues_hold (tx X G c 19 (p := ("hues_hold", 33)) rfl) B Dcheck_both Dare_hues
  have Dcheck_place : Dn P w K mg base "check_place" 3 ["web", "place"] spcheck_place := okcheck_place (tx X G c 12 (p := ("check_place", 25)) rfl) B Dis_number_of
  have Dmoved_on : Dn P w K mg base "moved_on" 8 ["web", "ring", "hues", "place"] spmoved_on := okmoved_on (tx X G c 32 (p := ("moved_on", 47)) rfl) B Dcheck_three Dcheck_place Dis_free
  have D_law_judged_right : Dn P w K mg base "_law_judged_right" 9 ["_law_web_here", "_law_ring", "_law_hues"] sp_law_judged_right := ok_law_judged_right (tx X G c 55 (p := ("_law_judged_right", 75)) rfl) B Dshortest Djudged Dmay_move Dhues_hold Dfull_holds Dmoved_on
  exact oklaw (toFun F) B D_law_pen D_law_web D_law_tight D_law_some_hues Dshortest Dmoved_hues D_law_cell D_law_draw Dalways_full D_law_rounds_right D_law_judged_right Dhues_hold
end Rg
open PySem PySem.W PySem.Calls PyProof.Rows
theorem PySem.Challenge.cw_ringhues_k31_whole_rounds_and_shortest_r_holds : PySem.Challenge.rw_ringhues_k31_whole_rounds_and_shortest_r.Holds := by
  w_on; o_law
  refine HandSHeadRun.head_any (r := OpenLaw.row PySem.Challenge.rw_ringhues_k31_whole_rounds_and_shortest_r) (q := view (OpenLaw.row PySem.Challenge.rw_ringhues_k31_whole_rounds_and_shortest_r).prog [76]) (H := Rg.hk) (ob := Rg.ob) (M := 4000) (loose := Rg.nms) (d := HandSHeadRun.topDef (OpenLaw.row PySem.Challenge.rw_ringhues_k31_whole_rounds_and_shortest_r).prog 76) (kwd := []) Rg.ob_eq
    (by kernel_rfl) (fun s => by kernel_rfl) Rg.hdRun (by kernel_rfl) (by kernel_rfl) (by kernel_rfl) (by rfl) (by first | assumption | decide +kernel) (by decide +kernel) ⟨rfl, rfl, rfl, rfl, rfl, by decide +kernel⟩ ?hw ?hc
  case hw => w_witness2
  case hc =>
    refine L2.walk_ofE (l := PySem.Challenge.rw_ringhues_k31_whole_rounds_and_shortest_r) (n := 63) (k := 10) (x := "_law_script") (CX := L2.CX0) rfl (by decide) (by kernel_rfl) ⟨rfl, by decide, by decide⟩ ?F (fun _ _ _ _ z => z)
    intro w mg fa h Y G hmg0
    obtain ⟨K, KX, c⟩ := Y
    have hmg : mg ("law" : PySem.Str) = some (.ref fa) := by
      have e : (HandSHeadRun.topDef (OpenLaw.row PySem.Challenge.rw_ringhues_k31_whole_rounds_and_shortest_r).prog 76).name = ("law" : PySem.Str) := by kernel_rfl
      rw [← e]
      exact hmg0
    obtain ⟨fd, hb, hF⟩ := Rg.facts (P := PySem.Challenge.rw_ringhues_k31_whole_rounds_and_shortest_r.prog) (w := w) KX G hmg c
    exact ⟨K, fd, Rg.splaw K, KX, hb, fun H a ns hl _ hS => ⟨a, ns, rfl, hS, hl, fun _ => rfl⟩, hF⟩
