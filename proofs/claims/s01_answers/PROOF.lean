import PyProof.Rows.All
import Wide.All
import OpenK.AllK
import Wide.FinOn
import HandS.ForSpec
import HandS.Set
import HandS.Strs
import HandS.SetFor
import KE.LtSeq
import KE.DataMinMax
import Open.SpecLaws
import KE.OsGo
import HandS.Comp
import HandS.Iter
import HandS.ExcInit
import HandS.ExcField
import HandS.SortInts
import HandS.Conv
import PyFlatLaws
import PySem.Challenge.RW_boxeskeys_s01_answers
set_option Elab.async false
set_option linter.all false
set_option maxRecDepth 100000
set_option maxHeartbeats 4000000
/-! # The plain mathematics of the boxes: no program in sight -/
namespace Bk
open Sy82

/-! ### small lists -/
theorem find_none {p : Nat → Bool} {n : Nat} (h : ∀ j, j < n → p j = false) : (List.range n).find? p = none := by
  rw [List.find?_eq_none]
  intro x hx
  rw [h x (List.mem_range.mp hx)]
  exact Bool.false_ne_true
theorem find_some {p : Nat → Bool} : ∀ {n i : Nat}, (∀ j, j < i → p j = false) → p i = true → i < n → (List.range n).find? p = some i := by
  intro n i h hi hn
  have e : List.range n = List.range i ++ (i :: List.range' (i + 1) (n - i - 1)) := by
    rw [List.range_eq_range', List.range_eq_range']
    have e1 : List.range' 0 n = List.range' 0 i ++ List.range' (0 + 1 * i) (n - i) := by
      rw [List.range'_append, Nat.add_sub_cancel' (Nat.le_of_lt hn)]
    rw [e1]
    have e2 : n - i = (n - i - 1) + 1 := by omega
    rw [e2, List.range'_succ]
    simp
  rw [e, List.find?_append, find_none h]
  simp [List.find?_cons, hi]
theorem find_lt {p : Nat → Bool} {n k : Nat} (h : (List.range n).find? p = some k) : k < n ∧ p k = true :=
  ⟨List.mem_range.mp (List.mem_of_find?_eq_some h), List.find?_some h⟩

/-- fewer pass a narrower test -/
theorem filter_le {α : Type} {p q : α → Bool} : ∀ (l : List α), (∀ x ∈ l, q x = true → p x = true) → (l.filter q).length ≤ (l.filter p).length
  | [], _ => Nat.le_refl _
  | a :: l, h => by
    have ih := filter_le (p := p) (q := q) l fun x hx => h x (List.mem_cons_of_mem _ hx)
    rw [List.filter_cons, List.filter_cons]
    cases hq : q a with
    | true =>
      rw [h a (List.mem_cons_self ..) hq]
      simpa using ih
    | false =>
      cases hp : p a with
      | true => simp; omega
      | false => simpa using ih
theorem filter_lt {α : Type} {p q : α → Bool} {x : α} : ∀ (l : List α), (∀ y ∈ l, q y = true → p y = true) → x ∈ l → p x = true → q x = false → (l.filter q).length < (l.filter p).length
  | [], _, hx, _, _ => by simp at hx
  | a :: l, h, hx, hp, hq => by
    have h' : ∀ y ∈ l, q y = true → p y = true := fun y hy => h y (List.mem_cons_of_mem _ hy)
    rcases List.mem_cons.mp hx with e | hx
    · subst e
      have ih := filter_le (p := p) (q := q) l h'
      rw [List.filter_cons, List.filter_cons, hp, hq]
      simp
      omega
    · have ih := filter_lt (p := p) (q := q) l h' hx hp hq
      rw [List.filter_cons, List.filter_cons]
      cases hqa : q a with
      | true =>
        rw [h a (List.mem_cons_self ..) hqa]
        simpa using ih
      | false =>
        cases hpa : p a with
        | true => simp; omega
        | false => simpa using ih

/-- a rising list below n has no more than n members -/
theorem rising_len {n : Nat} : ∀ (l : List Nat) (a : Nat), l.Pairwise (· < ·) → (∀ k ∈ l, a ≤ k ∧ k < n) → l.length ≤ n - a
  | [], _, _, _ => Nat.zero_le _
  | x :: l, a, h, b => by
    have h1 := List.pairwise_cons.mp h
    have b1 := b x (List.mem_cons_self ..)
    have ih := rising_len l (x + 1) h1.2 fun k hk => ⟨h1.1 k hk, (b k (List.mem_cons_of_mem _ hk)).2⟩
    rw [List.length_cons]
    omega

/-! ### what is asked of a state -/
structure WB (b : Box) : Prop where
  lock : ∀ n, b.lock = some n → n < 10
  cost : b.cost ≤ 1000
  rise : b.keys.Pairwise (· < ·)
  low : ∀ k ∈ b.keys, k < 10
structure WS (s : St) : Prop where
  few : s.boxes.length ≤ 8
  box : ∀ b ∈ s.boxes, WB b
  rise : s.held.Pairwise (· < ·)
  low : ∀ k ∈ s.held, k < 10
theorem WB.len {b : Box} (h : WB b) : b.keys.length ≤ 10 := by
  have := rising_len (n := 10) b.keys 0 h.rise fun k hk => ⟨Nat.zero_le _, h.low k hk⟩
  omega
theorem WS.len {s : St} (h : WS s) : s.held.length ≤ 10 := by
  have := rising_len (n := 10) s.held 0 h.rise fun k hk => ⟨Nat.zero_le _, h.low k hk⟩
  omega

theorem wb_none : WB ⟨none, 0, []⟩ := ⟨fun n e => (by cases e), Nat.zero_le _, List.Pairwise.nil, fun k hk => (by simp at hk)⟩
theorem boxOf_at {s : St} {k : Nat} {b : Box} (h : s.boxes[k]? = some b) : boxOf s k = b := by
  unfold boxOf
  rw [List.getD_eq_getElem?_getD, h]
  rfl
theorem boxOf_out {s : St} {k : Nat} (h : s.boxes[k]? = none) : boxOf s k = ⟨none, 0, []⟩ := by
  unfold boxOf
  rw [List.getD_eq_getElem?_getD, h]
  rfl
theorem at_boxOf {s : St} {k : Nat} (h : k < many s) : s.boxes[k]? = some (boxOf s k) := by
  have h' : k < s.boxes.length := h
  have e := List.getElem?_eq_getElem h'
  rw [boxOf_at e]
  exact e
theorem WS.of {s : St} (h : WS s) (k : Nat) : WB (boxOf s k) := by
  cases e : s.boxes[k]? with
  | none =>
    rw [boxOf_out e]
    exact wb_none
  | some b =>
    rw [boxOf_at e]
    exact h.box b (List.mem_of_getElem? e)

def lockN (b : Box) : Nat := b.lock.getD 99
/-- whether a box can be opened, as the program asks it -/
def canOpen (b : Box) (keys : List Nat) : Bool := decide (lockN b = 99) || keys.contains (lockN b)
theorem canOpen_is {b : Box} (h : WB b) (keys : List Nat) : canOpen b keys = (match b.lock with
    | none => true
    | some n => keys.contains n) := by
  unfold canOpen lockN
  cases e : b.lock with
  | none => rfl
  | some n =>
    have z := h.lock n e
    show (decide (n = 99) || keys.contains n) = keys.contains n
    rw [decide_eq_false (by omega), Bool.false_or]
theorem opens_is {s : St} (h : WS s) (keys : List Nat) (k : Nat) : opens s keys k = canOpen (boxOf s k) keys := (canOpen_is (h.of k) keys).symm

/-! ### what comes to be open -/
def keysOf (s : St) (l : List Nat) : List Nat := s.held ++ l.flatMap fun (k : Nat) => (boxOf s k).keys
def fit (s : St) (l : List Nat) (k : Nat) : Bool := !l.contains k && opens s (keysOf s l) k
def nx (s : St) (l : List Nat) : Option Nat := (List.range (many s)).find? (fit s l)
def stp (s : St) (l : List Nat) : List Nat := match nx s l with
  | none => l
  | some k => l ++ [k]
theorem stp_none {s : St} {l : List Nat} (h : nx s l = none) : stp s l = l := by
  unfold stp
  rw [h]
theorem stp_some {s : St} {l : List Nat} {k : Nat} (h : nx s l = some k) : stp s l = l ++ [k] := by
  unfold stp
  rw [h]
theorem run_zero (s : St) (l : List Nat) : run s 0 l = l := rfl
theorem run_none {s : St} {f : Nat} {l : List Nat} (h : nx s l = none) : run s f l = l := by
  cases f with
  | zero => rfl
  | succ f =>
    rw [run]
    have h' : (List.range (many s)).find? (fun (k : Nat) => !l.contains k && opens s (s.held ++ l.flatMap fun (k : Nat) => (boxOf s k).keys) k) = none := h
    rw [h']
theorem run_stp (s : St) (f : Nat) (l : List Nat) : run s (f + 1) l = run s f (stp s l) := by
  cases h : nx s l with
  | none => rw [stp_none h, run_none h, run_none h]
  | some k =>
    rw [stp_some h, run]
    have h' : (List.range (many s)).find? (fun (k : Nat) => !l.contains k && opens s (s.held ++ l.flatMap fun (k : Nat) => (boxOf s k).keys) k) = some k := h
    rw [h']
theorem run_succ (s : St) : ∀ (f : Nat) (l : List Nat), run s (f + 1) l = stp s (run s f l)
  | 0, l => by
    rw [run_stp]
    rfl
  | f + 1, l => by rw [run_stp, run_succ s f (stp s l), ← run_stp]
theorem keysOf_snoc (s : St) (l : List Nat) (k : Nat) : keysOf s (l ++ [k]) = keysOf s l ++ (boxOf s k).keys := by
  unfold keysOf
  rw [List.flatMap_append, ← List.append_assoc]
  simp
theorem nx_some {s : St} {l : List Nat} {k : Nat} (h : nx s l = some k) : k < many s ∧ l.contains k = false ∧ opens s (keysOf s l) k = true := by
  obtain ⟨h1, h2⟩ := find_lt h
  unfold fit at h2
  rw [Bool.and_eq_true] at h2
  refine ⟨h1, ?_, h2.2⟩
  have := h2.1
  cases e : l.contains k with
  | false => rfl
  | true =>
    rw [e] at this
    cases this
theorem stp_mem {s : St} {l : List Nat} (h : ∀ k ∈ l, k < many s) : ∀ k ∈ stp s l, k < many s := by
  cases e : nx s l with
  | none =>
    rw [stp_none e]
    exact h
  | some j =>
    rw [stp_some e]
    intro k hk
    rcases List.mem_append.mp hk with hk | hk
    · exact h k hk
    · rw [List.mem_singleton.mp hk]
      exact (nx_some e).1
theorem run_mem {s : St} : ∀ (f : Nat) {l : List Nat}, (∀ k ∈ l, k < many s) → ∀ k ∈ run s f l, k < many s
  | 0, l, h => h
  | f + 1, l, h => by
    rw [run_succ]
    exact stp_mem (run_mem f h)
theorem stp_len (s : St) (l : List Nat) : (stp s l).length ≤ l.length + 1 := by
  cases e : nx s l with
  | none =>
    rw [stp_none e]
    omega
  | some j =>
    rw [stp_some e]
    simp
theorem run_len (s : St) : ∀ (f : Nat) (l : List Nat), (run s f l).length ≤ l.length + f
  | 0, l => Nat.le_refl _
  | f + 1, l => by
    rw [run_succ]
    have h1 := stp_len s (run s f l)
    have h2 := run_len s f l
    omega
theorem stp_sub {s : St} {l : List Nat} : ∀ k ∈ l, k ∈ stp s l := by
  intro k hk
  cases e : nx s l with
  | none =>
    rw [stp_none e]
    exact hk
  | some j =>
    rw [stp_some e]
    exact List.mem_append_left _ hk
theorem run_sub {s : St} : ∀ (f : Nat) {l : List Nat}, ∀ k ∈ l, k ∈ run s f l
  | 0, l, k, h => h
  | f + 1, l, k, h => by
    rw [run_succ]
    exact stp_sub k (run_sub f k h)
theorem keys_len {s : St} (h : WS s) : ∀ (l : List Nat), (l.flatMap fun (k : Nat) => (boxOf s k).keys).length ≤ 10 * l.length
  | [] => Nat.le_refl _
  | a :: l => by
    have ih := keys_len h l
    have z := (h.of a).len
    rw [List.flatMap_cons, List.length_append, List.length_cons]
    omega
theorem keysOf_len {s : St} (h : WS s) (l : List Nat) : (keysOf s l).length ≤ 10 + 10 * l.length := by
  have := keys_len h l
  have := h.len
  unfold keysOf
  rw [List.length_append]
  omega

/-- how many are left that are not in l -/
def left (s : St) (l : List Nat) : Nat := ((List.range (many s)).filter fun (k : Nat) => !l.contains k).length
theorem left_snoc {s : St} {l : List Nat} {k : Nat} (hk : k < many s) (hn : l.contains k = false) : left s (l ++ [k]) < left s l := by
  unfold left
  refine filter_lt (x := k) _ (fun y _ hy => ?_) (List.mem_range.mpr hk) (by rw [hn]; rfl) ?_
  · cases e : l.contains y with
    | false => rfl
    | true =>
      have : (l ++ [k]).contains y = true := by
        rw [List.contains_iff_mem] at e ⊢
        exact List.mem_append_left _ e
      rw [this] at hy
      cases hy
  · have : (l ++ [k]).contains k = true := by
      rw [List.contains_iff_mem]
      simp
    rw [this]
    rfl
theorem left_le (s : St) (l : List Nat) : left s l ≤ many s := by
  unfold left
  refine Nat.le_trans (List.length_filter_le ..) ?_
  rw [List.length_range]
  exact Nat.le_refl _
theorem run_done {s : St} : ∀ (f : Nat) (l : List Nat), left s l ≤ f → nx s (run s f l) = none
  | 0, l, h => by
    rw [run_zero]
    cases e : nx s l with
    | none => rfl
    | some k =>
      obtain ⟨h1, h2, _⟩ := nx_some e
      have := left_snoc h1 h2
      omega
  | f + 1, l, h => by
    rw [run_stp]
    cases e : nx s l with
    | none => rw [stp_none e, run_none e, e]
    | some k =>
      obtain ⟨h1, h2, _⟩ := nx_some e
      have := left_snoc h1 h2
      rw [stp_some e]
      exact run_done f _ (by omega)
/-- behind the last turn nothing more can be opened -/
theorem opened_done (s : St) (l : List Nat) : nx s (opened s l) = none := run_done _ _ (left_le s l)

/-! ### fewer keys open no more -/
structure Less (t s : St) : Prop where
  many : many t = many s
  lock : ∀ k, (boxOf t k).lock = (boxOf s k).lock
  cost : ∀ k, (boxOf t k).cost = (boxOf s k).cost
  keys : ∀ k, ∀ n ∈ (boxOf t k).keys, n ∈ (boxOf s k).keys
  held : t.held = s.held
theorem Less.opens {t s : St} (h : Less t s) {l m : List Nat} (hl : ∀ k ∈ l, k ∈ m) {k : Nat} (ho : opens t (keysOf t l) k = true) : opens s (keysOf s m) k = true := by
  unfold Sy82.opens at ho ⊢
  rw [h.lock] at ho
  cases e : (boxOf s k).lock with
  | none => rfl
  | some n =>
    rw [e] at ho
    have ho' : (keysOf t l).contains n = true := ho
    show (keysOf s m).contains n = true
    rw [List.contains_iff_mem] at ho' ⊢
    unfold keysOf at ho' ⊢
    rcases List.mem_append.mp ho' with z | z
    · rw [h.held] at z
      exact List.mem_append_left _ z
    · refine List.mem_append_right _ ?_
      obtain ⟨a, ha, hn⟩ := List.mem_flatMap.mp z
      exact List.mem_flatMap.mpr ⟨a, hl a ha, h.keys a n hn⟩
theorem Less.run {t s : St} (h : Less t s) {m : List Nat} (hm : nx s m = none) : ∀ (f : Nat) {l : List Nat}, (∀ k ∈ l, k ∈ m) → ∀ k ∈ Sy82.run t f l, k ∈ m
  | 0, l, hl => hl
  | f + 1, l, hl => by
    rw [run_stp]
    refine h.run hm f ?_
    cases e : nx t l with
    | none =>
      rw [stp_none e]
      exact hl
    | some j =>
      rw [stp_some e]
      obtain ⟨h1, h2, h3⟩ := nx_some e
      intro k hk
      rcases List.mem_append.mp hk with hk | hk
      · exact hl k hk
      · rw [List.mem_singleton.mp hk]
        cases ec : m.contains j with
        | true => exact List.contains_iff_mem.mp ec
        | false =>
          have q := List.find?_eq_none.mp hm j (List.mem_range.mpr (by rw [← h.many]; exact h1))
          have z : fit s m j = true := by
            unfold fit
            rw [ec, h.opens hl h3]
            rfl
          exact absurd z q
theorem Less.opened {t s : St} (h : Less t s) (l : List Nat) : ∀ k ∈ Sy82.opened t l, k ∈ Sy82.opened s l :=
  h.run (opened_done s l) _ fun k hk => run_sub _ k hk
theorem Less.price {t s : St} (h : Less t s) (l : List Nat) : price t l = price s l := by
  unfold Sy82.price
  congr 1
  refine List.map_congr_left fun k _ => h.cost k
theorem Less.all {t s : St} (h : Less t s) {l : List Nat} (ha : all_ t (Sy82.opened t l) = true) : all_ s (Sy82.opened s l) = true := by
  unfold all_ at ha ⊢
  rw [List.all_eq_true] at ha ⊢
  intro k hk
  have := ha k (by rw [h.many]; exact hk)
  rw [List.contains_iff_mem] at this ⊢
  exact h.opened l k this

/-! ### the choices -/
/-- all choices of n boxes, as the program makes them -/
def chs : Nat → List (List Nat)
  | 0 => [[]]
  | n + 1 => chs n ++ (chs n).map fun c => c ++ [n]
theorem chs_len : ∀ n, (chs n).length = 2 ^ n
  | 0 => rfl
  | n + 1 => by
    rw [chs, List.length_append, List.length_map, chs_len n, Nat.pow_succ]
    omega
theorem chs_mem : ∀ (n : Nat) (c : List Nat), c ∈ chs n ↔ c.Sublist (List.range n)
  | 0, c => by
    rw [chs, List.range_zero, List.mem_singleton, List.sublist_nil]
  | n + 1, c => by
    rw [chs, List.mem_append, chs_mem n c, List.range_succ]
    constructor
    · rintro (h | h)
      · exact h.trans (List.sublist_append_left _ _)
      · obtain ⟨d, hd, e⟩ := List.mem_map.mp h
        subst e
        exact List.Sublist.append ((chs_mem n d).mp hd) (List.Sublist.refl _)
    · intro h
      obtain ⟨a, b, e, ha, hb⟩ := List.sublist_append_iff.mp h
      subst e
      have hb' : b = [] ∨ b = [n] := by
        cases b with
        | nil => exact .inl rfl
        | cons x r =>
          have h1 := hb.length_le
          cases r with
          | nil =>
            have := hb.subset (List.mem_cons_self ..)
            rw [List.mem_singleton.mp this]
            exact .inr rfl
          | cons y r => simp at h1
      rcases hb' with e | e
      · subst e
        rw [List.append_nil]
        exact .inl ha
      · subst e
        exact .inr (List.mem_map.mpr ⟨a, (chs_mem n a).mpr ha, rfl⟩)
theorem choices_mem : ∀ (l c : List Nat), c ∈ choices l ↔ c.Sublist l
  | [], c => by
    rw [choices, List.mem_singleton, List.sublist_nil]
  | a :: l, c => by
    rw [choices, List.mem_append, choices_mem l c]
    constructor
    · rintro (h | h)
      · obtain ⟨d, hd, e⟩ := List.mem_map.mp h
        subst e
        exact ((choices_mem l d).mp hd).cons_cons a
      · exact h.cons a
    · intro h
      rcases List.sublist_cons_iff.mp h with h1 | ⟨r, e, h2⟩
      · exact .inr h1
      · subst e
        exact .inl (List.mem_map.mpr ⟨r, (choices_mem l r).mpr h2, rfl⟩)
theorem chs_low {n : Nat} {c : List Nat} (h : c ∈ chs n) : ∀ k ∈ c, k < n := fun k hk => List.mem_range.mp (((chs_mem n c).mp h).subset hk)
theorem chs_size {n : Nat} {c : List Nat} (h : c ∈ chs n) : c.length ≤ n := by
  have := ((chs_mem n c).mp h).length_le
  rw [List.length_range] at this
  exact this

/-! ### the order of choices: as lists go -/
def lexB : List Nat → List Nat → Bool
  | [], [] => false
  | [], _ :: _ => true
  | _ :: _, [] => false
  | x :: xs, y :: ys => if x = y then lexB xs ys else decide (x < y)
theorem lexB_irr : ∀ l, lexB l l = false
  | [] => rfl
  | x :: xs => by
    rw [lexB, if_pos rfl]
    exact lexB_irr xs
theorem lexB_trans : ∀ {a b c : List Nat}, lexB a b = true → lexB b c = true → lexB a c = true
  | [], [], _, h, _ => by cases h
  | [], _ :: _, [], _, h => by cases h
  | [], _ :: _, _ :: _, _, _ => rfl
  | _ :: _, [], _, h, _ => by cases h
  | _ :: _, _ :: _, [], _, h => by cases h
  | x :: xs, y :: ys, z :: zs, h1, h2 => by
    rw [lexB] at h1 h2 ⊢
    by_cases e1 : x = y
    · rw [if_pos e1] at h1
      by_cases e2 : y = z
      · rw [if_pos e2] at h2
        rw [if_pos (e1.trans e2)]
        exact lexB_trans h1 h2
      · rw [if_neg e2] at h2
        have := of_decide_eq_true h2
        rw [if_neg (by omega)]
        exact decide_eq_true (by omega)
    · rw [if_neg e1] at h1
      have := of_decide_eq_true h1
      by_cases e2 : y = z
      · rw [if_neg (by omega)]
        exact decide_eq_true (by omega)
      · rw [if_neg e2] at h2
        have := of_decide_eq_true h2
        rw [if_neg (by omega)]
        exact decide_eq_true (by omega)
/-- a choice's rank: its price, how many, itself -/
def rank (s : St) (c : List Nat) : List Nat := price s c :: c.length :: c
def lt (s : St) (a b : List Nat) : Bool := lexB (rank s a) (rank s b)
theorem lt_irr (s : St) (a : List Nat) : lt s a a = false := lexB_irr _
theorem lt_trans {s : St} {a b c : List Nat} (h1 : lt s a b = true) (h2 : lt s b c = true) : lt s a c = true := lexB_trans h1 h2
/-- of as long choices the specification has them in the lists' order -/
theorem choices_lex : ∀ (l : List Nat), l.Pairwise (· < ·) → (choices l).Pairwise fun a b => a.length = b.length → lexB a b = true
  | [], _ => List.pairwise_singleton _ _
  | a :: l, h => by
    have h1 := List.pairwise_cons.mp h
    have ih := choices_lex l h1.2
    rw [choices, List.pairwise_append]
    refine ⟨?_, ih, ?_⟩
    · rw [List.pairwise_map]
      refine ih.imp fun {x y} q e => ?_
      rw [lexB, if_pos rfl]
      exact q (by simpa using e)
    · intro x hx y hy e
      obtain ⟨r, hr, e1⟩ := List.mem_map.mp hx
      subst e1
      cases y with
      | nil => simp at e
      | cons b y =>
        have hb : a < b := h1.1 b (((choices_mem l _).mp hy).subset (List.mem_cons_self ..))
        rw [lexB, if_neg (by omega)]
        exact decide_eq_true hb
def better (s : St) : Option (List Nat) → List Nat → Option (List Nat) := fun (m : Option (List Nat)) (l : List Nat) => match m with
  | none => some l
  | some r => if price s l < price s r ∨ (price s l = price s r ∧ l.length < r.length) then some l else some r
theorem lt_of {s : St} {a b : List Nat} (h : price s a < price s b ∨ (price s a = price s b ∧ (a.length < b.length ∨ (a.length = b.length ∧ lexB a b = true)))) : lt s a b = true := by
  unfold lt rank
  rw [lexB]
  rcases h with h | ⟨h, h2⟩
  · rw [if_neg (by omega)]
    exact decide_eq_true h
  · rw [if_pos h, lexB]
    rcases h2 with h2 | ⟨h2, h3⟩
    · rw [if_neg (by omega)]
      exact decide_eq_true h2
    · rw [if_pos h2]
      exact h3
theorem fold_some (s : St) : ∀ (l : List (List Nat)) (r : List Nat), l.Pairwise (fun a b => a.length = b.length → lexB a b = true) → (∀ a ∈ l, r.length = a.length → lexB r a = true) →
    ∃ m, l.foldl (better s) (some r) = some m ∧ (m = r ∨ m ∈ l) ∧ (m ≠ r → lt s m r = true) ∧ ∀ a ∈ l, a ≠ m → lt s m a = true
  | [], r, _, _ => ⟨r, rfl, .inl rfl, fun h => absurd rfl h, fun a ha => (by simp at ha)⟩
  | x :: l, r, hp, hr => by
    have hp1 := List.pairwise_cons.mp hp
    rw [List.foldl_cons]
    by_cases c : price s x < price s r ∨ (price s x = price s r ∧ x.length < r.length)
    · have e : better s (some r) x = some x := if_pos c
      rw [e]
      obtain ⟨m, h1, h2, h3, h4⟩ := fold_some s l x hp1.2 hp1.1
      have hx : lt s x r = true := lt_of (c.elim .inl fun z => .inr ⟨z.1, .inl z.2⟩)
      have hm : lt s m r = true := by
        by_cases e : m = x
        · rw [e]
          exact hx
        · exact lt_trans (h3 e) hx
      refine ⟨m, h1, .inr ?_, fun _ => hm, fun a ha hne => ?_⟩
      · rcases h2 with h2 | h2
        · rw [h2]
          exact List.mem_cons_self ..
        · exact List.mem_cons_of_mem _ h2
      · rcases List.mem_cons.mp ha with e | ha
        · rw [e]
          exact h3 fun z => hne (e.trans z.symm)
        · exact h4 a ha hne
    · have e : better s (some r) x = some r := if_neg c
      rw [e]
      obtain ⟨m, h1, h2, h3, h4⟩ := fold_some s l r hp1.2 fun a ha => hr a (List.mem_cons_of_mem _ ha)
      have hx : lt s r x = true := by
        refine lt_of ?_
        by_cases c1 : price s r < price s x
        · exact .inl c1
        · refine .inr ⟨?_, ?_⟩
          · have : ¬ price s x < price s r := fun z => c (.inl z)
            omega
          · have e1 : price s x = price s r := by
              have : ¬ price s x < price s r := fun z => c (.inl z)
              omega
            by_cases c2 : r.length < x.length
            · exact .inl c2
            · have : ¬ x.length < r.length := fun z => c (.inr ⟨e1, z⟩)
              have e2 : r.length = x.length := by omega
              exact .inr ⟨e2, hr x (List.mem_cons_self ..) e2⟩
      refine ⟨m, h1, ?_, h3, fun a ha hne => ?_⟩
      · rcases h2 with h2 | h2
        · exact .inl h2
        · exact .inr (List.mem_cons_of_mem _ h2)
      · rcases List.mem_cons.mp ha with e | ha
        · subst e
          by_cases e3 : m = r
          · rw [e3]
            exact hx
          · exact lt_trans (h3 e3) hx
        · exact h4 a ha hne
theorem cheapest_eq (s : St) (p : List Nat → Bool) : cheapest s p = ((choices (List.range (many s))).filter fun (l : List Nat) => p (opened s l)).foldl (better s) none := rfl
theorem range_rise (n : Nat) : (List.range n).Pairwise (· < ·) := List.pairwise_lt_range
/-- what the specification's cheapest choice is -/
theorem cheapest_is {s : St} {p : List Nat → Bool} {r : List Nat} (h : cheapest s p = some r) :
    r ∈ chs (many s) ∧ p (opened s r) = true ∧ ∀ c ∈ chs (many s), p (opened s c) = true → c ≠ r → lt s r c = true := by
  rw [cheapest_eq] at h
  have hp := (choices_lex _ (range_rise (many s))).filter fun (l : List Nat) => p (opened s l)
  have mem : ∀ c, c ∈ (choices (List.range (many s))).filter (fun (l : List Nat) => p (opened s l)) ↔ c ∈ chs (many s) ∧ p (opened s c) = true := fun c => by
    rw [List.mem_filter, choices_mem, chs_mem]
  generalize (choices (List.range (many s))).filter (fun (l : List Nat) => p (opened s l)) = L at h hp mem
  cases L with
  | nil => cases h
  | cons x l =>
    have hp1 := List.pairwise_cons.mp hp
    rw [List.foldl_cons] at h
    obtain ⟨m, h1, h2, h3, h4⟩ := fold_some s l x hp1.2 hp1.1
    have e : better s none x = some x := rfl
    rw [e, h1] at h
    have e2 : m = r := Option.some.inj h
    subst e2
    have hm : m ∈ x :: l := by
      rcases h2 with h2 | h2
      · rw [h2]
        exact List.mem_cons_self ..
      · exact List.mem_cons_of_mem _ h2
    refine ⟨((mem m).mp hm).1, ((mem m).mp hm).2, fun c hc hpc hne => ?_⟩
    rcases List.mem_cons.mp ((mem c).mpr ⟨hc, hpc⟩) with e | hc
    · rw [e]
      exact h3 fun z => hne (e.trans z.symm)
    · exact h4 c hc hne
theorem cheapest_some {s : St} {p : List Nat → Bool} {c : List Nat} (hc : c ∈ chs (many s)) (hp : p (opened s c) = true) : ∃ r, cheapest s p = some r := by
  rw [cheapest_eq]
  have hm : c ∈ (choices (List.range (many s))).filter (fun (l : List Nat) => p (opened s l)) := by
    rw [List.mem_filter, choices_mem]
    exact ⟨(chs_mem _ _).mp hc, hp⟩
  have hl := (choices_lex _ (range_rise (many s))).filter fun (l : List Nat) => p (opened s l)
  generalize (choices (List.range (many s))).filter (fun (l : List Nat) => p (opened s l)) = L at hm hl
  cases L with
  | nil => simp at hm
  | cons x l =>
    have hp1 := List.pairwise_cons.mp hl
    obtain ⟨m, h1, _⟩ := fold_some s l x hp1.2 hp1.1
    exact ⟨m, h1⟩
/-- a member than which none is less is the cheapest one -/
theorem cheapest_of {s : St} {p : List Nat → Bool} {m : List Nat} (hm : m ∈ chs (many s)) (hp : p (opened s m) = true) (hl : ∀ c ∈ chs (many s), p (opened s c) = true → lt s c m = false) : cheapest s p = some m := by
  obtain ⟨r, hr⟩ := cheapest_some hm hp
  obtain ⟨h1, h2, h3⟩ := cheapest_is hr
  by_cases e : m = r
  · rw [hr, e]
  · have := h3 m hm hp e
    rw [hl r h1 h2] at this
    cases this
theorem range_chs (n : Nat) : List.range n ∈ chs n := (chs_mem n _).mpr (List.Sublist.refl _)
/-- goals, as the program asks them -/
def goalOk (goal l : List Nat) : Bool := goal.all fun (k : Nat) => l.contains k
theorem goal_all (s : St) (l : List Nat) : goalOk (List.range (many s)) l = all_ s l := rfl
theorem goal_one (k : Nat) (l : List Nat) : goalOk [k] l = l.contains k := by
  unfold goalOk
  rw [List.all_cons, List.all_nil, Bool.and_true]
theorem whole_ok {s : St} {goal : List Nat} (h : ∀ k ∈ goal, k < many s) : goalOk goal (opened s (List.range (many s))) = true := by
  unfold goalOk
  rw [List.all_eq_true]
  intro k hk
  rw [List.contains_iff_mem]
  exact run_sub _ k (List.mem_range.mpr (h k hk))
theorem goal_some {s : St} {goal : List Nat} (h : ∀ k ∈ goal, k < many s) : ∃ r, cheapest s (goalOk goal) = some r := cheapest_some (range_chs _) (whole_ok h)
theorem lexB_head {x y : Nat} {xs ys : List Nat} (h : lexB (x :: xs) (y :: ys) = true) : x ≤ y := by
  rw [lexB] at h
  by_cases e : x = y
  · omega
  · rw [if_neg e] at h
    have := of_decide_eq_true h
    omega
/-- the cheapest costs no more than another -/
theorem cheapest_le {s : St} {p : List Nat → Bool} {r c : List Nat} (h : cheapest s p = some r) (hc : c ∈ chs (many s)) (hp : p (opened s c) = true) : price s r ≤ price s c := by
  by_cases e : c = r
  · rw [e]
    exact Nat.le_refl _
  · exact lexB_head ((cheapest_is h).2.2 c hc hp e)
/-- without a key all cost no less -/
theorem lost_le {t s : St} (h : Less t s) {a b : List Nat} (ha : cheapest s (all_ s) = some a) (hb : cheapest t (all_ t) = some b) : price s a ≤ price t b := by
  obtain ⟨h1, h2, _⟩ := cheapest_is hb
  rw [h.price]
  exact cheapest_le ha (by rw [← h.many]; exact h1) (h.all h2)

end Bk

/-! # xs.extend(t), t a tuple -/
namespace BkR
open PySem PySem.Spec PyProof.Rows L2

theorem ext_tup (l b : Addr) (ys zs : Array Value) (n m : Nat) (dd : Option Addr) (sl : Array (Option Value)) (h0 : ¬(!ys.isEmpty && Builtin.List.listTooLong (ys.size + zs.size)) = true) (h1 : ys.size ≤ sizeLine) (h2 : ys.size + zs.size ≤ sizeLine + 1) :
    Meets (Builtin.«list.extend» ⟨[.ref l, .ref b], []⟩)
      (fun _ R s => s.heap.get? l = some { cls := .type "list", dict := none, data := .seq ys n, slots := #[] } ∧ s.heap.get? b = some { cls := .type "tuple", dict := dd, data := .seq zs m, slots := sl } ∧
        R (.ok (.ret Value.none)) { s with heap := s.heap.update l (Obj.mapSeq fun x => x ++ zs), toks := s.toks }) :=
  .of_wp fun prog w A R s h => by
    obtain ⟨hp, g, d, tk, os⟩ := s
    obtain ⟨hl, hb, h⟩ := h
    have f3 := AutoSeq1.sub_list_list
    have f4 := AutoSeq1.sub_tuple_list
    have f5 := AutoSeq1.sub_list_tuple
    have f2 := AutoSeq1.sub_tuple_tuple
    have hz' : (ys ++ zs).size ≤ sizeLine + 1 := by
      rw [Array.size_append]
      exact h2
    wp_walk using (wpAny_updateSeq hl rfl (hz := h1) (_hz' := hz')), AutoSeq1.wpAny_loadPart' hl, AutoSeq1.wpAny_loadPart' hb
    exact ⟨_, rfl, h⟩
def rExtT (K : PySem.W.Frag) : V → List V → Hp → VK → Prop := fun x vs H Q => ∃ (l b : Addr) (xs zs : List V), x = .ref l ∧ vs = [.ref b] ∧ H l = some (.lst xs) ∧ SqT K H b zs ∧ xs.length + zs.length ≤ sizeLine ∧ Q .non (upd H l (.lst (xs ++ zs)))
theorem mt_extT {X : Cx} : MtM X "list.extend" (rExtT X.K) := by
  intro pins s σ H x vs v us Q I rx rv h
  obtain ⟨l, b, xs, zs, rfl, rfl, hH, hB, hz, q⟩ := h
  cases rx
  obtain ⟨u, rfl, ru⟩ := rv.one
  cases ru
  obtain ⟨z, its, n, r, hl, e⟩ := I.lstM hH
  obtain ⟨its2, r2, ⟨o2, e2, hc2, m, hd2⟩, hl2⟩ := I.tuple hB
  obtain ⟨cls2, dd2, data2, sl2⟩ := o2
  dsimp only at hc2 hd2
  subst hc2 hd2
  have len2 := r2.length
  have hsz : its.toArray.size + its2.toArray.size ≤ sizeLine := by
    rw [List.size_toArray, List.size_toArray]
    omega
  have hlong : ¬ (!its.toArray.isEmpty && Builtin.List.listTooLong (its.toArray.size + its2.toArray.size)) = true := by
    rw [notLongL hsz, Bool.and_false]
    exact Bool.false_ne_true
  refine call_meets F.slot_list_extend ⟨_, e, rfl⟩ F.entry_list_extend (F.args_list_extend_2 _ _)
    (ext_tup l b its.toArray its2.toArray n m dd2 sl2 hlong (by rw [List.size_toArray]; omega) (by omega)) ⟨e, e2, ?_⟩
  refine ⟨.non, _, I.lset (its' := its ++ its2) hH e (by simp) (r.append r2) ?_, rfl, q⟩
  rw [List.length_append]
  omega
end BkR

/-! # set(xs), xs a list of whole numbers -/
namespace BkR
open PySem PySem.Spec PyProof.Rows L2
/-- a set as it is made -/
abbrev bare (w : World) : Obj := { cls := .type "set", dict := none, data := .set #[] 0 (.fresh 0 0 (!w.params.followText "set-order")) }
/-- what is left when xs are in -/
def Filled (w : World) (h0 : Heap) (a : Addr) (ns : List Int) (h : Heap) : Prop := ∃ c, c ≤ ns.length ∧ SetR w h a (fun j => decide (j ∈ ns)) c ∧ ∀ b o, b < a → h0.get? b = some o → h.get? b = some o
section
variable {P : Program} {w : World} {A : Around} {E : Value → Shared → Prop} {s : Shared}
/-- the new set's own __init__, handed a list -/
theorem init_list {R : Result → Shared → Prop} {l a : Addr} {xs : Array Value} {ns : List Int} (hh : A.handled = none) (ha : s.heap.get? a = some (bare w)) (hla : l < a) (has : a < s.heap.objs.size) (hl : s.heap.IsList l xs) (hi : IntsAre xs.toList ns) (hb : ns.length + 1 < scanBound)
    (hR : ∀ h' tk, Filled w s.heap a ns h' → R (.ok (.ret .none)) { s with heap := h', toks := tk }) :
    codeAny (model P w) A (.call (.builtin "set.__init__") ⟨[.ref a, .ref l], []⟩) R s := by
  have len : xs.size = ns.length := by
    have q := IntsAre.length hi
    rw [Array.length_toList] at q
    exact q
  have tyA : s.TypeIs (.ref a) "set" := ⟨_, ha, rfl⟩
  refine codeAny_call_builtin PySem.F.called_set.init.plain PySem.F.entry_set_init (check_set_init_1 tyA ?_)
  obtain ⟨⟨c0, d0, x0, sl0⟩, ho, hc, m, hd⟩ := id hl
  dsimp only at hc hd
  subst hc hd
  have g1 := PySem.F.sub_list_set
  have g2 := PySem.F.sub_list_frozenset
  have g3 : (Value.type "list" == Value.type "dict") = false := by decide
  unfold Builtin.«set.__init__» noKeywords Builtin.Frozenset.updateFrom
  generalize hI : pyIter = it
  wp_walk
  subst hI
  refine wpAny_pyIter_list hl (wpAny_bind (wpAny_runValue ?_))
  have ne1 : l ≠ s.heap.objs.size := Nat.ne_of_lt (Nat.lt_trans hla has)
  have ne2 : a ∉ [s.heap.objs.size, l] := by
    simp only [List.mem_cons, List.not_mem_nil, or_false, not_or]
    exact ⟨Nat.ne_of_lt has, Nat.ne_of_gt hla⟩
  have vals : ∀ (i : Nat) (v : Value), xs[i]? = some v → ∃ k t, ns[i]? = some k ∧ v = .int k t := fun i v hv => by
    have hi' : i < ns.length := by
      rw [← len]
      exact (Array.getElem?_eq_some_iff.mp hv).1
    obtain ⟨t, e⟩ := IntsAre.int_at hi i v (by rw [Array.getElem?_toList]; exact hv)
    refine ⟨ns[i], t, List.getElem?_eq_getElem hi', ?_⟩
    rw [e, List.getD_eq_getElem?_getD, List.getElem?_eq_getElem hi'] <;> rfl
  refine set_update_ints ((Walks.list (by simp [hh]) _ l ne1 xs).toS) a ne2 ns len hb vals (xs.size - 0) 0 _ (by omega) (Nat.zero_le _)
    ⟨⟨_, Heap.get?_push_size _ rfl, rfl, rfl⟩, hl.push _⟩ ⟨0, Nat.le_refl _, setR_new_at (Heap.get?_push_of_some _ ha)⟩ fun s' c mv hc' R' => ?_
  obtain ⟨h', g', d', tk', os'⟩ := s'
  obtain rfl : g' = s.gens := mv.gens
  obtain rfl : d' = s.drawn := mv.drawn
  obtain rfl : os' = s.os := mv.os
  refine wpAny_pure ?_
  show wpAny _ _ (ret Value.none) _ _ _
  refine wpAny_pure (hR h' tk' ⟨c, by omega, R', fun b o lt e => mv.heap b o ?_ (Heap.get?_push_of_some _ e)⟩)
  simp only [List.mem_cons, List.not_mem_nil, or_false, not_or]
  exact ⟨Nat.ne_of_lt lt, Nat.ne_of_lt (Nat.lt_trans lt has)⟩
theorem call_set_listI {l : Addr} {xs : Array Value} (ns : List Int) {Q : Value → Shared → Prop} (hh : A.handled = none) (hl : s.heap.IsList l xs) (hi : IntsAre xs.toList ns) (hb : ns.length + 1 < scanBound)
    (hq : ∀ h' tk c, c ≤ ns.length → SetR w h' s.heap.objs.size (fun j => decide (j ∈ ns)) c → (∀ b o, s.heap.get? b = some o → h'.get? b = some o) → Q (.ref s.heap.objs.size) { s with heap := h', toks := tk }) :
    wpAny (model P w) A (call (.type "set") [.ref l]) Q E s := by
  obtain ⟨ol, hol, _⟩ := id hl
  have hlt : l < s.heap.objs.size := Heap.lt_size hol
  obtain ⟨c, tl, mro⟩ := PySem.F.called_set.mro
  have k1 := PySem.F.called_set.made
  have k2 := PySem.F.called_set.sub
  have k3 := PySem.F.called_set.notType
  have k4 := PySem.F.called_set.canCreate
  have k5 := PySem.F.typeCall_set_1 (.ref l)
  refine wpAny_call (codeAny_of_tree ?_)
  show wpAny _ _ (callAny (.type "set") _) _ _ _
  refine wpAny_pure ⟨Code.quiet_builtin _ (by decide +kernel), codeAny_builtin PySem.F.entry_type_call ?_⟩
  rw [Around.under_plain (weight_type_call_type "set" [.ref l] []) rfl]
  repeat (any_goals (first | assumption | wp_step))
  refine codeAny_mono (code_set_led1 (.ref l) (E := E) (Q₁ := fun v s' => v = .ref s.heap.objs.size ∧ s' = { s with heap := s.heap.push (bare w) }) ⟨rfl, rfl⟩) fun r s' hr => ?_
  rcases r with e | f
  · exact hr
  cases f with
  | ret v =>
    obtain ⟨rfl, rfl⟩ := hr
    have new : (s.heap.push (bare w)).get? s.heap.objs.size = some (bare w) := Heap.get?_push_size _ rfl
    have tyS : Shared.TypeIs { s with heap := s.heap.push (bare w) } (.ref s.heap.objs.size) "set" := ⟨_, new, rfl⟩
    have k6 := PySem.F.called_set.init.lookup
    have k7 := PySem.F.called_set.init.bind (.ref s.heap.objs.size)
    repeat (any_goals (first | assumption | wp_step))
    refine codeAny_mono (init_list (s := { s with heap := s.heap.push (bare w) }) (R := wants (fun r s₂ => r = .none ∧ ∃ h' tk, s₂ = { s with heap := h', toks := tk } ∧ Filled w (s.heap.push (bare w)) s.heap.objs.size ns h') E)
      (by simp [hh]) new hlt (by rw [Heap.size_push]; exact Nat.lt_succ_self _) (hl.push _) hi hb fun h' tk F => ⟨rfl, h', tk, rfl, F⟩) fun r₂ s₂ hr₂ => ?_
    rcases r₂ with e | f
    · exact hr₂
    cases f with
    | ret v =>
      obtain ⟨rfl, h', tk, rfl, c', hc', R', old⟩ := hr₂
      repeat (any_goals (first | assumption | wp_step))
      exact hq h' tk c' hc' R' fun b o e => old b o (Heap.lt_size e) (Heap.get?_push_of_some _ e)
    | _ => exact hr₂.elim
  | _ => exact hr.elim
end
/-- set(xs) -/
def rSetL (K : PySem.W.Frag) (w : World) : List V → Hp → VK → Prop := fun vs H Q => ∃ (l : Addr) (ns : List Int), vs = [.ref l] ∧ SqL K H l (ns.map V.int) ∧ ns.length ≤ 1000 ∧
  ∀ p c, H p = none → c ≤ ns.length → Q (.ref p) (upd H p (SetO w p (fun j => decide (j ∈ ns)) c))
theorem cr_setL {X : Cx} (hc : X.calm = true) : CallR X (.type "set") (rSetL X.K X.w) := by
  intro pins s σ H vs us Q I r h
  obtain ⟨l, ns, rfl, hs, hl, q⟩ := h
  obtain ⟨its, rv, pl, _⟩ := I.list hs
  rw [Vals.ref1 r]
  refine call_set_listI ns (I.ok.hd hc) pl.isList rv.ints (by unfold scanBound; omega) fun h' tk c hc' R' old => ?_
  exact ⟨.ref _, upd H s.heap.objs.size (SetO X.w s.heap.objs.size (fun j => decide (j ∈ ns)) c), I.laid (t' := tk) old (Nat.le_refl _) (setO_new R'), rfl, q _ c (I.hok.fresh (Nat.le_refl _)) hc'⟩
end BkR

/-! # min(xs), xs a list of triples (a number, a number, a list of numbers) -/
namespace BkR
open PySem PySem.Spec PyProof.Rows L2
open PySem.SeqAt (EqAt RcAt RcLt firstLt firstLt_yes firstLt_no)
/-! ### the order of lists of numbers -/
theorem lex_irr : ∀ l : List Int, HT.lexLt l l = false
  | [] => rfl
  | x :: xs => by
    rw [HT.lexLt_cons, if_pos rfl]
    exact lex_irr xs
theorem lex_trans : ∀ {a b c : List Int}, HT.lexLt a b = true → HT.lexLt b c = true → HT.lexLt a c = true
  | [], [], _, h, _ => by cases h
  | [], _ :: _, [], _, h => by cases h
  | [], _ :: _, _ :: _, _, _ => rfl
  | _ :: _, [], _, h, _ => by cases h
  | _ :: _, _ :: _, [], _, h => by cases h
  | x :: xs, y :: ys, z :: zs, h1, h2 => by
    rw [HT.lexLt_cons] at h1 h2 ⊢
    by_cases e1 : x = y
    · rw [if_pos e1] at h1
      by_cases e2 : y = z
      · rw [if_pos e2] at h2
        rw [if_pos (e1.trans e2)]
        exact lex_trans h1 h2
      · rw [if_neg e2] at h2
        have := of_decide_eq_true h2
        rw [if_neg (by omega)]
        exact decide_eq_true (by omega)
    · rw [if_neg e1] at h1
      have := of_decide_eq_true h1
      by_cases e2 : y = z
      · rw [if_neg (by omega)]
        exact decide_eq_true (by omega)
      · rw [if_neg e2] at h2
        have := of_decide_eq_true h2
        rw [if_neg (by omega)]
        exact decide_eq_true (by omega)
/-- the first place that differs decides: as lexLt says -/
theorem first_lex : ∀ (ns ms : List Int) (k : Nat) (e r : Nat → Bool), (∀ j x y, ns[j]? = some x → ms[j]? = some y → e (k + j) = decide (x = y) ∧ r (k + j) = decide (x < y)) →
    firstLt e r (decide (ns.length < ms.length)) (List.range' k (min ns.length ms.length)) = HT.lexLt ns ms
  | [], [], _, _, _, _ => rfl
  | [], _ :: _, _, _, _, _ => by simp [firstLt, HT.lexLt]
  | _ :: _, [], _, _, _, _ => by simp [firstLt, HT.lexLt]
  | x :: ns, y :: ms, k, e, r, h => by
    obtain ⟨h1, h2⟩ := h 0 x y rfl rfl
    rw [Nat.add_zero] at h1 h2
    have z : min (x :: ns).length (y :: ms).length = min ns.length ms.length + 1 := by
      rw [List.length_cons, List.length_cons]
      omega
    have d : decide ((x :: ns).length < (y :: ms).length) = decide (ns.length < ms.length) := by
      rw [List.length_cons, List.length_cons]
      by_cases c : ns.length < ms.length
      · rw [decide_eq_true c, decide_eq_true (by omega)]
      · rw [decide_eq_false c, decide_eq_false (by omega)]
    rw [z, d, List.range'_succ, HT.lexLt_cons]
    by_cases c : x = y
    · rw [if_pos c, firstLt_yes (by rw [h1]; exact decide_eq_true c)]
      exact first_lex ns ms (k + 1) e r fun j u v hu hv => by
        have := h (j + 1) u v hu hv
        rw [Nat.add_assoc, Nat.add_comm 1 j]
        exact this
    · rw [if_neg c, firstLt_no (by rw [h1]; exact decide_eq_false c), h2]
/-! ### lists of numbers compared -/
theorem ints_inj : ∀ {xs : List Value} {ns ms : List Int}, IntsAre xs ns → IntsAre xs ms → ns = ms
  | _, _, _, .nil, .nil => rfl
  | _, _, _, .cons a t h, .cons _ _ h' => congrArg (List.cons a) (ints_inj h h')
theorem all_eq : ∀ (ns ms : List Int) (k : Nat) (e : Nat → Bool), ns.length = ms.length → (∀ j x y, ns[j]? = some x → ms[j]? = some y → e (k + j) = decide (x = y)) → (List.range' k ns.length).all e = decide (ns = ms)
  | [], [], _, _, _, _ => rfl
  | [], _ :: _, _, _, h, _ => by cases h
  | _ :: _, [], _, _, h, _ => by cases h
  | x :: ns, y :: ms, k, e, hl, h => by
    have h1 := h 0 x y rfl rfl
    rw [Nat.add_zero] at h1
    have ih := all_eq ns ms (k + 1) e (Nat.succ.inj hl) fun j u v hu hv => by
      have := h (j + 1) u v hu hv
      rw [Nat.add_assoc, Nat.add_comm 1 j]
      exact this
    rw [List.length_cons, List.range'_succ, List.all_cons, ih, h1]
    by_cases c1 : x = y
    · by_cases c2 : ns = ms
      · rw [decide_eq_true c1, decide_eq_true c2, decide_eq_true (by rw [c1, c2])]
        rfl
      · rw [decide_eq_true c1, decide_eq_false c2, decide_eq_false fun z => c2 (List.cons.inj z).2]
        rfl
    · rw [decide_eq_false c1, decide_eq_false fun z => c1 (List.cons.inj z).1]
      rfl
theorem arr_at {xs : List Value} {ns : List Int} (hi : IntsAre xs ns) {j : Nat} (h : j < xs.toArray.size) : ∃ x t, ns[j]? = some x ∧ xs.toArray[j] = .int x t := by
  have hl := IntsAre.length hi
  have hj : j < ns.length := by
    rw [List.size_toArray] at h
    omega
  have hj' : j < xs.length := by
    rw [List.size_toArray] at h
    exact h
  obtain ⟨t, e⟩ := IntsAre.int_at hi j xs.toArray[j] (by rw [List.getElem_toArray]; exact List.getElem?_eq_getElem hj')
  refine ⟨ns[j], t, List.getElem?_eq_getElem hj, ?_⟩
  rw [e, List.getD_eq_getElem?_getD, List.getElem?_eq_getElem hj] <;> rfl
section
variable {A : Around} {s : Shared}
theorem eq_intlists {l b : Addr} {xs ys : List Value} {ns ms : List Int} (hl : s.heap.IsList l xs.toArray) (hb : s.heap.IsList b ys.toArray) (hi : IntsAre xs ns) (hj : IntsAre ys ms) (hu : A.units < cLine) : EqAt A s (.ref l) (.ref b) (decide (ns = ms)) := by
  have l1 := IntsAre.length hi
  have l2 := IntsAre.length hj
  by_cases c : l = b
  · subst c
    have e : ns = ms := by
      obtain ⟨o, ho, hc, n, hd⟩ := hl
      obtain ⟨o', ho', hc', n', hd'⟩ := hb
      rw [ho] at ho'
      cases ho'
      rw [hd] at hd'
      have z : xs = ys := by
        injection hd' with z1 z2
        exact List.toArray_inj z1
      subst z
      exact ints_inj hi hj
    rw [decide_eq_true e]
    exact EqAt.same _
  · refine EqAt.of_refs c ?_
    by_cases hz : ns.length = ms.length
    · have q := RcAt.lists (A := A) (s := s) (e := fun j => decide (ns.getD j 0 = ms.getD j 0)) hl hb (by rw [List.size_toArray, List.size_toArray]; omega) hu fun j h1 h2 => by
        obtain ⟨x, t, ex, e1⟩ := arr_at hi h1
        obtain ⟨y, u, ey, e2⟩ := arr_at hj h2
        rw [e1, e2, List.getD_eq_getElem?_getD, List.getD_eq_getElem?_getD, ex, ey]
        have z := EqAt.int_int (A := A.in1) (s := s) x t y u
        rw [Bool.beq_eq_decide_eq] at z
        exact z
      have z : (List.range xs.toArray.size).all (fun j => decide (ns.getD j 0 = ms.getD j 0)) = decide (ns = ms) := by
        rw [List.size_toArray, l1, List.range_eq_range']
        exact all_eq ns ms 0 _ hz fun j x y hx hy => by rw [Nat.zero_add, List.getD_eq_getElem?_getD, List.getD_eq_getElem?_getD, hx, hy] <;> rfl
      rw [← z]
      exact q
    · rw [decide_eq_false fun z => hz (by rw [z])]
      exact RcAt.lists_lengths hl hb (by rw [List.size_toArray, List.size_toArray]; simp; omega) hu
theorem lt_int0 (x : Int) (t : Tok) (y : Int) (u : Tok) : RcLt A s (.int x t) (.int y u) (decide (x < y)) := fun prog w E Q h => HT.rcLt_int A s x t y u prog w E Q h
theorem lt_intlists {l b : Addr} {xs ys : List Value} {ns ms : List Int} (hl : s.heap.IsList l xs.toArray) (hb : s.heap.IsList b ys.toArray) (hi : IntsAre xs ns) (hj : IntsAre ys ms) (hu : A.units < cLine) : RcLt A s (.ref l) (.ref b) (HT.lexLt ns ms) := by
  have l1 := IntsAre.length hi
  have l2 := IntsAre.length hj
  have q := RcLt.lists (A := A) (s := s) (e := fun j => decide (ns.getD j 0 = ms.getD j 0)) (r := fun j => decide (ns.getD j 0 < ms.getD j 0)) hl hb hu (fun j h1 h2 => by
    obtain ⟨x, t, ex, e1⟩ := arr_at hi h1
    obtain ⟨y, u, ey, e2⟩ := arr_at hj h2
    rw [e1, e2, List.getD_eq_getElem?_getD, List.getD_eq_getElem?_getD, ex, ey]
    have z := EqAt.int_int (A := A.in1) (s := s) x t y u
    rw [Bool.beq_eq_decide_eq] at z
    exact z) (fun j h1 h2 _ => by
    obtain ⟨x, t, ex, e1⟩ := arr_at hi h1
    obtain ⟨y, u, ey, e2⟩ := arr_at hj h2
    rw [e1, e2, List.getD_eq_getElem?_getD, List.getD_eq_getElem?_getD, ex, ey]
    exact lt_int0 x t y u)
  have z := first_lex ns ms 0 (fun j => decide (ns.getD j 0 = ms.getD j 0)) (fun j => decide (ns.getD j 0 < ms.getD j 0)) fun j x y hx hy => by
    rw [Nat.zero_add, List.getD_eq_getElem?_getD, List.getD_eq_getElem?_getD, hx, hy]
    exact ⟨rfl, rfl⟩
  rw [← z]
  rw [List.size_toArray, List.size_toArray, l1, l2, List.range_eq_range'] at q
  exact q
/-- a triple in the heap, its key -/
def Tri (h : Heap) (v : Value) (k : List Int) : Prop := ∃ (a r : Addr) (p n : Int) (t u : Tok) (xs : List Value) (c : List Int), v = .ref a ∧ k = p :: n :: c ∧ h.IsTuple a #[.int p t, .int n u, .ref r] ∧ h.IsList r xs.toArray ∧ IntsAre xs c
theorem lt_tris {v v' : Value} {k k' : List Int} (h : Tri s.heap v k) (h' : Tri s.heap v' k') (hu : A.units + 2 < cLine) : RcLt A s v v' (HT.lexLt k k') := by
  obtain ⟨a, r, p, n, t, u, xs, c, rfl, rfl, ht, hl, hi⟩ := h
  obtain ⟨a', r', p', n', t', u', xs', c', rfl, rfl, ht', hl', hi'⟩ := h'
  have hu1 : A.in1.units < cLine := by
    have : A.in1.units ≤ A.units + 1 := by simp
    omega
  have q := RcLt.tuples (A := A) (s := s) (e := fun j => if j = 0 then decide (p = p') else if j = 1 then decide (n = n') else decide (c = c')) (r := fun j => if j = 0 then decide (p < p') else if j = 1 then decide (n < n') else HT.lexLt c c') ht ht' (by omega) (fun j h1 h2 => by
    match j, h1, h2 with
    | 0, _, _ =>
      have z := EqAt.int_int (A := A.in1) (s := s) p t p' t'
      rw [Bool.beq_eq_decide_eq] at z
      exact z
    | 1, _, _ =>
      have z := EqAt.int_int (A := A.in1) (s := s) n u n' u'
      rw [Bool.beq_eq_decide_eq] at z
      exact z
    | 2, _, _ => exact eq_intlists hl hl' hi hi' hu1
    | j + 3, h1, _ => exact absurd h1 (by simp)) (fun j h1 h2 _ => by
    match j, h1, h2 with
    | 0, _, _ => exact lt_int0 p t p' t'
    | 1, _, _ => exact lt_int0 n u n' u'
    | 2, _, _ => exact lt_intlists hl hl' hi hi' hu1
    | j + 3, h1, _ => exact absurd h1 (by simp))
  have z : firstLt (fun j => if j = 0 then decide (p = p') else if j = 1 then decide (n = n') else decide (c = c')) (fun j => if j = 0 then decide (p < p') else if j = 1 then decide (n < n') else HT.lexLt c c') (decide ((3 : Nat) < 3)) [0, 1, 2] = HT.lexLt (p :: n :: c) (p' :: n' :: c') := by
    rw [HT.lexLt_cons, HT.lexLt_cons]
    by_cases e1 : p = p'
    · rw [if_pos e1, firstLt_yes (by simp [e1])]
      by_cases e2 : n = n'
      · rw [if_pos e2, firstLt_yes (by simp [e2])]
        by_cases e3 : c = c'
        · rw [firstLt_yes (by simp [e3]), e3, lex_irr]
          rfl
        · rw [firstLt_no (by simp [e3])]
          rfl
      · rw [if_neg e2, firstLt_no (by simp [e2])]
        rfl
    · rw [if_neg e1, firstLt_no (by simp [e1])]
      rfl
  rw [← z]
  exact q
end
end BkR

namespace BkR
open PySem PySem.Spec PyProof.Rows L2
open PySem.SeqAt (EqAt RcAt RcLt)
/-! # min's own loop where < reads the heap: nothing that stood ahead of the call is touched -/
/-- the heap has grown -/
def Grown (h0 h : Heap) : Prop := ∀ b o, h0.get? b = some o → h.get? b = some o
section
variable {prog : Program} {w : World} {A : Around} {E : Value → Shared → Prop} {s : Shared}
/-- min(l): the library's loop (KE.DataMinMax), the items compared in every state that keeps what stood -/
theorem call_min_list {l : Addr} {xs : Array Value} {bt : Nat → Nat → Bool} {Q : Value → Shared → Prop} (hh : A.handled = none) (hl : s.heap.IsList l xs) (hn : 0 < xs.size)
    (cmp : ∀ (s' : Shared) (i j : Nat) (v v' : Value), Grown s.heap s'.heap → xs[i]? = some v → xs[j]? = some v' → RcLt A.in1 s' v v' (bt i j))
    (hq : ∀ v h' tk, xs[argBest bt (xs.size - 1)]? = some v → Grown s.heap h' → Q v { s with heap := h', toks := tk }) : wpAny (model prog w) A (call (.builtin "min") [.ref l]) Q E s := by
  refine call_min_walkH (PySem.W.iter_listW (A := A.in1) hh hl fun s2 e2 W st sf sw sk => ⟨_, _, _, _, _, _, _, s.heap, bt, rfl, W, st, sf, hn, sw, sk, fun i j v v' s' Q1 E1 g hv hv' q => ?_, fun v s' hv m => ?_⟩)
  · exact cmp s' i j v v' g hv hv' prog w E1 Q1 q
  · obtain ⟨h', tk, rfl, g⟩ := PySem.W.moved_old e2 rfl m
    exact hq v h' tk hv g
end
/-- than the best none is less -/
theorem best_least {bt : Nat → Nat → Bool} {m : Nat} (irr : ∀ i, bt i i = false) (tr : ∀ i j k, bt i j = true → bt j k = true → bt i k = true) : ∀ k, argBest bt k ≤ k ∧ ∀ j, j ≤ k → bt j (argBest bt k) = false
  | 0 => ⟨Nat.le_refl _, fun j hj => by
    obtain rfl : j = 0 := by omega
    exact irr 0⟩
  | k + 1 => by
    obtain ⟨h1, h2⟩ := best_least (m := m) irr tr k
    by_cases hb : bt (k + 1) (argBest bt k) = true
    · have e : argBest bt (k + 1) = k + 1 := by
        show (if bt (k + 1) (argBest bt k) then k + 1 else argBest bt k) = k + 1
        rw [if_pos hb]
      rw [e]
      refine ⟨Nat.le_refl _, fun j hj => ?_⟩
      by_cases ej : j = k + 1
      · rw [ej]
        exact irr _
      · cases c : bt j (k + 1) with
        | false => rfl
        | true =>
          have := tr _ _ _ c hb
          rw [h2 j (by omega)] at this
          cases this
    · have e : argBest bt (k + 1) = argBest bt k := by
        show (if bt (k + 1) (argBest bt k) then k + 1 else argBest bt k) = argBest bt k
        rw [if_neg hb]
      rw [e]
      refine ⟨by omega, fun j hj => ?_⟩
      by_cases ej : j = k + 1
      · rw [ej]
        simpa using hb
      · exact h2 j (by omega)
/-- a triple as it is tracked, its key -/
def TriAt (H : Hp) (a : Addr) (k : List Int) : Prop := ∃ (p n : Int) (r : Addr) (c : List Int), k = p :: n :: c ∧ H a = some (.tup [.int p, .int n, .ref r]) ∧ H r = some (.lst (c.map V.int))
/-- min(xs) -/
def rMinT (K : PySem.W.Frag) : List V → Hp → VK → Prop := fun vs H Q => ∃ (a : Addr) (ks : List (Addr × List Int)), vs = [.ref a] ∧ SqL K H a (ks.map fun k => .ref k.1) ∧ 0 < ks.length ∧ (∀ k ∈ ks, TriAt H k.1 k.2) ∧
  ∀ k ∈ ks, (∀ k' ∈ ks, HT.lexLt k'.2 k.2 = false) → Q (.ref k.1) H
theorem tri_of {X : Cx} {pins : List (Addr × Obj)} {σ : L2.St} {H : Hp} {s : Shared} (I : Inv X pins σ H s) {a : Addr} {k : List Int} (h : TriAt H a k) {h' : Heap} (g : Grown s.heap h') : Tri h' (.ref a) k := by
  obtain ⟨p, n, r, c, rfl, h1, h2⟩ := h
  obtain ⟨its, rv, ⟨o, ho, hc, m, hd⟩, _⟩ := I.tuple (SqT.of (K := X.K) h1)
  obtain ⟨xs, rx, pl, _⟩ := I.list (SqL.of (K := X.K) h2)
  obtain ⟨o2, ho2, hc2, m2, hd2⟩ := pl.isList
  cases rv with
  | @cons _ u1 _ _ e1 rv =>
  cases rv with
  | @cons _ u2 _ _ e2 rv =>
  cases rv with
  | @cons _ u3 _ _ e3 rv =>
  cases rv
  obtain ⟨t, rfl⟩ := (show ∃ t, u1 = Value.int p t from e1)
  obtain ⟨u, rfl⟩ := (show ∃ t, u2 = Value.int n t from e2)
  obtain rfl : u3 = Value.ref r := e3
  exact ⟨a, r, p, n, t, u, xs, c, rfl, rfl, ⟨o, g _ _ ho, hc, m, hd⟩, ⟨o2, g _ _ ho2, hc2, m2, hd2⟩, rx.ints⟩
theorem cr_minT {X : Cx} (hc : X.calm = true) (hu : X.A.units + 64 < cLine) : CallR X (.builtin "min") (rMinT X.K) := by
  intro pins s σ H vs us Q I r h
  obtain ⟨a, ks, rfl, hs, hn, ht, q⟩ := h
  obtain ⟨its, rv, pl, _⟩ := I.list hs
  rw [Vals.ref1 r]
  have len : its.length = ks.length := by
    have := rv.length
    rw [List.length_map] at this
    exact this.symm
  have at_ : ∀ (i : Nat) (v : Value), its.toArray[i]? = some v → ∃ k, ks[i]? = some k ∧ v = .ref k.1 := fun i v hv => by
    rw [List.getElem?_toArray] at hv
    have hi : i < ks.length := by
      have := (List.getElem?_eq_some_iff.mp hv).1
      omega
    refine ⟨ks[i], List.getElem?_eq_getElem hi, ?_⟩
    have e : (ks.map fun k => V.ref k.1)[i]? = some (.ref ks[i].1) := by
      rw [List.getElem?_map, List.getElem?_eq_getElem hi]
      rfl
    obtain ⟨u, hu', ru⟩ := rv.get e
    rw [hv] at hu'
    have z : v = u := Option.some.inj hu'
    rw [z]
    exact ru
  have key : ∀ i, ks.getD i (0, []) = (ks[i]?).getD (0, []) := fun i => List.getD_eq_getElem?_getD
  refine call_min_list (bt := fun i j => HT.lexLt (ks.getD i (0, [])).2 (ks.getD j (0, [])).2) (I.ok.hd hc) pl.isList (by rw [List.size_toArray]; omega) (fun s' i j v v' g hv hv' => ?_) fun v h' tk hv g => ?_
  · obtain ⟨k, hk, rfl⟩ := at_ i v hv
    obtain ⟨k', hk', rfl⟩ := at_ j v' hv'
    rw [key, key, hk, hk']
    have hu2 : X.A.in1.units + 2 < cLine := by
      rw [Around.in1_units]
      omega
    exact lt_tris (tri_of I (ht k (List.mem_of_getElem? hk)) g) (tri_of I (ht k' (List.mem_of_getElem? hk')) g) hu2
  · obtain ⟨k, hk, rfl⟩ := at_ _ v hv
    obtain ⟨b1, b2⟩ := best_least (m := 0) (bt := fun i j => HT.lexLt (ks.getD i (0, [])).2 (ks.getD j (0, [])).2) (fun i => lex_irr _) (fun i j k => lex_trans) (its.toArray.size - 1)
    refine ⟨.ref k.1, H, I.kept (t' := tk) g, rfl, q k (List.mem_of_getElem? hk) fun k' hk' => ?_⟩
    obtain ⟨j, hj⟩ := List.getElem?_of_mem hk'
    have hjl : j < ks.length := (List.getElem?_eq_some_iff.mp hj).1
    have := b2 j (by rw [List.size_toArray]; omega)
    rw [key, key, hj, hk] at this
    exact this
end BkR

/-! # The text by places; how the house lies in the heap -/
namespace Bk
open PySem PySem.Spec PyProof.Rows L2
def top (i : Nat) : Stmt := PySem.Challenge.pw_boxeskeys_s01_answers.main.body.getD i (.Pass ⟨0, 0, 0, 0⟩)
/-! ### numbers as values -/
def natV (l : List Nat) : List V := l.map fun (n : Nat) => V.int (n : Int)
theorem natV_len (l : List Nat) : (natV l).length = l.length := List.length_map ..
theorem natV_app (l m : List Nat) : natV (l ++ m) = natV l ++ natV m := List.map_append ..
theorem natV_at {l : List Nat} {i n : Nat} (h : l[i]? = some n) : (natV l)[i]? = some (.int (n : Int)) := by
  unfold natV
  rw [List.getElem?_map, h]
  rfl
theorem at_natV {l : List Nat} {i : Nat} {v : V} (h : (natV l)[i]? = some v) : ∃ n : Nat, l[i]? = some n ∧ v = .int (n : Int) := by
  unfold natV at h
  rw [List.getElem?_map] at h
  cases e : l[i]? with
  | none =>
    rw [e] at h
    cases h
  | some n =>
    rw [e] at h
    exact ⟨n, rfl, (Option.some.inj h).symm⟩
theorem natV_map (l : List Nat) : natV l = (l.map fun (n : Nat) => (n : Int)).map V.int := by
  unfold natV
  rw [List.map_map]
  rfl
theorem natV_flat : ∀ l : List Nat, (natV l).all flatV = true
  | [] => rfl
  | _ :: l => natV_flat l
theorem in_natV (n : Nat) : ∀ l : List Nat, inV (.int (n : Int)) (natV l) = l.contains n
  | [] => rfl
  | m :: l => by
    have ih := in_natV n l
    unfold inV natV at ih ⊢
    rw [List.map_cons, List.any_cons, ih, List.contains_cons]
    congr 1
    show (((m : Nat) : Int) == (n : Int)) = (n == m)
    by_cases e : n = m
    · subst e
      simp
    · have z : ¬ ((m : Nat) : Int) = (n : Int) := fun z => e (Int.ofNat.inj z).symm
      rw [beq_eq_false_iff_ne.mpr e]
      exact beq_eq_false_iff_ne.mpr z
theorem take_snoc {α : Type} : ∀ {l : List α} {i : Nat} {x : α}, l[i]? = some x → l.take (i + 1) = l.take i ++ [x]
  | [], i, x, h => by simp at h
  | a :: l, 0, x, h => by
    have e : a = x := Option.some.inj h
    subst e
    rfl
  | a :: l, i + 1, x, h => by
    have ih := take_snoc (l := l) (i := i) (x := x) h
    show a :: l.take (i + 1) = a :: l.take i ++ [x]
    rw [ih]
    rfl
theorem small {n : Nat} (h : n ≤ 16000000) : n < sizeLine := by
  rw [sizeLine_eq]
  omega
theorem smallE {n : Nat} (h : n ≤ 16000000) : n ≤ sizeLine := Nat.le_of_lt (small h)
/-- a comprehension's turn without a test -/
theorem yes_ {σ : L2.St} {H : Hp} {A B : Hp → Prop} (h : A H) : tYes σ H (fun b H3 => if b = true then A H3 else B H3) := by
  show (if true = true then A H else B H)
  rw [if_pos rfl]
  exact h
theorem one_ok (a : V) : [a].length ≤ sizeLine := smallE (show 1 ≤ 16000000 by decide)
theorem two_ok (a b : V) : [a, b].length ≤ sizeLine := smallE (show 2 ≤ 16000000 by decide)
theorem three_ok (a b c : V) : [a, b, c].length ≤ sizeLine := smallE (show 3 ≤ 16000000 by decide)
theorem same_upd {H : Hp} {p : Addr} {o : HO} (h : H p = none) : Same H (upd H p o) := fun b x e => by
  rw [upd_ne (ne_of_none e h)]
  exact e
/-- p is new over H0 -/
theorem same_put {H0 H : Hp} {p : Addr} {o : HO} (s : Same H0 H) (h : H0 p = none) : Same H0 (upd H p o) := fun b x e => by
  rw [upd_ne (ne_of_none e h)]
  exact s b x e
/-! ### a box, boxes -/
def BxAt (H : Hp) (r : Addr) (b : Sy82.Box) : Prop := ∃ k, H r = some (.tup [.int (lockN b : Nat), .int (b.cost : Nat), .ref k]) ∧ H k = some (.tup (natV b.keys))
theorem BxAt.same {H H' : Hp} {r : Addr} {b : Sy82.Box} (s : Same H H') (h : BxAt H r b) : BxAt H' r b := by
  obtain ⟨k, h1, h2⟩ := h
  exact ⟨k, s _ _ h1, s _ _ h2⟩
def refs (rs : List Addr) : List V := rs.map V.ref
theorem refs_len (rs : List Addr) : (refs rs).length = rs.length := List.length_map ..
theorem refs_at {rs : List Addr} {i : Nat} {v : V} (h : (refs rs)[i]? = some v) : ∃ r, rs[i]? = some r ∧ v = .ref r := by
  unfold refs at h
  rw [List.getElem?_map] at h
  cases e : rs[i]? with
  | none =>
    rw [e] at h
    cases h
  | some r =>
    rw [e] at h
    exact ⟨r, rfl, (Option.some.inj h).symm⟩
theorem at_refs {rs : List Addr} {i : Nat} {r : Addr} (h : rs[i]? = some r) : (refs rs)[i]? = some (.ref r) := by
  unfold refs
  rw [List.getElem?_map, h]
  rfl
/-- the addresses rs bear what L says, one by one -/
structure All2 {α : Type} (L : Addr → α → Prop) (rs : List Addr) (xs : List α) : Prop where
  len : rs.length = xs.length
  at_ : ∀ (i : Nat) (r : Addr) (x : α), rs[i]? = some r → xs[i]? = some x → L r x
theorem All2.mono {α : Type} {L L' : Addr → α → Prop} {rs : List Addr} {xs : List α} (h : All2 L rs xs) (m : ∀ r x, L r x → L' r x) : All2 L' rs xs := ⟨h.len, fun i r x a b => m r x (h.at_ i r x a b)⟩
theorem All2.get {α : Type} {L : Addr → α → Prop} {rs : List Addr} {xs : List α} (h : All2 L rs xs) {i : Nat} {x : α} (e : xs[i]? = some x) : ∃ r, rs[i]? = some r ∧ L r x := by
  have hi : i < rs.length := by
    rw [h.len]
    exact (List.getElem?_eq_some_iff.mp e).1
  exact ⟨rs[i], List.getElem?_eq_getElem hi, h.at_ i _ _ (List.getElem?_eq_getElem hi) e⟩
theorem All2.getL {α : Type} {L : Addr → α → Prop} {rs : List Addr} {xs : List α} (h : All2 L rs xs) {i : Nat} {r : Addr} (e : rs[i]? = some r) : ∃ x, xs[i]? = some x ∧ L r x := by
  have hi : i < xs.length := by
    rw [← h.len]
    exact (List.getElem?_eq_some_iff.mp e).1
  exact ⟨xs[i], List.getElem?_eq_getElem hi, h.at_ i _ _ e (List.getElem?_eq_getElem hi)⟩
theorem All2.nil {α : Type} {L : Addr → α → Prop} : All2 L [] [] := ⟨rfl, fun i r x a _ => by simp at a⟩
theorem All2.snoc {α : Type} {L : Addr → α → Prop} {rs : List Addr} {xs : List α} (h : All2 L rs xs) {r : Addr} {x : α} (l : L r x) : All2 L (rs ++ [r]) (xs ++ [x]) := by
  refine ⟨by rw [List.length_append, List.length_append, h.len]; rfl, fun i r' x' a b => ?_⟩
  by_cases c : i < rs.length
  · rw [List.getElem?_append_left c] at a
    rw [List.getElem?_append_left (by rw [← h.len]; exact c)] at b
    exact h.at_ i r' x' a b
  · rw [List.getElem?_append_right (by omega)] at a
    rw [List.getElem?_append_right (by rw [← h.len]; omega), ← h.len] at b
    have z : i - rs.length = 0 := by
      have := (List.getElem?_eq_some_iff.mp a).1
      rw [List.length_singleton] at this
      omega
    rw [z] at a b
    have e1 : r = r' := Option.some.inj a
    have e2 : x = x' := Option.some.inj b
    rw [← e1, ← e2]
    exact l
theorem All2.app {α : Type} {L : Addr → α → Prop} {rs rs' : List Addr} {xs xs' : List α} (h : All2 L rs xs) (h' : All2 L rs' xs') : All2 L (rs ++ rs') (xs ++ xs') := by
  refine ⟨by rw [List.length_append, List.length_append, h.len, h'.len], fun i r x a b => ?_⟩
  by_cases c : i < rs.length
  · rw [List.getElem?_append_left c] at a
    rw [List.getElem?_append_left (by rw [← h.len]; exact c)] at b
    exact h.at_ i r x a b
  · rw [List.getElem?_append_right (by omega)] at a
    rw [List.getElem?_append_right (by rw [← h.len]; omega), ← h.len] at b
    exact h'.at_ _ r x a b
theorem All2.set {α : Type} {L : Addr → α → Prop} {rs : List Addr} {xs : List α} (h : All2 L rs xs) {r : Addr} {x : α} (l : L r x) (k : Nat) : All2 L (rs.set k r) (xs.set k x) := by
  refine ⟨by rw [List.length_set, List.length_set, h.len], fun i r' x' a b => ?_⟩
  rw [List.getElem?_set] at a b
  by_cases c : k = i
  · rw [if_pos c] at a b
    by_cases d : k < rs.length
    · rw [if_pos d] at a
      rw [if_pos (by rw [← h.len]; exact d)] at b
      have e1 : r = r' := Option.some.inj a
      have e2 : x = x' := Option.some.inj b
      rw [← e1, ← e2]
      exact l
    · rw [if_neg d] at a
      cases a
  · rw [if_neg c] at a b
    exact h.at_ i r' x' a b
/-- a list of boxes at a -/
def BxsAt (H : Hp) (a : Addr) (bs : List Sy82.Box) : Prop := ∃ rs, H a = some (.lst (refs rs)) ∧ All2 (BxAt H) rs bs
theorem BxsAt.same {H H' : Hp} {a : Addr} {bs : List Sy82.Box} (s : Same H H') (h : BxsAt H a bs) : BxsAt H' a bs := by
  obtain ⟨rs, h1, h2⟩ := h
  exact ⟨rs, s _ _ h1, h2.mono fun r b z => z.same s⟩
/-! ### what the top has left of names -/
structure Glb (mg : Str → Option Value) : Prop where
  len : mg "len" = none
  list : mg "list" = none
  tuple : mg "tuple" = none
  sorted : mg "sorted" = none
  range : mg "range" = none
  enumerate : mg "enumerate" = none
  sum : mg "sum" = none
  all : mg "all" = none
  min : mg "min" = none
  set : mg "set" = none
  ve : mg "ValueError" = none
  noLock : ∃ t, mg "NO_LOCK" = some (.int 99 t)
  oob : ∃ t, mg "OUT_OF_BOUNDS" = some (.int (-1) t)
  noSuch : ∃ t, mg "NO_SUCH" = some (.int (-2) t)
  notSo : ∃ t, mg "NOT_SO" = some (.int (-4) t)
  tooMany : ∃ t, mg "TOO_MANY" = some (.int (-5) t)
  locks : ∃ t, mg "LOCKS" = some (.int 10 t)
  mostCost : ∃ t, mg "MOST_COST" = some (.int 1000 t)
  mostBoxes : ∃ t, mg "MOST_BOXES" = some (.int 8 t)
  opened : ∃ t, mg "OPENED" = some (.int 5 t)
/-- a def of the top that keeps its promise -/
def Has (P : Program) (w : World) (K : PySem.W.Frag) (mg : Str → Option Value) (base : Heap) (CX : CXT) (k : Nat) (x : Str) (ps : List Str) (sp : Sp) : Prop :=
  ∃ f fd, FnOk P w K mg base CX k f fd ps sp ∧ mg x = some (.ref f) ∧ PySem.W.keepIn K (.ref f) = true ∧ Binds K fd ps []
end Bk

/-! # boxes.py: can_open, next_open -/
namespace Bk
open PySem PySem.Spec PyProof.Rows L2 BkR
section
variable {P : Program} {w : World} {K : PySem.W.Frag} {mg : Str → Option Value} {base : Heap}
/-! ### can_open -/
abbrev sCanOpen : Stmt := top 2
theorem scCanOpen : FnScope ["box", "keys"] ["box", "keys"] (defScope sCanOpen) := ⟨rfl, rfl, rfl, by decide +kernel, rfl, by decide +kernel, by decide +kernel⟩
def spCanOpen : Sp := fun vs H Q _ => ∃ (r a : Addr) (b : Sy82.Box) (keys : List Nat), vs = [.ref r, .ref a] ∧ BxAt H r b ∧ H a = some (.lst (natV keys)) ∧ Q (.bl (canOpen b keys)) H
theorem ok_can_open {f : Addr} {fd : FuncData} (F : Fun K "can_open" "can_open" sCanOpen f fd) (T : Glb mg) : FnOk P w K mg base CX0 1 f fd ["box", "keys"] spCanOpen := by
  refine F.ok scCanOpen (fun vs H Q E h => ?_) (fun cdv A outer s H vs Q E hr h => ?_)
  · obtain ⟨r, a, b, keys, rfl, _⟩ := h
    rfl
  · obtain ⟨r, a, b, keys, rfl, ⟨k, h1, h2⟩, h3, q⟩ := h
    obtain ⟨t, gL⟩ := T.noLock
    refine ⟨_, pss_one (ps_ret (pe_or (pe_cmpR op_eq (pe_ix ix_tup (pv 0) pe_int (fun _ _ => rfl)) (pe_glob (v := .int 99) rfl gL ⟨_, rfl⟩) (nomark _)) (pe_one (pe_cmpR op_in_seq (pe_ix ix_tup (pv 0) pe_int (fun _ _ => rfl)) (pv 1) (by rfl))))), ?_⟩
    refine ⟨_, rfl, r, _, 0, _, rfl, rfl, SqT.of h1, atI_nat (j := 0) rfl, rfl, _, rfl, ?_⟩
    have e : decide (V.int (lockN b : Nat) = V.int 99) = decide (lockN b = 99) := by
      by_cases c : lockN b = 99
      · rw [c]
        rfl
      · rw [decide_eq_false c, decide_eq_false fun z => c (by have := V.int.inj z; omega)]
    rw [e]
    by_cases c : lockN b = 99
    · rw [decide_eq_true c, if_pos rfl]
      unfold canOpen at q
      rw [decide_eq_true c, Bool.true_or] at q
      exact q
    · rw [decide_eq_false c, if_neg Bool.false_ne_true]
      refine ⟨_, rfl, r, _, 0, _, rfl, rfl, SqT.of h1, atI_nat (j := 0) rfl, _, rfl, a, _, rfl, .inl (SqL.of h3), rfl, natV_flat keys, ?_⟩
      rw [if_neg Bool.false_ne_true, in_natV]
      unfold canOpen at q
      rw [decide_eq_false c, Bool.false_or] at q
      exact q
/-! ### next_open -/
abbrev sNextOpen : Stmt := top 3
theorem scNextOpen : FnScope ["boxes", "keys", "found", "number", "box"] ["boxes", "keys", "found"] (defScope sNextOpen) := ⟨rfl, rfl, rfl, by decide +kernel, rfl, by decide +kernel, by decide +kernel⟩
/-- the least box that isn't in l and can be opened by keys, as a number -/
def nextN (bs : List Sy82.Box) (keys l : List Nat) : Option Nat := (List.range bs.length).find? fun (k : Nat) => !l.contains k && canOpen (bs.getD k ⟨none, 0, []⟩) keys
def orMinus (o : Option Nat) : Int := match o with
  | none => -1
  | some k => (k : Int)
def spNextOpen : Sp := fun vs H Q _ => ∃ (a b c : Addr) (bs : List Sy82.Box) (keys l : List Nat), vs = [.ref a, .ref b, .ref c] ∧ BxsAt H a bs ∧ H b = some (.lst (natV keys)) ∧ H c = some (.lst (natV l)) ∧
  ∀ H', Same H H' → Q (.int (orMinus (nextN bs keys l))) H'
theorem ok_next_open {f : Addr} {fd : FuncData} (F : Fun K "next_open" "next_open" sNextOpen f fd) (T : Glb mg) (C : Has P w K mg base CX0 1 "can_open" ["box", "keys"] spCanOpen) : FnOk P w K mg base CX0 2 f fd ["boxes", "keys", "found"] spNextOpen := by
  obtain ⟨fc, fdc, Gc, gc, kc, bc⟩ := C
  refine F.ok scNextOpen (fun vs H Q E h => ?_) (fun cdv A outer s H vs Q E hr h => ?_)
  · obtain ⟨a, b, c, bs, keys, l, rfl, _⟩ := h
    rfl
  · obtain ⟨a, b, c, bs, keys, l, rfl, hB, hK, hL, q⟩ := h
    refine ⟨_, pss_cons (ps_for PassesOwn.never rfl (pi_enum (by rfl) T.enumerate (pa_cons (pv 0) pa_nil))
        (pg_tup rfl (pgs_cons (pg_name (i := 3) scNextOpen.nd rfl (.inl rfl)) (pgs_cons (pg_name (i := 4) scNextOpen.nd rfl (.inl rfl)) pgs_nil)))
        (pss_one (ps_if (PW.pt (pw_and (pt_cmpR op_notIn_seq (pv 3) (pv 2) (by rfl)) (pw_and1 (pt_val (pe_call Gc hr (by rfl) gc kc bc .nil pass0 (pa_cons (pv 4) (pa_cons (pv 1) pa_nil))))))) (pss_one (ps_ret (pv 3))) pss_nil)))
      (pss_one (ps_ret (pe_un un_neg pe_int))), ?_⟩
    obtain ⟨rs, hA, hAll⟩ := hB
    refine ⟨.ref a, rfl, a, refs rs, rfl, SqL.of hA, fun i m σ H3 => ∃ y3 y4, σ = [some (.ref a), some (.ref b), some (.ref c), y3, y4] ∧ i + m = bs.length ∧ Same H H3 ∧
        ∀ j, j < i → (!l.contains j && canOpen (bs.getD j ⟨none, 0, []⟩) keys) = false, ⟨bs.length, none, none, rfl, Nat.zero_add _, Same.refl H, fun j hj => absurd hj (Nat.not_lt_zero j)⟩, fun i m σ H3 hW => ?_⟩
    obtain ⟨y3, y4, rfl, em, sm, no⟩ := hW
    have hA3 := sm _ _ hA
    by_cases hi : i < bs.length
    · have eb : bs[i]? = some bs[i] := List.getElem?_eq_getElem hi
      obtain ⟨r, hr1, hx⟩ := hAll.get eb
      have eg : bs.getD i ⟨none, 0, []⟩ = bs[i] := by rw [List.getD_eq_getElem?_getD, eb] <;> rfl
      refine .inr ⟨⟨_, _, SqL.of hA3, at_refs hr1⟩, fun σ' H' => ∃ y3 y4, σ' = [some (.ref a), some (.ref b), some (.ref c), y3, y4] ∧ Same H H' ∧ (!l.contains i && canOpen (bs.getD i ⟨none, 0, []⟩) keys) = false, fun σ' H' hN => ?_, fun x H' hy => ?_⟩
      · obtain ⟨z3, z4, e, sm', no'⟩ := hN
        refine ⟨m - 1, by omega, z3, z4, e, by omega, sm', fun j hj => ?_⟩
        by_cases c : j < i
        · exact no j c
        · obtain rfl : j = i := by omega
          exact no'
      · obtain ⟨Tp, x1, rfl, nT, rfl, f1⟩ := hy
        have ex1 : x1 = .ref r := Option.some.inj ((f1 _ (SqL.of hA3)).symm.trans (at_refs hr1))
        subst ex1
        have smT : Same H (upd H3 Tp (.tup [.int (i : Nat), .ref r])) := sm.trans (same_upd nT)
        refine ⟨Tp, _, rfl, SqT.of upd_same, rfl, _, [.ref r], rfl, _, [], rfl, rfl, ?_⟩
        refine ⟨.int (i : Nat), rfl, .ref c, rfl, c, natV l, rfl, .inl (SqL.of (smT _ _ hL)), rfl, natV_flat l, _, rfl, ?_⟩
        rw [if_pos rfl, in_natV]
        cases cl : l.contains i with
        | true =>
          rw [Bool.not_true, if_neg Bool.false_ne_true]
          exact iteF ⟨_, _, rfl, smT, rfl⟩
        | false =>
          rw [Bool.not_false, if_pos rfl]
          refine ⟨.ref r, rfl, .ref b, rfl, r, b, bs[i], keys, rfl, hx.same smT, smT _ _ hK, _, rfl, ?_⟩
          cases cc : canOpen bs[i] keys with
          | true =>
            refine iteT ⟨.int (i : Nat), rfl, ?_⟩
            have e : nextN bs keys l = some i := find_some no (by rw [cl, eg, cc]; rfl) hi
            have q' := q _ smT
            rw [e] at q'
            exact q'
          | false =>
            refine iteF ⟨_, _, rfl, smT, ?_⟩
            rw [eg, cc]
            rfl
    · refine .inl ⟨⟨_, SqL.of hA3, by rw [refs_len, hAll.len]; omega⟩, 1, rfl, ?_⟩
      have e : nextN bs keys l = none := find_none fun j hj => no j (by omega)
      have q' := q _ sm
      rw [e] at q'
      exact q'
end
end Bk

/-! # boxes.py: opened -/
namespace Bk
open PySem PySem.Spec PyProof.Rows L2 BkR
theorem nextN_is {s : Sy82.St} (h : WS s) (l : List Nat) : nextN s.boxes (keysOf s l) l = nx s l := by
  unfold nextN nx
  have e : (fun (k : Nat) => !l.contains k && canOpen (s.boxes.getD k ⟨none, 0, []⟩) (keysOf s l)) = fit s l := by
    funext k
    unfold fit
    rw [opens_is h]
    rfl
  rw [e]
  rfl
section
variable {P : Program} {w : World} {K : PySem.W.Frag} {mg : Str → Option Value} {base : Heap}
abbrev sOpened : Stmt := top 4
theorem scOpened : FnScope ["boxes", "hand", "broken", "found", "keys", "number", "turn"] ["boxes", "hand", "broken"] (defScope sOpened) := ⟨rfl, rfl, rfl, by decide +kernel, rfl, by decide +kernel, by decide +kernel⟩
def spOpened : Sp := fun vs H Q _ => ∃ (a h l : Addr) (s : Sy82.St) (br : List Nat), vs = [.ref a, .ref h, .ref l] ∧ WS s ∧ BxsAt H a s.boxes ∧ H h = some (.lst (natV s.held)) ∧ H l = some (.lst (natV br)) ∧ (∀ k ∈ br, k < Sy82.many s) ∧ br.length ≤ 1000 ∧
  ∀ H' p, Same H H' → H' p = some (.lst (natV (Sy82.opened s br))) → Q (.ref p) H'
theorem ok_opened {f : Addr} {fd : FuncData} (F : Fun K "opened" "opened" sOpened f fd) (T : Glb mg) (C : Has P w K mg base CX0 2 "next_open" ["boxes", "keys", "found"] spNextOpen) : FnOk P w K mg base CX0 3 f fd ["boxes", "hand", "broken"] spOpened := by
  obtain ⟨fc, fdc, Gc, gc, kc, bc⟩ := C
  refine F.ok scOpened (fun vs H Q E h => ?_) (fun cdv A outer s H vs Q E hr h => ?_)
  · obtain ⟨a, b, c, s, br, rfl, _⟩ := h
    rfl
  · obtain ⟨a, hd, l, s, br, rfl, hs, hB, hH, hL, low, few, q⟩ := h
    obtain ⟨rs, hA, hAll⟩ := hB
    have nd := scOpened.nd
    refine ⟨_, pss_cons (ps_set (i := 3) nd rfl (.inl rfl) (pe_callTy call_list_of (by rfl) T.list (by decide +kernel) (pa_cons (pv 2) pa_nil)))
      (pss_cons (ps_set (i := 4) nd rfl (.inl rfl) (pe_callTy call_list_of (by rfl) T.list (by decide +kernel) (pa_cons (pv 1) pa_nil)))
      (pss_cons (ps_for PassesOwn.never rfl (pi_list (pv 3)) (pg_name (i := 5) nd rfl (.inl rfl))
        (pss_one (ps_expr (pe_bm PySem.F.plainAttrs_list PySem.F.slot_list_extend PySem.F.type_list_extend mt_extT (pv 4) (pa_cons (pe_ix ix_tup (pe_ix ix_list (pv 0) (pv 5) (fun _ _ => rfl)) pe_int (fun _ _ => rfl)) pa_nil)))))
      (pss_cons (ps_for PassesOwn.never rfl (pi_range1 (by rfl) T.range (pa_cons (pe_callB call_len_seq (by rfl) T.len PySem.boot_len (pa_cons (pv 0) pa_nil)) pa_nil)) (pg_name (i := 6) nd rfl (.inl rfl))
        (pss_cons (ps_set (i := 5) nd rfl (.inl rfl) (pe_call Gc hr (by rfl) gc kc bc .nil pass0 (pa_cons (pv 0) (pa_cons (pv 4) (pa_cons (pv 3) pa_nil)))))
        (pss_one (ps_if (pt_cmpR op_ge (pv 5) pe_int (nomark _))
          (pss_cons (ps_expr (pe_bm PySem.F.plainAttrs_list PySem.F.slot_list_append PySem.F.type_list_append mt_append (pv 3) (pa_cons (pv 5) pa_nil)))
          (pss_one (ps_expr (pe_bm PySem.F.plainAttrs_list PySem.F.slot_list_extend PySem.F.type_list_extend mt_extT (pv 4) (pa_cons (pe_ix ix_tup (pe_ix ix_list (pv 0) (pv 5) (fun _ _ => rfl)) pe_int (fun _ _ => rfl)) pa_nil))))) pss_nil))))
      (pss_one (ps_ret (pv 3)))))), ?_⟩
    -- found = list(broken); keys = list(hand)
    refine ⟨.ref l, rfl, l, natV br, rfl, .inl (SqL.of hL), fun fo nfo => ?_⟩
    have hH1 : (upd H fo (.lst (natV br))) hd = some (.lst (natV s.held)) := same_upd nfo _ _ hH
    refine ⟨.ref hd, rfl, hd, natV s.held, rfl, .inl (SqL.of hH1), fun kp nkp => ?_⟩
    have nk : kp ≠ fo := fun e => by
      rw [e, upd_same] at nkp
      cases nkp
    have nkp0 : H kp = none := by
      rw [upd_ne nk] at nkp
      exact nkp
    have s1 : Same H (upd (upd H fo (.lst (natV br))) kp (.lst (natV s.held))) := same_put (same_upd nfo) nkp0
    -- a box's keys are added
    have box_of : ∀ {H' : Hp} {k : Nat}, Same H H' → k < Sy82.many s → ∃ r kk, H' a = some (.lst (refs rs)) ∧ (refs rs)[k]? = some (.ref r) ∧ H' r = some (.tup [.int (lockN (Sy82.boxOf s k) : Nat), .int ((Sy82.boxOf s k).cost : Nat), .ref kk]) ∧ H' kk = some (.tup (natV (Sy82.boxOf s k).keys)) := fun {H' k} sm hk => by
      obtain ⟨r, e1, e2⟩ := hAll.get (at_boxOf hk)
      obtain ⟨kk, e3, e4⟩ := e2.same sm
      exact ⟨r, kk, sm _ _ hA, at_refs e1, e3, e4⟩
    -- for number in found
    refine ⟨.ref fo, rfl, fo, rfl, ⟨natV br, SqL.of (by rw [upd_ne nk.symm, upd_same])⟩, for_list (K := K) (a := fo) (xs := natV br) (fun i σ H3 => ∃ y5, σ = [some (.ref a), some (.ref hd), some (.ref l), some (.ref fo), some (.ref kp), y5, none] ∧ Same H H3 ∧
        H3 fo = some (.lst (natV br)) ∧ H3 kp = some (.lst (natV (keysOf s (br.take i)))))
      ⟨none, rfl, s1, by rw [upd_ne nk.symm, upd_same], by rw [upd_same]; unfold keysOf; simp⟩ (fun i σ H3 _ ⟨_, _, _, e, _⟩ => SqL.of e) ?_ ?_⟩
    · rintro i x σ H3 hx ⟨y5, rfl, sm, ef, ek⟩
      obtain ⟨k, hk, rfl⟩ := at_natV hx
      obtain ⟨r, kk, b1, b2, b3, b4⟩ := box_of sm (low k (List.mem_of_getElem? hk))
      refine ⟨.ref kp, rfl, .inl ⟨rfl, _, SqL.of ek⟩, .ref a, rfl, .int (k : Nat), rfl, a, _, _, _, rfl, rfl, SqL.of b1, atI_nat b2, r, _, 2, _, rfl, rfl, SqT.of b3, atI_nat (j := 2) rfl, kp, kk, _, _, rfl, rfl, ek, SqT.of b4, ?_, ?_⟩
      · have := keysOf_len hs (br.take i)
        have := (hs.of k).len
        have : (br.take i).length ≤ br.length := by
          rw [List.length_take]
          omega
        rw [natV_len, natV_len]
        exact smallE (by omega)
      · refine ⟨some (.int (k : Nat)), rfl, same_put sm nkp0, ?_, ?_⟩
        · rw [upd_ne nk.symm]
          exact ef
        · rw [upd_same, take_snoc hk, keysOf_snoc, natV_app]
    · rintro σ H3 ⟨y5, rfl, sm, ef, ek⟩
      rw [natV_len, List.take_length] at ek
      -- for turn in range(len(boxes))
      have hlen : (refs rs).length = Sy82.many s := by
        rw [refs_len, hAll.len]
        rfl
      have hn8 : Sy82.many s ≤ 8 := hs.few
      refine ⟨.ref a, rfl, a, refs rs, rfl, .inl (SqL.of (sm _ _ hA)), (Sy82.many s : Nat), by rw [hlen], by omega, by omega, for_range (n := Sy82.many s) (lo := 0) (fun i σ H3 => ∃ y5 y6, σ = [some (.ref a), some (.ref hd), some (.ref l), some (.ref fo), some (.ref kp), y5, y6] ∧ Same H H3 ∧
          H3 fo = some (.lst (natV (Sy82.run s i br))) ∧ H3 kp = some (.lst (natV (keysOf s (Sy82.run s i br)))))
        ⟨y5, none, rfl, sm, ef, ek⟩ ?_ ?_⟩
      · rintro i σ H3 hi ⟨y5, y6, rfl, sm, ef, ek⟩
        refine ⟨.ref a, rfl, .ref kp, rfl, .ref fo, rfl, a, kp, fo, s.boxes, keysOf s (Sy82.run s i br), Sy82.run s i br, rfl, ⟨rs, sm _ _ hA, hAll.mono fun r b z => z.same sm⟩, ek, ef, fun H4 sm4 => ?_⟩
        have sm' := sm.trans sm4
        have ef4 := sm4 _ _ ef
        have ek4 := sm4 _ _ ek
        have rl := run_len s i br
        rw [nextN_is hs]
        refine ⟨_, rfl, _, 0, rfl, rfl, _, rfl, ?_⟩
        cases e : nx s (Sy82.run s i br) with
        | none =>
          refine iteF ⟨_, _, rfl, sm', ?_, ?_⟩
          · rw [run_succ, stp_none e]
            exact ef4
          · rw [run_succ, stp_none e]
            exact ek4
        | some k =>
          have hk := (nx_some e).1
          have pos : decide ((0 : Int) ≤ orMinus (some k)) = true := decide_eq_true (Int.natCast_nonneg k)
          rw [pos]
          refine iteT ?_
          have s5 : Same H (upd H4 fo (.lst (natV (Sy82.run s i br) ++ [.int (k : Nat)]))) := same_put sm' nfo
          have ek5 : (upd H4 fo (.lst (natV (Sy82.run s i br) ++ [.int (k : Nat)]))) kp = some (.lst (natV (keysOf s (Sy82.run s i br)))) := by
            rw [upd_ne nk]
            exact ek4
          obtain ⟨r, kk, b1, b2, b3, b4⟩ := box_of s5 hk
          refine ⟨.ref fo, rfl, .inl ⟨rfl, _, SqL.of ef4⟩, .int (k : Nat), rfl, fo, _, _, rfl, rfl, ef4, ?_, ?_⟩
          · rw [natV_len]
            exact small (by omega)
          · refine ⟨.ref kp, rfl, .inl ⟨rfl, _, SqL.of ek5⟩, .ref a, rfl, .int (k : Nat), rfl, a, _, _, _, rfl, rfl, SqL.of b1, atI_nat b2, r, _, 2, _, rfl, rfl, SqT.of b3, atI_nat (j := 2) rfl, kp, kk, _, _, rfl, rfl, ek5, SqT.of b4, ?_, ?_⟩
            · have := keysOf_len hs (Sy82.run s i br)
              have := (hs.of k).len
              rw [natV_len, natV_len]
              exact smallE (by omega)
            · refine ⟨some (.int (k : Nat)), some (.int (0 + (i : Nat))), rfl, same_put s5 nkp0, ?_, ?_⟩
              · rw [upd_ne nk.symm, upd_same, run_succ, stp_some e, natV_app]
                rfl
              · rw [upd_same, run_succ, stp_some e, keysOf_snoc, natV_app]
      · rintro σ H3 ⟨y5, y6, rfl, sm, ef, ek⟩
        exact ⟨.ref fo, rfl, q H3 fo sm ef⟩
end
end Bk

/-! # boxes.py: with_key, without_key, with_box -/
namespace Bk
open PySem PySem.Spec PyProof.Rows L2 BkR
/-! ### a rising list with one more -/
theorem perm_insert (n : Nat) : ∀ l : List Nat, l.contains n = false → (Sy82.insert n l).Perm (l ++ [n])
  | [], _ => List.Perm.refl _
  | m :: l, h => by
    rw [List.contains_cons] at h
    have h1 : ¬ n = m := fun z => by
      rw [z] at h
      simp at h
    have h2 : l.contains n = false := by
      cases e : l.contains n with
      | false => rfl
      | true =>
        rw [e] at h
        simp at h
    rw [Sy82.insert]
    by_cases c : n < m
    · rw [if_pos c]
      exact (List.perm_append_singleton n (m :: l)).symm
    · rw [if_neg c, if_neg h1]
      exact (perm_insert n l h2).cons m
theorem mem_insert {n k : Nat} : ∀ {l : List Nat}, k ∈ Sy82.insert n l → k = n ∨ k ∈ l
  | [], h => .inl (List.mem_singleton.mp h)
  | m :: l, h => by
    rw [Sy82.insert] at h
    by_cases c : n < m
    · rw [if_pos c] at h
      rcases List.mem_cons.mp h with h | h
      · exact .inl h
      · exact .inr h
    · rw [if_neg c] at h
      by_cases d : n = m
      · rw [if_pos d] at h
        exact .inr h
      · rw [if_neg d] at h
        rcases List.mem_cons.mp h with h | h
        · exact .inr (by rw [h]; exact List.mem_cons_self ..)
        · rcases mem_insert h with h | h
          · exact .inl h
          · exact .inr (List.mem_cons_of_mem _ h)
theorem rise_insert (n : Nat) : ∀ l : List Nat, l.Pairwise (· < ·) → (Sy82.insert n l).Pairwise (· < ·)
  | [], _ => List.pairwise_singleton _ _
  | m :: l, h => by
    have h1 := List.pairwise_cons.mp h
    rw [Sy82.insert]
    by_cases c : n < m
    · rw [if_pos c]
      refine List.pairwise_cons.mpr ⟨fun k hk => ?_, h⟩
      rcases List.mem_cons.mp hk with e | hk
      · omega
      · have := h1.1 k hk
        omega
    · rw [if_neg c]
      by_cases d : n = m
      · rw [if_pos d]
        exact h
      · rw [if_neg d]
        refine List.pairwise_cons.mpr ⟨fun k hk => ?_, rise_insert n l h1.2⟩
        rcases mem_insert hk with e | hk
        · omega
        · exact h1.1 k hk
/-- a rising list is the only arrangement in order -/
theorem sorted_is {l : List Int} {m : List Nat} (hm : m.Pairwise (· < ·)) (hp : l.Perm (m.map fun (n : Nat) => (n : Int))) (hs : l.Pairwise (· ≤ ·)) : l = m.map fun (n : Nat) => (n : Int) := by
  refine List.Perm.eq_of_pairwise (le := fun a b => a ≤ b) (fun a b _ _ h1 h2 => Int.le_antisymm h1 h2) hs ?_ hp
  rw [List.pairwise_map]
  exact hm.imp fun {a b} h => by
    show ((a : Nat) : Int) ≤ (b : Int)
    omega
section
variable {P : Program} {w : World} {K : PySem.W.Frag} {mg : Str → Option Value} {base : Heap}
/-! ### with_key -/
abbrev sWithKey : Stmt := top 5
theorem scWithKey : FnScope ["box", "lock"] ["box", "lock"] (defScope sWithKey) := ⟨rfl, rfl, rfl, by decide +kernel, rfl, by decide +kernel, by decide +kernel⟩
def spWithKey : Sp := fun vs H Q _ => ∃ (r : Addr) (b : Sy82.Box) (n : Nat), vs = [.ref r, .int (n : Nat)] ∧ BxAt H r b ∧ WB b ∧ b.keys.contains n = false ∧
  ∀ H' p, Same H H' → BxAt H' p { b with keys := Sy82.insert n b.keys } → Q (.ref p) H'
theorem ok_with_key {f : Addr} {fd : FuncData} (F : Fun K "with_key" "with_key" sWithKey f fd) (T : Glb mg) : FnOk P w K mg base CX0 1 f fd ["box", "lock"] spWithKey := by
  refine F.ok scWithKey (fun vs H Q E h => ?_) (fun cdv A outer s H vs Q E hr h => ?_)
  · obtain ⟨r, b, n, rfl, _⟩ := h
    rfl
  · obtain ⟨r, b, n, rfl, ⟨k, h1, h2⟩, hb, hn, q⟩ := h
    refine ⟨_, pss_one (ps_ret (pe_tup (pa_cons (pe_ix ix_tup (pv 0) pe_int (fun _ _ => rfl)) (pa_cons (pe_ix ix_tup (pv 0) pe_int (fun _ _ => rfl)) (pa_cons
      (pe_callTy call_tuple_of (by rfl) T.tuple (by decide +kernel) (pa_cons (pe_callB cr_sortedI (by rfl) T.sorted (by decide +kernel) (pa_cons (pe_op op_cat
        (pe_callTy call_list_of (by rfl) T.list (by decide +kernel) (pa_cons (pe_ix ix_tup (pv 0) pe_int (fun _ _ => rfl)) pa_nil)) (pe_lst (pa_cons (pv 1) pa_nil))) pa_nil)) pa_nil)) pa_nil))))), ?_⟩
    refine ⟨.ref r, rfl, r, _, 0, _, rfl, rfl, SqT.of h1, atI_nat (j := 0) rfl, .ref r, rfl, r, _, 1, _, rfl, rfl, SqT.of h1, atI_nat (j := 1) rfl, .ref r, rfl, r, _, 2, _, rfl, rfl, SqT.of h1, atI_nat (j := 2) rfl, k, _, rfl, .inr (SqT.of h2), fun p1 n1 => ?_⟩
    refine ⟨.int (n : Nat), rfl, one_ok _, fun p2 n2 => ?_⟩
    have s2 : Same H (upd (upd H p1 (.lst (natV b.keys))) p2 (.lst [.int (n : Nat)])) := same_put (same_upd n1) (by
      rw [upd_ne (fun e => by rw [e, upd_same] at n2; cases n2)] at n2
      exact n2)
    have e12 : p1 ≠ p2 := fun e => by
      rw [← e, upd_same] at n2
      cases n2
    refine ⟨p1, p2, _, _, rfl, rfl, by rw [upd_ne e12, upd_same], upd_same, ?_, fun p3 n3 => ?_⟩
    · have := hb.len
      rw [natV_len]
      exact smallE (by simp; omega)
    have s3 := same_put (o := .lst (natV b.keys ++ [.int (n : Nat)])) s2 (s2.free n3)
    have e3 : natV b.keys ++ [.int (n : Nat)] = ((b.keys ++ [n]).map fun (n : Nat) => (n : Int)).map V.int := by
      rw [← natV_map, natV_app]
      rfl
    refine ⟨p3, _, rfl, SqL.of (by rw [upd_same, e3]), fun ns p4 hp hs n4 => ?_⟩
    have s4 := same_put (o := .lst (ns.map V.int)) s3 (s3.free n4)
    have ens : ns = (Sy82.insert n b.keys).map fun (n : Nat) => (n : Int) := sorted_is (rise_insert n _ hb.rise) (hp.trans ((perm_insert n _ hn).symm.map _)) hs
    have enV : ns.map V.int = natV (Sy82.insert n b.keys) := by rw [ens, ← natV_map]
    refine ⟨p4, _, rfl, .inl ⟨SqL.of upd_same, fun p5 n5 => ?_⟩⟩
    have s5 := same_put (o := .tup (ns.map V.int)) s4 (s4.free n5)
    refine ⟨three_ok _ _ _, fun p6 n6 => ?_⟩
    have s6 := same_put (o := .tup [.int (lockN b : Nat), .int (b.cost : Nat), .ref p5]) s5 (s5.free n6)
    refine q _ p6 s6 ⟨p5, upd_same, ?_⟩
    rw [upd_ne (fun e => by rw [← e, upd_same] at n6; cases n6), upd_same, enV]
/-! ### without_key -/
abbrev sWithoutKey : Stmt := top 6
theorem scWithoutKey : FnScope ["box", "lock", "own"] ["box", "lock"] (defScope sWithoutKey) := ⟨rfl, rfl, rfl, by decide +kernel, rfl, by decide +kernel, by decide +kernel⟩
def spWithoutKey : Sp := fun vs H Q _ => ∃ (r : Addr) (b : Sy82.Box) (n : Nat), vs = [.ref r, .int (n : Nat)] ∧ BxAt H r b ∧ WB b ∧
  ∀ H' p, Same H H' → BxAt H' p { b with keys := Sy82.without n b.keys } → Q (.ref p) H'
theorem without_snoc (n k : Nat) (l : List Nat) : Sy82.without n (l ++ [k]) = if k = n then Sy82.without n l else Sy82.without n l ++ [k] := by
  unfold Sy82.without
  rw [List.filter_append]
  by_cases c : k = n
  · rw [if_pos c]
    simp [c]
  · rw [if_neg c]
    simp [c]
theorem ne_int {m n : Nat} : decide (V.int (m : Nat) = V.int (n : Nat)) = decide (m = n) := by
  by_cases c : m = n
  · rw [decide_eq_true c, decide_eq_true (by rw [c])]
  · have z : ¬ V.int (m : Nat) = V.int (n : Nat) := fun z => c (Int.ofNat.inj (V.int.inj z))
    rw [decide_eq_false c]
    exact decide_eq_false z
theorem ok_without_key {f : Addr} {fd : FuncData} (F : Fun K "without_key" "without_key" sWithoutKey f fd) (T : Glb mg) : FnOk P w K mg base CX0 1 f fd ["box", "lock"] spWithoutKey := by
  refine F.ok scWithoutKey (fun vs H Q E h => ?_) (fun cdv A outer s H vs Q E hr h => ?_)
  · obtain ⟨r, b, n, rfl, _⟩ := h
    rfl
  · obtain ⟨r, b, n, rfl, ⟨k, h1, h2⟩, hb, q⟩ := h
    have nd := scWithoutKey.nd
    refine ⟨_, pss_one (ps_ret (pe_tup (pa_cons (pe_ix ix_tup (pv 0) pe_int (fun _ _ => rfl)) (pa_cons (pe_ix ix_tup (pv 0) pe_int (fun _ _ => rfl)) (pa_cons
      (pe_callTy call_tuple_of (by rfl) T.tuple (by decide +kernel) (pa_cons
        (pe_lc (own := [("own", 2)]) (g := gName 2) rfl nd (pi_tup (pe_ix ix_tup (pv 0) pe_int (fun _ _ => rfl))) (blkOk_by (N := ["box", "lock", "own"]) (sc := defScope sWithoutKey) (by decide +kernel))
          (fun _ _ _ _ _ => pg_name (i := 2) nd rfl (Or.inl rfl)) (fun _ _ _ _ _ => pts_one (pt_cmpR op_ne (pv 2) (pv 1) (nomark _))) (fun _ _ _ _ _ => pv 2)) pa_nil)) pa_nil))))), ?_⟩
    refine ⟨.ref r, rfl, r, _, 0, _, rfl, rfl, SqT.of h1, atI_nat (j := 0) rfl, .ref r, rfl, r, _, 1, _, rfl, rfl, SqT.of h1, atI_nat (j := 1) rfl, .ref r, rfl, r, _, 2, _, rfl, rfl, SqT.of h1, atI_nat (j := 2) rfl, k, rfl, ⟨_, SqT.of h2⟩, fun D nD => ?_⟩
    refine lc_tup (K := K) (a := k) (xs := natV b.keys) (fun i H3 => Same H H3 ∧ H3 D = some (.lst (natV (Sy82.without n (b.keys.take i))))) ⟨same_upd nD, upd_same⟩ (fun i H3 _ ⟨sm, _⟩ => SqT.of (sm _ _ h2)) ?_ ?_
    · rintro i x H3 hx ⟨sm, eD⟩
      obtain ⟨m, hm, rfl⟩ := at_natV hx
      refine ⟨rfl, .int (m : Nat), rfl, .int (n : Nat), rfl, rfl, _, rfl, ?_⟩
      rw [ne_int, take_snoc hm, without_snoc]
      by_cases c : m = n
      · rw [decide_eq_true c, if_pos c]
        exact iteF ⟨sm, eD⟩
      · rw [decide_eq_false c, if_neg c]
        refine iteT ⟨.int (m : Nat), rfl, _, eD, ?_, same_put sm nD, ?_⟩
        · have := hb.len
          have h3 : (Sy82.without n (b.keys.take i)).length ≤ (b.keys.take i).length := List.length_filter_le ..
          rw [List.length_take] at h3
          rw [natV_len]
          exact small (by omega)
        · rw [upd_same, natV_app]
          rfl
    · rintro H3 ⟨sm, eD⟩
      rw [natV_len, List.take_length] at eD
      refine ⟨D, _, rfl, .inl ⟨SqL.of eD, fun p5 n5 => ?_⟩⟩
      have s5 := same_put (o := .tup (natV (Sy82.without n b.keys))) sm (sm.free n5)
      refine ⟨three_ok _ _ _, fun p6 n6 => ?_⟩
      have s6 := same_put (o := .tup [.int (lockN b : Nat), .int (b.cost : Nat), .ref p5]) s5 (s5.free n6)
      refine q _ p6 s6 ⟨p5, upd_same, ?_⟩
      rw [upd_ne (fun e => by rw [← e, upd_same] at n6; cases n6), upd_same]
/-! ### with_box -/
abbrev sWithBox : Stmt := top 7
theorem scWithBox : FnScope ["boxes", "number", "box"] ["boxes", "number", "box"] (defScope sWithBox) := ⟨rfl, rfl, rfl, by decide +kernel, rfl, by decide +kernel, by decide +kernel⟩
def spWithBox : Sp := fun vs H Q _ => ∃ (a r : Addr) (bs : List Sy82.Box) (k : Nat) (b : Sy82.Box), vs = [.ref a, .int (k : Nat), .ref r] ∧ BxsAt H a bs ∧ BxAt H r b ∧ k < bs.length ∧ bs.length ≤ 1000 ∧
  ∀ H' p, Same H H' → BxsAt H' p (bs.set k b) → Q (.ref p) H'
theorem set_parts {α : Type} : ∀ (l : List α) (k : Nat) (x : α), k < l.length → l.take k ++ [x] ++ l.drop (k + 1) = l.set k x
  | [], _, _, h => by simp at h
  | a :: l, 0, x, _ => rfl
  | a :: l, k + 1, x, h => by
    have ih := set_parts l k x (by simpa using h)
    show a :: (l.take k ++ [x] ++ l.drop (k + 1)) = a :: l.set k x
    rw [ih]
theorem cut_to {xs : List V} {k : Nat} (h : k ≤ xs.length) : cutV xs none (some (k : Int)) = xs.take k := by
  unfold cutV
  rw [HT.sIx_none, HT.sIx_nat, Nat.min_eq_left h]
  rfl
theorem cut_from {xs : List V} {k : Nat} (h : k ≤ xs.length) : cutV xs (some (k : Int)) none = xs.drop k := by
  unfold cutV
  rw [HT.sIx_none, HT.sIx_nat, Nat.min_eq_left h]
  refine List.take_of_length_le ?_
  rw [List.length_drop]
  exact Nat.le_refl _
theorem ok_with_box {f : Addr} {fd : FuncData} (F : Fun K "with_box" "with_box" sWithBox f fd) : FnOk P w K mg base CX0 1 f fd ["boxes", "number", "box"] spWithBox := by
  refine F.ok scWithBox (fun vs H Q E h => ?_) (fun cdv A outer s H vs Q E hr h => ?_)
  · obtain ⟨a, r, bs, k, b, rfl, _⟩ := h
    rfl
  · obtain ⟨a, r, bs, k, b, rfl, ⟨rs, hA, hAll⟩, hb, hk, few, q⟩ := h
    refine ⟨_, pss_one (ps_ret (pe_op op_cat (pe_op op_cat (pe_slice sl_list (pv 0) po_none (po_some (pv 1))) (pe_lst (pa_cons (pv 2) pa_nil))) (pe_slice sl_list (pv 0) (po_some (pe_op op_add (pv 1) pe_int)) po_none))), ?_⟩
    have hlen := hAll.len
    refine ⟨.ref a, rfl, .int (k : Nat), rfl, (k : Nat), rfl, a, refs rs, rfl, SqL.of hA, fun p1 n1 => ?_⟩
    rw [cut_to (by rw [refs_len]; omega)]
    refine ⟨.ref r, rfl, one_ok _, fun p2 n2 => ?_⟩
    have s1 : Same H (upd H p1 (.lst ((refs rs).take k))) := same_upd n1
    have s2 := same_put (o := .lst [.ref r]) s1 (s1.free n2)
    have e12 : p1 ≠ p2 := fun e => by
      rw [← e, upd_same] at n2
      cases n2
    refine ⟨p1, p2, _, _, rfl, rfl, by rw [upd_ne e12, upd_same], upd_same, ?_, fun p3 n3 => ?_⟩
    · have : ((refs rs).take k).length ≤ 1000 := by
        rw [List.length_take, refs_len]
        omega
      exact smallE (by simp; omega)
    have s3 := same_put (o := .lst ((refs rs).take k ++ [.ref r])) s2 (s2.free n3)
    refine ⟨.ref a, rfl, .int (k : Nat), rfl, _, _, rfl, rfl, ((k + 1 : Nat) : Int), rfl, a, refs rs, rfl, SqL.of (s3 _ _ hA), fun p4 n4 => ?_⟩
    rw [cut_from (by rw [refs_len]; omega)]
    have s4 := same_put (o := .lst ((refs rs).drop (k + 1))) s3 (s3.free n4)
    have e34 : p3 ≠ p4 := fun e => by
      rw [← e, upd_same] at n4
      cases n4
    refine ⟨p3, p4, _, _, rfl, rfl, by rw [upd_ne e34, upd_same], upd_same, ?_, fun p5 n5 => ?_⟩
    · have h1 : ((refs rs).take k).length ≤ 1000 := by
        rw [List.length_take, refs_len]
        omega
      have h2 : ((refs rs).drop (k + 1)).length ≤ 1000 := by
        rw [List.length_drop, refs_len]
        omega
      exact smallE (by simp at h1 h2 ⊢; omega)
    have s5 := same_put (o := .lst ((refs rs).take k ++ [.ref r] ++ (refs rs).drop (k + 1))) s4 (s4.free n5)
    refine q _ p5 s5 ⟨rs.set k r, ?_, (hAll.set hb k).mono fun r b z => z.same s5⟩
    rw [upd_same, set_parts _ _ _ (by rw [refs_len]; omega)]
    unfold refs
    rw [List.map_set]
end
end Bk

/-! # choices.py: choices, cost, opens -/
namespace Bk
open PySem PySem.Spec PyProof.Rows L2 BkR
/-- a list of numbers at r -/
def NsAt (H : Hp) (r : Addr) (l : List Nat) : Prop := H r = some (.lst (natV l))
/-- new since H0 -/
def FsAt (H0 H : Hp) (r : Addr) (l : List Nat) : Prop := H0 r = none ∧ NsAt H r l
/-- a list of lists of numbers at p, all new since H0 -/
def LsAt (H0 H : Hp) (p : Addr) (cs : List (List Nat)) : Prop := ∃ rs, H0 p = none ∧ H p = some (.lst (refs rs)) ∧ All2 (FsAt H0 H) rs cs
theorem All2.same {α : Type} {L : Hp → Addr → α → Prop} (hL : ∀ H H' r x, Same H H' → L H r x → L H' r x) {H H' : Hp} (s : Same H H') {rs : List Addr} {xs : List α} (h : All2 (L H) rs xs) : All2 (L H') rs xs := h.mono fun r x z => hL H H' r x s z
theorem NsAt.same (H H' : Hp) (r : Addr) (l : List Nat) (s : Same H H') (h : NsAt H r l) : NsAt H' r l := s _ _ h
theorem FsAt.same (H0 H H' : Hp) (r : Addr) (l : List Nat) (s : Same H H') (h : FsAt H0 H r l) : FsAt H0 H' r l := ⟨h.1, s _ _ h.2⟩
theorem refs_app (a b : List Addr) : refs (a ++ b) = refs a ++ refs b := List.map_append ..
section
variable {P : Program} {w : World} {K : PySem.W.Frag} {mg : Str → Option Value} {base : Heap}
/-! ### choices -/
abbrev sChoices : Stmt := top 9
theorem scChoices : FnScope ["many", "found", "number", "choice"] ["many"] (defScope sChoices) := ⟨rfl, rfl, rfl, by decide +kernel, rfl, by decide +kernel, by decide +kernel⟩
def spChoices : Sp := fun vs H Q _ => ∃ n : Nat, vs = [.int (n : Nat)] ∧ n ≤ 8 ∧ ∀ H' p, Same H H' → LsAt H H' p (chs n) → Q (.ref p) H'
theorem pow8 {n : Nat} (h : n ≤ 8) : 2 ^ n ≤ 256 := Nat.pow_le_pow_right (by decide) h
theorem ok_choices {f : Addr} {fd : FuncData} (F : Fun K "choices" "choices" sChoices f fd) (T : Glb mg) : FnOk P w K mg base CX0 1 f fd ["many"] spChoices := by
  refine F.ok scChoices (fun vs H Q E h => ?_) (fun cdv A outer s H vs Q E hr h => ?_)
  · obtain ⟨n, rfl, _⟩ := h
    rfl
  · obtain ⟨n, rfl, h8, q⟩ := h
    have nd := scChoices.nd
    refine ⟨_, pss_cons (ps_set (i := 1) nd rfl (.inl rfl) (pe_lst (pa_cons (pe_lst pa_nil) pa_nil)))
      (pss_cons (ps_for PassesOwn.never rfl (pi_range1 (by rfl) T.range (pa_cons (pv 0) pa_nil)) (pg_name (i := 2) nd rfl (.inr rfl))
        (pss_one (ps_set (i := 1) nd rfl (.inl rfl) (pe_op op_cat (pv 1)
          (pe_lc (own := [("choice", 3)]) (g := gName 3) (tt := tYes) rfl nd (pi_list (pv 1)) (blkOk_by (N := ["many", "found", "number", "choice"]) (sc := defScope sChoices) (by decide +kernel))
            (fun _ _ _ _ _ => pg_name (i := 3) nd rfl (Or.inl rfl)) (fun _ _ _ _ _ => pts_nil) (fun _ _ _ _ _ => pe_op op_cat (pv 3) (pe_lst (pa_cons (pv 2) pa_nil))))))))
      (pss_one (ps_ret (pv 1)))), ?_⟩
    refine ⟨Nat.zero_le _, fun p1 n1 => ⟨one_ok _, fun p2 n2 => ?_⟩⟩
    have s1 : Same H (upd H p1 (.lst [])) := same_upd n1
    have s2 := same_put (o := .lst [.ref p1]) s1 (s1.free n2)
    have e12 : p1 ≠ p2 := fun e => by
      rw [← e, upd_same] at n2
      cases n2
    have a0 : LsAt H (upd (upd H p1 (.lst [])) p2 (.lst [.ref p1])) p2 (chs 0) := ⟨[p1], s1.free n2, upd_same, All2.nil.snoc ⟨n1, show NsAt _ p1 [] by unfold NsAt; rw [upd_ne e12, upd_same]; rfl⟩⟩
    refine ⟨.int (n : Nat), rfl, (n : Nat), rfl, by omega, by omega, for_range (n := n) (lo := 0) (fun i σ H3 => ∃ fo y2, σ = [some (.int (n : Nat)), some (.ref fo), y2, none] ∧ Same H H3 ∧ LsAt H H3 fo (chs i))
      ⟨p2, none, rfl, s2, a0⟩ ?_ ?_⟩
    · rintro i σ H3 hi ⟨fo, y2, rfl, sm, rs, nfo, hA, hAll⟩
      rw [show (0 : Int) + ((i : Nat) : Int) = (i : Nat) from Int.zero_add _]
      refine ⟨.ref fo, rfl, .ref fo, rfl, fo, rfl, ⟨_, SqL.of hA⟩, fun D nD => lc_list (K := K) (a := fo) (xs := refs rs)
        (fun j H4 => Same H3 H4 ∧ ∃ ts, H4 D = some (.lst (refs ts)) ∧ All2 (FsAt H H4) ts (((chs i).take j).map fun c => c ++ [i]))
        ⟨same_upd nD, [], upd_same, All2.nil⟩ (fun j H4 _ ⟨s4, _⟩ => SqL.of (s4 _ _ hA)) ?_ ?_⟩
      · rintro j x H4 hx ⟨s4, ts, eD, hT⟩
        obtain ⟨r, hr1, rfl⟩ := refs_at hx
        obtain ⟨c, hc, hx2⟩ := hAll.getL hr1
        have cs := chs_size (List.mem_of_getElem? hc)
        have er : H4 r = some (.lst (natV c)) := s4 _ _ hx2.2
        refine ⟨rfl, ?_⟩
        refine yes_ ?_
        refine ⟨.ref r, rfl, .int (i : Nat), rfl, one_ok _, fun p3 n3 => ?_⟩
        have s5 := same_upd (o := .lst [.int (i : Nat)]) n3
        refine ⟨r, p3, _, _, rfl, rfl, s5 _ _ er, upd_same, ?_, fun p4 n4 => ?_⟩
        · rw [natV_len]
          exact smallE (by simp; omega)
        have s6 := same_put (o := .lst (natV c ++ [.int (i : Nat)])) s5 (s5.free n4)
        have e6 := s6 _ _ eD
        have D4 : p4 ≠ D := fun e => by
          rw [e, s5 _ _ eD] at n4
          cases n4
        have tlen : ts.length ≤ 256 := by
          rw [hT.len, List.length_map, List.length_take, chs_len]
          have := pow8 (n := i) (by omega)
          omega
        refine ⟨_, e6, ?_, ?_, ts ++ [p4], ?_, ?_⟩
        · rw [refs_len]
          exact small (by omega)
        · exact same_put (s4.trans s6) nD
        · rw [upd_same, refs_app]
          rfl
        · rw [take_snoc hc, List.map_append]
          refine All2.snoc ⟨hT.len, fun m r l a b => ?_⟩ ⟨sm.free (s4.free (s5.free n4)), ?_⟩
          · have z := hT.at_ m r l a b
            refine ⟨z.1, ?_⟩
            unfold NsAt
            have zz : H4 r = some (.lst (natV l)) := z.2
            rw [upd_ne fun e => ?_]
            · exact s6 _ _ zz
            · rw [e, eD] at zz
              have z2 := HO.lst.inj (Option.some.inj zz)
              cases ts with
              | nil => simp at a
              | cons t0 ts =>
                cases l with
                | nil => cases z2
                | cons l0 l =>
                  have := (List.cons.inj z2).1
                  cases this
          · unfold NsAt
            rw [upd_ne D4, upd_same, natV_app]
            rfl
      · rintro H4 ⟨s4, ts, eD, hT⟩
        rw [refs_len, hAll.len, List.take_length] at hT
        have l1 : rs.length ≤ 256 := by
          rw [hAll.len, chs_len]
          exact pow8 (by omega)
        have l2 : ts.length ≤ 256 := by
          rw [hT.len, List.length_map, chs_len]
          exact pow8 (by omega)
        refine ⟨fo, D, _, _, rfl, rfl, s4 _ _ hA, eD, ?_, fun p5 n5 => ?_⟩
        · rw [refs_len, refs_len]
          exact smallE (by omega)
        have s5 := same_upd (o := .lst (refs rs ++ refs ts)) n5
        refine ⟨p5, some (.int (i : Nat)), rfl, sm.trans (s4.trans s5), rs ++ ts, sm.free (s4.free n5), ?_, ?_⟩
        · rw [upd_same, refs_app]
        · rw [chs]
          exact All2.app (All2.same (FsAt.same H) (s4.trans s5) hAll) (All2.same (FsAt.same H) s5 hT)
    · rintro σ H3 ⟨fo, y2, rfl, sm, hA⟩
      exact ⟨.ref fo, rfl, q H3 fo sm hA⟩
/-! ### cost -/
abbrev sCost : Stmt := top 10
theorem scCost : FnScope ["boxes", "choice", "number"] ["boxes", "choice"] (defScope sCost) := ⟨rfl, rfl, rfl, by decide +kernel, rfl, by decide +kernel, by decide +kernel⟩
def spCost : Sp := fun vs H Q _ => ∃ (a c : Addr) (s : Sy82.St) (l : List Nat), vs = [.ref a, .ref c] ∧ BxsAt H a s.boxes ∧ NsAt H c l ∧ (∀ k ∈ l, k < Sy82.many s) ∧ l.length ≤ 1000 ∧ ∀ H', Same H H' → Q (.int (Sy82.price s l : Nat)) H'
theorem sum_cast : ∀ l : List Nat, (l.map fun (n : Nat) => (n : Int)).sum = ((l.sum : Nat) : Int)
  | [] => rfl
  | a :: l => by
    rw [List.map_cons, List.sum_cons, List.sum_cons, sum_cast l]
    omega
theorem ok_cost {f : Addr} {fd : FuncData} (F : Fun K "cost" "cost" sCost f fd) (T : Glb mg) : FnOk P w K mg base CX0 1 f fd ["boxes", "choice"] spCost := by
  refine F.ok scCost (fun vs H Q E h => ?_) (fun cdv A outer s H vs Q E hr h => ?_)
  · obtain ⟨a, c, s, l, rfl, _⟩ := h
    rfl
  · obtain ⟨a, c, s, l, rfl, ⟨rs, hA, hAll⟩, hC, low, few, q⟩ := h
    have nd := scCost.nd
    refine ⟨_, pss_one (ps_ret (pe_callB (cr_sum rfl) (by rfl) T.sum (by decide +kernel) (pa_cons
      (pe_lc (own := [("number", 2)]) (g := gName 2) (tt := tYes) (te := tOp (rIxT K) (tOp (rIxL K) (tVar 0) (tVar 2)) (tC (.int 1))) rfl nd (pi_list (pv 1)) (blkOk_by (N := ["boxes", "choice", "number"]) (sc := defScope sCost) (by decide +kernel))
        (fun _ _ _ _ _ => pg_name (i := 2) nd rfl (Or.inl rfl)) (fun _ _ _ _ _ => pts_nil) (fun _ _ _ _ _ => by exact pe_ix ix_tup (pe_ix ix_list (pv 0) (pv 2) (fun _ _ => rfl)) pe_int (fun _ _ => rfl))) pa_nil))), ?_⟩
    refine ⟨.ref c, rfl, c, rfl, ⟨_, SqL.of hC⟩, fun D nD => lc_list (K := K) (a := c) (xs := natV l) (fun j H4 => Same H H4 ∧ H4 D = some (.lst (natV ((l.take j).map fun k => (Sy82.boxOf s k).cost))))
        ⟨same_upd nD, upd_same⟩ (fun j H4 _ ⟨s4, _⟩ => SqL.of (s4 _ _ hC)) ?_ ?_⟩
    · rintro j x H4 hx ⟨s4, eD⟩
      obtain ⟨k, hk, rfl⟩ := at_natV hx
      obtain ⟨r, e1, e2⟩ := hAll.get (at_boxOf (low k (List.mem_of_getElem? hk)))
      obtain ⟨kk, e3, e4⟩ := e2.same s4
      refine ⟨rfl, ?_⟩
      refine yes_ ?_
      refine ⟨.ref a, rfl, .int (k : Nat), rfl, a, _, _, _, rfl, rfl, SqL.of (s4 _ _ hA), atI_nat (at_refs e1), r, _, 1, _, rfl, rfl, SqT.of e3, atI_nat (j := 1) rfl, _, eD, ?_, same_put s4 nD, ?_⟩
      · rw [natV_len, List.length_map, List.length_take]
        exact small (by omega)
      · rw [upd_same, take_snoc hk, List.map_append, natV_app]
        rfl
    · rintro H4 ⟨s4, eD⟩
      rw [natV_len, List.take_length, natV_map] at eD
      refine ⟨D, _, rfl, SqL.of eD, ?_⟩
      rw [sum_cast]
      exact q H4 s4
/-! ### opens -/
abbrev sOpens : Stmt := top 11
theorem scOpens : FnScope ["boxes", "hand", "choice", "goal", "found", "number"] ["boxes", "hand", "choice", "goal"] (defScope sOpens) := ⟨rfl, rfl, rfl, by decide +kernel, rfl, by decide +kernel, by decide +kernel⟩
def spOpens : Sp := fun vs H Q _ => ∃ (a h c g : Addr) (s : Sy82.St) (l goal : List Nat), vs = [.ref a, .ref h, .ref c, .ref g] ∧ WS s ∧ BxsAt H a s.boxes ∧ NsAt H h s.held ∧ NsAt H c l ∧ NsAt H g goal ∧ (∀ k ∈ l, k < Sy82.many s) ∧ l.length ≤ 1000 ∧ goal.length ≤ 1000 ∧
  ∀ H', Same H H' → Q (.bl (goalOk goal (Sy82.opened s l))) H'
theorem ok_opens {f : Addr} {fd : FuncData} (F : Fun K "opens" "opens" sOpens f fd) (T : Glb mg) (C : Has P w K mg base CX0 3 "opened" ["boxes", "hand", "broken"] spOpened) : FnOk P w K mg base CX0 4 f fd ["boxes", "hand", "choice", "goal"] spOpens := by
  obtain ⟨fc, fdc, Gc, gc, kc, bc⟩ := C
  refine F.ok scOpens (fun vs H Q E h => ?_) (fun cdv A outer s H vs Q E hr h => ?_)
  · obtain ⟨a, h, c, g, s, l, goal, rfl, _⟩ := h
    rfl
  · obtain ⟨a, hd, c, g, s, l, goal, rfl, hs, hB, hH, hC, hG, low, few, few2, q⟩ := h
    have nd := scOpens.nd
    refine ⟨_, pss_cons (ps_set (i := 4) nd rfl (.inr rfl) (pe_call Gc hr (by rfl) gc kc bc .nil pass0 (pa_cons (pv 0) (pa_cons (pv 1) (pa_cons (pv 2) pa_nil)))))
      (pss_one (ps_ret (pe_callB (cr_all rfl) (by rfl) T.all (by decide +kernel) (pa_cons
      (pe_lc (own := [("number", 5)]) (g := gName 5) (tt := tYes) (te := tOp (rIn K false) (tVar 5) (tVar 4)) rfl nd (pi_list (pv 3)) (blkOk_by (N := ["boxes", "hand", "choice", "goal", "found", "number"]) (sc := defScope sOpens) (by decide +kernel))
        (fun _ _ _ _ _ => pg_name (i := 5) nd rfl (Or.inl rfl)) (fun _ _ _ _ _ => pts_nil) (fun _ _ _ _ _ => by exact pe_cmpR op_in_seq (pv 5) (pv 4) (by rfl))) pa_nil)))), ?_⟩
    refine ⟨.ref a, rfl, .ref hd, rfl, .ref c, rfl, a, hd, c, s, l, rfl, hs, hB, hH, hC, low, few, fun H1 fo s1 eF => ?_⟩
    refine ⟨.ref g, rfl, g, rfl, ⟨_, SqL.of (s1 _ _ hG)⟩, fun D nD => lc_list (K := K) (a := g) (xs := natV goal) (fun j H4 => Same H1 H4 ∧ H4 D = some (.lst (((goal.take j).map fun k => (Sy82.opened s l).contains k).map V.bl)))
        ⟨same_upd nD, upd_same⟩ (fun j H4 _ ⟨s4, _⟩ => SqL.of (s4 _ _ (s1 _ _ hG))) ?_ ?_⟩
    · rintro j x H4 hx ⟨s4, eD⟩
      obtain ⟨k, hk, rfl⟩ := at_natV hx
      refine ⟨rfl, ?_⟩
      refine yes_ ?_
      refine ⟨.int (k : Nat), rfl, .ref fo, rfl, fo, _, rfl, .inl (SqL.of (s4 _ _ eF)), rfl, natV_flat _, _, eD, ?_, same_put s4 nD, ?_⟩
      · rw [List.length_map, List.length_map, List.length_take]
        exact small (by omega)
      · rw [upd_same, take_snoc hk, List.map_append, List.map_append, if_neg Bool.false_ne_true, in_natV]
        rfl
    · rintro H4 ⟨s4, eD⟩
      rw [natV_len, List.take_length] at eD
      refine ⟨D, _, rfl, SqL.of eD, ?_⟩
      have e : ((goal.map fun k => (Sy82.opened s l).contains k).all id) = goalOk goal (Sy82.opened s l) := by
        unfold goalOk
        rw [List.all_map]
        rfl
      rw [e]
      exact q H4 (s1.trans s4)
end
end Bk

/-! # choices.py: cheapest, needed, follow -/
namespace Bk
open PySem PySem.Spec PyProof.Rows L2 BkR
/-! ### the order of ranks, of numbers as the program has them -/
def keyI (s : Sy82.St) (c : List Nat) : List Int := (rank s c).map fun (n : Nat) => (n : Int)
theorem lex_cast : ∀ a b : List Nat, HT.lexLt (a.map fun (n : Nat) => (n : Int)) (b.map fun (n : Nat) => (n : Int)) = lexB a b
  | [], [] => rfl
  | [], _ :: _ => rfl
  | _ :: _, [] => rfl
  | x :: xs, y :: ys => by
    rw [List.map_cons, List.map_cons, HT.lexLt_cons, lexB, lex_cast xs ys]
    by_cases e : x = y
    · rw [if_pos e, if_pos (by rw [e])]
    · rw [if_neg e, if_neg (by omega)]
      by_cases c : x < y
      · rw [decide_eq_true c]
        exact decide_eq_true (by omega)
      · rw [decide_eq_false c]
        exact decide_eq_false (by omega)
/-- a candidate as the program keeps it -/
def CandAt (fo : Addr) (s : Sy82.St) (H : Hp) (t : Addr) (c : List Nat) : Prop := ∃ r, r ≠ fo ∧ H t = some (.tup [.int (Sy82.price s c : Nat), .int (c.length : Nat), .ref r]) ∧ H r = some (.lst (natV c))
theorem CandAt.same {fo : Addr} {s : Sy82.St} (H H' : Hp) (t : Addr) (c : List Nat) (sm : Same H H') (h : CandAt fo s H t c) : CandAt fo s H' t c := by
  obtain ⟨r, n, h1, h2⟩ := h
  exact ⟨r, n, sm _ _ h1, sm _ _ h2⟩
theorem CandAt.tri {fo : Addr} {s : Sy82.St} {H : Hp} {t : Addr} {c : List Nat} (h : CandAt fo s H t c) : TriAt H t (keyI s c) := by
  obtain ⟨r, _, h1, h2⟩ := h
  exact ⟨_, _, r, c.map fun (n : Nat) => (n : Int), rfl, h1, by rw [← natV_map]; exact h2⟩
theorem zip_refs : ∀ (ts : List Addr) (ks : List (List Int)), ts.length = ks.length → ((ts.zip ks).map fun k => V.ref k.1) = refs ts
  | [], _, _ => rfl
  | t :: ts, [], h => by cases h
  | t :: ts, k :: ks, h => by
    have ih := zip_refs ts ks (Nat.succ.inj h)
    show V.ref t :: ((ts.zip ks).map fun k => V.ref k.1) = V.ref t :: refs ts
    rw [ih]
section
variable {P : Program} {w : World} {K : PySem.W.Frag} {mg : Str → Option Value} {base : Heap}
/-! ### cheapest -/
abbrev sCheapest : Stmt := top 12
theorem scCheapest : FnScope ["boxes", "hand", "goal", "found", "choice", "best"] ["boxes", "hand", "goal"] (defScope sCheapest) := ⟨rfl, rfl, rfl, by decide +kernel, rfl, by decide +kernel, by decide +kernel⟩
def spCheapest : Sp := fun vs H Q _ => ∃ (a h g : Addr) (s : Sy82.St) (goal : List Nat), vs = [.ref a, .ref h, .ref g] ∧ WS s ∧ BxsAt H a s.boxes ∧ NsAt H h s.held ∧ NsAt H g goal ∧ (∀ k ∈ goal, k < Sy82.many s) ∧ goal.length ≤ 1000 ∧
  ∀ H' p r c, Same H H' → Sy82.cheapest s (goalOk goal) = some c → H' p = some (.tup [.int (Sy82.price s c : Nat), .ref r]) → NsAt H' r c → Q (.ref p) H'
theorem ok_cheapest {f : Addr} {fd : FuncData} (F : Fun K "cheapest" "cheapest" sCheapest f fd) (T : Glb mg) (C1 : Has P w K mg base CX0 1 "choices" ["many"] spChoices) (C2 : Has P w K mg base CX0 4 "opens" ["boxes", "hand", "choice", "goal"] spOpens)
    (C3 : Has P w K mg base CX0 1 "cost" ["boxes", "choice"] spCost) : FnOk P w K mg base CX0 5 f fd ["boxes", "hand", "goal"] spCheapest := by
  obtain ⟨f1, fd1, G1, g1, k1, b1⟩ := C1
  obtain ⟨f2, fd2, G2, g2, k2, b2⟩ := C2
  obtain ⟨f3, fd3, G3, g3, k3, b3⟩ := C3
  refine F.ok scCheapest (fun vs H Q E h => ?_) (fun cdv A outer s H vs Q E hr h => ?_)
  · obtain ⟨a, h, g, s, goal, rfl, _⟩ := h
    rfl
  · obtain ⟨a, hd, g, s, goal, rfl, hs, hB, hH, hG, gl, few, q⟩ := h
    have nd := scCheapest.nd
    have hr1 : Room 1 _ := hr.mono (by decide)
    refine ⟨_, pss_cons (ps_set (i := 3) nd rfl (.inl rfl) (pe_lst pa_nil))
      (pss_cons (ps_for PassesOwn.never rfl (pi_list (pe_call G1 hr1 (by rfl) g1 k1 b1 .nil pass0 (pa_cons (pe_callB call_len_seq (by rfl) T.len PySem.boot_len (pa_cons (pv 0) pa_nil)) pa_nil))) (pg_name (i := 4) nd rfl (.inl rfl))
        (pss_one (ps_if (pt_val (pe_call G2 hr (by rfl) g2 k2 b2 .nil pass0 (pa_cons (pv 0) (pa_cons (pv 1) (pa_cons (pv 4) (pa_cons (pv 2) pa_nil))))))
          (pss_one (ps_expr (pe_bm PySem.F.plainAttrs_list PySem.F.slot_list_append PySem.F.type_list_append mt_append (pv 3) (pa_cons
            (pe_tup (pa_cons (pe_call G3 hr1 (by rfl) g3 k3 b3 .nil pass0 (pa_cons (pv 0) (pa_cons (pv 4) pa_nil))) (pa_cons (pe_callB call_len_seq (by rfl) T.len PySem.boot_len (pa_cons (pv 4) pa_nil)) (pa_cons (pv 4) pa_nil)))) pa_nil)))) pss_nil)))
      (pss_cons (ps_set (i := 5) nd rfl (.inl rfl) (pe_callB (cr_minT rfl hr.units) (by rfl) T.min (by decide +kernel) (pa_cons (pv 3) pa_nil)))
      (pss_one (ps_ret (pe_tup (pa_cons (pe_ix ix_tup (pv 5) pe_int (fun _ _ => rfl)) (pa_cons (pe_ix ix_tup (pv 5) pe_int (fun _ _ => rfl)) pa_nil))))))), ?_⟩
    obtain ⟨rs, hA, hAll⟩ := hB
    have hmany : (refs rs).length = Sy82.many s := by
      rw [refs_len, hAll.len]
      rfl
    have n8 : Sy82.many s ≤ 8 := hs.few
    refine ⟨Nat.zero_le _, fun fo nf => ?_⟩
    have s1 : Same H (upd H fo (.lst [])) := same_upd nf
    refine ⟨.ref a, rfl, a, _, rfl, .inl (SqL.of (s1 _ _ hA)), Sy82.many s, by rw [hmany]; rfl, n8, fun H1 lc s2 hC => ?_⟩
    obtain ⟨ls, nlc, hL, hAllL⟩ := hC
    have sm1 := s1.trans s2
    have eF1 : H1 fo = some (.lst []) := s2 _ _ upd_same
    have off : ∀ {b : Addr}, (upd H fo (.lst [])) b = none → b ≠ fo := fun h e => by
      rw [e, upd_same] at h
      cases h
    refine ⟨lc, rfl, ⟨_, SqL.of hL⟩, for_list (K := K) (a := lc) (xs := refs ls) (fun i σ H3 => ∃ y4, σ = [some (.ref a), some (.ref hd), some (.ref g), some (.ref fo), y4, none] ∧ Same H H3 ∧ H3 lc = some (.lst (refs ls)) ∧ All2 (FsAt (upd H fo (.lst [])) H3) ls (chs (Sy82.many s)) ∧
        ∃ ts, H3 fo = some (.lst (refs ts)) ∧ All2 (CandAt fo s H3) ts (((chs (Sy82.many s)).take i).filter fun c => goalOk goal (Sy82.opened s c)))
      ⟨none, rfl, sm1, hL, hAllL, [], eF1, All2.nil⟩ (fun i σ H3 _ ⟨_, _, _, e, _⟩ => SqL.of e) ?_ ?_⟩
    · rintro i x σ H3 hx ⟨y4, rfl, sm, eL, aL, ts, eF, aT⟩
      obtain ⟨r, hr0, rfl⟩ := refs_at hx
      obtain ⟨c, hc, nr, ec⟩ := aL.getL hr0
      have hcm := List.mem_of_getElem? hc
      have csz := chs_size hcm
      refine ⟨.ref a, rfl, .ref hd, rfl, .ref r, rfl, .ref g, rfl, a, hd, r, g, s, c, goal, rfl, hs, ⟨rs, sm _ _ hA, hAll.mono fun r b z => z.same sm⟩, sm _ _ hH, ec, sm _ _ hG, chs_low hcm, by omega, few, fun H4 s4 => ?_⟩
      have e4 := s4 _ _ eF
      refine ⟨_, rfl, ?_⟩
      rw [take_snoc hc, List.filter_append]
      cases ok : goalOk goal (Sy82.opened s c) with
      | false =>
        refine iteF ⟨_, rfl, sm.trans s4, s4 _ _ eL, All2.same (FsAt.same _) s4 aL, ts, e4, ?_⟩
        rw [List.filter_cons_of_neg (by rw [ok]; exact Bool.false_ne_true), List.filter_nil, List.append_nil]
        exact All2.same CandAt.same s4 aT
      | true =>
        refine iteT ?_
        have sm4 := sm.trans s4
        have er4 := s4 _ _ ec
        refine ⟨.ref fo, rfl, .inl ⟨rfl, _, SqL.of e4⟩, .ref a, rfl, .ref r, rfl, a, r, s, c, rfl, ⟨rs, sm4 _ _ hA, hAll.mono fun r b z => z.same sm4⟩, er4, chs_low hcm, by omega, fun H5 s5 => ?_⟩
        refine ⟨.ref r, rfl, r, _, rfl, .inl (SqL.of (s5 _ _ er4)), .ref r, rfl, three_ok _ _ _, fun tp nt => ?_⟩
        have s6 := same_upd (o := .tup [.int (Sy82.price s c : Nat), .int ((natV c).length : Nat), .ref r]) nt
        have s46 := s4.trans (s5.trans s6)
        have eF6 := s46 _ _ eF
        have tf : tp ≠ fo := fun e => by
          rw [e, s5 _ _ e4] at nt
          cases nt
        have tl : ts.length ≤ 256 := by
          rw [aT.len]
          refine Nat.le_trans (List.length_filter_le ..) ?_
          rw [List.length_take, chs_len]
          have := pow8 n8
          omega
        refine ⟨fo, _, _, rfl, rfl, eF6, ?_, ?_⟩
        · rw [refs_len]
          exact small (by omega)
        have keep : ∀ {b : Addr} {o : HO}, H3 b = some o → b ≠ fo → (upd (upd H5 tp (.tup [.int (Sy82.price s c : Nat), .int ((natV c).length : Nat), .ref r])) fo (.lst (refs ts ++ [.ref tp]))) b = some o := fun h ne => by
          rw [upd_ne ne]
          exact s46 _ _ h
        refine ⟨_, rfl, same_put (sm.trans s46) nf, keep eL (off nlc), ⟨aL.len, fun m b l h1 h2 => ?_⟩, ts ++ [tp], by rw [upd_same, refs_app]; rfl, ?_⟩
        · have z := aL.at_ m b l h1 h2
          exact ⟨z.1, keep z.2 (off z.1)⟩
        · rw [List.filter_cons_of_pos (by rw [ok]), List.filter_nil]
          refine All2.snoc ⟨aT.len, fun m b l h1 h2 => ?_⟩ ⟨r, off nr, ?_, keep ec (off nr)⟩
          · obtain ⟨r', n', z1, z2⟩ := aT.at_ m b l h1 h2
            refine ⟨r', n', keep z1 (ne_of z1 eF (by intro z; cases z)), keep z2 n'⟩
          · rw [upd_ne tf, upd_same, natV_len]
    · rintro σ H3 ⟨y4, rfl, sm, eL, aL, ts, eF, aT⟩
      rw [refs_len, aL.len, List.take_length] at aT
      have mem : ∀ c, c ∈ (chs (Sy82.many s)).filter (fun c => goalOk goal (Sy82.opened s c)) ↔ c ∈ chs (Sy82.many s) ∧ goalOk goal (Sy82.opened s c) = true := fun c => List.mem_filter
      have whole := (mem _).mpr ⟨range_chs (Sy82.many s), whole_ok gl⟩
      generalize (chs (Sy82.many s)).filter (fun c => goalOk goal (Sy82.opened s c)) = cs at aT mem whole
      have lenK : ts.length = (cs.map (keyI s)).length := by
        rw [aT.len, List.length_map]
      have zlen : (ts.zip (cs.map (keyI s))).length = cs.length := by
        rw [List.length_zip, lenK, List.length_map, Nat.min_self]
      have zmem : ∀ k ∈ ts.zip (cs.map (keyI s)), ∃ c ∈ cs, k.2 = keyI s c ∧ CandAt fo s H3 k.1 c := fun k hk => by
        obtain ⟨i, hi⟩ := List.getElem?_of_mem hk
        obtain ⟨h1, h2⟩ := List.getElem?_zip_eq_some.mp hi
        rw [List.getElem?_map] at h2
        cases e : cs[i]? with
        | none =>
          rw [e] at h2
          cases h2
        | some c =>
          rw [e] at h2
          exact ⟨c, List.mem_of_getElem? e, (Option.some.inj h2).symm, aT.at_ i _ c h1 e⟩
      have memz : ∀ c ∈ cs, ∃ k ∈ ts.zip (cs.map (keyI s)), k.2 = keyI s c := fun c hc => by
        obtain ⟨i, hi⟩ := List.getElem?_of_mem hc
        obtain ⟨t, ht, _⟩ := aT.get hi
        refine ⟨(t, keyI s c), List.mem_of_getElem? (i := i) (List.getElem?_zip_eq_some.mpr ⟨ht, ?_⟩), rfl⟩
        rw [List.getElem?_map, hi]
        rfl
      refine ⟨.ref fo, rfl, fo, ts.zip (cs.map (keyI s)), rfl, SqL.of (by rw [zip_refs ts _ lenK]; exact eF), ?_, fun k hk => ?_, fun k hk least => ?_⟩
      · rw [zlen]
        exact List.length_pos_of_mem whole
      · obtain ⟨c, _, e, z⟩ := zmem k hk
        rw [e]
        exact z.tri
      · obtain ⟨c, hc, e, r, _, z1, z2⟩ := zmem k hk
        have best : Sy82.cheapest s (goalOk goal) = some c := by
          obtain ⟨m1, m2⟩ := (mem c).mp hc
          refine cheapest_of m1 m2 fun d hd hp => ?_
          obtain ⟨k', hk', e'⟩ := memz d ((mem d).mpr ⟨hd, hp⟩)
          have z := least k' hk'
          rw [e, e'] at z
          unfold keyI at z
          rw [lex_cast] at z
          exact z
        refine ⟨.ref k.1, rfl, k.1, _, 0, _, rfl, rfl, SqT.of z1, atI_nat (j := 0) rfl, .ref k.1, rfl, k.1, _, 2, _, rfl, rfl, SqT.of z1, atI_nat (j := 2) rfl, two_ok _ _, fun p np => ?_⟩
        exact q _ p r c (same_put sm (sm.free np)) best upd_same (same_upd np _ _ z2)
/-! ### needed -/
abbrev sNeeded : Stmt := top 13
theorem scNeeded : FnScope ["boxes", "hand", "every", "number", "one"] ["boxes", "hand"] (defScope sNeeded) := ⟨rfl, rfl, rfl, by decide +kernel, rfl, by decide +kernel, by decide +kernel⟩
/-- the scope of the outer comprehension -/
def scTurn : Scope := { kind := .function, names := [(".0", .local), ("number", .cell), ("opens", .globalImplicit), ("boxes", .cell), ("every", .cell), ("hand", .cell)], isGenerator := false, isCoroutine := false }
def spNeeded : Sp := fun vs H Q _ => ∃ (a h : Addr) (s : Sy82.St), vs = [.ref a, .ref h] ∧ WS s ∧ BxsAt H a s.boxes ∧ NsAt H h s.held ∧ ∀ H' p, Same H H' → NsAt H' p (Sy82.needed s) → Q (.ref p) H'
theorem rgV_nat (n : Nat) : rgV 0 (n : Int) = natV (List.range n) := by
  unfold rgV natV
  rw [show ((n : Int) - 0).toNat = n by omega]
  refine List.map_congr_left fun i _ => ?_
  rw [Int.zero_add]
theorem ok_needed {f : Addr} {fd : FuncData} (F : Fun K "needed" "needed" sNeeded f fd) (T : Glb mg) (C2 : Has P w K mg base CX0 4 "opens" ["boxes", "hand", "choice", "goal"] spOpens) : FnOk P w K mg base CX0 5 f fd ["boxes", "hand"] spNeeded := by
  obtain ⟨f2, fd2, G2, g2, k2, b2⟩ := C2
  refine F.ok scNeeded (fun vs H Q E h => ?_) (fun cdv A outer s H vs Q E hr h => ?_)
  · obtain ⟨a, h, s, rfl, _⟩ := h
    rfl
  · obtain ⟨a, hd, s, rfl, hs, hB, hH, q⟩ := h
    have nd := scNeeded.nd
    refine ⟨_, pss_cons (ps_set (i := 2) nd rfl (.inr rfl) (pe_listRg rfl (by rfl) T.list (prg_1 (by rfl) T.range (pe_callB call_len_seq (by rfl) T.len PySem.boot_len (pa_cons (pv 0) pa_nil)))))
      (pss_one (ps_ret (pe_lc (own := [("number", 3)]) (g := gName 3)
        (tt := tNot (tB (tCall spOpens [] E0 (tCons (tVar 0) (tCons (tVar 1) (tCons (tLc (iList K (tVar 2)) (gName 4) (tTest (tOp rNe (tVar 4) (tVar 3))) (tVar 4) [4]) (tCons (tVar 2) tNil)))))))
        rfl nd (pi_list (pv 2)) (blkOk_by (N := ["boxes", "hand", "every", "number", "one"]) (sc := defScope sNeeded) (by decide +kernel))
        (fun _ _ _ _ _ => pg_name (i := 3) nd rfl (Or.inr rfl))
        (fun _ _ _ _ _ => pts_one (pt_not (pt_val (by exact pe_call G2 hr (by rfl) g2 k2 b2 .nil pass0 (pa_cons (pv 0) (pa_cons (pv 1) (pa_cons
          (pe_lc (own := [("one", 4)]) (g := gName 4) rfl nd (pi_list (pv 2)) (blkOk_by (N := ["boxes", "hand", "every", "number", "one"]) (sc := scTurn) (by decide +kernel))
            (fun _ _ _ _ _ => pg_name (i := 4) nd rfl (Or.inl rfl)) (fun _ _ _ _ _ => pts_one (pt_cmpR op_ne (pv 4) (pv 3) (nomark _))) (fun _ _ _ _ _ => pv 4))
          (pa_cons (pv 2) pa_nil)))))))) (fun _ _ _ _ _ => pv 3)))), ?_⟩
    obtain ⟨rs, hA, hAll⟩ := hB
    have hmany : (refs rs).length = Sy82.many s := by
      rw [refs_len, hAll.len]
      rfl
    have n8 : Sy82.many s ≤ 8 := hs.few
    refine ⟨.ref a, rfl, a, _, rfl, .inl (SqL.of hA), (Sy82.many s : Nat), by rw [hmany], RgOk.of_le (by omega) (by omega) (by omega) (by omega), fun ev ne => ?_⟩
    rw [rgV_nat]
    have s1 : Same H (upd H ev (.lst (natV (List.range (Sy82.many s))))) := same_upd ne
    have eE : (upd H ev (.lst (natV (List.range (Sy82.many s))))) ev = some (.lst (natV (List.range (Sy82.many s)))) := upd_same
    generalize upd H ev (.lst (natV (List.range (Sy82.many s)))) = H1 at s1 eE
    refine ⟨.ref ev, rfl, ev, rfl, ⟨_, SqL.of eE⟩, fun D nD => lc_list (K := K) (a := ev) (xs := natV (List.range (Sy82.many s)))
      (fun j H4 => Same H1 H4 ∧ H4 D = some (.lst (natV (((List.range (Sy82.many s)).take j).filter fun (k : Nat) => !Sy82.all_ s (Sy82.opened s ((List.range (Sy82.many s)).filter fun (i : Nat) => i != k))))))
      ⟨same_upd nD, upd_same⟩ (fun j H4 _ ⟨s4, _⟩ => SqL.of (s4 _ _ eE)) ?_ ?_⟩
    · rintro j x H4 hx ⟨s4, eD⟩
      obtain ⟨k, hk, rfl⟩ := at_natV hx
      have eE4 := s4 _ _ eE
      refine ⟨rfl, .ref a, rfl, .ref hd, rfl, .ref ev, rfl, ev, rfl, ⟨_, SqL.of eE4⟩, fun D2 nD2 => lc_list (K := K) (a := ev) (xs := natV (List.range (Sy82.many s)))
        (fun m H5 => Same H4 H5 ∧ H5 D2 = some (.lst (natV (((List.range (Sy82.many s)).take m).filter fun (i : Nat) => i != k))))
        ⟨same_upd nD2, upd_same⟩ (fun m H5 _ ⟨s5, _⟩ => SqL.of (s5 _ _ eE4)) ?_ ?_⟩
      · rintro m y H5 hy ⟨s5, eD2⟩
        obtain ⟨i, hi, rfl⟩ := at_natV hy
        refine ⟨rfl, .int (i : Nat), rfl, .int (k : Nat), rfl, rfl, _, rfl, ?_⟩
        rw [ne_int, take_snoc hi, List.filter_append]
        by_cases c : i = k
        · rw [decide_eq_true c, List.filter_cons_of_neg (by simp [c]), List.filter_nil, List.append_nil]
          exact iteF ⟨s5, eD2⟩
        · rw [decide_eq_false c, List.filter_cons_of_pos (by simp [c]), List.filter_nil]
          refine iteT ⟨.int (i : Nat), rfl, _, eD2, ?_, same_put s5 nD2, ?_⟩
          · rw [natV_len]
            have h1 := List.length_filter_le (fun (i : Nat) => i != k) ((List.range (Sy82.many s)).take m)
            rw [List.length_take, List.length_range] at h1
            exact small (by omega)
          · rw [upd_same, natV_app]
            rfl
      · rintro H5 ⟨s5, eD2⟩
        rw [natV_len, List.take_length] at eD2
        have sm5 := s1.trans (s4.trans s5)
        refine ⟨.ref ev, rfl, a, hd, D2, ev, s, _, List.range (Sy82.many s), rfl, hs, ⟨rs, sm5 _ _ hA, hAll.mono fun r b z => z.same sm5⟩, sm5 _ _ hH, eD2, s5 _ _ eE4, fun i hi => List.mem_range.mp (List.mem_filter.mp hi).1, ?_, ?_, fun H6 s6 => ?_⟩
        · have h1 := List.length_filter_le (fun (i : Nat) => i != k) (List.range (Sy82.many s))
          rw [List.length_range] at h1
          omega
        · rw [List.length_range]
          omega
        · refine ⟨_, rfl, ?_⟩
          have s46 := s5.trans s6
          have eD6 := s46 _ _ eD
          rw [take_snoc hk, List.filter_append, goal_all]
          cases c : Sy82.all_ s (Sy82.opened s ((List.range (Sy82.many s)).filter fun (i : Nat) => i != k)) with
          | true =>
            rw [List.filter_cons_of_neg (by rw [c]; exact Bool.false_ne_true), List.filter_nil, List.append_nil]
            exact iteF ⟨s4.trans s46, eD6⟩
          | false =>
            rw [List.filter_cons_of_pos (by rw [c]; rfl), List.filter_nil]
            refine iteT ⟨.int (k : Nat), rfl, _, eD6, ?_, same_put (s4.trans s46) nD, ?_⟩
            · rw [natV_len]
              refine small (Nat.le_trans (List.length_filter_le ..) ?_)
              rw [List.length_take, List.length_range]
              omega
            · rw [upd_same, natV_app]
              rfl
    · rintro H4 ⟨s4, eD⟩
      rw [natV_len, List.take_length] at eD
      exact q H4 D (s1.trans s4) eD
/-! ### follow -/
abbrev sFollow : Stmt := top 14
theorem scFollow : FnScope ["boxes", "hand", "number", "ahead", "one"] ["boxes", "hand", "number"] (defScope sFollow) := ⟨rfl, rfl, rfl, by decide +kernel, rfl, by decide +kernel, by decide +kernel⟩
def spFollow : Sp := fun vs H Q _ => ∃ (a h : Addr) (s : Sy82.St) (k : Nat), vs = [.ref a, .ref h, .int (k : Nat)] ∧ WS s ∧ BxsAt H a s.boxes ∧ NsAt H h s.held ∧ k < Sy82.many s ∧ ∀ H' p, Same H H' → NsAt H' p (Sy82.follow s k) → Q (.ref p) H'
theorem ok_follow {f : Addr} {fd : FuncData} (F : Fun K "follow" "follow" sFollow f fd) (C : Has P w K mg base CX0 3 "opened" ["boxes", "hand", "broken"] spOpened) : FnOk P w K mg base CX0 4 f fd ["boxes", "hand", "number"] spFollow := by
  obtain ⟨fc, fdc, Gc, gc, kc, bc⟩ := C
  refine F.ok scFollow (fun vs H Q E h => ?_) (fun cdv A outer s H vs Q E hr h => ?_)
  · obtain ⟨a, h, s, k, rfl, _⟩ := h
    rfl
  · obtain ⟨a, hd, s, k, rfl, hs, hB, hH, hk, q⟩ := h
    have nd := scFollow.nd
    refine ⟨_, pss_cons (ps_set (i := 3) nd rfl (.inr rfl) (pe_call Gc hr (by rfl) gc kc bc .nil pass0 (pa_cons (pv 0) (pa_cons (pv 1) (pa_cons (pe_lst pa_nil) pa_nil)))))
      (pss_one (ps_ret (pe_lc (own := [("one", 4)]) (g := gName 4) (tt := tTest (tOp (rIn K true) (tVar 4) (tVar 3))) rfl nd
        (pi_list (pe_call Gc hr (by rfl) gc kc bc .nil pass0 (pa_cons (pv 0) (pa_cons (pv 1) (pa_cons (pe_lst (pa_cons (pv 2) pa_nil)) pa_nil)))))
        (blkOk_by (N := ["boxes", "hand", "number", "ahead", "one"]) (sc := defScope sFollow) (by decide +kernel))
        (fun _ _ _ _ _ => pg_name (i := 4) nd rfl (Or.inl rfl)) (fun _ _ _ _ _ => pts_one (by exact pt_cmpR op_notIn_seq (pv 4) (pv 3) (by rfl))) (fun _ _ _ _ _ => pv 4)))), ?_⟩
    refine ⟨.ref a, rfl, .ref hd, rfl, Nat.zero_le _, fun p1 n1 => ?_⟩
    have s1 : Same H (upd H p1 (.lst [])) := same_upd n1
    refine ⟨a, hd, p1, s, [], rfl, hs, hB.same s1, s1 _ _ hH, upd_same, fun i hi => (by simp at hi), Nat.zero_le _, fun H2 ah s2 eA => ?_⟩
    have s12 := s1.trans s2
    refine ⟨.ref a, rfl, .ref hd, rfl, .int (k : Nat), rfl, one_ok _, fun p3 n3 => ?_⟩
    have s3 := same_upd (o := .lst [.int (k : Nat)]) n3
    have s13 := s12.trans s3
    refine ⟨a, hd, p3, s, [k], rfl, hs, hB.same s13, s13 _ _ hH, upd_same, fun i hi => ?_, Nat.le_add_left _ _, fun H4 op s4 eO => ?_⟩
    · rw [List.mem_singleton.mp hi]
      exact hk
    have eA4 := s4 _ _ (s3 _ _ eA)
    have olen : (Sy82.opened s [k]).length ≤ 1 + 8 := by
      have h1 := run_len s (Sy82.many s) [k]
      have h2 : Sy82.many s ≤ 8 := hs.few
      rw [List.length_singleton] at h1
      unfold Sy82.opened
      omega
    refine ⟨op, rfl, ⟨_, SqL.of eO⟩, fun D nD => lc_list (K := K) (a := op) (xs := natV (Sy82.opened s [k]))
      (fun j H5 => Same H4 H5 ∧ H5 D = some (.lst (natV (((Sy82.opened s [k]).take j).filter fun (i : Nat) => !(Sy82.opened s []).contains i))))
      ⟨same_upd nD, upd_same⟩ (fun j H5 _ ⟨s5, _⟩ => SqL.of (s5 _ _ eO)) ?_ ?_⟩
    · rintro j x H5 hx ⟨s5, eD⟩
      obtain ⟨i, hi, rfl⟩ := at_natV hx
      refine ⟨rfl, .int (i : Nat), rfl, .ref ah, rfl, ah, _, rfl, .inl (SqL.of (s5 _ _ eA4)), rfl, natV_flat _, _, rfl, ?_⟩
      rw [if_pos rfl, in_natV, take_snoc hi, List.filter_append]
      cases c : (Sy82.opened s []).contains i with
      | true =>
        rw [List.filter_cons_of_neg (by rw [c]; exact Bool.false_ne_true), List.filter_nil, List.append_nil]
        exact iteF ⟨s5, eD⟩
      | false =>
        rw [List.filter_cons_of_pos (by rw [c]; rfl), List.filter_nil]
        refine iteT ⟨.int (i : Nat), rfl, _, eD, ?_, same_put s5 nD, ?_⟩
        · rw [natV_len]
          refine small (Nat.le_trans (List.length_filter_le ..) ?_)
          rw [List.length_take]
          omega
        · rw [upd_same, natV_app]
          rfl
    · rintro H5 ⟨s5, eD⟩
      rw [natV_len, List.take_length] at eD
      exact q H5 D (s13.trans (s4.trans s5)) eD
end
end Bk

/-! # desk.py: Refused, must, listed; how the desk lies in the heap -/
namespace Bk
open PySem PySem.Spec PyProof.Rows L2 BkR
/-- what the top has written of the error's class -/
structure XTxt (K : PySem.W.Frag) (mg : Str → Option Value) (CF fI : Addr) : Prop where
  oex : OexC K CF
  noN : PySem.W.findIn K (.ref CF) "number" = some none
  vV : PySem.W.findCls K (.type "ValueError") (.type "type") "__init__" = some (.val (.builtin "ValueError.__init__"))
  iC : PySem.W.findIn K (.ref CF) "__init__" = some (some (.ref fI))
  tI : PySem.W.typeIn K (.ref fI) = some (.type "function")
  gF : mg "Refused" = some (.ref CF)
  xf : XfC K CF
  te : PySem.W.exmOne K (.ref CF) (.ref CF) = some true
/-- the def's own way out: refused with the number n -/
def Rz (CF : Addr) (H : Hp) (E : XK) (n : Int) : Prop := ∀ (H' : Hp) (d : Addr) (fs : List (Str × V)), Same H H' → H' d = some (.xd fs) → fs.lookup ("number" : Str) = some (.int n) → E (.ref CF) (some d) H'
theorem Rz.mono {CF : Addr} {H H1 : Hp} {E : XK} {n : Int} (s : Same H H1) (h : Rz CF H E n) : Rz CF H1 E n := fun H' d fs s' => h H' d fs (s.trans s')
theorem lk_here {k : Str} {v : V} {r : List (Str × V)} : List.lookup k ((k, v) :: r) = some v := by
  have e : (k == k) = true := beq_self_eq_true k
  simp only [List.lookup, e]
theorem lk_past {k g : Str} {v : V} {r : List (Str × V)} (h : (k == g) = false) : List.lookup k ((g, v) :: r) = List.lookup k r := by
  simp only [List.lookup, h]
theorem put_here {f : Str} {v x : V} {r : List (Str × V)} : putF f v ((f, x) :: r) = (f, v) :: r := if_pos rfl
theorem put_past {f g : Str} {v x : V} {r : List (Str × V)} (h : ¬ g = f) : putF f v ((g, x) :: r) = (g, x) :: putF f v r := if_neg h
theorem if_true_of {c : Bool} {A B : Prop} (hc : c = true) (h : A) : if c = true then A else B := by
  rw [if_pos hc]
  exact h
theorem if_false_of {c : Bool} {A B : Prop} (hc : c = false) (h : B) : if c = true then A else B := by
  rw [hc, if_neg Bool.false_ne_true]
  exact h
section
variable {P : Program} {w : World} {K : PySem.W.Frag} {mg : Str → Option Value} {base : Heap}
theorem passX {N : List Str} {q : Str} {sc : Scope} {f : Addr} {cdv : Value} {A : Around} {outer : List Env} {s : Shared} {H : Hp} {E : XK} : Passes (L2.CX P w) (cxOf (L2.CX P w) P w K mg base N q sc f cdv A outer s H E) E := passes_call (takes_of rfl rfl rfl rfl) fun _ _ _ _ h => h
/-! ### Refused -/
abbrev sRefI : Stmt := inClass (top 23) 0
theorem scRefI : FnScope ["self", "number"] ["self", "number"] (defScope sRefI) := ⟨rfl, rfl, rfl, by decide +kernel, rfl, by decide +kernel, by decide +kernel⟩
def spRefI (CF : Addr) : Sp := fun vs H Q _ => ∃ (a : Addr) (n : Int), vs = [.ref a, .int n] ∧ H a = some (exo a CF none) ∧ ∀ dx, H dx = none → dx ≠ a → Q .non (upd (upd H dx (exd dx [(("number" : Str), .int n)])) a (exo a CF (some dx)))
theorem ok_refI {CF fI : Addr} {fd : FuncData} (F : Fun K "__init__" "Refused.__init__" sRefI fI fd) (T : Glb mg) (X : XTxt K mg CF fI) : FnOk P w K mg base CX0 1 fI fd ["self", "number"] (spRefI CF) := by
  refine F.ok scRefI (fun vs H Q E h => ?_) (fun cdv A outer s H vs Q E hr h => ?_)
  · obtain ⟨a, n, rfl, _⟩ := h
    rfl
  · obtain ⟨a, n, rfl, ha, q⟩ := h
    refine ⟨_, pss_cons (ps_expr (pe_veinit (by rfl) T.ve X.vV (pa_cons (pv 0) (pa_cons pe_str pa_nil)))) (pss_one (ps_ost (pv 0) (pv 1))), ?_⟩
    refine ⟨.ref a, rfl, a, CF, _, rfl, (show 1 ≤ 1000 by decide), X.oex, ha, .int n, rfl, .ref a, rfl, a, CF, rfl, X.oex, X.noN, .inl ⟨ha, fun dx nd ne => q dx nd ne⟩⟩
/-! ### must -/
abbrev sMust : Stmt := top 24
theorem scMust : FnScope ["truth", "number"] ["truth", "number"] (defScope sMust) := ⟨rfl, rfl, rfl, by decide +kernel, rfl, by decide +kernel, by decide +kernel⟩
def spMust (CF : Addr) : Sp := fun vs H Q E => ∃ (b : Bool) (n : Int), vs = [.bl b, .int n] ∧ (b = true → Q .non H) ∧ (b = false → Rz CF H E n)
theorem ok_must {f CF fI : Addr} {fd fdI : FuncData} (F : Fun K "must" "must" sMust f fd) (X : XTxt K mg CF fI) (GI : FnOk P w K mg base CX0 1 fI fdI ["self", "number"] (spRefI CF)) (bI : Binds K fdI ["self", "number"] []) :
    FnOk P w K mg base (L2.CX P w) 3 f fd ["truth", "number"] (spMust CF) := by
  refine F.okX scMust (fun vs H Q E h => ?_) (fun cdv A outer s H vs Q E hr h => ?_)
  · obtain ⟨b, n, rfl, _⟩ := h
    rfl
  · obtain ⟨b, n, rfl, q1, q2⟩ := h
    refine ⟨_, pss_one (ps_if (pt_not (pt_val (pv 0))) (pss_one (ps_raise rfl (takes_of rfl rfl rfl rfl) (pmk_oex X.oex X.iC X.tI GI hr bI .nil pass0 (by rfl) X.gF (pa_cons (pv 1) pa_nil)))) pss_nil), ?_⟩
    refine ⟨_, rfl, b, rfl, ?_⟩
    cases b with
    | true => exact iteF (q1 rfl)
    | false =>
      refine iteT ⟨.int n, rfl, (show 1 ≤ 1000 by decide), fun a na => ?_⟩
      refine ⟨a, n, rfl, upd_same, fun dx nd ne => ?_⟩
      have nd0 : H dx = none := by
        rw [upd_ne ne] at nd
        exact nd
      refine ⟨rfl, dx, _, upd_same, by rw [upd_ne ne, upd_same], nd0, q2 rfl _ dx _ (fun b o e => ?_) upd_same lk_here⟩
      have n1 := ne_of_none e na
      have n2 := ne_of_none e nd0
      rw [upd_ne n2, del_ne n1, upd_ne n1, upd_ne n2, upd_ne n1]
      exact e
/-! ### listed -/
abbrev sListed : Stmt := top 25
theorem scListed : FnScope ["some"] ["some"] (defScope sListed) := ⟨rfl, rfl, rfl, by decide +kernel, rfl, by decide +kernel, by decide +kernel⟩
def spListed : Sp := fun vs H Q _ => ∃ (a : Addr) (xs : List V), vs = [.ref a] ∧ H a = some (.lst xs) ∧ xs.length ≤ 10000 ∧ ∀ H' p, Same H H' → H' p = some (.lst (.int (xs.length : Nat) :: xs)) → Q (.ref p) H'
theorem ok_listed {f : Addr} {fd : FuncData} (F : Fun K "listed" "listed" sListed f fd) (T : Glb mg) : FnOk P w K mg base CX0 1 f fd ["some"] spListed := by
  refine F.ok scListed (fun vs H Q E h => ?_) (fun cdv A outer s H vs Q E hr h => ?_)
  · obtain ⟨a, xs, rfl, _⟩ := h
    rfl
  · obtain ⟨a, xs, rfl, ha, few, q⟩ := h
    refine ⟨_, pss_one (ps_ret (pe_op op_cat (pe_lst (pa_cons (pe_callB call_len_seq (by rfl) T.len PySem.boot_len (pa_cons (pv 0) pa_nil)) pa_nil)) (pv 0))), ?_⟩
    refine ⟨.ref a, rfl, a, xs, rfl, .inl (SqL.of ha), one_ok _, fun p1 n1 => ?_⟩
    have s1 : Same H (upd H p1 (.lst [.int (xs.length : Nat)])) := same_upd n1
    refine ⟨.ref a, rfl, p1, a, _, xs, rfl, rfl, upd_same, s1 _ _ ha, ?_, fun p2 n2 => ?_⟩
    · exact smallE (by simp; omega)
    · exact q _ p2 (same_put s1 (s1.free n2)) upd_same
end
/-! ### the desk -/
def deskF (a h : Addr) : List (Str × V) := [("boxes", .ref a), ("hand", .ref h)]
theorem deskF_boxes (a h : Addr) : (deskF a h).lookup ("boxes" : Str) = some (.ref a) := lk_here
theorem deskF_hand (a h : Addr) : (deskF a h).lookup ("hand" : Str) = some (.ref h) := (lk_past (by decide +kernel)).trans lk_here
theorem deskF_no {a h : Addr} {m : Str} (h1 : (m == ("boxes" : Str)) = false) (h2 : (m == ("hand" : Str)) = false) : (deskF a h).lookup m = none := (lk_past h1).trans ((lk_past h2).trans rfl)
theorem deskF_putB (a h a' : Addr) : putF "boxes" (.ref a') (deskF a h) = deskF a' h := put_here
theorem deskF_putH (a h h' : Addr) : putF "hand" (.ref h') (deskF a h) = deskF a h' := (put_past (by decide +kernel)).trans (congrArg _ put_here)
theorem deskF_new (a h : Addr) : putF "hand" (.ref h) (putF "boxes" (.ref a) []) = deskF a h := (put_past (by decide +kernel)).trans rfl
/-- the desk at d stands for s -/
def DeskAt (C : Addr) (H : Hp) (d : Addr) (s : Sy82.St) : Prop := ∃ dx a h, H d = some (.ins C dx (deskF a h)) ∧ BxsAt H a s.boxes ∧ NsAt H h s.held
theorem DeskAt.same {C : Addr} {H H' : Hp} {d : Addr} {s : Sy82.St} (sm : Same H H') (h : DeskAt C H d s) : DeskAt C H' d s := by
  obtain ⟨dx, a, hd, h1, h2, h3⟩ := h
  exact ⟨dx, a, hd, sm _ _ h1, h2.same sm, sm _ _ h3⟩
/-- all but d stands as it stood -/
def But (d : Addr) (H H' : Hp) : Prop := ∀ b o, H b = some o → b ≠ d → H' b = some o
theorem Same.but {d : Addr} {H H' : Hp} (s : Same H H') : But d H H' := fun b o e _ => s b o e
theorem But.free {d p : Addr} {H H' : Hp} (b : But d H H') {o : HO} (n : H' p = none) (hd : H' d = some o) : H p = none := by
  cases e : H p with
  | none => rfl
  | some x =>
    by_cases c : p = d
    · rw [c, hd] at n
      cases n
    · rw [b p x e c] at n
      cases n
theorem But.trans {d : Addr} {H H1 H2 : Hp} (a : But d H H1) (b : But d H1 H2) : But d H H2 := fun c o e n => b c o (a c o e n) n
/-- what an answer is as a list of values -/
def outV (a : Sy82.Ans) : List V := (Sy82Neutral.out a).map V.int
/-- what becomes of a call -/
def Fate (C CF d : Addr) (s : Sy82.St) (H : Hp) (Q : VK) (E : XK) (r : Sy82.St × Sy82.Ans) : Prop :=
  (∀ n, r = (s, Sy82.ok n) → Rz CF H E n) ∧ ∀ H' p, H p = none → DeskAt C H' d r.1 → But d H H' → H' p = some (.lst (outV r.2)) → Q (.ref p) H'
theorem Fate.no {C CF d : Addr} {s : Sy82.St} {H H1 : Hp} {Q : VK} {E : XK} {r : Sy82.St × Sy82.Ans} (h : Fate C CF d s H Q E r) (sm : Same H H1) {n : Int} (e : r = (s, Sy82.ok n)) : Rz CF H1 E n := (h.1 n e).mono sm
theorem Fate.yes {C CF d : Addr} {s : Sy82.St} {H : Hp} {Q : VK} {E : XK} {r : Sy82.St × Sy82.Ans} (h : Fate C CF d s H Q E r) {H' : Hp} {p : Addr} {t : Sy82.St} {a : Sy82.Ans} (e : r = (t, a)) (np : H p = none) (hd : DeskAt C H' d t) (b : But d H H') (hp : H' p = some (.lst (outV a))) : Q (.ref p) H' := by
  subst e
  exact h.2 H' p np hd b hp
theorem outV_ok (n : Int) : outV (Sy82.ok n) = [.int n] := rfl
theorem outV_one (n : Int) (l : List Nat) : outV ⟨n, [Sy82.ints l]⟩ = .int n :: .int (l.length : Nat) :: natV l := by
  unfold outV Sy82Neutral.out
  show V.int n :: List.map V.int (((Sy82.ints l).length : Int) :: Sy82.ints l ++ []) = _
  rw [List.append_nil, List.map_cons]
  unfold Sy82.ints
  rw [← natV_map, List.length_map]
/-- what the top has written of the desk's class -/
structure DTxt (K : PySem.W.Frag) (C : Addr) : Prop where
  cl : Cls K C
  nB : NoAttr K C "boxes"
  nH : NoAttr K C "hand"
/-- a method that keeps its promise -/
def HasM (P : Program) (w : World) (K : PySem.W.Frag) (mg : Str → Option Value) (base : Heap) (C : Addr) (CX : CXT) (k : Nat) (m : Str) (ps : List Str) (sp : Sp) : Prop :=
  ∃ f fd, FnOk P w K mg base CX k f fd ps sp ∧ Meth K C m f ∧ Binds K fd ps []
section
variable {P : Program} {w : World} {K : PySem.W.Frag} {mg : Str → Option Value} {base : Heap} {C CF : Addr}
/-! ### Desk.__init__, begins -/
abbrev sDesk (i : Nat) : Stmt := inClass (top 26) i
theorem scInit : FnScope ["self"] ["self"] (defScope (sDesk 0)) := ⟨rfl, rfl, rfl, by decide +kernel, rfl, by decide +kernel, by decide +kernel⟩
def spInit (C : Addr) : Sp := fun vs H Q _ => ∃ (d dx : Addr), vs = [.ref d] ∧ H d = some (.ins C dx []) ∧ ∀ H', DeskAt C H' d Sy82.init → But d H H' → Q .non H'
theorem ok_init {f : Addr} {fd : FuncData} (F : Fun K "__init__" "Desk.__init__" (sDesk 0) f fd) (T : DTxt K C) : FnOk P w K mg base CX0 1 f fd ["self"] (spInit C) := by
  refine F.ok scInit (fun vs H Q E h => ?_) (fun cdv A outer s H vs Q E hr h => ?_)
  · obtain ⟨d, dx, rfl, _⟩ := h
    rfl
  · obtain ⟨d, dx, rfl, hd, q⟩ := h
    refine ⟨_, pss_cons (ps_fld (pv 0) (pe_lst pa_nil) rfl) (pss_one (ps_fld (pv 0) (pe_lst pa_nil) rfl)), ?_⟩
    refine ⟨Nat.zero_le _, fun p1 n1 => ⟨.ref d, rfl, d, C, dx, [], rfl, same_upd n1 _ _ hd, T.cl, T.nB, (by show 0 < 1000; decide), ?_⟩⟩
    have nd1 : d ≠ p1 := ne_of_none hd n1
    refine ⟨Nat.zero_le _, fun p2 n2 => ?_⟩
    have n2d : d ≠ p2 := fun e => by
      rw [← e, upd_same] at n2
      cases n2
    have n21 : p1 ≠ p2 := fun e => by
      rw [← e, upd_ne nd1.symm, upd_same] at n2
      cases n2
    refine ⟨.ref d, rfl, d, C, dx, _, rfl, by rw [upd_ne n2d, upd_same], T.cl, T.nH, (by show 1 < 1000; decide), ?_⟩
    refine q _ ⟨dx, p1, p2, ?_, ⟨[], ?_, All2.nil⟩, ?_⟩ fun b o e ne => ?_
    · rw [upd_same, deskF_new]
    · rw [upd_ne nd1.symm, upd_ne n21, upd_ne nd1.symm, upd_same]
      rfl
    · unfold NsAt
      rw [upd_ne n2d.symm, upd_same]
      rfl
    · have b1 := ne_of_none e n1
      have b2 : b ≠ p2 := fun z => by
        rw [z] at e b1 ne
        rw [upd_ne ne, upd_ne b1, e] at n2
        cases n2
      rw [upd_ne ne, upd_ne b2, upd_ne ne, upd_ne b1]
      exact e
theorem scBegins : FnScope ["self"] ["self"] (defScope (sDesk 1)) := ⟨rfl, rfl, rfl, by decide +kernel, rfl, by decide +kernel, by decide +kernel⟩
def spBegins (C CF : Addr) : Sp := fun vs H Q E => ∃ (d : Addr) (s : Sy82.St), vs = [.ref d] ∧ DeskAt C H d s ∧ Fate C CF d s H Q E (Sy82.step s .begins)
theorem ok_begins {f : Addr} {fd : FuncData} (F : Fun K "begins" "Desk.begins" (sDesk 1) f fd) (T : DTxt K C) : FnOk P w K mg base (L2.CX P w) 1 f fd ["self"] (spBegins C CF) := by
  refine F.okX scBegins (fun vs H Q E h => ?_) (fun cdv A outer s H vs Q E hr h => ?_)
  · obtain ⟨d, s, rfl, _⟩ := h
    rfl
  · obtain ⟨d, s, rfl, ⟨dx, a, hd, e1, e2, e3⟩, q⟩ := h
    refine ⟨_, pss_cons (ps_fld (pv 0) (pe_lst pa_nil) rfl) (pss_cons (ps_fld (pv 0) (pe_lst pa_nil) rfl) (pss_one (ps_ret (pe_lst (pa_cons pe_int pa_nil))))), ?_⟩
    refine ⟨Nat.zero_le _, fun p1 n1 => ⟨.ref d, rfl, d, C, dx, _, rfl, same_upd n1 _ _ e1, T.cl, T.nB, (by show 2 < 1000; decide), ?_⟩⟩
    have nd1 : d ≠ p1 := ne_of_none e1 n1
    refine ⟨Nat.zero_le _, fun p2 n2 => ?_⟩
    have n2d : d ≠ p2 := fun e => by
      rw [← e, upd_same] at n2
      cases n2
    have n21 : p1 ≠ p2 := fun e => by
      rw [← e, upd_ne nd1.symm, upd_same] at n2
      cases n2
    refine ⟨.ref d, rfl, d, C, dx, _, rfl, by rw [upd_ne n2d, upd_same], T.cl, T.nH, (by show 2 < 1000; decide), ?_⟩
    rw [deskF_putB, deskF_putH]
    refine ⟨one_ok _, fun p3 n3 => ?_⟩
    have s3 := same_upd (o := .lst [.int 0]) n3
    have bt : But d H (upd (upd (upd (upd H p1 (.lst [])) d (.ins C dx (deskF p1 hd))) p2 (.lst [])) d (.ins C dx (deskF p1 p2))) := fun b o e ne => by
      have b1 := ne_of_none e n1
      have b2 : b ≠ p2 := fun z => by
        rw [z] at e b1 ne
        rw [upd_ne ne, upd_ne b1, e] at n2
        cases n2
      rw [upd_ne ne, upd_ne b2, upd_ne ne, upd_ne b1]
      exact e
    refine q.yes (t := Sy82.init) (a := Sy82.ok 0) rfl (bt.free n3 upd_same) ⟨dx, p1, p2, s3 _ _ upd_same, ⟨[], s3 _ _ ?_, All2.nil⟩, s3 _ _ ?_⟩ (But.trans bt (Same.but s3)) upd_same
    · rw [upd_ne nd1.symm, upd_ne n21, upd_ne nd1.symm, upd_same]
      rfl
    · rw [upd_ne n2d.symm, upd_same]
      rfl
end
end Bk

/-! # desk.py: look, every, box, change, key, look_key, out, hold -/
namespace Bk
open PySem PySem.Spec PyProof.Rows L2 BkR
theorem DeskAt.put {C : Addr} {H : Hp} {d dx a h : Addr} {s : Sy82.St} {p : Addr} (e1 : H d = some (.ins C dx (deskF a h))) (hB : BxsAt H p s.boxes) (hH : NsAt H h s.held) : DeskAt C (upd H d (.ins C dx (deskF p h))) d s := by
  have off : ∀ {b : Addr} {o : HO}, H b = some o → (∀ dx f, o ≠ .ins C dx f) → (upd H d (.ins C dx (deskF p h))) b = some o := fun {b o} e n => by
    rw [upd_ne (ne_of e e1 (n _ _))]
    exact e
  obtain ⟨rs, h1, h2⟩ := hB
  refine ⟨dx, p, h, upd_same, ⟨rs, off h1 (by intro _ _ z; cases z), h2.mono fun r b ⟨k, z1, z2⟩ => ⟨k, off z1 (by intro _ _ z; cases z), off z2 (by intro _ _ z; cases z)⟩⟩, off hH (by intro _ _ z; cases z)⟩
theorem DeskAt.putH {C : Addr} {H : Hp} {d dx a h : Addr} {s : Sy82.St} {p : Addr} (e1 : H d = some (.ins C dx (deskF a h))) (hB : BxsAt H a s.boxes) (hH : NsAt H p s.held) : DeskAt C (upd H d (.ins C dx (deskF a p))) d s := by
  have off : ∀ {b : Addr} {o : HO}, H b = some o → (∀ dx f, o ≠ .ins C dx f) → (upd H d (.ins C dx (deskF a p))) b = some o := fun {b o} e n => by
    rw [upd_ne (ne_of e e1 (n _ _))]
    exact e
  obtain ⟨rs, h1, h2⟩ := hB
  refine ⟨dx, a, p, upd_same, ⟨rs, off h1 (by intro _ _ z; cases z), h2.mono fun r b ⟨k, z1, z2⟩ => ⟨k, off z1 (by intro _ _ z; cases z), off z2 (by intro _ _ z; cases z)⟩⟩, off hH (by intro _ _ z; cases z)⟩
theorem but_upd {H : Hp} {d : Addr} {o : HO} : But d H (upd H d o) := fun b x e n => by
  rw [upd_ne n]
  exact e
theorem lt_int {m n : Nat} : decide (((m : Nat) : Int) < (n : Int)) = decide (m < n) := by
  by_cases c : m < n
  · rw [decide_eq_true c, decide_eq_true (by omega)]
  · rw [decide_eq_false c, decide_eq_false (by omega)]
theorem le_int {m n : Nat} : decide (((m : Nat) : Int) ≤ (n : Int)) = decide (m ≤ n) := by
  by_cases c : m ≤ n
  · rw [decide_eq_true c, decide_eq_true (by omega)]
  · rw [decide_eq_false c, decide_eq_false (by omega)]
section
variable {P : Program} {w : World} {K : PySem.W.Frag} {mg : Str → Option Value} {base : Heap} {C CF : Addr}
/-! ### look -/
theorem scLook : FnScope ["self", "some", "number"] ["self", "some"] (defScope (sDesk 2)) := ⟨rfl, rfl, rfl, by decide +kernel, rfl, by decide +kernel, by decide +kernel⟩
def spLook (C CF : Addr) : Sp := fun vs H Q E => ∃ (d l : Addr) (s : Sy82.St) (xs : List Nat), vs = [.ref d, .ref l] ∧ DeskAt C H d s ∧ NsAt H l xs ∧ xs.length ≤ 1000 ∧
  ((xs.all fun (k : Nat) => decide (k < Sy82.many s)) = true → ∀ H', Same H H' → Q .non H') ∧ ((xs.all fun (k : Nat) => decide (k < Sy82.many s)) = false → Rz CF H E (-2))
theorem ok_look {f : Addr} {fd : FuncData} (F : Fun K "look" "Desk.look" (sDesk 2) f fd) (G : Glb mg) (T : DTxt K C) (Hm : Has P w K mg base (L2.CX P w) 3 "must" ["truth", "number"] (spMust CF)) : FnOk P w K mg base (L2.CX P w) 4 f fd ["self", "some"] (spLook C CF) := by
  obtain ⟨fm, fdm, Gm, gm, km, bm⟩ := Hm
  refine F.okX scLook (fun vs H Q E h => ?_) (fun cdv A outer s H vs Q E hr h => ?_)
  · obtain ⟨d, l, s, xs, rfl, _⟩ := h
    rfl
  · obtain ⟨d, l, s, xs, rfl, ⟨dx, a, hd, e1, ⟨rs, hA, hAll⟩, e3⟩, hL, few, q1, q2⟩ := h
    have nd := scLook.nd
    obtain ⟨t, gN⟩ := G.noSuch
    refine ⟨_, pss_one (ps_expr (pe_call Gm hr (by rfl) gm km bm .nil passX (pa_cons (pe_callB (cr_all rfl) (by rfl) G.all (by decide +kernel) (pa_cons
      (pe_lc (own := [("number", 2)]) (g := gName 2) (tt := tYes) (te := tOp (rI0 fun i j => .bl (decide (i < j))) (tVar 2) (tCB (fun xs H Q => ∃ p ys, xs = [V.ref p] ∧ (SqL K H p ys ∨ SqT K H p ys) ∧ Q (.int ys.length) H) (tCons (tFld K (tVar 0) "boxes") tNil)))
        rfl nd (pi_list (pv 1)) (blkOk_by (N := ["self", "some", "number"]) (sc := defScope (sDesk 2)) (by decide +kernel))
        (fun _ _ _ _ _ => pg_name (i := 2) nd rfl (Or.inl rfl)) (fun _ _ _ _ _ => pts_nil)
        (fun _ _ _ _ _ => by exact pe_cmpR op_lt (pv 2) (pe_callB call_len_seq (by rfl) G.len PySem.boot_len (pa_cons (pe_fld (pv 0) rfl) pa_nil)) (nomark _))) pa_nil))
      (pa_cons (pe_glob (v := .int (-2)) rfl gN ⟨_, rfl⟩) pa_nil)))), ?_⟩
    refine ⟨.ref l, rfl, l, rfl, ⟨_, SqL.of hL⟩, fun D nD => lc_list (K := K) (a := l) (xs := natV xs) (fun j H4 => Same H H4 ∧ H4 D = some (.lst (((xs.take j).map fun k => decide (k < Sy82.many s)).map V.bl)))
        ⟨same_upd nD, upd_same⟩ (fun j H4 _ ⟨s4, _⟩ => SqL.of (s4 _ _ hL)) ?_ ?_⟩
    · rintro j x H4 hx ⟨s4, eD⟩
      obtain ⟨k, hk, rfl⟩ := at_natV hx
      have hlen : (refs rs).length = Sy82.many s := by
        rw [refs_len, hAll.len]
        rfl
      refine ⟨rfl, ?_⟩
      refine yes_ ?_
      refine ⟨.int (k : Nat), rfl, .ref d, rfl, d, C, dx, _, _, rfl, s4 _ _ e1, T.cl, T.nB, deskF_boxes a hd, a, _, rfl, .inl (SqL.of (s4 _ _ hA)), _, _, rfl, rfl, _, eD, ?_, same_put s4 nD, ?_⟩
      · rw [List.length_map, List.length_map, List.length_take]
        exact small (by omega)
      · rw [upd_same, take_snoc hk, List.map_append, List.map_append, hlen]
        show some (HO.lst (_ ++ [V.bl (decide (((k : Nat) : Int) < ((Sy82.many s : Nat) : Int)))])) = _
        rw [lt_int]
        rfl
    · rintro H4 ⟨s4, eD⟩
      rw [natV_len, List.take_length] at eD
      refine ⟨D, _, rfl, SqL.of eD, ?_⟩
      have e : ((xs.map fun k => decide (k < Sy82.many s)).all id) = xs.all fun (k : Nat) => decide (k < Sy82.many s) := by
        rw [List.all_map]
        rfl
      rw [e]
      exact ⟨_, -2, rfl, fun z => q1 z H4 s4, fun z => (q2 z).mono s4⟩
/-! ### every -/
theorem scEvery : FnScope ["self"] ["self"] (defScope (sDesk 3)) := ⟨rfl, rfl, rfl, by decide +kernel, rfl, by decide +kernel, by decide +kernel⟩
def spEvery (C : Addr) : Sp := fun vs H Q _ => ∃ (d : Addr) (s : Sy82.St), vs = [.ref d] ∧ WS s ∧ DeskAt C H d s ∧ ∀ H' p, Same H H' → NsAt H' p (List.range (Sy82.many s)) → Q (.ref p) H'
theorem ok_every {f : Addr} {fd : FuncData} (F : Fun K "every" "Desk.every" (sDesk 3) f fd) (G : Glb mg) (T : DTxt K C) : FnOk P w K mg base CX0 1 f fd ["self"] (spEvery C) := by
  refine F.ok scEvery (fun vs H Q E h => ?_) (fun cdv A outer s H vs Q E hr h => ?_)
  · obtain ⟨d, s, rfl, _⟩ := h
    rfl
  · obtain ⟨d, s, rfl, hs, ⟨dx, a, hd, e1, ⟨rs, hA, hAll⟩, e3⟩, q⟩ := h
    refine ⟨_, pss_one (ps_ret (pe_listRg rfl (by rfl) G.list (prg_1 (by rfl) G.range (pe_callB call_len_seq (by rfl) G.len PySem.boot_len (pa_cons (pe_fld (pv 0) rfl) pa_nil))))), ?_⟩
    have hlen : (refs rs).length = Sy82.many s := by
      rw [refs_len, hAll.len]
      rfl
    have n8 : Sy82.many s ≤ 8 := hs.few
    refine ⟨.ref d, rfl, d, C, dx, _, _, rfl, e1, T.cl, T.nB, deskF_boxes a hd, a, _, rfl, .inl (SqL.of hA), (Sy82.many s : Nat), by rw [hlen], RgOk.of_le (by omega) (by omega) (by omega) (by omega), fun p np => ?_⟩
    rw [rgV_nat]
    exact q _ p (same_upd np) upd_same
/-! ### box -/
theorem scBox : FnScope ["self", "lock", "cost"] ["self", "lock", "cost"] (defScope (sDesk 4)) := ⟨rfl, rfl, rfl, by decide +kernel, rfl, by decide +kernel, by decide +kernel⟩
def spBox (C CF : Addr) : Sp := fun vs H Q E => ∃ (d : Addr) (s : Sy82.St) (n c : Nat), vs = [.ref d, .int (n : Nat), .int (c : Nat)] ∧ WS s ∧ DeskAt C H d s ∧ Fate C CF d s H Q E (Sy82.step s (.box n c))
theorem box_bad {s : Sy82.St} {n c : Nat} (h : (9 < n ∧ n ≠ 99) ∨ 1000 < c) : Sy82.step s (.box n c) = (s, Sy82.ok (-1)) := if_pos h
theorem box_many {s : Sy82.St} {n c : Nat} (h : ¬ ((9 < n ∧ n ≠ 99) ∨ 1000 < c)) (h2 : 8 ≤ Sy82.many s) : Sy82.step s (.box n c) = (s, Sy82.ok (-5)) := (if_neg h).trans (if_pos h2)
theorem box_ok {s : Sy82.St} {n c : Nat} (h : ¬ ((9 < n ∧ n ≠ 99) ∨ 1000 < c)) (h2 : ¬ 8 ≤ Sy82.many s) : Sy82.step s (.box n c) = ({ s with boxes := s.boxes ++ [⟨if n = 99 then none else some n, c, []⟩] }, Sy82.ok (Sy82.many s : Nat)) := (if_neg h).trans (if_neg h2)
theorem ok_box {f : Addr} {fd : FuncData} (F : Fun K "box" "Desk.box" (sDesk 4) f fd) (G : Glb mg) (T : DTxt K C) (Hm : Has P w K mg base (L2.CX P w) 3 "must" ["truth", "number"] (spMust CF)) : FnOk P w K mg base (L2.CX P w) 4 f fd ["self", "lock", "cost"] (spBox C CF) := by
  obtain ⟨fm, fdm, Gm, gm, km, bm⟩ := Hm
  refine F.okX scBox (fun vs H Q E h => ?_) (fun cdv A outer s H vs Q E hr h => ?_)
  · obtain ⟨d, s, n, c, rfl, _⟩ := h
    rfl
  · obtain ⟨d, s, n, c, rfl, hs, ⟨dx, a, hd, e1, ⟨rs, hA, hAll⟩, e3⟩, q⟩ := h
    obtain ⟨t1, g1⟩ := G.locks
    obtain ⟨t2, g2⟩ := G.noLock
    obtain ⟨t3, g3⟩ := G.mostCost
    obtain ⟨t4, g4⟩ := G.oob
    obtain ⟨t5, g5⟩ := G.mostBoxes
    obtain ⟨t6, g6⟩ := G.tooMany
    refine ⟨_, pss_cons (ps_expr (pe_call Gm hr (by rfl) gm km bm .nil passX (pa_cons (pe_and (pe_or (pe_cmpR op_lt (pv 1) (pe_glob (v := .int 10) rfl g1 ⟨_, rfl⟩) (nomark _)) (pe_one (pe_cmpR op_eq (pv 1) (pe_glob (v := .int 99) rfl g2 ⟨_, rfl⟩) (nomark _))))
          (pe_one (pe_cmpR op_le (pv 2) (pe_glob (v := .int 1000) rfl g3 ⟨_, rfl⟩) (nomark _)))) (pa_cons (pe_glob (v := .int (-1)) rfl g4 ⟨_, rfl⟩) pa_nil))))
      (pss_cons (ps_expr (pe_call Gm hr (by rfl) gm km bm .nil passX (pa_cons (pe_cmpR op_lt (pe_callB call_len_seq (by rfl) G.len PySem.boot_len (pa_cons (pe_fld (pv 0) rfl) pa_nil)) (pe_glob (v := .int 8) rfl g5 ⟨_, rfl⟩) (nomark _)) (pa_cons (pe_glob (v := .int (-5)) rfl g6 ⟨_, rfl⟩) pa_nil))))
      (pss_cons (ps_fld (pv 0) (pe_op op_cat (pe_fld (pv 0) rfl) (pe_lst (pa_cons (pe_tup (pa_cons (pv 1) (pa_cons (pv 2) (pa_cons (pe_tup pa_nil) pa_nil)))) pa_nil))) rfl)
      (pss_one (ps_ret (pe_lst (pa_cons (pe_op op_sub (pe_callB call_len_seq (by rfl) G.len PySem.boot_len (pa_cons (pe_fld (pv 0) rfl) pa_nil)) pe_int) pa_nil)))))), ?_⟩
    have hlen : (refs rs).length = Sy82.many s := by
      rw [refs_len, hAll.len]
      rfl
    -- the first must
    have rest : ¬ ((9 < n ∧ n ≠ 99) ∨ 1000 < c) → _ := fun (good : ¬ ((9 < n ∧ n ≠ 99) ∨ 1000 < c)) =>
      show tSeq (tDrop (tCall (spMust CF) [] E (tCons (tOp (rI0 fun i j => .bl (decide (i < j))) (tCB (fun xs H Q => ∃ p ys, xs = [V.ref p] ∧ (SqL K H p ys ∨ SqT K H p ys) ∧ Q (.int ys.length) H) (tCons (tFld K (tVar 0) "boxes") tNil)) (tC (.int 8))) (tCons (tC (.int (-5))) tNil))))
        (tSeq (sFld K (tVar 0) (tOp rCat (tFld K (tVar 0) "boxes") (tLst (tCons (tTup (tCons (tVar 1) (tCons (tVar 2) (tCons (tTup tNil) tNil)))) tNil))) "boxes")
          (tRet (tLst (tCons (tOp (rI0 fun i j => .int (i - j)) (tCB (fun xs H Q => ∃ p ys, xs = [V.ref p] ∧ (SqL K H p ys ∨ SqT K H p ys) ∧ Q (.int ys.length) H) (tCons (tFld K (tVar 0) "boxes") tNil)) (tC (.int 1))) tNil))))
        { nx := fun _ H' => Q .non H', rt := Q } (L2.start ["self", "lock", "cost"] [.ref d, .int (n : Nat), .int (c : Nat)]) H from by
      refine ⟨.ref d, rfl, d, C, dx, _, _, rfl, e1, T.cl, T.nB, deskF_boxes a hd, a, _, rfl, .inl (SqL.of hA), _, _, rfl, rfl, _, _, rfl, fun few => ?_, fun many => ?_⟩
      · have h8 : ¬ 8 ≤ Sy82.many s := by
          have := of_decide_eq_true few
          rw [hlen] at this
          omega
        refine ⟨.ref d, rfl, d, C, dx, _, _, rfl, e1, T.cl, T.nB, deskF_boxes a hd, .int (n : Nat), rfl, .int (c : Nat), rfl, Nat.zero_le _, fun p1 n1 => ⟨three_ok _ _ _, fun p2 n2 => ⟨one_ok _, fun p3 n3 => ?_⟩⟩⟩
        have s1 : Same H (upd H p1 (.tup [])) := same_upd n1
        have s2 := same_put (o := .tup [.int (n : Nat), .int (c : Nat), .ref p1]) s1 (s1.free n2)
        have s3 := same_put (o := .lst [.ref p2]) s2 (s2.free n3)
        refine ⟨a, p3, _, _, rfl, rfl, s3 _ _ hA, upd_same, ?_, fun p4 n4 => ?_⟩
        · rw [hlen]
          exact smallE (by simp; omega)
        have s4 := same_put (o := .lst (refs rs ++ [.ref p2])) s3 (s3.free n4)
        refine ⟨.ref d, rfl, d, C, dx, _, rfl, s4 _ _ e1, T.cl, T.nB, (by show 2 < 1000; decide), ?_⟩
        rw [deskF_putB]
        have n12 : p1 ≠ p2 := fun e => by
          rw [← e, upd_same] at n2
          cases n2
        have n13 : p1 ≠ p3 := fun e => by
          rw [← e, upd_ne n12, upd_same] at n3
          cases n3
        have n23 : p2 ≠ p3 := fun e => by
          rw [← e, upd_same] at n3
          cases n3
        have x2 : (upd (upd (upd H p1 (.tup [])) p2 (.tup [.int (n : Nat), .int (c : Nat), .ref p1])) p3 (.lst [.ref p2])) p2 = some (.tup [.int (n : Nat), .int (c : Nat), .ref p1]) := by
          rw [upd_ne n23, upd_same]
        have x1 : (upd (upd (upd H p1 (.tup [])) p2 (.tup [.int (n : Nat), .int (c : Nat), .ref p1])) p3 (.lst [.ref p2])) p1 = some (.tup []) := by
          rw [upd_ne n13, upd_ne n12, upd_same]
        have s34 := same_upd (o := .lst (refs rs ++ [.ref p2])) n4
        have lk : lockN ⟨if n = 99 then none else some n, c, []⟩ = n := by
          unfold lockN
          by_cases e : n = 99
          · rw [if_pos e, e]
            rfl
          · rw [if_neg e]
            rfl
        have nb : BxAt (upd (upd (upd (upd H p1 (.tup [])) p2 (.tup [.int (n : Nat), .int (c : Nat), .ref p1])) p3 (.lst [.ref p2])) p4 (.lst (refs rs ++ [.ref p2]))) p2 ⟨if n = 99 then none else some n, c, []⟩ :=
          ⟨p1, by rw [lk]; exact s34 _ _ x2, s34 _ _ x1⟩
        have desk := DeskAt.put (s := { s with boxes := s.boxes ++ [⟨if n = 99 then none else some n, c, []⟩] }) (p := p4) (s4 _ _ e1) ⟨rs ++ [p2], by rw [upd_same, refs_app]; rfl, (hAll.mono fun r b z => z.same s4).snoc nb⟩ (s4 _ _ e3)
        have e4 : (upd (upd (upd (upd (upd H p1 (.tup [])) p2 (.tup [.int (n : Nat), .int (c : Nat), .ref p1])) p3 (.lst [.ref p2])) p4 (.lst (refs rs ++ [.ref p2]))) d (.ins C dx (deskF p4 hd))) p4 = some (.lst (refs rs ++ [.ref p2])) := by
          rw [upd_ne fun e => ?_, upd_same]
          have z := s3 _ _ e1
          rw [← e, n4] at z
          cases z
        refine ⟨.ref d, rfl, d, C, dx, _, _, rfl, upd_same, T.cl, T.nB, deskF_boxes p4 hd, p4, _, rfl, .inl (SqL.of e4), _, _, rfl, rfl, one_ok _, fun p5 n5 => ?_⟩
        have s5 := same_upd (o := .lst [.int (((refs rs ++ [V.ref p2]).length : Nat) - 1)]) n5
        refine q.yes (box_ok good h8) ((But.trans (Same.but s4) but_upd).free n5 upd_same) (desk.same s5) ((But.trans (Same.but s4) but_upd).trans (Same.but s5)) ?_
        rw [upd_same, outV_ok, List.length_append, hlen]
        have z : ((((Sy82.many s + [V.ref p2].length : Nat) : Nat) : Int) - 1) = ((Sy82.many s : Nat) : Int) := by
          show (((Sy82.many s + 1 : Nat) : Int) - 1) = _
          omega
        exact congrArg (fun (x : Int) => some (HO.lst [V.int x])) z
      · have h8 : 8 ≤ Sy82.many s := by
          have := of_decide_eq_false many
          rw [hlen] at this
          omega
        exact q.no (Same.refl H) (box_many good h8)
    refine ⟨.int (n : Nat), rfl, _, _, rfl, rfl, _, rfl, ?_⟩
    by_cases c1 : ((n : Nat) : Int) < 10
    · refine if_true_of (decide_eq_true c1) ⟨true, rfl, iteT ⟨.int (c : Nat), rfl, _, _, rfl, rfl, _, _, rfl, fun z => rest ?_, fun z => ?_⟩⟩
      · have := of_decide_eq_true z
        omega
      · have := of_decide_eq_false z
        exact q.no (Same.refl H) (box_bad (by omega))
    · refine if_false_of (decide_eq_false c1) ⟨.int (n : Nat), rfl, rfl, _, rfl, ?_⟩
      by_cases c2 : n = 99
      · refine if_true_of (decide_eq_true (by rw [c2]; rfl)) ⟨.int (c : Nat), rfl, _, _, rfl, rfl, _, _, rfl, fun z => rest ?_, fun z => ?_⟩
        · have := of_decide_eq_true z
          omega
        · have := of_decide_eq_false z
          exact q.no (Same.refl H) (box_bad (by omega))
      · refine if_false_of (decide_eq_false fun z => c2 (by have := V.int.inj z; omega)) ⟨_, _, rfl, fun z => ?_, fun z => q.no (Same.refl H) (box_bad (by omega))⟩
        cases z
end
end Bk

/-! # desk.py: change, key, look_key, out, hold -/
namespace Bk
open PySem PySem.Spec PyProof.Rows L2 BkR
/-! ### lengths; what a key's coming and going does -/
theorem insert_len {n : Nat} {l : List Nat} (h : l.contains n = false) : (Sy82.insert n l).length = l.length + 1 := by
  rw [(perm_insert n l h).length_eq, List.length_append]
  rfl
theorem without_big {n : Nat} : ∀ {l : List Nat}, (∀ k ∈ l, n < k) → Sy82.without n l = l := fun {l} h => by
  unfold Sy82.without
  rw [List.filter_eq_self]
  intro k hk
  have := h k hk
  simp
  omega
theorem perm_without (n : Nat) : ∀ l : List Nat, l.Pairwise (· < ·) → (Sy82.insert n l).Perm (Sy82.without n l ++ [n])
  | [], _ => List.Perm.refl _
  | m :: l, h => by
    have h1 := List.pairwise_cons.mp h
    rw [Sy82.insert]
    by_cases c : n < m
    · rw [if_pos c, without_big (l := m :: l) fun k hk => by
        rcases List.mem_cons.mp hk with e | hk
        · omega
        · have := h1.1 k hk
          omega]
      exact (List.perm_append_singleton n (m :: l)).symm
    · rw [if_neg c]
      by_cases d : n = m
      · rw [if_pos d]
        have e : Sy82.without n (m :: l) = l := by
          have z : Sy82.without n (m :: l) = Sy82.without n l := by
            unfold Sy82.without
            rw [List.filter_cons_of_neg (by simp [d])]
          rw [z]
          exact without_big fun k hk => by
            have := h1.1 k hk
            omega
        rw [e, d]
        exact (List.perm_append_singleton m l).symm
      · rw [if_neg d]
        have z : Sy82.without n (m :: l) = m :: Sy82.without n l := by
          unfold Sy82.without
          rw [List.filter_cons_of_pos (by simp; omega)]
        rw [z]
        exact (perm_without n l h1.2).cons m
theorem insert_has {n : Nat} : ∀ {l : List Nat}, l.Pairwise (· < ·) → l.contains n = true → Sy82.insert n l = l
  | [], _, h => by cases h
  | m :: l, hr, h => by
    have h1 := List.pairwise_cons.mp hr
    rw [Sy82.insert]
    by_cases c : n < m
    · rw [List.contains_iff_mem] at h
      rcases List.mem_cons.mp h with e | h
      · omega
      · have := h1.1 n h
        omega
    · rw [if_neg c]
      by_cases d : n = m
      · rw [if_pos d]
      · rw [if_neg d]
        have : l.contains n = true := by
          rw [List.contains_iff_mem] at h ⊢
          rcases List.mem_cons.mp h with e | h
          · exact absurd e d
          · exact h
        rw [insert_has h1.2 this]
theorem without_len {n : Nat} {l : List Nat} (hr : l.Pairwise (· < ·)) (h : l.contains n = true) : (Sy82.without n l).length = l.length - 1 := by
  have := (perm_without n l hr).length_eq
  rw [insert_has hr h, List.length_append, List.length_singleton] at this
  omega
theorem without_rise {n : Nat} {l : List Nat} (hr : l.Pairwise (· < ·)) : (Sy82.without n l).Pairwise (· < ·) := hr.filter _
section
variable {P : Program} {w : World} {K : PySem.W.Frag} {mg : Str → Option Value} {base : Heap} {C CF : Addr}
/-! ### change -/
theorem scChange : FnScope ["self", "number", "box"] ["self", "number", "box"] (defScope (sDesk 5)) := ⟨rfl, rfl, rfl, by decide +kernel, rfl, by decide +kernel, by decide +kernel⟩
def spChange (C : Addr) : Sp := fun vs H Q _ => ∃ (d r : Addr) (s : Sy82.St) (k : Nat) (b : Sy82.Box), vs = [.ref d, .int (k : Nat), .ref r] ∧ DeskAt C H d s ∧ WS s ∧ BxAt H r b ∧ k < Sy82.many s ∧
  ∀ H' p, H p = none → DeskAt C H' d { s with boxes := s.boxes.set k b } → But d H H' → H' p = some (.lst [.int (b.keys.length : Nat)]) → Q (.ref p) H'
theorem ok_change {f : Addr} {fd : FuncData} (F : Fun K "change" "Desk.change" (sDesk 5) f fd) (G : Glb mg) (T : DTxt K C) (Hw : Has P w K mg base CX0 1 "with_box" ["boxes", "number", "box"] spWithBox) : FnOk P w K mg base CX0 2 f fd ["self", "number", "box"] (spChange C) := by
  obtain ⟨fw, fdw, Gw, gw, kw, bw⟩ := Hw
  refine F.ok scChange (fun vs H Q E h => ?_) (fun cdv A outer s H vs Q E hr h => ?_)
  · obtain ⟨d, r, s, k, b, rfl, _⟩ := h
    rfl
  · obtain ⟨d, r, s, k, b, rfl, ⟨dx, a, hd, e1, e2, e3⟩, hs, hb, hk, q⟩ := h
    refine ⟨_, pss_cons (ps_fld (pv 0) (pe_call Gw hr (by rfl) gw kw bw .nil pass0 (pa_cons (pe_fld (pv 0) rfl) (pa_cons (pv 1) (pa_cons (pv 2) pa_nil)))) rfl)
      (pss_one (ps_ret (pe_lst (pa_cons (pe_callB call_len_seq (by rfl) G.len PySem.boot_len (pa_cons (pe_ix ix_tup (pv 2) pe_int (fun _ _ => rfl)) pa_nil)) pa_nil)))), ?_⟩
    have n8 : Sy82.many s ≤ 8 := hs.few
    refine ⟨.ref d, rfl, d, C, dx, _, _, rfl, e1, T.cl, T.nB, deskF_boxes a hd, .int (k : Nat), rfl, .ref r, rfl, a, r, s.boxes, k, b, rfl, e2, hb, hk, Nat.le_trans n8 (by decide), fun H1 p1 s1 hB => ?_⟩
    refine ⟨.ref d, rfl, d, C, dx, _, rfl, s1 _ _ e1, T.cl, T.nB, (by show 2 < 1000; decide), ?_⟩
    rw [deskF_putB]
    have desk := DeskAt.put (s := { s with boxes := s.boxes.set k b }) (s1 _ _ e1) hB (s1 _ _ e3)
    obtain ⟨kk, z1, z2⟩ := hb.same s1
    have off : ∀ {b : Addr} {o : HO}, H1 b = some o → (∀ dx f, o ≠ .ins C dx f) → (upd H1 d (.ins C dx (deskF p1 hd))) b = some o := fun {b o} e n => by
      rw [upd_ne (ne_of e (s1 _ _ e1) (n _ _))]
      exact e
    have y1 := off z1 (by intro _ _ z; cases z)
    have y2 := off z2 (by intro _ _ z; cases z)
    refine ⟨.ref r, rfl, r, _, 2, _, rfl, rfl, SqT.of y1, atI_nat (j := 2) rfl, kk, _, rfl, .inr (SqT.of y2), one_ok _, fun p2 n2 => ?_⟩
    have s2 := same_upd (o := .lst [.int ((natV b.keys).length : Nat)]) n2
    refine q _ p2 ((But.trans (Same.but s1) but_upd).free n2 upd_same) (desk.same s2) ((But.trans (Same.but s1) but_upd).trans (Same.but s2)) ?_
    rw [upd_same, natV_len]
/-! ### key -/
theorem scKey : FnScope ["self", "number", "lock"] ["self", "number", "lock"] (defScope (sDesk 6)) := ⟨rfl, rfl, rfl, by decide +kernel, rfl, by decide +kernel, by decide +kernel⟩
def spKey (C CF : Addr) : Sp := fun vs H Q E => ∃ (d : Addr) (s : Sy82.St) (k n : Nat), vs = [.ref d, .int (k : Nat), .int (n : Nat)] ∧ WS s ∧ DeskAt C H d s ∧ Fate C CF d s H Q E (Sy82.step s (.key k n))
theorem one_all {p : Nat → Bool} (k : Nat) : [k].all p = p k := by
  rw [List.all_cons, List.all_nil, Bool.and_true]
theorem ok_key {f : Addr} {fd : FuncData} (F : Fun K "key" "Desk.key" (sDesk 6) f fd) (G : Glb mg) (T : DTxt K C) (Hm : Has P w K mg base (L2.CX P w) 3 "must" ["truth", "number"] (spMust CF)) (Hl : HasM P w K mg base C (L2.CX P w) 4 "look" ["self", "some"] (spLook C CF))
    (Hc : HasM P w K mg base C CX0 2 "change" ["self", "number", "box"] (spChange C)) (Hk : Has P w K mg base CX0 1 "with_key" ["box", "lock"] spWithKey) : FnOk P w K mg base (L2.CX P w) 5 f fd ["self", "number", "lock"] (spKey C CF) := by
  obtain ⟨fm, fdm, Gm, gm, km, bm⟩ := Hm
  obtain ⟨fl, fdl, Gl_, ml, bl⟩ := Hl
  obtain ⟨fc, fdc, Gc, mc, bc⟩ := Hc
  obtain ⟨fk, fdk, Gk, gk, kk, bk⟩ := Hk
  refine F.okX scKey (fun vs H Q E h => ?_) (fun cdv A outer s H vs Q E hr h => ?_)
  · obtain ⟨d, s, k, n, rfl, _⟩ := h
    rfl
  · obtain ⟨d, s, k, n, rfl, hs, hD, q⟩ := h
    obtain ⟨t1, g1⟩ := G.locks
    obtain ⟨t2, g2⟩ := G.oob
    obtain ⟨t3, g3⟩ := G.notSo
    have hr3 : Room 3 _ := hr.mono (by decide)
    have hr2 : Room 2 _ := hr.mono (by decide)
    have hr1 : Room 1 _ := hr.mono (by decide)
    refine ⟨_, pss_cons (ps_expr (pe_meth (pv 0) T.cl ml Gl_ hr bl .nil passX (pa_cons (pe_lst (pa_cons (pv 1) pa_nil)) pa_nil)))
      (pss_cons (ps_expr (pe_call Gm hr3 (by rfl) gm km bm .nil passX (pa_cons (pe_cmpR op_lt (pv 2) (pe_glob (v := .int 10) rfl g1 ⟨_, rfl⟩) (nomark _)) (pa_cons (pe_glob (v := .int (-1)) rfl g2 ⟨_, rfl⟩) pa_nil))))
      (pss_cons (ps_expr (pe_call Gm hr3 (by rfl) gm km bm .nil passX (pa_cons (pe_cmpR op_notIn_seq (pv 2) (pe_ix ix_tup (pe_ix ix_list (pe_fld (pv 0) rfl) (pv 1) (fun _ _ => rfl)) pe_int (fun _ _ => rfl)) (by rfl)) (pa_cons (pe_glob (v := .int (-4)) rfl g3 ⟨_, rfl⟩) pa_nil))))
      (pss_one (ps_ret (pe_meth (pv 0) T.cl mc Gc hr2 bc .nil pass0 (pa_cons (pv 1) (pa_cons (pe_call Gk hr1 (by rfl) gk kk bk .nil pass0 (pa_cons (pe_ix ix_list (pe_fld (pv 0) rfl) (pv 1) (fun _ _ => rfl)) (pa_cons (pv 2) pa_nil))) pa_nil))))))), ?_⟩
    obtain ⟨dx, a, hd, e1, ⟨rs, hA, hAll⟩, e3⟩ := id hD
    refine ⟨.ref d, rfl, d, dx, _, rfl, e1, deskF_no (by decide +kernel) (by decide +kernel), .int (k : Nat), rfl, one_ok _, fun p1 n1 => ?_⟩
    have s1 : Same H (upd H p1 (.lst [.int (k : Nat)])) := same_upd n1
    refine ⟨d, p1, s, [k], rfl, hD.same s1, upd_same, (show 1 ≤ 1000 by decide), fun z H1 s2 => ?_, fun z => ?_⟩
    · rw [one_all] at z
      have hk : k < Sy82.many s := of_decide_eq_true z
      have sm := s1.trans s2
      refine ⟨.int (n : Nat), rfl, _, _, rfl, rfl, _, _, rfl, fun z => ?_, fun z => ?_⟩
      · have hn : n < 10 := by
          have := of_decide_eq_true z
          omega
        obtain ⟨r, h1, h2⟩ := hAll.get (at_boxOf hk)
        obtain ⟨kk, z1, z2⟩ := h2.same sm
        refine ⟨.int (n : Nat), rfl, .ref d, rfl, d, C, dx, _, _, rfl, sm _ _ e1, T.cl, T.nB, deskF_boxes a hd, .int (k : Nat), rfl, a, _, _, _, rfl, rfl, SqL.of (sm _ _ hA), atI_nat (at_refs h1), r, _, 2, _, rfl, rfl, SqT.of z1, atI_nat (j := 2) rfl, kk, _, rfl, .inr (SqT.of z2), rfl, natV_flat _, ?_⟩
        rw [if_pos rfl, in_natV]
        refine ⟨_, _, rfl, fun z => ?_, fun z => ?_⟩
        · have hc : (Sy82.boxOf s k).keys.contains n = false := by
            cases c : (Sy82.boxOf s k).keys.contains n with
            | false => rfl
            | true =>
              rw [c] at z
              cases z
          refine ⟨.ref d, rfl, d, dx, _, rfl, sm _ _ e1, deskF_no (by decide +kernel) (by decide +kernel), .int (k : Nat), rfl, .ref d, rfl, d, C, dx, _, _, rfl, sm _ _ e1, T.cl, T.nB, deskF_boxes a hd, .int (k : Nat), rfl, a, _, _, _, rfl, rfl, SqL.of (sm _ _ hA), atI_nat (at_refs h1), .int (n : Nat), rfl, r, _, n, rfl, ⟨kk, z1, z2⟩, hs.of k, hc, fun H3 p3 s3 hb => ?_⟩
          refine ⟨d, p3, s, k, _, rfl, hD.same (sm.trans s3), hs, hb, hk, fun H4 p4 n4 hD4 b4 e4 => ?_⟩
          refine q.yes (t := Sy82.withKeys s k (Sy82.insert n)) (a := Sy82.ok (((Sy82.boxOf s k).keys.length + 1 : Nat) : Int)) ?_ ((sm.trans s3).free n4) hD4 ((Same.but (sm.trans s3)).trans b4) ?_
          · show (if Sy82.many s ≤ k then _ else if 9 < n then _ else if (Sy82.boxOf s k).keys.contains n = true then _ else _) = _
            rw [if_neg (by omega), if_neg (by omega), if_neg (by rw [hc]; exact Bool.false_ne_true)]
          · rw [e4, outV_ok]
            show some (HO.lst [V.int (((Sy82.insert n (Sy82.boxOf s k).keys).length : Nat) : Int)]) = _
            rw [insert_len hc]
        · have hc : (Sy82.boxOf s k).keys.contains n = true := by
            cases c : (Sy82.boxOf s k).keys.contains n with
            | true => rfl
            | false =>
              rw [c] at z
              cases z
          refine q.no sm ?_
          show (if Sy82.many s ≤ k then _ else if 9 < n then _ else if (Sy82.boxOf s k).keys.contains n = true then _ else _) = _
          rw [if_neg (by omega), if_neg (by omega), if_pos hc]
      · have hn : 9 < n := by
          have := of_decide_eq_false z
          omega
        refine q.no sm ?_
        show (if Sy82.many s ≤ k then _ else if 9 < n then _ else _) = _
        rw [if_neg (by omega), if_pos hn]
    · rw [one_all] at z
      have hk : Sy82.many s ≤ k := by
        have := of_decide_eq_false z
        omega
      exact q.no s1 (if_pos hk)
/-! ### look_key -/
theorem scLookKey : FnScope ["self", "number", "lock"] ["self", "number", "lock"] (defScope (sDesk 7)) := ⟨rfl, rfl, rfl, by decide +kernel, rfl, by decide +kernel, by decide +kernel⟩
def spLookKey (C CF : Addr) : Sp := fun vs H Q E => ∃ (d : Addr) (s : Sy82.St) (k n : Nat), vs = [.ref d, .int (k : Nat), .int (n : Nat)] ∧ DeskAt C H d s ∧
  (Sy82.many s ≤ k → Rz CF H E (-2)) ∧ (k < Sy82.many s → (Sy82.boxOf s k).keys.contains n = false → Rz CF H E (-4)) ∧ (k < Sy82.many s → (Sy82.boxOf s k).keys.contains n = true → ∀ H', Same H H' → Q .non H')
theorem ok_look_key {f : Addr} {fd : FuncData} (F : Fun K "look_key" "Desk.look_key" (sDesk 7) f fd) (G : Glb mg) (T : DTxt K C) (Hm : Has P w K mg base (L2.CX P w) 3 "must" ["truth", "number"] (spMust CF)) (Hl : HasM P w K mg base C (L2.CX P w) 4 "look" ["self", "some"] (spLook C CF)) :
    FnOk P w K mg base (L2.CX P w) 5 f fd ["self", "number", "lock"] (spLookKey C CF) := by
  obtain ⟨fm, fdm, Gm, gm, km, bm⟩ := Hm
  obtain ⟨fl, fdl, Gl_, ml, bl⟩ := Hl
  refine F.okX scLookKey (fun vs H Q E h => ?_) (fun cdv A outer s H vs Q E hr h => ?_)
  · obtain ⟨d, s, k, n, rfl, _⟩ := h
    rfl
  · obtain ⟨d, s, k, n, rfl, hD, q1, q2, q3⟩ := h
    obtain ⟨t3, g3⟩ := G.notSo
    have hr3 : Room 3 _ := hr.mono (by decide)
    refine ⟨_, pss_cons (ps_expr (pe_meth (pv 0) T.cl ml Gl_ hr bl .nil passX (pa_cons (pe_lst (pa_cons (pv 1) pa_nil)) pa_nil)))
      (pss_one (ps_expr (pe_call Gm hr3 (by rfl) gm km bm .nil passX (pa_cons (pe_cmpR op_in_seq (pv 2) (pe_ix ix_tup (pe_ix ix_list (pe_fld (pv 0) rfl) (pv 1) (fun _ _ => rfl)) pe_int (fun _ _ => rfl)) (by rfl)) (pa_cons (pe_glob (v := .int (-4)) rfl g3 ⟨_, rfl⟩) pa_nil))))), ?_⟩
    obtain ⟨dx, a, hd, e1, ⟨rs, hA, hAll⟩, e3⟩ := id hD
    refine ⟨.ref d, rfl, d, dx, _, rfl, e1, deskF_no (by decide +kernel) (by decide +kernel), .int (k : Nat), rfl, one_ok _, fun p1 n1 => ?_⟩
    have s1 : Same H (upd H p1 (.lst [.int (k : Nat)])) := same_upd n1
    refine ⟨d, p1, s, [k], rfl, hD.same s1, upd_same, (show 1 ≤ 1000 by decide), fun z H1 s2 => ?_, fun z => ?_⟩
    · rw [one_all] at z
      have hk : k < Sy82.many s := of_decide_eq_true z
      have sm := s1.trans s2
      obtain ⟨r, h1, h2⟩ := hAll.get (at_boxOf hk)
      obtain ⟨kk, z1, z2⟩ := h2.same sm
      refine ⟨.int (n : Nat), rfl, .ref d, rfl, d, C, dx, _, _, rfl, sm _ _ e1, T.cl, T.nB, deskF_boxes a hd, .int (k : Nat), rfl, a, _, _, _, rfl, rfl, SqL.of (sm _ _ hA), atI_nat (at_refs h1), r, _, 2, _, rfl, rfl, SqT.of z1, atI_nat (j := 2) rfl, kk, _, rfl, .inr (SqT.of z2), rfl, natV_flat _, ?_⟩
      rw [if_neg Bool.false_ne_true, in_natV]
      exact ⟨_, _, rfl, fun z => q3 hk z H1 sm, fun z => (q2 hk z).mono sm⟩
    · rw [one_all] at z
      have hk : Sy82.many s ≤ k := by
        have := of_decide_eq_false z
        omega
      exact (q1 hk).mono s1
/-! ### out -/
theorem scOut : FnScope ["self", "number", "lock"] ["self", "number", "lock"] (defScope (sDesk 8)) := ⟨rfl, rfl, rfl, by decide +kernel, rfl, by decide +kernel, by decide +kernel⟩
def spOut (C CF : Addr) : Sp := fun vs H Q E => ∃ (d : Addr) (s : Sy82.St) (k n : Nat), vs = [.ref d, .int (k : Nat), .int (n : Nat)] ∧ WS s ∧ DeskAt C H d s ∧ Fate C CF d s H Q E (Sy82.step s (.out k n))
theorem ok_out {f : Addr} {fd : FuncData} (F : Fun K "out" "Desk.out" (sDesk 8) f fd) (T : DTxt K C) (Hl : HasM P w K mg base C (L2.CX P w) 5 "look_key" ["self", "number", "lock"] (spLookKey C CF))
    (Hc : HasM P w K mg base C CX0 2 "change" ["self", "number", "box"] (spChange C)) (Hk : Has P w K mg base CX0 1 "without_key" ["box", "lock"] spWithoutKey) : FnOk P w K mg base (L2.CX P w) 6 f fd ["self", "number", "lock"] (spOut C CF) := by
  obtain ⟨fl, fdl, Gl_, ml, bl⟩ := Hl
  obtain ⟨fc, fdc, Gc, mc, bc⟩ := Hc
  obtain ⟨fk, fdk, Gk, gk, kk, bk⟩ := Hk
  refine F.okX scOut (fun vs H Q E h => ?_) (fun cdv A outer s H vs Q E hr h => ?_)
  · obtain ⟨d, s, k, n, rfl, _⟩ := h
    rfl
  · obtain ⟨d, s, k, n, rfl, hs, hD, q⟩ := h
    have hr2 : Room 2 _ := hr.mono (by decide)
    have hr1 : Room 1 _ := hr.mono (by decide)
    refine ⟨_, pss_cons (ps_expr (pe_meth (pv 0) T.cl ml Gl_ hr bl .nil passX (pa_cons (pv 1) (pa_cons (pv 2) pa_nil))))
      (pss_one (ps_ret (pe_meth (pv 0) T.cl mc Gc hr2 bc .nil pass0 (pa_cons (pv 1) (pa_cons (pe_call Gk hr1 (by rfl) gk kk bk .nil pass0 (pa_cons (pe_ix ix_list (pe_fld (pv 0) rfl) (pv 1) (fun _ _ => rfl)) (pa_cons (pv 2) pa_nil))) pa_nil))))), ?_⟩
    obtain ⟨dx, a, hd, e1, ⟨rs, hA, hAll⟩, e3⟩ := id hD
    refine ⟨.ref d, rfl, d, dx, _, rfl, e1, deskF_no (by decide +kernel) (by decide +kernel), .int (k : Nat), rfl, .int (n : Nat), rfl, d, s, k, n, rfl, hD, fun hk => q.no (Same.refl H) (if_pos hk), fun hk hc => q.no (Same.refl H) ?_, fun hk hc H1 sm => ?_⟩
    · show (if Sy82.many s ≤ k then _ else if (Sy82.boxOf s k).keys.contains n = false then _ else _) = _
      rw [if_neg (by omega), if_pos hc]
    · obtain ⟨r, h1, h2⟩ := hAll.get (at_boxOf hk)
      refine ⟨.ref d, rfl, d, dx, _, rfl, sm _ _ e1, deskF_no (by decide +kernel) (by decide +kernel), .int (k : Nat), rfl, .ref d, rfl, d, C, dx, _, _, rfl, sm _ _ e1, T.cl, T.nB, deskF_boxes a hd, .int (k : Nat), rfl, a, _, _, _, rfl, rfl, SqL.of (sm _ _ hA), atI_nat (at_refs h1), .int (n : Nat), rfl, r, _, n, rfl, h2.same sm, hs.of k, fun H3 p3 s3 hb => ?_⟩
      refine ⟨d, p3, s, k, _, rfl, hD.same (sm.trans s3), hs, hb, hk, fun H4 p4 n4 hD4 b4 e4 => ?_⟩
      refine q.yes (t := Sy82.withKeys s k (Sy82.without n)) (a := Sy82.ok (((Sy82.boxOf s k).keys.length - 1 : Nat) : Int)) ?_ ((sm.trans s3).free n4) hD4 ((Same.but (sm.trans s3)).trans b4) ?_
      · show (if Sy82.many s ≤ k then _ else if (Sy82.boxOf s k).keys.contains n = false then _ else _) = _
        rw [if_neg (by omega), if_neg (by rw [hc]; exact fun z => Bool.noConfusion z)]
      · rw [e4, outV_ok]
        show some (HO.lst [V.int (((Sy82.without n (Sy82.boxOf s k).keys).length : Nat) : Int)]) = _
        rw [without_len (hs.of k).rise hc]
/-! ### hold -/
theorem scHold : FnScope ["self", "lock", "has", "others", "own"] ["self", "lock", "has"] (defScope (sDesk 9)) := ⟨rfl, rfl, rfl, by decide +kernel, rfl, by decide +kernel, by decide +kernel⟩
def spHold (C CF : Addr) : Sp := fun vs H Q E => ∃ (d : Addr) (s : Sy82.St) (n b : Nat), vs = [.ref d, .int (n : Nat), .int (b : Nat)] ∧ WS s ∧ DeskAt C H d s ∧ Fate C CF d s H Q E (Sy82.step s (.hold n b))
theorem ok_hold {f : Addr} {fd : FuncData} (F : Fun K "hold" "Desk.hold" (sDesk 9) f fd) (G : Glb mg) (T : DTxt K C) (Hm : Has P w K mg base (L2.CX P w) 3 "must" ["truth", "number"] (spMust CF)) : FnOk P w K mg base (L2.CX P w) 4 f fd ["self", "lock", "has"] (spHold C CF) := by
  obtain ⟨fm, fdm, Gm, gm, km, bm⟩ := Hm
  refine F.okX scHold (fun vs H Q E h => ?_) (fun cdv A outer s H vs Q E hr h => ?_)
  · obtain ⟨d, s, n, b, rfl, _⟩ := h
    rfl
  · obtain ⟨d, s, n, b, rfl, hs, hD, q⟩ := h
    have nd := scHold.nd
    obtain ⟨t1, g1⟩ := G.locks
    obtain ⟨t2, g2⟩ := G.oob
    refine ⟨_, pss_cons (ps_expr (pe_call Gm hr (by rfl) gm km bm .nil passX (pa_cons (pe_and (pe_cmpR op_lt (pv 1) (pe_glob (v := .int 10) rfl g1 ⟨_, rfl⟩) (nomark _)) (pe_one (pe_cmpR op_le (pv 2) pe_int (nomark _)))) (pa_cons (pe_glob (v := .int (-1)) rfl g2 ⟨_, rfl⟩) pa_nil))))
      (pss_cons (ps_setLc (i := 3) (own := [("own", 4)]) (g := gName 4) rfl nd rfl rfl (sw_true rfl rfl rfl (by decide +kernel)) (pi_list (pe_fld (pv 0) rfl)) (blkOk_by (N := ["self", "lock", "has", "others", "own"]) (sc := defScope (sDesk 9)) (by decide +kernel))
        (fun _ _ _ _ _ => pg_name (i := 4) nd rfl (Or.inl rfl)) (fun _ _ _ _ _ => pts_one (pt_cmpR op_ne (pv 4) (pv 1) (nomark _))) (fun _ _ _ _ _ => pv 4))
      (pss_cons (ps_fld (pv 0) (pe_callB cr_sortedI (by rfl) G.sorted (by decide +kernel) (pa_cons (pe_op op_cat (pv 3) (pe_op op_rep (pe_lst (pa_cons (pv 1) pa_nil)) (pv 2))) pa_nil)) rfl)
      (pss_one (ps_ret (pe_lst (pa_cons (pe_callB call_len_seq (by rfl) G.len PySem.boot_len (pa_cons (pe_fld (pv 0) rfl) pa_nil)) pa_nil)))))), ?_⟩
    obtain ⟨dx, a, hd, e1, ⟨rs, hA, hAll⟩, e3⟩ := id hD
    have bad : ¬ (n < 10 ∧ b ≤ 1) → Sy82.step s (.hold n b) = (s, Sy82.ok (-1)) := fun h => if_pos (by omega)
    refine ⟨.int (n : Nat), rfl, _, _, rfl, rfl, _, rfl, ?_⟩
    by_cases c1 : ((n : Nat) : Int) < 10
    · refine if_true_of (decide_eq_true c1) ⟨.int (b : Nat), rfl, _, _, rfl, rfl, _, _, rfl, fun z => ?_, fun z => ?_⟩
      · have hb : b ≤ 1 := by
          have := of_decide_eq_true z
          omega
        have hn : n < 10 := by omega
        have hlen := hs.len
        refine ⟨.ref d, rfl, d, C, dx, _, _, rfl, e1, T.cl, T.nH, deskF_hand a hd, hd, rfl, ⟨_, SqL.of e3⟩, fun D nD => lc_list (K := K) (a := hd) (xs := natV s.held) (fun i H3 => Same H H3 ∧ H3 D = some (.lst (natV (Sy82.without n (s.held.take i)))))
          ⟨same_upd nD, upd_same⟩ (fun i H3 _ ⟨sm, _⟩ => SqL.of (sm _ _ e3)) ?_ ?_⟩
        · rintro i x H3 hx ⟨sm, eD⟩
          obtain ⟨m, hm, rfl⟩ := at_natV hx
          refine ⟨rfl, .int (m : Nat), rfl, .int (n : Nat), rfl, rfl, _, rfl, ?_⟩
          rw [ne_int, take_snoc hm, without_snoc]
          by_cases c : m = n
          · rw [decide_eq_true c, if_pos c]
            exact iteF ⟨sm, eD⟩
          · rw [decide_eq_false c, if_neg c]
            refine iteT ⟨.int (m : Nat), rfl, _, eD, ?_, same_put sm nD, ?_⟩
            · have h3 : (Sy82.without n (s.held.take i)).length ≤ (s.held.take i).length := List.length_filter_le ..
              rw [List.length_take] at h3
              rw [natV_len]
              exact small (by omega)
            · rw [upd_same, natV_app]
              rfl
        · rintro H3 ⟨sm, eD⟩
          rw [natV_len, List.take_length] at eD
          have hw : (Sy82.without n s.held).length ≤ 10 := Nat.le_trans (List.length_filter_le ..) hlen
          refine ⟨.ref D, rfl, .int (n : Nat), rfl, one_ok _, fun p1 n1 => ?_⟩
          have s1 := same_upd (o := .lst [.int (n : Nat)]) n1
          refine ⟨.int (b : Nat), rfl, p1, (b : Nat), _, rfl, rfl, upd_same, by omega, by omega, ?_, fun p2 n2 => ?_⟩
          · rw [List.length_singleton]
            exact smallE (by omega)
          have rep : (List.replicate ((b : Nat) : Int).toNat [V.int (n : Nat)]).flatten = natV (if b = 1 then [n] else []) := by
            rw [Int.toNat_natCast]
            by_cases c : b = 1
            · rw [c, if_pos rfl]
              rfl
            · have : b = 0 := by omega
              rw [this]
              rfl
          rw [rep]
          have s2 := same_put (o := .lst (natV (if b = 1 then [n] else []))) s1 (s1.free n2)
          refine ⟨D, p2, _, _, rfl, rfl, s2 _ _ eD, upd_same, ?_, fun p3 n3 => ?_⟩
          · rw [natV_len, natV_len]
            have : (if b = 1 then [n] else []).length ≤ 1 := by
              by_cases c : b = 1
              · rw [if_pos c]
                exact Nat.le_refl _
              · rw [if_neg c]
                exact Nat.zero_le _
            exact smallE (by omega)
          have s3 := same_put (o := .lst (natV (Sy82.without n s.held) ++ natV (if b = 1 then [n] else []))) s2 (s2.free n3)
          have e3' : natV (Sy82.without n s.held) ++ natV (if b = 1 then [n] else []) = ((Sy82.without n s.held ++ if b = 1 then [n] else []).map fun (n : Nat) => (n : Int)).map V.int := by
            rw [← natV_map, natV_app]
          refine ⟨p3, _, rfl, SqL.of (by rw [upd_same, e3']), fun ns p4 hp hsr n4 => ?_⟩
          have s4 := same_put (o := .lst (ns.map V.int)) s3 (s3.free n4)
          have ens : ns.map V.int = natV (if b = 1 then Sy82.insert n s.held else Sy82.without n s.held) := by
            rw [natV_map]
            congr 1
            by_cases c : b = 1
            · rw [if_pos c] at hp ⊢
              exact sorted_is (rise_insert n _ hs.rise) (hp.trans ((perm_without n _ hs.rise).symm.map _)) hsr
            · rw [if_neg c] at hp ⊢
              rw [List.append_nil] at hp
              exact sorted_is (without_rise hs.rise) hp hsr
          have sm4 := sm.trans s4
          refine ⟨.ref d, rfl, d, C, dx, _, rfl, sm4 _ _ e1, T.cl, T.nH, (by show 2 < 1000; decide), ?_⟩
          rw [deskF_putH]
          have desk := DeskAt.putH (s := { s with held := if b = 1 then Sy82.insert n s.held else Sy82.without n s.held }) (p := p4) (sm4 _ _ e1) ⟨rs, sm4 _ _ hA, hAll.mono fun r b z => z.same sm4⟩ (by unfold NsAt; rw [upd_same, ens])
          have y4 : (upd (upd (upd (upd (upd H3 p1 (.lst [.int (n : Nat)])) p2 (.lst (natV (if b = 1 then [n] else [])))) p3 (.lst (natV (Sy82.without n s.held) ++ natV (if b = 1 then [n] else [])))) p4 (.lst (ns.map V.int))) d (.ins C dx (deskF a p4))) p4 = some (.lst (ns.map V.int)) := by
            rw [upd_ne fun e => ?_, upd_same]
            have z := s3 _ _ (sm _ _ e1)
            rw [← e, n4] at z
            cases z
          refine ⟨.ref d, rfl, d, C, dx, _, _, rfl, upd_same, T.cl, T.nH, deskF_hand a p4, p4, _, rfl, .inl (SqL.of y4), one_ok _, fun p5 n5 => ?_⟩
          have s5 := same_upd (o := .lst [.int ((ns.map V.int).length : Nat)]) n5
          refine q.yes (a := Sy82.ok (((if b = 1 then Sy82.insert n s.held else Sy82.without n s.held).length : Nat) : Int)) (if_neg (by omega)) ((But.trans (Same.but sm4) but_upd).free n5 upd_same) (desk.same s5) ((But.trans (Same.but sm4) but_upd).trans (Same.but s5)) ?_
          rw [upd_same, outV_ok, ens, natV_len]
      · have := of_decide_eq_false z
        exact q.no (Same.refl H) (bad (by omega))
    · refine if_false_of (decide_eq_false c1) ⟨_, _, rfl, fun z => ?_, fun z => q.no (Same.refl H) (bad (by omega))⟩
      cases z
end
end Bk

/-! # desk.py: told_opened, told_cheapest, one, told_needed, told_follow -/
namespace Bk
open PySem PySem.Spec PyProof.Rows L2 BkR
/-! ### a rising list is known by its members -/
theorem rise_uniq : ∀ l m : List Int, l.Pairwise (· < ·) → m.Pairwise (· < ·) → (∀ x, x ∈ l ↔ x ∈ m) → l = m
  | [], [], _, _, _ => rfl
  | [], b :: m, _, _, h => by
    have := (h b).mpr (List.mem_cons_self ..)
    simp at this
  | a :: l, [], _, _, h => by
    have := (h a).mp (List.mem_cons_self ..)
    simp at this
  | a :: l, b :: m, hl, hm, h => by
    have h1 := List.pairwise_cons.mp hl
    have h2 := List.pairwise_cons.mp hm
    have e : a = b := by
      have p := (h a).mp (List.mem_cons_self ..)
      have q := (h b).mpr (List.mem_cons_self ..)
      rcases List.mem_cons.mp p with p | p
      · exact p
      · rcases List.mem_cons.mp q with q | q
        · exact q.symm
        · have := h1.1 b q
          have := h2.1 a p
          omega
    subst e
    congr 1
    refine rise_uniq l m h1.2 h2.2 fun x => ⟨fun hx => ?_, fun hx => ?_⟩
    · rcases List.mem_cons.mp ((h x).mp (List.mem_cons_of_mem _ hx)) with e | z
      · have := h1.1 x hx
        omega
      · exact z
    · rcases List.mem_cons.mp ((h x).mpr (List.mem_cons_of_mem _ hx)) with e | z
      · have := h2.1 x hx
        omega
      · exact z
theorem insert_mem {n k : Nat} : ∀ {l : List Nat}, (k = n ∨ k ∈ l) → k ∈ Sy82.insert n l
  | [], h => by
    rcases h with h | h
    · rw [h]
      exact List.mem_singleton.mpr rfl
    · simp at h
  | m :: l, h => by
    rw [Sy82.insert]
    by_cases c : n < m
    · rw [if_pos c]
      rcases h with h | h
      · rw [h]
        exact List.mem_cons_self ..
      · exact List.mem_cons_of_mem _ h
    · rw [if_neg c]
      by_cases d : n = m
      · rw [if_pos d]
        rcases h with h | h
        · rw [h, d]
          exact List.mem_cons_self ..
        · exact h
      · rw [if_neg d]
        rcases h with h | h
        · exact List.mem_cons_of_mem _ (insert_mem (.inl h))
        · rcases List.mem_cons.mp h with h | h
          · rw [h]
            exact List.mem_cons_self ..
          · exact List.mem_cons_of_mem _ (insert_mem (.inr h))
theorem fold_insert : ∀ (l m : List Nat), m.Pairwise (· < ·) → (l.foldl (fun (m : List Nat) (n : Nat) => Sy82.insert n m) m).Pairwise (· < ·) ∧ ∀ k, k ∈ l.foldl (fun (m : List Nat) (n : Nat) => Sy82.insert n m) m ↔ k ∈ m ∨ k ∈ l
  | [], m, h => ⟨h, fun k => by simp⟩
  | a :: l, m, h => by
    obtain ⟨h1, h2⟩ := fold_insert l (Sy82.insert a m) (rise_insert a m h)
    refine ⟨h1, fun k => ?_⟩
    rw [List.foldl_cons, h2]
    constructor
    · rintro (z | z)
      · rcases mem_insert z with z | z
        · exact .inr (by rw [z]; exact List.mem_cons_self ..)
        · exact .inl z
      · exact .inr (List.mem_cons_of_mem _ z)
    · rintro (z | z)
      · exact .inl (insert_mem (.inr z))
      · rcases List.mem_cons.mp z with z | z
        · exact .inl (insert_mem (.inl z))
        · exact .inr z
theorem sortedOf_rise (l : List Nat) : (Sy82.sortedOf l).Pairwise (· < ·) := (fold_insert l [] List.Pairwise.nil).1
theorem sortedOf_mem (l : List Nat) (k : Nat) : k ∈ Sy82.sortedOf l ↔ k ∈ l := by
  have := (fold_insert l [] List.Pairwise.nil).2 k
  unfold Sy82.sortedOf
  rw [this]
  simp
theorem sortedOf_is {l : List Nat} {ns : List Int} (h1 : ns.Pairwise (· < ·)) (h2 : ∀ k : Int, k ∈ ns ↔ k ∈ l.map fun (n : Nat) => (n : Int)) : ns = (Sy82.sortedOf l).map fun (n : Nat) => (n : Int) := by
  refine rise_uniq _ _ h1 ?_ fun k => ?_
  · rw [List.pairwise_map]
    exact (sortedOf_rise l).imp fun {a b} h => by
      show ((a : Nat) : Int) < (b : Int)
      omega
  · rw [h2, List.mem_map, List.mem_map]
    constructor
    · rintro ⟨n, h, e⟩
      exact ⟨n, (sortedOf_mem l n).mpr h, e⟩
    · rintro ⟨n, h, e⟩
      exact ⟨n, (sortedOf_mem l n).mp h, e⟩
theorem any_all (m : Nat) : ∀ l : List Nat, l.any (fun (k : Nat) => decide (m ≤ k)) = !(l.all fun (k : Nat) => decide (k < m))
  | [] => rfl
  | a :: l => by
    rw [List.any_cons, List.all_cons, any_all m l]
    by_cases c : a < m
    · rw [decide_eq_true c, decide_eq_false (by omega)]
      simp
    · rw [decide_eq_false c, decide_eq_true (by omega)]
      simp
theorem opened_len {s : Sy82.St} (hs : WS s) (l : List Nat) : (Sy82.opened s l).length ≤ l.length + 8 := by
  have h1 := run_len s (Sy82.many s) l
  have h2 : Sy82.many s ≤ 8 := hs.few
  unfold Sy82.opened
  omega
section
variable {P : Program} {w : World} {K : PySem.W.Frag} {mg : Str → Option Value} {base : Heap} {C CF : Addr}
/-! ### told_opened -/
theorem scTO : FnScope ["self", "some", "found"] ["self", "some"] (defScope (sDesk 10)) := ⟨rfl, rfl, rfl, by decide +kernel, rfl, by decide +kernel, by decide +kernel⟩
def spTO (C CF : Addr) : Sp := fun vs H Q E => ∃ (d l : Addr) (s : Sy82.St) (xs : List Nat), vs = [.ref d, .ref l] ∧ WS s ∧ DeskAt C H d s ∧ NsAt H l xs ∧ xs.length ≤ 60 ∧ Fate C CF d s H Q E (Sy82.step s (.opened xs))
theorem ok_told_opened {f : Addr} {fd : FuncData} (F : Fun K "told_opened" "Desk.told_opened" (sDesk 10) f fd) (G : Glb mg) (T : DTxt K C) (Hl : HasM P w K mg base C (L2.CX P w) 4 "look" ["self", "some"] (spLook C CF))
    (Ho : Has P w K mg base CX0 3 "opened" ["boxes", "hand", "broken"] spOpened) (Hi : Has P w K mg base CX0 1 "listed" ["some"] spListed) : FnOk P w K mg base (L2.CX P w) 5 f fd ["self", "some"] (spTO C CF) := by
  obtain ⟨fl, fdl, Gl_, ml, bl⟩ := Hl
  obtain ⟨fo, fdo, Go, go, ko, bo⟩ := Ho
  obtain ⟨fi, fdi, Gi, gi, ki, bi⟩ := Hi
  refine F.okX scTO (fun vs H Q E h => ?_) (fun cdv A outer s H vs Q E hr h => ?_)
  · obtain ⟨d, l, s, xs, rfl, _⟩ := h
    rfl
  · obtain ⟨d, l, s, xs, rfl, hs, hD, hL, few, q⟩ := h
    have nd := scTO.nd
    have hr3 : Room 3 _ := hr.mono (by decide)
    have hr1 : Room 1 _ := hr.mono (by decide)
    refine ⟨_, pss_cons (ps_expr (pe_meth (pv 0) T.cl ml Gl_ hr bl .nil passX (pa_cons (pv 1) pa_nil)))
      (pss_cons (ps_set (i := 2) nd rfl (.inl rfl) (pe_call Go hr3 (by rfl) go ko bo .nil pass0 (pa_cons (pe_fld (pv 0) rfl) (pa_cons (pe_fld (pv 0) rfl) (pa_cons
          (pe_callB (cr_sortedSet rfl) (by rfl) G.sorted (by decide +kernel) (pa_cons (pe_callTy (cr_setL rfl) (by rfl) G.set (by decide +kernel) (pa_cons (pv 1) pa_nil)) pa_nil)) pa_nil)))))
      (pss_one (ps_ret (pe_op op_cat (pe_lst (pa_cons (pe_callB call_len_seq (by rfl) G.len PySem.boot_len (pa_cons (pv 2) pa_nil)) pa_nil)) (pe_call Gi hr1 (by rfl) gi ki bi .nil pass0 (pa_cons (pv 2) pa_nil)))))), ?_⟩
    obtain ⟨dx, a, hd, e1, ⟨rs, hA, hAll⟩, e3⟩ := id hD
    refine ⟨.ref d, rfl, d, dx, _, rfl, e1, deskF_no (by decide +kernel) (by decide +kernel), .ref l, rfl, d, l, s, xs, rfl, hD, hL, by omega, fun z H1 s1 => ?_, fun z => q.no (Same.refl H) ?_⟩
    · refine ⟨.ref d, rfl, d, C, dx, _, _, rfl, s1 _ _ e1, T.cl, T.nB, deskF_boxes a hd, .ref d, rfl, d, C, dx, _, _, rfl, s1 _ _ e1, T.cl, T.nH, deskF_hand a hd, .ref l, rfl, l, xs.map (fun (n : Nat) => (n : Int)), rfl, SqL.of (by rw [← natV_map]; exact s1 _ _ hL), by rw [List.length_map]; omega, fun p2 c n2 hc => ?_⟩
      rw [List.length_map] at hc
      have s2 := same_upd (o := SetO w p2 (fun j => decide (j ∈ xs.map (fun (n : Nat) => (n : Int)))) c) n2
      refine ⟨p2, _, c, rfl, upd_same, by omega, fun ns p3 h1 h2 h3 n3 => ?_⟩
      have s3 := same_put (o := .lst (ns.map V.int)) s2 (s2.free n3)
      have ens : ns = (Sy82.sortedOf xs).map fun (n : Nat) => (n : Int) := sortedOf_is h1 fun k => by
        rw [h2]
        exact decide_eq_true_iff
      have sm := s1.trans s3
      have low : ∀ k ∈ Sy82.sortedOf xs, k < Sy82.many s := fun k hk => by
        have := List.all_eq_true.mp z k ((sortedOf_mem xs k).mp hk)
        exact of_decide_eq_true this
      have sl : (Sy82.sortedOf xs).length ≤ 60 := by
        have z : ns.length = (Sy82.sortedOf xs).length := by
          rw [ens, List.length_map]
        omega
      refine ⟨a, hd, p3, s, Sy82.sortedOf xs, rfl, hs, ⟨rs, sm _ _ hA, hAll.mono fun r b z => z.same sm⟩, sm _ _ e3, by rw [upd_same, ens, ← natV_map], low, by omega, fun H4 p4 s4 e4 => ?_⟩
      have ol := opened_len hs (Sy82.sortedOf xs)
      refine ⟨.ref p4, rfl, p4, _, rfl, .inl (SqL.of e4), one_ok _, fun p5 n5 => ?_⟩
      have s5 := same_upd (o := .lst [.int ((natV (Sy82.opened s (Sy82.sortedOf xs))).length : Nat)]) n5
      refine ⟨.ref p4, rfl, p4, _, rfl, s5 _ _ e4, by rw [natV_len]; omega, fun H6 p6 s6 e6 => ?_⟩
      refine ⟨p5, p6, _, _, rfl, rfl, s6 _ _ upd_same, e6, ?_, fun p7 n7 => ?_⟩
      · rw [List.length_singleton, List.length_cons, natV_len]
        exact smallE (by omega)
      have s7 := same_upd (o := .lst ([V.int ((natV (Sy82.opened s (Sy82.sortedOf xs))).length : Nat)] ++ (V.int ((natV (Sy82.opened s (Sy82.sortedOf xs))).length : Nat) :: natV (Sy82.opened s (Sy82.sortedOf xs))))) n7
      have all7 := sm.trans (s4.trans (s5.trans (s6.trans s7)))
      refine q.yes (t := s) (a := ⟨((Sy82.opened s (Sy82.sortedOf xs)).length : Nat), [Sy82.ints (Sy82.opened s (Sy82.sortedOf xs))]⟩) ?_ ((sm.trans (s4.trans (s5.trans s6))).free n7) (hD.same all7) (Same.but all7) ?_
      · show (s, if xs.any (fun (k : Nat) => decide (Sy82.many s ≤ k)) = true then _ else _) = _
        rw [any_all, z, Bool.not_true, if_neg Bool.false_ne_true]
      · rw [upd_same, outV_one, natV_len]
        rfl
    · show (s, if xs.any (fun (k : Nat) => decide (Sy82.many s ≤ k)) = true then _ else _) = _
      rw [any_all, z, Bool.not_false, if_pos rfl]
/-! ### told_cheapest -/
theorem scTC : FnScope ["self", "goal", "cost", "choice"] ["self", "goal"] (defScope (sDesk 11)) := ⟨rfl, rfl, rfl, by decide +kernel, rfl, by decide +kernel, by decide +kernel⟩
def spTC (C : Addr) : Sp := fun vs H Q _ => ∃ (d g : Addr) (s : Sy82.St) (goal : List Nat), vs = [.ref d, .ref g] ∧ WS s ∧ DeskAt C H d s ∧ NsAt H g goal ∧ (∀ k ∈ goal, k < Sy82.many s) ∧ goal.length ≤ 1000 ∧
  ∀ H' p c, H p = none → Same H H' → Sy82.cheapest s (goalOk goal) = some c → H' p = some (.lst (outV ⟨(Sy82.price s c : Nat), [Sy82.ints c]⟩)) → Q (.ref p) H'
theorem ok_told_cheapest {f : Addr} {fd : FuncData} (F : Fun K "told_cheapest" "Desk.told_cheapest" (sDesk 11) f fd) (G : Glb mg) (T : DTxt K C) (Hc : Has P w K mg base CX0 5 "cheapest" ["boxes", "hand", "goal"] spCheapest) (Hi : Has P w K mg base CX0 1 "listed" ["some"] spListed) :
    FnOk P w K mg base CX0 6 f fd ["self", "goal"] (spTC C) := by
  obtain ⟨fc, fdc, Gc, gc, kc, bc⟩ := Hc
  obtain ⟨fi, fdi, Gi, gi, ki, bi⟩ := Hi
  refine F.ok scTC (fun vs H Q E h => ?_) (fun cdv A outer s H vs Q E hr h => ?_)
  · obtain ⟨d, g, s, goal, rfl, _⟩ := h
    rfl
  · obtain ⟨d, g, s, goal, rfl, hs, hD, hG, low, few, q⟩ := h
    have nd := scTC.nd
    have hr1 : Room 1 _ := hr.mono (by decide)
    refine ⟨_, pss_cons (ps_asg (pe_call Gc hr (by rfl) gc kc bc .nil pass0 (pa_cons (pe_fld (pv 0) rfl) (pa_cons (pe_fld (pv 0) rfl) (pa_cons (pv 1) pa_nil))))
          (pg_tup rfl (pgs_cons (pg_name (i := 2) nd rfl (.inl rfl)) (pgs_cons (pg_name (i := 3) nd rfl (.inl rfl)) pgs_nil))))
      (pss_one (ps_ret (pe_op op_cat (pe_lst (pa_cons (pv 2) pa_nil)) (pe_call Gi hr1 (by rfl) gi ki bi .nil pass0 (pa_cons (pv 3) pa_nil))))), ?_⟩
    obtain ⟨dx, a, hd, e1, hB, e3⟩ := id hD
    refine ⟨.ref d, rfl, d, C, dx, _, _, rfl, e1, T.cl, T.nB, deskF_boxes a hd, .ref d, rfl, d, C, dx, _, _, rfl, e1, T.cl, T.nH, deskF_hand a hd, .ref g, rfl, a, hd, g, s, goal, rfl, hs, hB, e3, hG, low, few, fun H1 p1 r c s1 hc y1 y2 => ?_⟩
    refine ⟨p1, _, rfl, SqT.of y1, rfl, _, [.ref r], rfl, _, [], rfl, rfl, ?_⟩
    refine ⟨.int (Sy82.price s c : Nat), rfl, one_ok _, fun p2 n2 => ?_⟩
    have s2 := same_upd (o := .lst [.int (Sy82.price s c : Nat)]) n2
    have cl : c.length ≤ 8 := Nat.le_trans (chs_size (cheapest_is hc).1) hs.few
    refine ⟨.ref r, rfl, r, _, rfl, s2 _ _ y2, by rw [natV_len]; omega, fun H3 p3 s3 e3 => ?_⟩
    refine ⟨p2, p3, _, _, rfl, rfl, s3 _ _ upd_same, e3, ?_, fun p4 n4 => ?_⟩
    · rw [List.length_singleton, List.length_cons, natV_len]
      exact smallE (by omega)
    refine q _ p4 c ((s1.trans (s2.trans s3)).free n4) (s1.trans (s2.trans (s3.trans (same_upd n4)))) hc ?_
    rw [upd_same, outV_one, natV_len]
    rfl
/-! ### one -/
theorem scOne : FnScope ["self", "number"] ["self", "number"] (defScope (sDesk 12)) := ⟨rfl, rfl, rfl, by decide +kernel, rfl, by decide +kernel, by decide +kernel⟩
def spOne (C CF : Addr) : Sp := fun vs H Q E => ∃ (d : Addr) (s : Sy82.St) (k : Nat), vs = [.ref d, .int (k : Nat)] ∧ WS s ∧ DeskAt C H d s ∧ Fate C CF d s H Q E (Sy82.step s (.one k))
theorem goal_one_fun (k : Nat) : goalOk [k] = fun (l : List Nat) => l.contains k := by
  funext l
  exact goal_one k l
theorem ok_one {f : Addr} {fd : FuncData} (F : Fun K "one" "Desk.one" (sDesk 12) f fd) (G : Glb mg) (T : DTxt K C) (Hl : HasM P w K mg base C (L2.CX P w) 4 "look" ["self", "some"] (spLook C CF)) (Hc : HasM P w K mg base C CX0 6 "told_cheapest" ["self", "goal"] (spTC C)) :
    FnOk P w K mg base (L2.CX P w) 7 f fd ["self", "number"] (spOne C CF) := by
  obtain ⟨fl, fdl, Gl_, ml, bl⟩ := Hl
  obtain ⟨fc, fdc, Gc, mc, bc⟩ := Hc
  refine F.okX scOne (fun vs H Q E h => ?_) (fun cdv A outer s H vs Q E hr h => ?_)
  · obtain ⟨d, s, k, rfl, _⟩ := h
    rfl
  · obtain ⟨d, s, k, rfl, hs, hD, q⟩ := h
    have hr4 : Room 4 _ := hr.mono (by decide)
    refine ⟨_, pss_cons (ps_expr (pe_meth (pv 0) T.cl ml Gl_ hr4 bl .nil passX (pa_cons (pe_lst (pa_cons (pv 1) pa_nil)) pa_nil)))
      (pss_one (ps_ret (pe_meth (pv 0) T.cl mc Gc hr bc .nil pass0 (pa_cons (pe_lst (pa_cons (pv 1) pa_nil)) pa_nil)))), ?_⟩
    obtain ⟨dx, a, hd, e1, hB, e3⟩ := id hD
    refine ⟨.ref d, rfl, d, dx, _, rfl, e1, deskF_no (by decide +kernel) (by decide +kernel), .int (k : Nat), rfl, one_ok _, fun p1 n1 => ?_⟩
    have s1 : Same H (upd H p1 (.lst [.int (k : Nat)])) := same_upd n1
    refine ⟨d, p1, s, [k], rfl, hD.same s1, upd_same, (show 1 ≤ 1000 by decide), fun z H1 s2 => ?_, fun z => ?_⟩
    · rw [one_all] at z
      have hk : k < Sy82.many s := of_decide_eq_true z
      have sm := s1.trans s2
      refine ⟨.ref d, rfl, d, dx, _, rfl, sm _ _ e1, deskF_no (by decide +kernel) (by decide +kernel), .int (k : Nat), rfl, one_ok _, fun p3 n3 => ?_⟩
      have s3 := same_upd (o := .lst [.int (k : Nat)]) n3
      refine ⟨d, p3, s, [k], rfl, hs, hD.same (sm.trans s3), upd_same, fun i hi => ?_, (show 1 ≤ 1000 by decide), fun H4 p4 c np s4 hc e4 => ?_⟩
      · rw [List.mem_singleton.mp hi]
        exact hk
      · rw [goal_one_fun] at hc
        have all4 := sm.trans (s3.trans s4)
        refine q.yes (t := s) ?_ ((sm.trans s3).free np) (hD.same all4) (Same.but all4) e4
        show (s, if Sy82.many s ≤ k then _ else Sy82.told s (Sy82.cheapest s fun (l : List Nat) => l.contains k)) = _
        rw [if_neg (by omega), hc]
        rfl
    · rw [one_all] at z
      have hk : Sy82.many s ≤ k := by
        have := of_decide_eq_false z
        omega
      refine q.no s1 ?_
      show (s, if Sy82.many s ≤ k then _ else _) = _
      rw [if_pos hk]
/-! ### told_needed -/
theorem scTN : FnScope ["self", "found"] ["self"] (defScope (sDesk 13)) := ⟨rfl, rfl, rfl, by decide +kernel, rfl, by decide +kernel, by decide +kernel⟩
def spTN (C CF : Addr) : Sp := fun vs H Q E => ∃ (d : Addr) (s : Sy82.St), vs = [.ref d] ∧ WS s ∧ DeskAt C H d s ∧ Fate C CF d s H Q E (Sy82.step s .needed)
theorem ok_told_needed {f : Addr} {fd : FuncData} (F : Fun K "told_needed" "Desk.told_needed" (sDesk 13) f fd) (G : Glb mg) (T : DTxt K C) (Hn : Has P w K mg base CX0 5 "needed" ["boxes", "hand"] spNeeded) (Hi : Has P w K mg base CX0 1 "listed" ["some"] spListed) :
    FnOk P w K mg base (L2.CX P w) 6 f fd ["self"] (spTN C CF) := by
  obtain ⟨fc, fdc, Gc, gc, kc, bc⟩ := Hn
  obtain ⟨fi, fdi, Gi, gi, ki, bi⟩ := Hi
  refine F.okX scTN (fun vs H Q E h => ?_) (fun cdv A outer s H vs Q E hr h => ?_)
  · obtain ⟨d, s, rfl, _⟩ := h
    rfl
  · obtain ⟨d, s, rfl, hs, hD, q⟩ := h
    have nd := scTN.nd
    have hr1 : Room 1 _ := hr.mono (by decide)
    refine ⟨_, pss_cons (ps_set (i := 1) nd rfl (.inl rfl) (pe_call Gc hr (by rfl) gc kc bc .nil pass0 (pa_cons (pe_fld (pv 0) rfl) (pa_cons (pe_fld (pv 0) rfl) pa_nil))))
      (pss_one (ps_ret (pe_op op_cat (pe_lst (pa_cons (pe_callB call_len_seq (by rfl) G.len PySem.boot_len (pa_cons (pv 1) pa_nil)) pa_nil)) (pe_call Gi hr1 (by rfl) gi ki bi .nil pass0 (pa_cons (pv 1) pa_nil))))), ?_⟩
    obtain ⟨dx, a, hd, e1, hB, e3⟩ := id hD
    refine ⟨.ref d, rfl, d, C, dx, _, _, rfl, e1, T.cl, T.nB, deskF_boxes a hd, .ref d, rfl, d, C, dx, _, _, rfl, e1, T.cl, T.nH, deskF_hand a hd, a, hd, s, rfl, hs, hB, e3, fun H1 p4 s1 e4 => ?_⟩
    have nl : (Sy82.needed s).length ≤ 8 := by
      refine Nat.le_trans (List.length_filter_le ..) ?_
      rw [List.length_range]
      exact hs.few
    refine ⟨.ref p4, rfl, p4, _, rfl, .inl (SqL.of e4), one_ok _, fun p5 n5 => ?_⟩
    have s5 := same_upd (o := .lst [.int ((natV (Sy82.needed s)).length : Nat)]) n5
    refine ⟨.ref p4, rfl, p4, _, rfl, s5 _ _ e4, by rw [natV_len]; omega, fun H6 p6 s6 e6 => ?_⟩
    refine ⟨p5, p6, _, _, rfl, rfl, s6 _ _ upd_same, e6, ?_, fun p7 n7 => ?_⟩
    · rw [List.length_singleton, List.length_cons, natV_len]
      exact smallE (by omega)
    have all7 := s1.trans (s5.trans (s6.trans (same_upd (o := .lst ([V.int ((natV (Sy82.needed s)).length : Nat)] ++ (V.int ((natV (Sy82.needed s)).length : Nat) :: natV (Sy82.needed s)))) n7)))
    refine q.yes (t := s) (a := ⟨((Sy82.needed s).length : Nat), [Sy82.ints (Sy82.needed s)]⟩) rfl ((s1.trans (s5.trans s6)).free n7) (hD.same all7) (Same.but all7) ?_
    rw [upd_same, outV_one, natV_len]
    rfl
/-! ### told_follow -/
theorem scTF : FnScope ["self", "number", "found"] ["self", "number"] (defScope (sDesk 14)) := ⟨rfl, rfl, rfl, by decide +kernel, rfl, by decide +kernel, by decide +kernel⟩
def spTF (C CF : Addr) : Sp := fun vs H Q E => ∃ (d : Addr) (s : Sy82.St) (k : Nat), vs = [.ref d, .int (k : Nat)] ∧ WS s ∧ DeskAt C H d s ∧ Fate C CF d s H Q E (Sy82.step s (.follow k))
theorem ok_told_follow {f : Addr} {fd : FuncData} (F : Fun K "told_follow" "Desk.told_follow" (sDesk 14) f fd) (G : Glb mg) (T : DTxt K C) (Hl : HasM P w K mg base C (L2.CX P w) 4 "look" ["self", "some"] (spLook C CF)) (Hn : Has P w K mg base CX0 4 "follow" ["boxes", "hand", "number"] spFollow)
    (Hi : Has P w K mg base CX0 1 "listed" ["some"] spListed) : FnOk P w K mg base (L2.CX P w) 5 f fd ["self", "number"] (spTF C CF) := by
  obtain ⟨fl, fdl, Gl_, ml, bl⟩ := Hl
  obtain ⟨fc, fdc, Gc, gc, kc, bc⟩ := Hn
  obtain ⟨fi, fdi, Gi, gi, ki, bi⟩ := Hi
  refine F.okX scTF (fun vs H Q E h => ?_) (fun cdv A outer s H vs Q E hr h => ?_)
  · obtain ⟨d, s, k, rfl, _⟩ := h
    rfl
  · obtain ⟨d, s, k, rfl, hs, hD, q⟩ := h
    have nd := scTF.nd
    have hr1 : Room 1 _ := hr.mono (by decide)
    refine ⟨_, pss_cons (ps_expr (pe_meth (pv 0) T.cl ml Gl_ hr bl .nil passX (pa_cons (pe_lst (pa_cons (pv 1) pa_nil)) pa_nil)))
      (pss_cons (ps_set (i := 2) nd rfl (.inl rfl) (pe_call Gc hr (by rfl) gc kc bc .nil pass0 (pa_cons (pe_fld (pv 0) rfl) (pa_cons (pe_fld (pv 0) rfl) (pa_cons (pv 1) pa_nil)))))
      (pss_one (ps_ret (pe_op op_cat (pe_lst (pa_cons (pe_callB call_len_seq (by rfl) G.len PySem.boot_len (pa_cons (pv 2) pa_nil)) pa_nil)) (pe_call Gi hr1 (by rfl) gi ki bi .nil pass0 (pa_cons (pv 2) pa_nil)))))), ?_⟩
    obtain ⟨dx, a, hd, e1, hB, e3⟩ := id hD
    refine ⟨.ref d, rfl, d, dx, _, rfl, e1, deskF_no (by decide +kernel) (by decide +kernel), .int (k : Nat), rfl, one_ok _, fun p1 n1 => ?_⟩
    have s1 : Same H (upd H p1 (.lst [.int (k : Nat)])) := same_upd n1
    refine ⟨d, p1, s, [k], rfl, hD.same s1, upd_same, (show 1 ≤ 1000 by decide), fun z H1 s2 => ?_, fun z => ?_⟩
    · rw [one_all] at z
      have hk : k < Sy82.many s := of_decide_eq_true z
      have sm := s1.trans s2
      refine ⟨.ref d, rfl, d, C, dx, _, _, rfl, sm _ _ e1, T.cl, T.nB, deskF_boxes a hd, .ref d, rfl, d, C, dx, _, _, rfl, sm _ _ e1, T.cl, T.nH, deskF_hand a hd, .int (k : Nat), rfl, a, hd, s, k, rfl, hs, hB.same sm, sm _ _ e3, hk, fun H3 p4 s3 e4 => ?_⟩
      have nl : (Sy82.follow s k).length ≤ 9 := by
        refine Nat.le_trans (List.length_filter_le ..) ?_
        have := opened_len hs [k]
        rw [List.length_singleton] at this
        omega
      refine ⟨.ref p4, rfl, p4, _, rfl, .inl (SqL.of e4), one_ok _, fun p5 n5 => ?_⟩
      have s5 := same_upd (o := .lst [.int ((natV (Sy82.follow s k)).length : Nat)]) n5
      refine ⟨.ref p4, rfl, p4, _, rfl, s5 _ _ e4, by rw [natV_len]; omega, fun H6 p6 s6 e6 => ?_⟩
      refine ⟨p5, p6, _, _, rfl, rfl, s6 _ _ upd_same, e6, ?_, fun p7 n7 => ?_⟩
      · rw [List.length_singleton, List.length_cons, natV_len]
        exact smallE (by omega)
      have all7 := sm.trans (s3.trans (s5.trans (s6.trans (same_upd (o := .lst ([V.int ((natV (Sy82.follow s k)).length : Nat)] ++ (V.int ((natV (Sy82.follow s k)).length : Nat) :: natV (Sy82.follow s k)))) n7))))
      refine q.yes (t := s) (a := ⟨((Sy82.follow s k).length : Nat), [Sy82.ints (Sy82.follow s k)]⟩) ?_ ((sm.trans (s3.trans (s5.trans s6))).free n7) (hD.same all7) (Same.but all7) ?_
      · show (s, if Sy82.many s ≤ k then _ else _) = _
        rw [if_neg (by omega)]
      · rw [upd_same, outV_one, natV_len]
        rfl
    · rw [one_all] at z
      have hk : Sy82.many s ≤ k := by
        have := of_decide_eq_false z
        omega
      refine q.no s1 ?_
      show (s, if Sy82.many s ≤ k then _ else _) = _
      rw [if_pos hk]
end
end Bk

/-! # desk.py: lost, told_state -/
namespace Bk
open PySem PySem.Spec PyProof.Rows L2 BkR
/-! ### a box changed -/
theorem set_boxOf {s : Sy82.St} {k : Nat} {b : Sy82.Box} (hk : k < Sy82.many s) (j : Nat) : Sy82.boxOf { s with boxes := s.boxes.set k b } j = if j = k then b else Sy82.boxOf s j := by
  have hk' : k < s.boxes.length := hk
  unfold Sy82.boxOf
  rw [List.getD_eq_getElem?_getD, List.getD_eq_getElem?_getD]
  show ((s.boxes.set k b)[j]?).getD _ = _
  by_cases e : j = k
  · subst e
    rw [if_pos rfl, List.getElem?_set_self hk']
    rfl
  · rw [if_neg e, List.getElem?_set_ne (Ne.symm e)]
theorem set_many {s : Sy82.St} {k : Nat} {b : Sy82.Box} : Sy82.many { s with boxes := s.boxes.set k b } = Sy82.many s := List.length_set
theorem ws_set {s : Sy82.St} (hs : WS s) {k : Nat} {b : Sy82.Box} (hb : WB b) : WS { s with boxes := s.boxes.set k b } := by
  refine ⟨?_, fun c hc => ?_, hs.rise, hs.low⟩
  · show (s.boxes.set k b).length ≤ 8
    rw [List.length_set]
    exact hs.few
  · rcases List.mem_or_eq_of_mem_set hc with h | h
    · exact hs.box c h
    · rw [h]
      exact hb
theorem wb_keys {b : Sy82.Box} (hb : WB b) {l : List Nat} (h1 : l.Pairwise (· < ·)) (h2 : ∀ k ∈ l, k < 10) : WB { b with keys := l } := ⟨hb.lock, hb.cost, h1, h2⟩
theorem wb_without {b : Sy82.Box} (hb : WB b) (n : Nat) : WB { b with keys := Sy82.without n b.keys } := wb_keys hb (without_rise hb.rise) fun k hk => hb.low k (List.mem_filter.mp hk).1
theorem less_without {s : Sy82.St} {k n : Nat} (hk : k < Sy82.many s) : Less (Sy82.withKeys s k (Sy82.without n)) s := by
  refine ⟨set_many, fun j => ?_, fun j => ?_, fun j m hm => ?_, rfl⟩
  · show (Sy82.boxOf { s with boxes := s.boxes.set k _ } j).lock = _
    rw [set_boxOf hk]
    by_cases e : j = k
    · rw [if_pos e, e]
    · rw [if_neg e]
  · show (Sy82.boxOf { s with boxes := s.boxes.set k _ } j).cost = _
    rw [set_boxOf hk]
    by_cases e : j = k
    · rw [if_pos e, e]
    · rw [if_neg e]
  · have hm' : m ∈ (Sy82.boxOf { s with boxes := s.boxes.set k { Sy82.boxOf s k with keys := Sy82.without n (Sy82.boxOf s k).keys } } j).keys := hm
    rw [set_boxOf hk] at hm'
    by_cases e : j = k
    · rw [if_pos e] at hm'
      rw [e]
      exact (List.mem_filter.mp hm').1
    · rw [if_neg e] at hm'
      exact hm'
/-! ### the state's rows -/
def rowN (b : Sy82.Box) : List Nat := [lockN b, b.cost, b.keys.length] ++ b.keys
theorem rows_eq (bs : List Sy82.Box) : (bs.flatMap fun (b : Sy82.Box) => [b.lock.getD Sy82.NONE, b.cost, b.keys.length] ++ b.keys) = bs.flatMap rowN := rfl
theorem rows_len : ∀ {bs : List Sy82.Box}, (∀ b ∈ bs, WB b) → (bs.flatMap rowN).length ≤ 13 * bs.length
  | [], _ => Nat.le_refl _
  | b :: bs, h => by
    have ih := rows_len (bs := bs) fun c hc => h c (List.mem_cons_of_mem _ hc)
    have z := (h b (List.mem_cons_self ..)).len
    have e : (rowN b).length = 3 + b.keys.length := by
      unfold rowN
      rw [List.length_append]
      rfl
    rw [List.flatMap_cons, List.length_append, List.length_cons, e]
    omega
theorem outV_two (n : Int) (l m : List Nat) : outV ⟨n, [Sy82.ints l, Sy82.ints m]⟩ = .int n :: (.int (l.length : Nat) :: natV l) ++ (.int (m.length : Nat) :: natV m) := by
  unfold outV Sy82Neutral.out
  show V.int n :: List.map V.int ((((Sy82.ints l).length : Int) :: Sy82.ints l) ++ ((((Sy82.ints m).length : Int) :: Sy82.ints m) ++ [])) = _
  rw [List.append_nil, List.map_append, List.map_cons, List.map_cons]
  unfold Sy82.ints
  rw [← natV_map, ← natV_map, List.length_map, List.length_map]
  rfl
section
variable {P : Program} {w : World} {K : PySem.W.Frag} {mg : Str → Option Value} {base : Heap} {C CF : Addr}
/-! ### lost -/
theorem scLost : FnScope ["self", "number", "lock", "boxes"] ["self", "number", "lock"] (defScope (sDesk 15)) := ⟨rfl, rfl, rfl, by decide +kernel, rfl, by decide +kernel, by decide +kernel⟩
def spLost (C CF : Addr) : Sp := fun vs H Q E => ∃ (d : Addr) (s : Sy82.St) (k n : Nat), vs = [.ref d, .int (k : Nat), .int (n : Nat)] ∧ WS s ∧ DeskAt C H d s ∧ Fate C CF d s H Q E (Sy82.step s (.lost k n))
theorem ok_lost {f : Addr} {fd : FuncData} (F : Fun K "lost" "Desk.lost" (sDesk 15) f fd) (T : DTxt K C) (Hl : HasM P w K mg base C (L2.CX P w) 5 "look_key" ["self", "number", "lock"] (spLookKey C CF)) (He : HasM P w K mg base C CX0 1 "every" ["self"] (spEvery C))
    (Hw : Has P w K mg base CX0 1 "with_box" ["boxes", "number", "box"] spWithBox) (Hk : Has P w K mg base CX0 1 "without_key" ["box", "lock"] spWithoutKey) (Hc : Has P w K mg base CX0 5 "cheapest" ["boxes", "hand", "goal"] spCheapest) :
    FnOk P w K mg base (L2.CX P w) 6 f fd ["self", "number", "lock"] (spLost C CF) := by
  obtain ⟨fl, fdl, Gl_, ml, bl⟩ := Hl
  obtain ⟨fe, fde, Ge, me, be⟩ := He
  obtain ⟨fw, fdw, Gw, gw, kw, bw⟩ := Hw
  obtain ⟨fk, fdk, Gk, gk, kk, bk⟩ := Hk
  obtain ⟨fc, fdc, Gc, gc, kc, bc⟩ := Hc
  refine F.okX scLost (fun vs H Q E h => ?_) (fun cdv A outer s H vs Q E hr h => ?_)
  · obtain ⟨d, s, k, n, rfl, _⟩ := h
    rfl
  · obtain ⟨d, s, k, n, rfl, hs, hD, q⟩ := h
    have nd := scLost.nd
    have hr1 : Room 1 _ := hr.mono (by decide)
    refine ⟨_, pss_cons (ps_expr (pe_meth (pv 0) T.cl ml Gl_ hr bl .nil passX (pa_cons (pv 1) (pa_cons (pv 2) pa_nil))))
      (pss_cons (ps_set (i := 3) nd rfl (.inl rfl) (pe_call Gw hr1 (by rfl) gw kw bw .nil pass0 (pa_cons (pe_fld (pv 0) rfl) (pa_cons (pv 1) (pa_cons
          (pe_call Gk hr1 (by rfl) gk kk bk .nil pass0 (pa_cons (pe_ix ix_list (pe_fld (pv 0) rfl) (pv 1) (fun _ _ => rfl)) (pa_cons (pv 2) pa_nil))) pa_nil)))))
      (pss_one (ps_ret (pe_lst (pa_cons (pe_op op_sub
        (pe_ix ix_tup (pe_call Gc hr (by rfl) gc kc bc .nil pass0 (pa_cons (pv 3) (pa_cons (pe_fld (pv 0) rfl) (pa_cons (pe_meth0 (pv 0) T.cl me Ge hr1 be .nil pass0) pa_nil)))) pe_int (fun _ _ => rfl))
        (pe_ix ix_tup (pe_call Gc hr (by rfl) gc kc bc .nil pass0 (pa_cons (pe_fld (pv 0) rfl) (pa_cons (pe_fld (pv 0) rfl) (pa_cons (pe_meth0 (pv 0) T.cl me Ge hr1 be .nil pass0) pa_nil)))) pe_int (fun _ _ => rfl))) pa_nil))))), ?_⟩
    obtain ⟨dx, a, hd, e1, ⟨rs, hA, hAll⟩, e3⟩ := id hD
    refine ⟨.ref d, rfl, d, dx, _, rfl, e1, deskF_no (by decide +kernel) (by decide +kernel), .int (k : Nat), rfl, .int (n : Nat), rfl, d, s, k, n, rfl, hD, fun hk => q.no (Same.refl H) ?_, fun hk hc => q.no (Same.refl H) ?_, fun hk hc H1 s1 => ?_⟩
    · show (s, if Sy82.many s ≤ k then _ else _) = _
      rw [if_pos hk]
    · show (s, if Sy82.many s ≤ k then _ else if (Sy82.boxOf s k).keys.contains n = false then _ else _) = _
      rw [if_neg (by omega), if_pos hc]
    · obtain ⟨r, h1, h2⟩ := hAll.get (at_boxOf hk)
      have n8 : Sy82.many s ≤ 8 := hs.few
      have bx : ∀ {H' : Hp}, Same H H' → BxsAt H' a s.boxes := fun sm => ⟨rs, sm _ _ hA, hAll.mono fun r b z => z.same sm⟩
      refine ⟨.ref d, rfl, d, C, dx, _, _, rfl, s1 _ _ e1, T.cl, T.nB, deskF_boxes a hd, .int (k : Nat), rfl, .ref d, rfl, d, C, dx, _, _, rfl, s1 _ _ e1, T.cl, T.nB, deskF_boxes a hd, .int (k : Nat), rfl, a, _, _, _, rfl, rfl, SqL.of (s1 _ _ hA), atI_nat (at_refs h1), .int (n : Nat), rfl, r, _, n, rfl, h2.same s1, hs.of k, fun H2 p2 s2 hb => ?_⟩
      have sm2 := s1.trans s2
      refine ⟨a, p2, s.boxes, k, _, rfl, bx sm2, hb, hk, Nat.le_trans n8 (by decide), fun H3 p3 s3 hB3 => ?_⟩
      have sm3 := sm2.trans s3
      have ht : WS (Sy82.withKeys s k (Sy82.without n)) := ws_set hs (wb_without (hs.of k) n)
      have hB3' : BxsAt H3 p3 (Sy82.withKeys s k (Sy82.without n)).boxes := hB3
      have tm : Sy82.many (Sy82.withKeys s k (Sy82.without n)) = Sy82.many s := set_many
      have th : (Sy82.withKeys s k (Sy82.without n)).held = s.held := rfl
      have less := less_without (s := s) (n := n) hk
      generalize ht' : Sy82.withKeys s k (Sy82.without n) = t at ht hB3' tm th less
      refine ⟨.ref p3, rfl, .ref d, rfl, d, C, dx, _, _, rfl, sm3 _ _ e1, T.cl, T.nH, deskF_hand a hd, .ref d, rfl, d, dx, _, rfl, sm3 _ _ e1, deskF_no (by decide +kernel) (by decide +kernel), d, s, rfl, hs, hD.same sm3, fun H4 g4 s4 eg => ?_⟩
      have sm4 := sm3.trans s4
      refine ⟨p3, hd, g4, t, List.range (Sy82.many s), rfl, ht, hB3'.same s4, by rw [th]; exact sm4 _ _ e3, eg, fun i hi => by rw [tm]; exact List.mem_range.mp hi, by rw [List.length_range]; omega, fun H5 p5 r5 b s5 hb5 y5 _ => ?_⟩
      have sm5 := sm4.trans s5
      refine ⟨p5, _, 0, _, rfl, rfl, SqT.of y5, atI_nat (j := 0) rfl, ?_⟩
      refine ⟨.ref d, rfl, d, C, dx, _, _, rfl, sm5 _ _ e1, T.cl, T.nB, deskF_boxes a hd, .ref d, rfl, d, C, dx, _, _, rfl, sm5 _ _ e1, T.cl, T.nH, deskF_hand a hd, .ref d, rfl, d, dx, _, rfl, sm5 _ _ e1, deskF_no (by decide +kernel) (by decide +kernel), d, s, rfl, hs, hD.same sm5, fun H6 g6 s6 eg6 => ?_⟩
      have sm6 := sm5.trans s6
      refine ⟨a, hd, g6, s, List.range (Sy82.many s), rfl, hs, bx sm6, sm6 _ _ e3, eg6, fun i hi => List.mem_range.mp hi, by rw [List.length_range]; omega, fun H7 p7 r7 c s7 hc7 y7 _ => ?_⟩
      have sm7 := sm6.trans s7
      refine ⟨p7, _, 0, _, rfl, rfl, SqT.of y7, atI_nat (j := 0) rfl, _, _, rfl, rfl, one_ok _, fun p8 n8 => ?_⟩
      have s8 := same_upd (o := .lst [.int ((Sy82.price t b : Nat) - (Sy82.price s c : Nat))]) n8
      have sm8 := sm7.trans s8
      have hb6 : Sy82.cheapest t (Sy82.all_ t) = some b := by
        have z : goalOk (List.range (Sy82.many s)) = Sy82.all_ t := by
          rw [← tm]
          funext l
          rfl
        rw [← z]
        exact hb5
      have hc6 : Sy82.cheapest s (Sy82.all_ s) = some c := hc7
      have le := lost_le less hc6 hb6
      refine q.yes (t := s) (a := Sy82.ok ((Sy82.price t b - Sy82.price s c : Nat) : Int)) ?_ (sm7.free n8) (hD.same sm8) (Same.but sm8) ?_
      · show (s, if Sy82.many s ≤ k then _ else if (Sy82.boxOf s k).keys.contains n = false then _ else
          match Sy82.cheapest s (Sy82.all_ s), Sy82.cheapest (Sy82.withKeys s k (Sy82.without n)) (Sy82.all_ (Sy82.withKeys s k (Sy82.without n))) with
          | some a, some b => Sy82.ok ((Sy82.price (Sy82.withKeys s k (Sy82.without n)) b - Sy82.price s a : Nat) : Int)
          | _, _ => Sy82.ok (-6)) = _
        rw [if_neg (by omega), if_neg (by rw [hc]; exact fun z => Bool.noConfusion z), ht', hc6, hb6]
      · rw [upd_same, outV_ok]
        have z : ((Sy82.price t b : Nat) : Int) - ((Sy82.price s c : Nat) : Int) = ((Sy82.price t b - Sy82.price s c : Nat) : Int) := by omega
        exact congrArg (fun (x : Int) => some (HO.lst [V.int x])) z
/-! ### told_state -/
theorem scTS : FnScope ["self", "rows", "lock", "cost", "keys"] ["self"] (defScope (sDesk 16)) := ⟨rfl, rfl, rfl, by decide +kernel, rfl, by decide +kernel, by decide +kernel⟩
def spTS (C : Addr) : Sp := fun vs H Q _ => ∃ (d : Addr) (s : Sy82.St), vs = [.ref d] ∧ WS s ∧ DeskAt C H d s ∧ ∀ H' p, H p = none → Same H H' → H' p = some (.lst (outV (Sy82.step s .state).2)) → Q (.ref p) H'
theorem ok_told_state {f : Addr} {fd : FuncData} (F : Fun K "told_state" "Desk.told_state" (sDesk 16) f fd) (G : Glb mg) (T : DTxt K C) (Hi : Has P w K mg base CX0 1 "listed" ["some"] spListed) : FnOk P w K mg base CX0 2 f fd ["self"] (spTS C) := by
  obtain ⟨fi, fdi, Gi, gi, ki, bi⟩ := Hi
  refine F.ok scTS (fun vs H Q E h => ?_) (fun cdv A outer s H vs Q E hr h => ?_)
  · obtain ⟨d, s, rfl, _⟩ := h
    rfl
  · obtain ⟨d, s, rfl, hs, hD, q⟩ := h
    have nd := scTS.nd
    refine ⟨_, pss_cons (ps_set (i := 1) nd rfl (.inl rfl) (pe_lst pa_nil))
      (pss_cons (ps_for PassesOwn.never rfl (pi_list (pe_fld (pv 0) rfl)) (pg_tup rfl (pgs_cons (pg_name (i := 2) nd rfl (.inl rfl)) (pgs_cons (pg_name (i := 3) nd rfl (.inl rfl)) (pgs_cons (pg_name (i := 4) nd rfl (.inl rfl)) pgs_nil))))
        (pss_one (ps_expr (pe_bm PySem.F.plainAttrs_list PySem.F.slot_list_extend PySem.F.type_list_extend mt_extend (pv 1) (pa_cons
          (pe_op op_cat (pe_lst (pa_cons (pv 2) (pa_cons (pv 3) (pa_cons (pe_callB call_len_seq (by rfl) G.len PySem.boot_len (pa_cons (pv 4) pa_nil)) pa_nil)))) (pe_callTy call_list_of (by rfl) G.list (by decide +kernel) (pa_cons (pv 4) pa_nil))) pa_nil)))))
      (pss_one (ps_ret (pe_op op_cat (pe_op op_cat (pe_lst (pa_cons (pe_callB call_len_seq (by rfl) G.len PySem.boot_len (pa_cons (pe_fld (pv 0) rfl) pa_nil)) pa_nil))
        (pe_call Gi hr (by rfl) gi ki bi .nil pass0 (pa_cons (pe_callTy call_list_of (by rfl) G.list (by decide +kernel) (pa_cons (pe_fld (pv 0) rfl) pa_nil)) pa_nil)))
        (pe_call Gi hr (by rfl) gi ki bi .nil pass0 (pa_cons (pv 1) pa_nil)))))), ?_⟩
    obtain ⟨dx, a, hd, e1, ⟨rs, hA, hAll⟩, e3⟩ := id hD
    have hlen : (refs rs).length = Sy82.many s := by
      rw [refs_len, hAll.len]
      rfl
    have n8 : s.boxes.length ≤ 8 := hs.few
    refine ⟨Nat.zero_le _, fun ro nr => ?_⟩
    have s1 : Same H (upd H ro (.lst [])) := same_upd nr
    refine ⟨.ref d, rfl, d, C, dx, _, _, rfl, s1 _ _ e1, T.cl, T.nB, deskF_boxes a hd, a, rfl, ⟨_, SqL.of (s1 _ _ hA)⟩, for_list (K := K) (a := a) (xs := refs rs) (fun i σ H3 => ∃ y2 y3 y4, σ = [some (.ref d), some (.ref ro), y2, y3, y4] ∧ Same H H3 ∧ H3 ro = some (.lst (natV ((s.boxes.take i).flatMap rowN))))
      ⟨none, none, none, rfl, s1, upd_same⟩ (fun i σ H3 _ ⟨_, _, _, _, sm, _⟩ => SqL.of (sm _ _ hA)) ?_ ?_⟩
    · rintro i x σ H3 hx ⟨y2, y3, y4, rfl, sm, eR⟩
      obtain ⟨r, hr1, rfl⟩ := refs_at hx
      obtain ⟨b, hb, hbx⟩ := hAll.getL hr1
      obtain ⟨kk, z1, z2⟩ := hbx.same sm
      have wb := hs.box b (List.mem_of_getElem? hb)
      have kl := wb.len
      refine ⟨r, _, rfl, SqT.of z1, rfl, _, [_, _], rfl, _, [_], rfl, _, [], rfl, rfl, ?_⟩
      refine ⟨.ref ro, rfl, .inl ⟨rfl, _, SqL.of eR⟩, .int (lockN b : Nat), rfl, .int (b.cost : Nat), rfl, .ref kk, rfl, kk, _, rfl, .inr (SqT.of z2), three_ok _ _ _, fun p1 n1 => ?_⟩
      have s4 := same_upd (o := .lst [.int (lockN b : Nat), .int (b.cost : Nat), .int ((natV b.keys).length : Nat)]) n1
      refine ⟨.ref kk, rfl, kk, _, rfl, .inr (SqT.of (s4 _ _ z2)), fun p2 n2 => ?_⟩
      have s5 := same_put (o := .lst (natV b.keys)) s4 (s4.free n2)
      have n12 : p1 ≠ p2 := fun e => by
        rw [← e, upd_same] at n2
        cases n2
      refine ⟨p1, p2, _, _, rfl, rfl, by rw [upd_ne n12, upd_same], upd_same, ?_, fun p3 n3 => ?_⟩
      · rw [natV_len]
        exact smallE (show 3 + b.keys.length ≤ 16000000 by omega)
      have s6 := same_put (o := .lst ([.int (lockN b : Nat), .int (b.cost : Nat), .int ((natV b.keys).length : Nat)] ++ natV b.keys)) s5 (s5.free n3)
      have rl : ((s.boxes.take i).flatMap rowN).length ≤ 13 * 8 := by
        refine Nat.le_trans (rows_len fun c hc => hs.box c (List.mem_of_mem_take hc)) ?_
        have : (s.boxes.take i).length ≤ s.boxes.length := by
          rw [List.length_take]
          omega
        omega
      refine ⟨ro, p3, _, _, rfl, rfl, s6 _ _ eR, upd_same, ?_, ?_⟩
      · rw [natV_len, List.length_append, natV_len]
        exact smallE (show _ + (3 + b.keys.length) ≤ 16000000 by omega)
      · refine ⟨_, _, _, rfl, same_put (sm.trans s6) nr, ?_⟩
        rw [upd_same, take_snoc hb, List.flatMap_append, natV_app, natV_len]
        congr 3
        show _ = natV (rowN b ++ [])
        rw [List.append_nil]
        unfold rowN
        rw [natV_app]
        rfl
    · rintro σ H3 ⟨y2, y3, y4, rfl, sm, eR⟩
      have hi : (s.boxes.take (refs rs).length) = s.boxes := by
        rw [hlen]
        exact List.take_length
      rw [hi] at eR
      have rl : (s.boxes.flatMap rowN).length ≤ 13 * 8 := by
        refine Nat.le_trans (rows_len hs.box) ?_
        omega
      have hl := hs.len
      refine ⟨.ref d, rfl, d, C, dx, _, _, rfl, sm _ _ e1, T.cl, T.nB, deskF_boxes a hd, a, _, rfl, .inl (SqL.of (sm _ _ hA)), one_ok _, fun p1 n1 => ?_⟩
      rw [hlen]
      have s1' := same_upd (o := .lst [.int (Sy82.many s : Nat)]) n1
      have sm1 := sm.trans s1'
      refine ⟨.ref d, rfl, d, C, dx, _, _, rfl, sm1 _ _ e1, T.cl, T.nH, deskF_hand a hd, hd, _, rfl, .inl (SqL.of (sm1 _ _ e3)), fun p2 n2 => ?_⟩
      have s2 := same_upd (o := .lst (natV s.held)) n2
      refine ⟨p2, _, rfl, upd_same, by rw [natV_len]; omega, fun H4 p4 s4 e4 => ?_⟩
      have s14 := s1'.trans (s2.trans s4)
      have n1e : H4 p1 = some (.lst [.int (Sy82.many s : Nat)]) := (s2.trans s4) _ _ upd_same
      refine ⟨p1, p4, _, _, rfl, rfl, n1e, e4, ?_, fun p5 n5 => ?_⟩
      · rw [List.length_singleton, List.length_cons, natV_len]
        exact smallE (by omega)
      have s5 := same_upd (o := .lst ([V.int (Sy82.many s : Nat)] ++ (V.int ((natV s.held).length : Nat) :: natV s.held))) n5
      have s15 := s14.trans s5
      refine ⟨.ref ro, rfl, ro, _, rfl, s15 _ _ eR, by rw [natV_len]; omega, fun H6 p6 s6 e6 => ?_⟩
      refine ⟨p5, p6, _, _, rfl, rfl, s6 _ _ upd_same, e6, ?_, fun p7 n7 => ?_⟩
      · rw [List.length_append, List.length_singleton, List.length_cons, List.length_cons, natV_len, natV_len]
        exact smallE (by omega)
      refine q _ p7 ((sm.trans (s15.trans s6)).free n7) (sm.trans (s15.trans (s6.trans (same_upd n7)))) ?_
      rw [upd_same]
      show _ = some (HO.lst (outV ⟨(Sy82.many s : Nat), [Sy82.ints s.held, Sy82.ints (s.boxes.flatMap fun (b : Sy82.Box) => [b.lock.getD Sy82.NONE, b.cost, b.keys.length] ++ b.keys)]⟩))
      rw [rows_eq, outV_two, natV_len, natV_len]
      rfl
end
end Bk

/-! # The calls out of one list, and their answers: no program in sight -/
namespace Bk
open Sy82
/-- a call by its number, its numbers, its row -/
inductive Req : Nat → List Nat → List Nat → Call → Prop
  | begins : Req 0 [] [] .begins
  | box (n c : Nat) : Req 1 [n, c] [] (.box n c)
  | key (k n : Nat) : Req 2 [k, n] [] (.key k n)
  | hold (n b : Nat) : Req 3 [n, b] [] (.hold n b)
  | out (k n : Nat) : Req 4 [k, n] [] (.out k n)
  | opened (l : List Nat) : l.length ≤ 60 → Req 5 [] l (.opened l)
  | all : Req 6 [] [] .all
  | one (k : Nat) : Req 7 [k] [] (.one k)
  | needed : Req 8 [] [] .needed
  | follow (k : Nat) : Req 9 [k] [] (.follow k)
  | lost (k n : Nat) : Req 10 [k, n] [] (.lost k n)
  | state : Req 11 [] [] .state
theorem Req.lt {p : Nat} {xs row : List Nat} {x : Call} (h : Req p xs row x) : p < 12 := by
  cases h <;> decide
def castI (l : List Nat) : List Int := l.map fun (n : Nat) => (n : Int)
theorem castI_len (l : List Nat) : (castI l).length = l.length := List.length_map ..
/-- the row as it stands in the flat list -/
def rowPart (p : Nat) (row : List Nat) : List Int := if p = 5 then (row.length : Int) :: castI row else []
/-- how many numbers stand behind a call's number -/
def counts : List Nat := [0, 2, 2, 2, 2, 0, 0, 1, 0, 1, 2, 0]
theorem Req.count {p : Nat} {xs row : List Nat} {x : Call} (h : Req p xs row x) : counts[p]? = some xs.length := by
  cases h <;> rfl
theorem toNat_cast {z : Int} (h : 0 ≤ z) : ((z.toNat : Nat) : Int) = z := by omega
theorem within_nat {lo hi z : Int} (h : PyInside.within lo hi z = true) : lo ≤ z ∧ z ≤ hi := by
  unfold PyInside.within at h
  rw [Bool.and_eq_true] at h
  exact ⟨of_decide_eq_true h.1, of_decide_eq_true h.2⟩
theorem natIn_ok {z : Int} {l : List Int} (h : 0 ≤ z ∧ z ≤ 4294967295) : Sy82Neutral.natIn (z :: l) = some (z.toNat, l) := by
  show (if 0 ≤ z ∧ z < 2 ^ 32 then some (z.toNat, l) else none) = _
  rw [if_pos ⟨h.1, by omega⟩]
theorem many_ok : ∀ (l r : List Int), (∀ z ∈ l, 0 ≤ z ∧ z ≤ 4294967295) → Sy82Neutral.many_ Sy82Neutral.natIn l.length (l ++ r) = some (l.map Int.toNat, r)
  | [], r, _ => rfl
  | z :: l, r, h => by
    have ih := many_ok l r fun y hy => h y (List.mem_cons_of_mem _ hy)
    show (Sy82Neutral.natIn (z :: (l ++ r))).bind _ = _
    rw [natIn_ok (h z (List.mem_cons_self ..))]
    show (Sy82Neutral.many_ Sy82Neutral.natIn l.length (l ++ r)).map _ = _
    rw [ih]
    rfl
theorem all_ok {A : Type} {x : A} : Sy82Neutral.all_ (some (x, ([] : List Int))) = some x := rfl
theorem some_ok (l : List Int) (h : ∀ z ∈ l, 0 ≤ z ∧ z ≤ 4294967295) : Sy82Neutral.all_ (Sy82Neutral.some_ l.length l) = some (l.map Int.toNat) := by
  have := many_ok l [] h
  rw [List.append_nil] at this
  unfold Sy82Neutral.some_
  rw [this]
  rfl
theorem row_ok (l : List Int) (h : ∀ z ∈ l, 0 ≤ z ∧ z ≤ 4294967295) (few : l.length ≤ 60) : Sy82Neutral.all_ (Sy82Neutral.rowIn ((l.length : Int) :: l)) = some (l.map Int.toNat) := by
  have := many_ok l [] h
  rw [List.append_nil] at this
  show Sy82Neutral.all_ (if 0 ≤ (l.length : Int) ∧ (l.length : Int) ≤ 60 then Sy82Neutral.many_ Sy82Neutral.natIn ((l.length : Int)).toNat l else none) = _
  rw [if_pos (by omega), Int.toNat_natCast, this]
  rfl
theorem cast_toNat : ∀ (l : List Int), (∀ z ∈ l, 0 ≤ z ∧ z ≤ 4294967295) → castI (l.map Int.toNat) = l
  | [], _ => rfl
  | z :: l, h => by
    have ih := cast_toNat l fun y hy => h y (List.mem_cons_of_mem _ hy)
    show ((z.toNat : Nat) : Int) :: castI (l.map Int.toNat) = _
    rw [ih, toNat_cast (h z (List.mem_cons_self ..)).1]
/-- a call that is read, as the program takes it -/
structure Good (c : List (List Int)) (p : Nat) (xs row : List Nat) (x : Call) : Prop where
  req : Req p xs row x
  flat : PyFlat.put1 c = (p : Int) :: (castI xs ++ rowPart p row)
  call : Sy82Neutral.callOf ((PySy82.whole c).headD []) = some x
theorem shape_cases {p : Int} {n k : Nat} (h : PySy82.shape p = some (n, k)) : (p = 0 ∧ n = 0 ∧ k = 0) ∨ (p = 1 ∧ n = 2 ∧ k = 0) ∨ (p = 2 ∧ n = 2 ∧ k = 0) ∨ (p = 3 ∧ n = 2 ∧ k = 0) ∨ (p = 4 ∧ n = 2 ∧ k = 0) ∨ (p = 5 ∧ n = 0 ∧ k = 1) ∨ (p = 6 ∧ n = 0 ∧ k = 0) ∨
    (p = 7 ∧ n = 1 ∧ k = 0) ∨ (p = 8 ∧ n = 0 ∧ k = 0) ∨ (p = 9 ∧ n = 1 ∧ k = 0) ∨ (p = 10 ∧ n = 2 ∧ k = 0) ∨ (p = 11 ∧ n = 0 ∧ k = 0) := by
  unfold PySy82.shape at h
  by_cases h0 : p = 0
  · rw [if_pos h0] at h
    obtain ⟨e1, e2⟩ := Prod.mk.inj (Option.some.inj h)
    exact .inl ⟨h0, e1.symm, e2.symm⟩
  rw [if_neg h0] at h
  by_cases h1 : p = 1
  · rw [if_pos h1] at h
    obtain ⟨e1, e2⟩ := Prod.mk.inj (Option.some.inj h)
    exact .inr (.inl ⟨h1, e1.symm, e2.symm⟩)
  rw [if_neg h1] at h
  by_cases h2 : p = 2
  · rw [if_pos h2] at h
    obtain ⟨e1, e2⟩ := Prod.mk.inj (Option.some.inj h)
    exact .inr (.inr (.inl ⟨h2, e1.symm, e2.symm⟩))
  rw [if_neg h2] at h
  by_cases h3 : p = 3
  · rw [if_pos h3] at h
    obtain ⟨e1, e2⟩ := Prod.mk.inj (Option.some.inj h)
    exact .inr (.inr (.inr (.inl ⟨h3, e1.symm, e2.symm⟩)))
  rw [if_neg h3] at h
  by_cases h4 : p = 4
  · rw [if_pos h4] at h
    obtain ⟨e1, e2⟩ := Prod.mk.inj (Option.some.inj h)
    exact .inr (.inr (.inr (.inr (.inl ⟨h4, e1.symm, e2.symm⟩))))
  rw [if_neg h4] at h
  by_cases h5 : p = 5
  · rw [if_pos h5] at h
    obtain ⟨e1, e2⟩ := Prod.mk.inj (Option.some.inj h)
    exact .inr (.inr (.inr (.inr (.inr (.inl ⟨h5, e1.symm, e2.symm⟩)))))
  rw [if_neg h5] at h
  by_cases h6 : p = 6
  · rw [if_pos h6] at h
    obtain ⟨e1, e2⟩ := Prod.mk.inj (Option.some.inj h)
    exact .inr (.inr (.inr (.inr (.inr (.inr (.inl ⟨h6, e1.symm, e2.symm⟩))))))
  rw [if_neg h6] at h
  by_cases h7 : p = 7
  · rw [if_pos h7] at h
    obtain ⟨e1, e2⟩ := Prod.mk.inj (Option.some.inj h)
    exact .inr (.inr (.inr (.inr (.inr (.inr (.inr (.inl ⟨h7, e1.symm, e2.symm⟩)))))))
  rw [if_neg h7] at h
  by_cases h8 : p = 8
  · rw [if_pos h8] at h
    obtain ⟨e1, e2⟩ := Prod.mk.inj (Option.some.inj h)
    exact .inr (.inr (.inr (.inr (.inr (.inr (.inr (.inr (.inl ⟨h8, e1.symm, e2.symm⟩))))))))
  rw [if_neg h8] at h
  by_cases h9 : p = 9
  · rw [if_pos h9] at h
    obtain ⟨e1, e2⟩ := Prod.mk.inj (Option.some.inj h)
    exact .inr (.inr (.inr (.inr (.inr (.inr (.inr (.inr (.inr (.inl ⟨h9, e1.symm, e2.symm⟩)))))))))
  rw [if_neg h9] at h
  by_cases h10 : p = 10
  · rw [if_pos h10] at h
    obtain ⟨e1, e2⟩ := Prod.mk.inj (Option.some.inj h)
    exact .inr (.inr (.inr (.inr (.inr (.inr (.inr (.inr (.inr (.inr (.inl ⟨h10, e1.symm, e2.symm⟩))))))))))
  rw [if_neg h10] at h
  by_cases h11 : p = 11
  · rw [if_pos h11] at h
    obtain ⟨e1, e2⟩ := Prod.mk.inj (Option.some.inj h)
    exact .inr (.inr (.inr (.inr (.inr (.inr (.inr (.inr (.inr (.inr (.inr (⟨h11, e1.symm, e2.symm⟩)))))))))))
  rw [if_neg h11] at h
  cases h
theorem two_of {α : Type} {l : List α} (h : l.length = 2) : ∃ a b, l = [a, b] := by
  match l, h with
  | [a, b], _ => exact ⟨a, b, rfl⟩
theorem one_of {α : Type} {l : List α} (h : l.length = 1) : ∃ a, l = [a] := by
  match l, h with
  | [a], _ => exact ⟨a, rfl⟩
theorem nil_of {α : Type} {l : List α} (h : l.length = 0) : l = [] := List.length_eq_zero_iff.mp h
theorem good_of {c : List (List Int)} (ok : PyFlat.okCall PySy82.shape c) (b : PyInside.call PySy82.bound c = true) (item : ∀ l ∈ c, ∀ z ∈ l, 0 ≤ z ∧ z ≤ 4294967295) : ∃ p xs row x, Good c p xs row x := by
  obtain ⟨p, a, rows, rfl, hs⟩ := ok
  have ia : ∀ z ∈ a, 0 ≤ z ∧ z ≤ 4294967295 := fun z hz => item (p :: a) (List.mem_cons_self ..) z (List.mem_cons_of_mem _ hz)
  have two : ∀ {x y : Int}, a = [x, y] → (0 ≤ x ∧ x ≤ 4294967295) ∧ (0 ≤ y ∧ y ≤ 4294967295) := fun e => by
    subst e
    exact ⟨ia _ (List.mem_cons_self ..), ia _ (List.mem_cons_of_mem _ (List.mem_cons_self ..))⟩
  have one : ∀ {x : Int}, a = [x] → 0 ≤ x ∧ x ≤ 4294967295 := fun e => by
    subst e
    exact ia _ (List.mem_cons_self ..)
  rcases shape_cases hs with ⟨rfl, h1, h2⟩ | ⟨rfl, h1, h2⟩ | ⟨rfl, h1, h2⟩ | ⟨rfl, h1, h2⟩ | ⟨rfl, h1, h2⟩ | ⟨rfl, h1, h2⟩ | ⟨rfl, h1, h2⟩ | ⟨rfl, h1, h2⟩ | ⟨rfl, h1, h2⟩ | ⟨rfl, h1, h2⟩ | ⟨rfl, h1, h2⟩ | ⟨rfl, h1, h2⟩
  · obtain rfl := nil_of h1
    obtain rfl := nil_of h2
    exact ⟨0, [], [], _, .begins, rfl, rfl⟩
  · obtain ⟨x, y, rfl⟩ := two_of h1
    obtain rfl := nil_of h2
    obtain ⟨hx, hy⟩ := two rfl
    refine ⟨1, [x.toNat, y.toNat], [], _, .box x.toNat y.toNat, ?_, ?_⟩
    · show [(1 : Int), x, y] = [(1 : Int), ((x.toNat : Nat) : Int), ((y.toNat : Nat) : Int)]
      rw [toNat_cast hx.1, toNat_cast hy.1]
    · show (Sy82Neutral.all_ (Sy82Neutral.some_ 2 [x, y])).map _ = _
      rw [show Sy82Neutral.all_ (Sy82Neutral.some_ 2 [x, y]) = some ([x, y].map Int.toNat) from some_ok [x, y] ia]
      rfl
  · obtain ⟨x, y, rfl⟩ := two_of h1
    obtain rfl := nil_of h2
    obtain ⟨hx, hy⟩ := two rfl
    refine ⟨2, [x.toNat, y.toNat], [], _, .key x.toNat y.toNat, ?_, ?_⟩
    · show [(2 : Int), x, y] = [(2 : Int), ((x.toNat : Nat) : Int), ((y.toNat : Nat) : Int)]
      rw [toNat_cast hx.1, toNat_cast hy.1]
    · show (Sy82Neutral.all_ (Sy82Neutral.some_ 2 [x, y])).map _ = _
      rw [show Sy82Neutral.all_ (Sy82Neutral.some_ 2 [x, y]) = some ([x, y].map Int.toNat) from some_ok [x, y] ia]
      rfl
  · obtain ⟨x, y, rfl⟩ := two_of h1
    obtain rfl := nil_of h2
    obtain ⟨hx, hy⟩ := two rfl
    refine ⟨3, [x.toNat, y.toNat], [], _, .hold x.toNat y.toNat, ?_, ?_⟩
    · show [(3 : Int), x, y] = [(3 : Int), ((x.toNat : Nat) : Int), ((y.toNat : Nat) : Int)]
      rw [toNat_cast hx.1, toNat_cast hy.1]
    · show (Sy82Neutral.all_ (Sy82Neutral.some_ 2 [x, y])).map _ = _
      rw [show Sy82Neutral.all_ (Sy82Neutral.some_ 2 [x, y]) = some ([x, y].map Int.toNat) from some_ok [x, y] ia]
      rfl
  · obtain ⟨x, y, rfl⟩ := two_of h1
    obtain rfl := nil_of h2
    obtain ⟨hx, hy⟩ := two rfl
    refine ⟨4, [x.toNat, y.toNat], [], _, .out x.toNat y.toNat, ?_, ?_⟩
    · show [(4 : Int), x, y] = [(4 : Int), ((x.toNat : Nat) : Int), ((y.toNat : Nat) : Int)]
      rw [toNat_cast hx.1, toNat_cast hy.1]
    · show (Sy82Neutral.all_ (Sy82Neutral.some_ 2 [x, y])).map _ = _
      rw [show Sy82Neutral.all_ (Sy82Neutral.some_ 2 [x, y]) = some ([x, y].map Int.toNat) from some_ok [x, y] ia]
      rfl
  · obtain rfl := nil_of h1
    obtain ⟨r, rfl⟩ := one_of h2
    have ir : ∀ z ∈ r, 0 ≤ z ∧ z ≤ 4294967295 := item r (List.mem_cons_of_mem _ (List.mem_cons_self ..))
    have few : r.length ≤ 60 := by
      have b' : PyInside.lists [(0, 4294967295, 0, 60)] [r] = true := by
        have z : PyInside.call PySy82.bound [[5], r] = (PyInside.each [] [] && PyInside.lists [(0, 4294967295, 0, 60)] [r]) := rfl
        rw [z, Bool.and_eq_true] at b
        exact b.2
      have z : PyInside.lists [(0, 4294967295, 0, 60)] [r] = (decide (0 ≤ r.length) && decide (r.length ≤ 60) && r.all (PyInside.within 0 4294967295) && true) := rfl
      rw [z] at b'
      simp only [Bool.and_eq_true, decide_eq_true_eq] at b'
      exact b'.1.1.2
    refine ⟨5, [], r.map Int.toNat, _, .opened _ (by rw [List.length_map]; exact few), ?_, ?_⟩
    · show (5 : Int) :: ((r.length : Int) :: r ++ []) = (5 : Int) :: ([] ++ (((r.map Int.toNat).length : Nat) : Int) :: castI (r.map Int.toNat))
      rw [cast_toNat r ir, List.length_map, List.append_nil]
      rfl
    · show (Sy82Neutral.all_ (Sy82Neutral.rowIn ((r.length : Int) :: r))).map _ = _
      rw [row_ok r ir few]
      rfl
  · obtain rfl := nil_of h1
    obtain rfl := nil_of h2
    exact ⟨6, [], [], _, .all, rfl, rfl⟩
  · obtain ⟨x, rfl⟩ := one_of h1
    obtain rfl := nil_of h2
    have hx := one rfl
    refine ⟨7, [x.toNat], [], _, .one x.toNat, ?_, ?_⟩
    · show [(7 : Int), x] = [(7 : Int), ((x.toNat : Nat) : Int)]
      rw [toNat_cast hx.1]
    · show (Sy82Neutral.all_ (Sy82Neutral.some_ 1 [x])).map _ = _
      rw [show Sy82Neutral.all_ (Sy82Neutral.some_ 1 [x]) = some ([x].map Int.toNat) from some_ok [x] ia]
      rfl
  · obtain rfl := nil_of h1
    obtain rfl := nil_of h2
    exact ⟨8, [], [], _, .needed, rfl, rfl⟩
  · obtain ⟨x, rfl⟩ := one_of h1
    obtain rfl := nil_of h2
    have hx := one rfl
    refine ⟨9, [x.toNat], [], _, .follow x.toNat, ?_, ?_⟩
    · show [(9 : Int), x] = [(9 : Int), ((x.toNat : Nat) : Int)]
      rw [toNat_cast hx.1]
    · show (Sy82Neutral.all_ (Sy82Neutral.some_ 1 [x])).map _ = _
      rw [show Sy82Neutral.all_ (Sy82Neutral.some_ 1 [x]) = some ([x].map Int.toNat) from some_ok [x] ia]
      rfl
  · obtain ⟨x, y, rfl⟩ := two_of h1
    obtain rfl := nil_of h2
    obtain ⟨hx, hy⟩ := two rfl
    refine ⟨10, [x.toNat, y.toNat], [], _, .lost x.toNat y.toNat, ?_, ?_⟩
    · show [(10 : Int), x, y] = [(10 : Int), ((x.toNat : Nat) : Int), ((y.toNat : Nat) : Int)]
      rw [toNat_cast hx.1, toNat_cast hy.1]
    · show (Sy82Neutral.all_ (Sy82Neutral.some_ 2 [x, y])).map _ = _
      rw [show Sy82Neutral.all_ (Sy82Neutral.some_ 2 [x, y]) = some ([x, y].map Int.toNat) from some_ok [x, y] ia]
      rfl
  · obtain rfl := nil_of h1
    obtain rfl := nil_of h2
    exact ⟨11, [], [], _, .state, rfl, rfl⟩
/-- what is answered from a state on -/
def rest (s : St) (cs : List (List (List Int))) : List Int := PyFlat.told (PyFlat.played (fun s c => Sy82Neutral.step s (c.headD [])) s (cs.map PySy82.whole))
theorem rest_nil (s : St) : rest s [] = [] := rfl
theorem rest_cons {s : St} {c : List (List Int)} {cs : List (List (List Int))} {x : Call} (h : Sy82Neutral.callOf ((PySy82.whole c).headD []) = some x) :
    rest s (c :: cs) = ((Sy82Neutral.out (step s x).2).length : Int) :: Sy82Neutral.out (step s x).2 ++ rest (step s x).1 cs := by
  have e : Sy82Neutral.step s ((PySy82.whole c).headD []) = ((step s x).1, Sy82Neutral.out (step s x).2) := by
    unfold Sy82Neutral.step
    rw [h]
  unfold rest
  show PyFlat.told ((Sy82Neutral.step s ((PySy82.whole c).headD [])).2 :: PyFlat.played _ (Sy82Neutral.step s ((PySy82.whole c).headD [])).1 (cs.map PySy82.whole)) = _
  rw [e]
  rfl
theorem put_item : ∀ {cs : List (List (List Int))} {c : List (List Int)} {l : List Int} {z : Int}, c ∈ cs → l ∈ c → z ∈ l → z ∈ PyFlat.put cs
  | [], _, _, _, h, _, _ => by simp at h
  | d :: cs, c, l, z, h, hl, hz => by
    show z ∈ PyFlat.put1 d ++ PyFlat.put cs
    rcases List.mem_cons.mp h with e | h
    · refine List.mem_append_left _ ?_
      subst e
      have rows : ∀ {rs : List (List Int)}, l ∈ rs → z ∈ PyFlat.putRows rs := by
        intro rs
        induction rs with
        | nil =>
          intro h
          simp at h
        | cons r rs ih =>
          intro h
          show z ∈ PyFlat.putRow r ++ PyFlat.putRows rs
          rcases List.mem_cons.mp h with e | h
          · rw [← e]
            exact List.mem_append_left _ (List.mem_cons_of_mem _ hz)
          · exact List.mem_append_right _ (ih h)
      cases c with
      | nil => simp at hl
      | cons hd rs =>
        show z ∈ hd ++ PyFlat.putRows rs
        rcases List.mem_cons.mp hl with e | hl
        · rw [← e]
          exact List.mem_append_left _ hz
        · exact List.mem_append_right _ (rows hl)
    · exact List.mem_append_right _ (put_item h hl hz)
/-- what the request says -/
theorem request {ns : List Int} (h : PySy82.answers_asked ns = true) (item : ∀ z ∈ ns, 0 ≤ z ∧ z ≤ 4294967295) :
    ∃ cs, ns = PyFlat.put cs ∧ (∀ c ∈ cs, ∃ p xs row x, Good c p xs row x) ∧ PySy82.answers ns = rest init cs ∧ (PySy82.answers ns).length ≤ 10000000 := by
  unfold PySy82.answers_asked at h
  cases e : PyFlat.calls PySy82.shape ns.length ns with
  | none =>
    rw [e] at h
    cases h
  | some cs =>
    rw [e] at h
    simp only [Bool.and_eq_true] at h
    obtain ⟨⟨⟨⟨_, _⟩, hin⟩, _⟩, hsh⟩ := h
    obtain ⟨e1, e2⟩ := PyFlat.put_calls _ _ _ e
    refine ⟨cs, e1, fun c hc => good_of (e2 c hc) ?_ fun l hl z hz => item z ?_, ?_, of_decide_eq_true hsh⟩
    · unfold PyInside.calls at hin
      exact List.all_eq_true.mp hin c hc
    · rw [e1]
      exact put_item hc hl hz
    · unfold PySy82.answers PySy82.calls
      rw [e]
      rfl
/-! ### the state stays well -/
theorem mem_insert0 {n k : Nat} : ∀ {l : List Nat}, k ∈ Sy82.insert n l → k = n ∨ k ∈ l
  | [], h => .inl (List.mem_singleton.mp h)
  | m :: l, h => by
    rw [Sy82.insert] at h
    by_cases c : n < m
    · rw [if_pos c] at h
      rcases List.mem_cons.mp h with h | h
      · exact .inl h
      · exact .inr h
    · rw [if_neg c] at h
      by_cases d : n = m
      · rw [if_pos d] at h
        exact .inr h
      · rw [if_neg d] at h
        rcases List.mem_cons.mp h with h | h
        · exact .inr (by rw [h]; exact List.mem_cons_self ..)
        · rcases mem_insert0 h with h | h
          · exact .inl h
          · exact .inr (List.mem_cons_of_mem _ h)
theorem rise_insert0 (n : Nat) : ∀ l : List Nat, l.Pairwise (· < ·) → (Sy82.insert n l).Pairwise (· < ·)
  | [], _ => List.pairwise_singleton _ _
  | m :: l, h => by
    have h1 := List.pairwise_cons.mp h
    rw [Sy82.insert]
    by_cases c : n < m
    · rw [if_pos c]
      refine List.pairwise_cons.mpr ⟨fun k hk => ?_, h⟩
      rcases List.mem_cons.mp hk with e | hk
      · omega
      · have := h1.1 k hk
        omega
    · rw [if_neg c]
      by_cases d : n = m
      · rw [if_pos d]
        exact h
      · rw [if_neg d]
        refine List.pairwise_cons.mpr ⟨fun k hk => ?_, rise_insert0 n l h1.2⟩
        rcases mem_insert0 hk with e | hk
        · omega
        · exact h1.1 k hk
theorem ws_init : WS init := ⟨Nat.zero_le _, fun b hb => (by cases hb), List.Pairwise.nil, fun k hk => (by cases hk)⟩
theorem ws_set0 {s : St} (hs : WS s) {k : Nat} {b : Box} (hb : WB b) : WS { s with boxes := s.boxes.set k b } := by
  refine ⟨?_, fun c hc => ?_, hs.rise, hs.low⟩
  · show (s.boxes.set k b).length ≤ 8
    rw [List.length_set]
    exact hs.few
  · rcases List.mem_or_eq_of_mem_set hc with h | h
    · exact hs.box c h
    · rw [h]
      exact hb
theorem ws_step {s : St} (hs : WS s) (x : Call) : WS (step s x).1 := by
  cases x with
  | begins => exact ws_init
  | box n c =>
    show WS (if (9 < n ∧ n ≠ NONE) ∨ 1000 < c then (s, ok (-1)) else if 8 ≤ many s then (s, ok (-5)) else ({ s with boxes := s.boxes ++ [⟨if n = NONE then none else some n, c, []⟩] }, ok (many s : Nat))).1
    by_cases h1 : (9 < n ∧ n ≠ NONE) ∨ 1000 < c
    · rw [if_pos h1]
      exact hs
    · rw [if_neg h1]
      by_cases h2 : 8 ≤ many s
      · rw [if_pos h2]
        exact hs
      · rw [if_neg h2]
        have h3 : s.boxes.length < 8 := by
          have : ¬ 8 ≤ s.boxes.length := h2
          omega
        refine ⟨?_, fun b hb => ?_, hs.rise, hs.low⟩
        · show (s.boxes ++ _).length ≤ 8
          rw [List.length_append, List.length_singleton]
          omega
        · rcases List.mem_append.mp hb with hb | hb
          · exact hs.box b hb
          · rw [List.mem_singleton.mp hb]
            refine ⟨fun m e => ?_, by show c ≤ 1000; omega, List.Pairwise.nil, fun k hk => (by cases hk)⟩
            have e' : (if n = NONE then none else some n) = some m := e
            by_cases h4 : n = NONE
            · rw [if_pos h4] at e'
              cases e'
            · rw [if_neg h4] at e'
              have := Option.some.inj e'
              omega
  | key k n =>
    show WS (if many s ≤ k then (s, ok (-2)) else if 9 < n then (s, ok (-1)) else if (boxOf s k).keys.contains n = true then (s, ok (-4)) else (withKeys s k (Sy82.insert n), ok (((boxOf s k).keys.length + 1 : Nat) : Int))).1
    by_cases h1 : many s ≤ k
    · rw [if_pos h1]
      exact hs
    · rw [if_neg h1]
      by_cases h2 : 9 < n
      · rw [if_pos h2]
        exact hs
      · rw [if_neg h2]
        by_cases h3 : (boxOf s k).keys.contains n = true
        · rw [if_pos h3]
          exact hs
        · rw [if_neg h3]
          have hb := hs.of k
          refine ws_set0 hs ⟨hb.lock, hb.cost, rise_insert0 n _ hb.rise, fun j hj => ?_⟩
          rcases mem_insert0 hj with e | hj
          · omega
          · exact hb.low j hj
  | hold n b =>
    show WS (if 9 < n ∨ 1 < b then (s, ok (-1)) else ({ s with held := if b = 1 then Sy82.insert n s.held else without n s.held }, _)).1
    by_cases h1 : 9 < n ∨ 1 < b
    · rw [if_pos h1]
      exact hs
    · rw [if_neg h1]
      refine ⟨hs.few, hs.box, ?_, fun j hj => ?_⟩
      · show (if b = 1 then Sy82.insert n s.held else without n s.held).Pairwise (· < ·)
        by_cases h2 : b = 1
        · rw [if_pos h2]
          exact rise_insert0 n _ hs.rise
        · rw [if_neg h2]
          exact hs.rise.filter _
      · have hj' : j ∈ (if b = 1 then Sy82.insert n s.held else without n s.held) := hj
        by_cases h2 : b = 1
        · rw [if_pos h2] at hj'
          rcases mem_insert0 hj' with e | hj'
          · omega
          · exact hs.low j hj'
        · rw [if_neg h2] at hj'
          exact hs.low j (List.mem_filter.mp hj').1
  | out k n =>
    show WS (if many s ≤ k then (s, ok (-2)) else if (boxOf s k).keys.contains n = false then (s, ok (-4)) else (withKeys s k (without n), ok (((boxOf s k).keys.length - 1 : Nat) : Int))).1
    by_cases h1 : many s ≤ k
    · rw [if_pos h1]
      exact hs
    · rw [if_neg h1]
      by_cases h3 : (boxOf s k).keys.contains n = false
      · rw [if_pos h3]
        exact hs
      · rw [if_neg h3]
        have hb := hs.of k
        exact ws_set0 hs ⟨hb.lock, hb.cost, hb.rise.filter _, fun j hj => hb.low j (List.mem_filter.mp hj).1⟩
  | opened l => exact hs
  | all => exact hs
  | one k => exact hs
  | needed => exact hs
  | follow k => exact hs
  | lost k n => exact hs
  | state => exact hs
end Bk

/-! # desk.py: changed, told, ask -/
namespace Bk
open PySem PySem.Spec PyProof.Rows L2 BkR
/-! ### o.m(e, ..) within a try: what it raises is wished for at the slots as they stand (skel/30's word) -/
def tMethS (C : Addr) (m : Str) (sp : Sp) (E : L2.St → XK) (ta : TE) (t : TA) : TE := fun σ H Q => ta σ H fun x H1 => ∃ a dx fs, x = .ref a ∧ H1 a = some (.ins C dx fs) ∧ fs.lookup m = none ∧ t σ H1 fun vs H2 => sp (x :: vs) H2 Q (E σ)
theorem pe_methS {X : Cx} {CX : CXT} {k : Nat} {f C : Addr} {fd : FuncData} {ps : List Str} {sp : Sp} {E : L2.St → XK} {m : Str} {pos apos : Pos} {e o : Expr} {es : List Expr} {ta : TE} {t : TA} {pl : Sem Bool} (he : PE X o ta) (c : Cls X.K C) (hm : Meth X.K C m f)
    (F : FnOk X.prog X.w X.K X.mg X.base CX k f fd ps sp) (hr : Room k X.A) (hb : Binds X.K fd ps []) (hx : ∀ σ, PassesAt CX X σ (E σ)) (ha : PA X (e :: es) t)
    (hst : starEach (e :: es) X.env = (false, eval e X.env) :: starEach es X.env := by rfl) (hpl : (backTo pos (starEach es X.env)).any (·.1) = false := by rfl)
    (ht : eval (.Call (.Attribute o m apos) (e :: es) [] pos) X.env = (do
      let ov ← eval o X.env
      standAt apos.atName
      let (f, first) ← holding [ov] (getMethod ov m pl)
      callWith pos f first (backTo pos (starEach (e :: es) X.env)) (backToKw pos (keywordEach [] X.env))) := by rfl) :
    PE X (.Call (.Attribute o m apos) (e :: es) [] pos) (tMethS C m sp E ta t) := by
  refine ⟨fun pins s σ H Q I h => ?_⟩
  refine PySem.W.methodCall_KW (pl := pl) (thn (he.run pins s σ H _ I h) fun u s1 ⟨x, H1, I1, rx, a, dx, fs, ex, ea, l, q⟩ => ?_) ht
  subst ex
  obtain rfl : u = Value.ref a := rx
  refine getmeth_ok I1 ea c hm l ?_
  refine PySem.W.callWith_K (first := [.ref a]) (h₀ := X.base) I.ok.mod.kin hm.kp (thn (ha.run pos pins s1 σ H1 _ I1 q) fun us s2 ⟨vs, H2, I2, r, q2⟩ => ⟨I2.kIn, ?_⟩) hst hpl
  exact run_fnS (us := .ref a :: us) (vs := .ref a :: vs) F hr hb (hx σ) I2 (.cons rfl r) q2
theorem lt_lit {m n : Nat} (h : m < n) : decide (((m : Nat) : Int) < ((n : Nat) : Int)) = true := decide_eq_true (by omega)
theorem nlt_lit {m n : Nat} (h : ¬ m < n) : decide (((m : Nat) : Int) < ((n : Nat) : Int)) = false := decide_eq_false (by omega)
theorem eq_lit {m n : Nat} (h : m = n) : decide (V.int (m : Nat) = V.int (n : Nat)) = true := by
  rw [ne_int]
  exact decide_eq_true h
theorem neq_lit {m n : Nat} (h : ¬ m = n) : decide (V.int (m : Nat) = V.int (n : Nat)) = false := by
  rw [ne_int]
  exact decide_eq_false h
section
variable {P : Program} {w : World} {K : PySem.W.Frag} {mg : Str → Option Value} {base : Heap} {C CF : Addr}
/-! ### changed -/
theorem scChanged : FnScope ["self", "call", "some", "row"] ["self", "call", "some", "row"] (defScope (sDesk 17)) := ⟨rfl, rfl, rfl, by decide +kernel, rfl, by decide +kernel, by decide +kernel⟩
def spReq (lo hi : Nat) (C CF : Addr) : Sp := fun vs H Q E => ∃ (d l r : Addr) (s : Sy82.St) (p : Nat) (xs row : List Nat) (x : Sy82.Call), vs = [.ref d, .int (p : Nat), .ref l, .ref r] ∧ WS s ∧ DeskAt C H d s ∧ NsAt H l xs ∧ NsAt H r row ∧ Req p xs row x ∧ lo ≤ p ∧ p < hi ∧ Fate C CF d s H Q E (Sy82.step s x)
theorem ok_changed {f : Addr} {fd : FuncData} (F : Fun K "changed" "Desk.changed" (sDesk 17) f fd) (T : DTxt K C) (H0 : HasM P w K mg base C (L2.CX P w) 1 "begins" ["self"] (spBegins C CF)) (H1 : HasM P w K mg base C (L2.CX P w) 4 "box" ["self", "lock", "cost"] (spBox C CF))
    (H2 : HasM P w K mg base C (L2.CX P w) 5 "key" ["self", "number", "lock"] (spKey C CF)) (H3 : HasM P w K mg base C (L2.CX P w) 4 "hold" ["self", "lock", "has"] (spHold C CF)) (H4 : HasM P w K mg base C (L2.CX P w) 6 "out" ["self", "number", "lock"] (spOut C CF)) :
    FnOk P w K mg base (L2.CX P w) 7 f fd ["self", "call", "some", "row"] (spReq 0 5 C CF) := by
  obtain ⟨f0, fd0, G0, m0, b0⟩ := H0
  obtain ⟨f1, fd1, G1, m1, b1⟩ := H1
  obtain ⟨f2, fd2, G2, m2, b2⟩ := H2
  obtain ⟨f3, fd3, G3, m3, b3⟩ := H3
  obtain ⟨f4, fd4, G4, m4, b4⟩ := H4
  refine F.okX scChanged (fun vs H Q E h => ?_) (fun cdv A outer s H vs Q E hr h => ?_)
  · obtain ⟨d, l, r, s, p, xs, row, x, rfl, _⟩ := h
    rfl
  · obtain ⟨d, l, r, s, p, xs, row, x, rfl, hs, hD, hL, hR, rq, lo, hi, q⟩ := h
    have r1 : Room 1 _ := hr.mono (by decide)
    have r4 : Room 4 _ := hr.mono (by decide)
    have r5 : Room 5 _ := hr.mono (by decide)
    have ix0 : ∀ {X : Cx} {p1 p2 p3 : Pos} {j : Nat}, (X.N[2]? = some ("some" : Str)) → Vis X.env.scope "some" → PE X (.Subscript (.Name "some" p1) (.Constant (.int 0) j p2) p3) (tOp (rIxL X.K) (tVar 2) (tC (.int 0))) := fun hN hv => pe_ix ix_list (pv 2 hN hv) pe_int (fun _ _ => rfl)
    have ix1 : ∀ {X : Cx} {p1 p2 p3 : Pos} {j : Nat}, (X.N[2]? = some ("some" : Str)) → Vis X.env.scope "some" → PE X (.Subscript (.Name "some" p1) (.Constant (.int 1) j p2) p3) (tOp (rIxL X.K) (tVar 2) (tC (.int 1))) := fun hN hv => pe_ix ix_list (pv 2 hN hv) pe_int (fun _ _ => rfl)
    refine ⟨_, pss_cons (ps_if (pt_cmpR op_lt (pv 1) pe_int (nomark _)) (pss_one (ps_ret (pe_ifExp (pt_cmpR op_eq (pv 1) pe_int (nomark _)) (pe_meth0 (pv 0) T.cl m0 G0 r1 b0 .nil passX)
          (pe_meth (pv 0) T.cl m1 G1 r4 b1 .nil passX (pa_cons (ix0 rfl (.inl rfl)) (pa_cons (ix1 rfl (.inl rfl)) pa_nil)))))) pss_nil)
      (pss_cons (ps_if (pt_cmpR op_eq (pv 1) pe_int (nomark _)) (pss_one (ps_ret (pe_meth (pv 0) T.cl m2 G2 r5 b2 .nil passX (pa_cons (ix0 rfl (.inl rfl)) (pa_cons (ix1 rfl (.inl rfl)) pa_nil))))) pss_nil)
      (pss_one (ps_ret (pe_ifExp (pt_cmpR op_eq (pv 1) pe_int (nomark _)) (pe_meth (pv 0) T.cl m3 G3 r4 b3 .nil passX (pa_cons (ix0 rfl (.inl rfl)) (pa_cons (ix1 rfl (.inl rfl)) pa_nil)))
        (pe_meth (pv 0) T.cl m4 G4 hr b4 .nil passX (pa_cons (ix0 rfl (.inl rfl)) (pa_cons (ix1 rfl (.inl rfl)) pa_nil))))))), ?_⟩
    obtain ⟨dx, a, hd, e1, hB, e3⟩ := id hD
    cases rq with
    | begins =>
      refine ⟨_, rfl, _, _, rfl, rfl, _, rfl, if_true_of (lt_lit (m := 0) (n := 2) (by decide)) ?_⟩
      refine ⟨_, rfl, rfl, _, rfl, if_true_of (eq_lit (m := 0) (n := 0) rfl) ?_⟩
      exact ⟨.ref d, rfl, d, dx, _, rfl, e1, deskF_no (by decide +kernel) (by decide +kernel), d, s, rfl, hD, q⟩
    | box n c =>
      refine ⟨_, rfl, _, _, rfl, rfl, _, rfl, if_true_of (lt_lit (m := 1) (n := 2) (by decide)) ?_⟩
      refine ⟨_, rfl, rfl, _, rfl, if_false_of (neq_lit (m := 1) (n := 0) (by decide)) ?_⟩
      refine ⟨.ref d, rfl, d, dx, _, rfl, e1, deskF_no (by decide +kernel) (by decide +kernel), .ref l, rfl, l, _, 0, _, rfl, rfl, SqL.of hL, atI_nat (j := 0) rfl, .ref l, rfl, l, _, 1, _, rfl, rfl, SqL.of hL, atI_nat (j := 1) rfl, d, s, n, c, rfl, hs, hD, q⟩
    | key k n =>
      refine ⟨_, rfl, _, _, rfl, rfl, _, rfl, if_false_of (nlt_lit (m := 2) (n := 2) (by decide)) ?_⟩
      refine ⟨_, rfl, rfl, _, rfl, if_true_of (eq_lit (m := 2) (n := 2) rfl) ?_⟩
      refine ⟨.ref d, rfl, d, dx, _, rfl, e1, deskF_no (by decide +kernel) (by decide +kernel), .ref l, rfl, l, _, 0, _, rfl, rfl, SqL.of hL, atI_nat (j := 0) rfl, .ref l, rfl, l, _, 1, _, rfl, rfl, SqL.of hL, atI_nat (j := 1) rfl, d, s, k, n, rfl, hs, hD, q⟩
    | hold n b =>
      refine ⟨_, rfl, _, _, rfl, rfl, _, rfl, if_false_of (nlt_lit (m := 3) (n := 2) (by decide)) ?_⟩
      refine ⟨_, rfl, rfl, _, rfl, if_false_of (neq_lit (m := 3) (n := 2) (by decide)) ?_⟩
      refine ⟨_, rfl, rfl, _, rfl, if_true_of (eq_lit (m := 3) (n := 3) rfl) ?_⟩
      refine ⟨.ref d, rfl, d, dx, _, rfl, e1, deskF_no (by decide +kernel) (by decide +kernel), .ref l, rfl, l, _, 0, _, rfl, rfl, SqL.of hL, atI_nat (j := 0) rfl, .ref l, rfl, l, _, 1, _, rfl, rfl, SqL.of hL, atI_nat (j := 1) rfl, d, s, n, b, rfl, hs, hD, q⟩
    | out k n =>
      refine ⟨_, rfl, _, _, rfl, rfl, _, rfl, if_false_of (nlt_lit (m := 4) (n := 2) (by decide)) ?_⟩
      refine ⟨_, rfl, rfl, _, rfl, if_false_of (neq_lit (m := 4) (n := 2) (by decide)) ?_⟩
      refine ⟨_, rfl, rfl, _, rfl, if_false_of (neq_lit (m := 4) (n := 3) (by decide)) ?_⟩
      refine ⟨.ref d, rfl, d, dx, _, rfl, e1, deskF_no (by decide +kernel) (by decide +kernel), .ref l, rfl, l, _, 0, _, rfl, rfl, SqL.of hL, atI_nat (j := 0) rfl, .ref l, rfl, l, _, 1, _, rfl, rfl, SqL.of hL, atI_nat (j := 1) rfl, d, s, k, n, rfl, hs, hD, q⟩
    | opened l h => exact absurd hi (by decide)
    | all => exact absurd hi (by decide)
    | one k => exact absurd hi (by decide)
    | needed => exact absurd hi (by decide)
    | follow k => exact absurd hi (by decide)
    | lost k n => exact absurd hi (by decide)
    | state => exact absurd hi (by decide)
/-! ### told -/
theorem scTold : FnScope ["self", "call", "some", "row"] ["self", "call", "some", "row"] (defScope (sDesk 18)) := ⟨rfl, rfl, rfl, by decide +kernel, rfl, by decide +kernel, by decide +kernel⟩
theorem ok_told {f : Addr} {fd : FuncData} (F : Fun K "told" "Desk.told" (sDesk 18) f fd) (T : DTxt K C) (H0 : HasM P w K mg base C (L2.CX P w) 5 "told_opened" ["self", "some"] (spTO C CF)) (H1 : HasM P w K mg base C CX0 6 "told_cheapest" ["self", "goal"] (spTC C)) (He : HasM P w K mg base C CX0 1 "every" ["self"] (spEvery C))
    (H2 : HasM P w K mg base C (L2.CX P w) 7 "one" ["self", "number"] (spOne C CF)) (H3 : HasM P w K mg base C (L2.CX P w) 6 "told_needed" ["self"] (spTN C CF)) (H4 : HasM P w K mg base C (L2.CX P w) 5 "told_follow" ["self", "number"] (spTF C CF))
    (H5 : HasM P w K mg base C (L2.CX P w) 6 "lost" ["self", "number", "lock"] (spLost C CF)) (H6 : HasM P w K mg base C CX0 2 "told_state" ["self"] (spTS C)) : FnOk P w K mg base (L2.CX P w) 8 f fd ["self", "call", "some", "row"] (spReq 5 12 C CF) := by
  obtain ⟨f0, fd0, G0, m0, b0⟩ := H0
  obtain ⟨f1, fd1, G1, m1, b1⟩ := H1
  obtain ⟨fe, fde, Ge, me, be⟩ := He
  obtain ⟨f2, fd2, G2, m2, b2⟩ := H2
  obtain ⟨f3, fd3, G3, m3, b3⟩ := H3
  obtain ⟨f4, fd4, G4, m4, b4⟩ := H4
  obtain ⟨f5, fd5, G5, m5, b5⟩ := H5
  obtain ⟨f6, fd6, G6, m6, b6⟩ := H6
  refine F.okX scTold (fun vs H Q E h => ?_) (fun cdv A outer s H vs Q E hr h => ?_)
  · obtain ⟨d, l, r, s, p, xs, row, x, rfl, _⟩ := h
    rfl
  · obtain ⟨d, l, r, s, p, xs, row, x, rfl, hs, hD, hL, hR, rq, lo, hi, q⟩ := h
    have r1 : Room 1 _ := hr.mono (by decide)
    have r2 : Room 2 _ := hr.mono (by decide)
    have r5 : Room 5 _ := hr.mono (by decide)
    have r6 : Room 6 _ := hr.mono (by decide)
    have ix0 : ∀ {X : Cx} {p1 p2 p3 : Pos} {j : Nat}, (X.N[2]? = some ("some" : Str)) → Vis X.env.scope "some" → PE X (.Subscript (.Name "some" p1) (.Constant (.int 0) j p2) p3) (tOp (rIxL X.K) (tVar 2) (tC (.int 0))) := fun hN hv => pe_ix ix_list (pv 2 hN hv) pe_int (fun _ _ => rfl)
    have ix1 : ∀ {X : Cx} {p1 p2 p3 : Pos} {j : Nat}, (X.N[2]? = some ("some" : Str)) → Vis X.env.scope "some" → PE X (.Subscript (.Name "some" p1) (.Constant (.int 1) j p2) p3) (tOp (rIxL X.K) (tVar 2) (tC (.int 1))) := fun hN hv => pe_ix ix_list (pv 2 hN hv) pe_int (fun _ _ => rfl)
    refine ⟨_, pss_cons (ps_if (pt_cmpR op_lt (pv 1) pe_int (nomark _)) (pss_one (ps_ret (pe_ifExp (pt_cmpR op_eq (pv 1) pe_int (nomark _)) (pe_meth (pv 0) T.cl m0 G0 r5 b0 .nil passX (pa_cons (pv 3) pa_nil))
          (pe_meth (pv 0) T.cl m1 G1 r6 b1 .nil pass0 (pa_cons (pe_meth0 (pv 0) T.cl me Ge r1 be .nil pass0) pa_nil))))) pss_nil)
      (pss_cons (ps_if (pt_cmpR op_lt (pv 1) pe_int (nomark _)) (pss_one (ps_ret (pe_ifExp (pt_cmpR op_eq (pv 1) pe_int (nomark _)) (pe_meth (pv 0) T.cl m2 G2 hr b2 .nil passX (pa_cons (ix0 rfl (.inl rfl)) pa_nil)) (pe_meth0 (pv 0) T.cl m3 G3 r6 b3 .nil passX)))) pss_nil)
      (pss_cons (ps_if (pt_cmpR op_eq (pv 1) pe_int (nomark _)) (pss_one (ps_ret (pe_meth (pv 0) T.cl m4 G4 r5 b4 .nil passX (pa_cons (ix0 rfl (.inl rfl)) pa_nil)))) pss_nil)
      (pss_one (ps_ret (pe_ifExp (pt_cmpR op_eq (pv 1) pe_int (nomark _)) (pe_meth (pv 0) T.cl m5 G5 r6 b5 .nil passX (pa_cons (ix0 rfl (.inl rfl)) (pa_cons (ix1 rfl (.inl rfl)) pa_nil)))
        (pe_meth0 (pv 0) T.cl m6 G6 r2 b6 .nil pass0)))))), ?_⟩
    obtain ⟨dx, a, hd, e1, hB, e3⟩ := id hD
    have n8 : Sy82.many s ≤ 8 := hs.few
    cases rq with
    | opened l h =>
      refine ⟨_, rfl, _, _, rfl, rfl, _, rfl, if_true_of (lt_lit (m := 5) (n := 7) (by decide)) ?_⟩
      refine ⟨_, rfl, rfl, _, rfl, if_true_of (eq_lit (m := 5) (n := 5) rfl) ?_⟩
      exact ⟨.ref d, rfl, d, dx, _, rfl, e1, deskF_no (by decide +kernel) (by decide +kernel), .ref r, rfl, d, r, s, _, rfl, hs, hD, hR, h, q⟩
    | all =>
      refine ⟨_, rfl, _, _, rfl, rfl, _, rfl, if_true_of (lt_lit (m := 6) (n := 7) (by decide)) ?_⟩
      refine ⟨_, rfl, rfl, _, rfl, if_false_of (neq_lit (m := 6) (n := 5) (by decide)) ?_⟩
      refine ⟨.ref d, rfl, d, dx, _, rfl, e1, deskF_no (by decide +kernel) (by decide +kernel), .ref d, rfl, d, dx, _, rfl, e1, deskF_no (by decide +kernel) (by decide +kernel), d, s, rfl, hs, hD, fun H1 p1 s1 y1 => ?_⟩
      refine ⟨d, p1, s, _, rfl, hs, hD.same s1, y1, fun i hi => List.mem_range.mp hi, by rw [List.length_range]; omega, fun H2 p2 c np s2 hc y2 => ?_⟩
      refine q.yes (t := s) ?_ (s1.free np) (hD.same (s1.trans s2)) (Same.but (s1.trans s2)) y2
      have z : Sy82.cheapest s (Sy82.all_ s) = some c := hc
      show (s, Sy82.told s (Sy82.cheapest s (Sy82.all_ s))) = _
      rw [z]
      rfl
    | one k =>
      refine ⟨_, rfl, _, _, rfl, rfl, _, rfl, if_false_of (nlt_lit (m := 7) (n := 7) (by decide)) ?_⟩
      refine ⟨_, rfl, _, _, rfl, rfl, _, rfl, if_true_of (lt_lit (m := 7) (n := 9) (by decide)) ?_⟩
      refine ⟨_, rfl, rfl, _, rfl, if_true_of (eq_lit (m := 7) (n := 7) rfl) ?_⟩
      exact ⟨.ref d, rfl, d, dx, _, rfl, e1, deskF_no (by decide +kernel) (by decide +kernel), .ref l, rfl, l, _, 0, _, rfl, rfl, SqL.of hL, atI_nat (j := 0) rfl, d, s, k, rfl, hs, hD, q⟩
    | needed =>
      refine ⟨_, rfl, _, _, rfl, rfl, _, rfl, if_false_of (nlt_lit (m := 8) (n := 7) (by decide)) ?_⟩
      refine ⟨_, rfl, _, _, rfl, rfl, _, rfl, if_true_of (lt_lit (m := 8) (n := 9) (by decide)) ?_⟩
      refine ⟨_, rfl, rfl, _, rfl, if_false_of (neq_lit (m := 8) (n := 7) (by decide)) ?_⟩
      exact ⟨.ref d, rfl, d, dx, _, rfl, e1, deskF_no (by decide +kernel) (by decide +kernel), d, s, rfl, hs, hD, q⟩
    | follow k =>
      refine ⟨_, rfl, _, _, rfl, rfl, _, rfl, if_false_of (nlt_lit (m := 9) (n := 7) (by decide)) ?_⟩
      refine ⟨_, rfl, _, _, rfl, rfl, _, rfl, if_false_of (nlt_lit (m := 9) (n := 9) (by decide)) ?_⟩
      refine ⟨_, rfl, rfl, _, rfl, if_true_of (eq_lit (m := 9) (n := 9) rfl) ?_⟩
      exact ⟨.ref d, rfl, d, dx, _, rfl, e1, deskF_no (by decide +kernel) (by decide +kernel), .ref l, rfl, l, _, 0, _, rfl, rfl, SqL.of hL, atI_nat (j := 0) rfl, d, s, k, rfl, hs, hD, q⟩
    | lost k n =>
      refine ⟨_, rfl, _, _, rfl, rfl, _, rfl, if_false_of (nlt_lit (m := 10) (n := 7) (by decide)) ?_⟩
      refine ⟨_, rfl, _, _, rfl, rfl, _, rfl, if_false_of (nlt_lit (m := 10) (n := 9) (by decide)) ?_⟩
      refine ⟨_, rfl, rfl, _, rfl, if_false_of (neq_lit (m := 10) (n := 9) (by decide)) ?_⟩
      refine ⟨_, rfl, rfl, _, rfl, if_true_of (eq_lit (m := 10) (n := 10) rfl) ?_⟩
      exact ⟨.ref d, rfl, d, dx, _, rfl, e1, deskF_no (by decide +kernel) (by decide +kernel), .ref l, rfl, l, _, 0, _, rfl, rfl, SqL.of hL, atI_nat (j := 0) rfl, .ref l, rfl, l, _, 1, _, rfl, rfl, SqL.of hL, atI_nat (j := 1) rfl, d, s, k, n, rfl, hs, hD, q⟩
    | state =>
      refine ⟨_, rfl, _, _, rfl, rfl, _, rfl, if_false_of (nlt_lit (m := 11) (n := 7) (by decide)) ?_⟩
      refine ⟨_, rfl, _, _, rfl, rfl, _, rfl, if_false_of (nlt_lit (m := 11) (n := 9) (by decide)) ?_⟩
      refine ⟨_, rfl, rfl, _, rfl, if_false_of (neq_lit (m := 11) (n := 9) (by decide)) ?_⟩
      refine ⟨_, rfl, rfl, _, rfl, if_false_of (neq_lit (m := 11) (n := 10) (by decide)) ?_⟩
      exact ⟨.ref d, rfl, d, dx, _, rfl, e1, deskF_no (by decide +kernel) (by decide +kernel), d, s, rfl, hs, hD, fun H1 p1 np s1 y1 => q.yes (t := s) (a := (Sy82.step s .state).2) rfl np (hD.same s1) (Same.but s1) y1⟩
    | begins => exact absurd lo (by decide)
    | box n c => exact absurd lo (by decide)
    | key k n => exact absurd lo (by decide)
    | hold n b => exact absurd lo (by decide)
    | out k n => exact absurd lo (by decide)
/-! ### ask -/
theorem scAsk : FnScope ["self", "call", "some", "row", "e"] ["self", "call", "some", "row"] (defScope (sDesk 19)) := ⟨rfl, rfl, rfl, by decide +kernel, rfl, by decide +kernel, by decide +kernel⟩
def spAsk (C : Addr) : Sp := fun vs H Q _ => ∃ (d l r : Addr) (s : Sy82.St) (p : Nat) (xs row : List Nat) (x : Sy82.Call), vs = [.ref d, .int (p : Nat), .ref l, .ref r] ∧ WS s ∧ DeskAt C H d s ∧ NsAt H l xs ∧ NsAt H r row ∧ Req p xs row x ∧
  ∀ H' p, H p = none → DeskAt C H' d (Sy82.step s x).1 → But d H H' → H' p = some (.lst (outV (Sy82.step s x).2)) → Q (.ref p) H'
theorem ok_ask {f fI : Addr} {fd : FuncData} (F : Fun K "ask" "Desk.ask" (sDesk 19) f fd) (T : DTxt K C) (X : XTxt K mg CF fI) (H0 : HasM P w K mg base C (L2.CX P w) 7 "changed" ["self", "call", "some", "row"] (spReq 0 5 C CF)) (H1 : HasM P w K mg base C (L2.CX P w) 8 "told" ["self", "call", "some", "row"] (spReq 5 12 C CF)) :
    FnOk P w K mg base CX0 9 f fd ["self", "call", "some", "row"] (spAsk C) := by
  obtain ⟨f0, fd0, G0, m0, b0⟩ := H0
  obtain ⟨f1, fd1, G1, m1, b1⟩ := H1
  refine F.ok scAsk (fun vs H Q E h => ?_) (fun cdv A outer s H vs Q E hr h => ?_)
  · obtain ⟨d, l, r, s, p, xs, row, x, rfl, _⟩ := h
    rfl
  · obtain ⟨d, l, r, s, p, xs, row, x, rfl, hs, hD, hL, hR, rq, q⟩ := h
    have nd := scAsk.nd
    have r7 : Room 7 _ := hr.mono (by decide)
    refine ⟨_, pss_one (ps_try_as (i := 4) (tb := fun W => tRet (tIf (tTest (tOp (rI0 fun i j => .bl (decide (i < j))) (tVar 1) (tC (.int 5))))
          (tMethS C "changed" (spReq 0 5 C CF) (WE W) (tVar 0) (tCons (tVar 1) (tCons (tVar 2) (tCons (tVar 3) tNil))))
          (tMethS C "told" (spReq 5 12 C CF) (WE W) (tVar 0) (tCons (tVar 1) (tCons (tVar 2) (tCons (tVar 3) tNil))))))
        (ts := fun a cls d => tRet (tLst (tCons (tXf a cls d CF "number" (tVar 4)) tNil))) (Wout := fun _ _ _ _ => False) rfl rfl nd rfl rfl ⟨rfl, by decide, Or.inl X.gF⟩ takes0
        (fun W pn xe tk _ => pss_one (ps_ret (pe_ifExp (pt_cmpR op_lt (pv 1) pe_int (nomark _))
          (pe_methS (pv 0) T.cl m0 G0 r7 b0 (fun σ => passAt tk σ) (by exact (pa_cons (pv 1) (pa_cons (pv 2) (pa_cons (pv 3) pa_nil)))))
          (pe_methS (pv 0) T.cl m1 G1 hr b1 (fun σ => passAt tk σ) (by exact (pa_cons (pv 1) (pa_cons (pv 2) (pa_cons (pv 3) pa_nil))))))))
        (fun a oe cls d pn hz hf => pss_one (ps_ret (pe_lst (pa_cons (by exact pe_xf X.xf X.noN hz hf (pv 4)) pa_nil))))), ?_⟩
    obtain ⟨dx, a, hd, e1, hB, e3⟩ := id hD
    refine ⟨_, rfl, _, _, rfl, rfl, _, rfl, ?_⟩
    by_cases c : p < 5
    · refine if_true_of (lt_lit c) ⟨.ref d, rfl, d, dx, _, rfl, e1, deskF_no (by decide +kernel) (by decide +kernel), _, rfl, .ref l, rfl, .ref r, rfl, d, l, r, s, p, xs, row, x, rfl, hs, hD, hL, hR, rq, Nat.zero_le _, c, fun n e H' d' fs sm hx hl => ?_, fun H' p' h0 h1 h2 h3 => q H' p' h0 h1 h2 h3⟩
      refine ⟨true, X.te, fun _ a0 na => ?_, fun z => Bool.noConfusion z⟩
      refine ⟨.ref a0, rfl, rfl, rfl, d', fs, _, rfl, hx, hl, one_ok _, fun p2 n2 => ?_⟩
      refine q _ p2 (sm.free n2) ?_ (Same.but (sm.trans (same_upd n2))) ?_
      · rw [e]
        exact hD.same (sm.trans (same_upd n2))
      · rw [e, upd_same]
        rfl
    · refine if_false_of (nlt_lit c) ⟨.ref d, rfl, d, dx, _, rfl, e1, deskF_no (by decide +kernel) (by decide +kernel), _, rfl, .ref l, rfl, .ref r, rfl, d, l, r, s, p, xs, row, x, rfl, hs, hD, hL, hR, rq, by omega, rq.lt, fun n e H' d' fs sm hx hl => ?_, fun H' p' h0 h1 h2 h3 => q H' p' h0 h1 h2 h3⟩
      refine ⟨true, X.te, fun _ a0 na => ?_, fun z => Bool.noConfusion z⟩
      refine ⟨.ref a0, rfl, rfl, rfl, d', fs, _, rfl, hx, hl, one_ok _, fun p2 n2 => ?_⟩
      refine q _ p2 (sm.free n2) ?_ (Same.but (sm.trans (same_upd n2))) ?_
      · rw [e]
        exact hD.same (sm.trans (same_upd n2))
      · rw [e, upd_same]
        rfl
end
end Bk

/-! # house.py: row_from, answers -/
namespace Bk
open PySem PySem.Spec PyProof.Rows L2 BkR
theorem natV_castI (l : List Nat) : natV l = (castI l).map V.int := natV_map l
/-- a slice that lies within -/
theorem cut_in {xs ys zs ws : List V} {m n : Nat} (h : xs = ys ++ zs ++ ws) (hm : ys.length = m) (hn : (ys ++ zs).length = n) : cutV xs (some (m : Int)) (some (n : Int)) = zs := by
  have h1 : m ≤ xs.length := by
    rw [h, ← hm, List.length_append, List.length_append]
    omega
  have h2 : n ≤ xs.length := by
    rw [h, List.length_append]
    omega
  unfold cutV
  rw [HT.sIx_nat, HT.sIx_nat, Nat.min_eq_left h1, Nat.min_eq_left h2, h, List.append_assoc, ← hm, List.drop_left, ← hn, List.length_append]
  rw [show ys.length + zs.length - ys.length = zs.length by omega, List.take_left]
theorem at_in {xs ys ws : List Int} {z : Int} {m : Nat} (h : xs = ys ++ z :: ws) (hm : ys.length = m) : (xs.map V.int)[m]? = some (.int z) := by
  rw [h, List.map_append, List.getElem?_append_right (by rw [List.length_map]; omega), List.length_map, hm, Nat.sub_self]
  rfl
section
variable {P : Program} {w : World} {K : PySem.W.Frag} {mg : Str → Option Value} {base : Heap} {C CF : Addr}
/-! ### row_from -/
abbrev sRow : Stmt := top 30
theorem scRow : FnScope ["calls", "at", "call", "end"] ["calls", "at", "call"] (defScope sRow) := ⟨rfl, rfl, rfl, by decide +kernel, rfl, by decide +kernel, by decide +kernel⟩
def spRow (K : PySem.W.Frag) : Sp := fun vs H Q _ => ∃ (a : Addr) (pre post : List Int) (p : Nat) (row : List Nat), vs = [.ref a, .int (pre.length : Nat), .int (p : Nat)] ∧ SqL K H a ((pre ++ rowPart p row ++ post).map V.int) ∧ (p ≠ 5 → row = []) ∧
  ∀ H' t r, H r = none → Same H H' → NsAt H' r row → H' t = some (.tup [.ref r, .int ((pre ++ rowPart p row).length : Nat)]) → Q (.ref t) H'
theorem ok_row {f : Addr} {fd : FuncData} (F : Fun K "row_from" "row_from" sRow f fd) (G : Glb mg) : FnOk P w K mg base CX0 1 f fd ["calls", "at", "call"] (spRow K) := by
  refine F.ok scRow (fun vs H Q E h => ?_) (fun cdv A outer s H vs Q E hr h => ?_)
  · obtain ⟨a, pre, post, p, row, rfl, _⟩ := h
    rfl
  · obtain ⟨a, pre, post, p, row, rfl, hS, nr, q⟩ := h
    have nd := scRow.nd
    obtain ⟨t, g⟩ := G.opened
    refine ⟨_, pss_cons (ps_if (pt_cmpR op_ne (pv 2) (pe_glob (v := .int 5) rfl g ⟨_, rfl⟩) (nomark _)) (pss_one (ps_ret (pe_tup (pa_cons (pe_lst pa_nil) (pa_cons (pv 1) pa_nil))))) pss_nil)
      (pss_cons (ps_set (i := 3) nd rfl (.inl rfl) (pe_op op_add (pe_op op_add (pv 1) pe_int) (pe_ix ix_list (pv 0) (pv 1) (fun _ _ => rfl))))
      (pss_one (ps_ret (pe_tup (pa_cons (pe_slice sl_list (pv 0) (po_some (pe_op op_add (pv 1) pe_int)) (po_some (pv 3))) (pa_cons (pv 3) pa_nil)))))), ?_⟩
    refine ⟨_, rfl, rfl, _, rfl, ?_⟩
    by_cases c : p = 5
    · subst c
      refine if_false_of (congrArg (fun b => !b) (eq_lit (m := 5) (n := 5) rfl)) ?_
      have e : rowPart 5 row = (row.length : Int) :: castI row := rfl
      rw [e] at hS q
      have hx : (pre ++ (row.length : Int) :: castI row ++ post) = pre ++ (row.length : Int) :: (castI row ++ post) := by
        rw [List.append_assoc]
        rfl
      have ha := at_in (m := pre.length) hx rfl
      refine ⟨.int (pre.length : Nat), rfl, _, _, rfl, rfl, .ref a, rfl, .int (pre.length : Nat), rfl, a, _, _, _, rfl, rfl, hS, atI_nat ha, _, _, rfl, rfl, ?_⟩
      have ee : (((pre.length : Nat) : Int) + 1 + ((row.length : Nat) : Int)) = ((pre ++ (row.length : Int) :: castI row).length : Nat) := by
        rw [List.length_append, List.length_cons, castI_len]
        omega
      have cut : cutV ((pre ++ (row.length : Int) :: castI row ++ post).map V.int) (some ((pre.length : Nat) + 1)) (some ((pre ++ (row.length : Int) :: castI row).length : Nat)) = natV row := by
        have z : (((pre.length : Nat) : Int) + 1) = ((pre.length + 1 : Nat) : Int) := by omega
        rw [z]
        refine cut_in (ys := (pre ++ [(row.length : Int)]).map V.int) (ws := post.map V.int) ?_ ?_ ?_
        · rw [natV_castI, ← List.map_append, ← List.map_append]
          congr 1
          simp
        · rw [List.length_map, List.length_append]
          rfl
        · simp [natV_len, castI_len]
      rw [show (fun (i j : Int) => V.int (i + j)) (((pre.length : Nat) : Int) + 1) ((row.length : Nat) : Int) = V.int ((pre ++ (row.length : Int) :: castI row).length : Nat) from congrArg V.int ee]
      refine ⟨.ref a, rfl, .int (pre.length : Nat), rfl, _, _, rfl, rfl, _, rfl, _, rfl, _, rfl, a, _, rfl, hS, fun p1 n1 => ?_⟩
      rw [cut]
      have s1 : Same H (upd H p1 (.lst (natV row))) := same_upd n1
      refine ⟨_, rfl, two_ok _ _, fun p2 n2 => ?_⟩
      exact q _ p2 p1 n1 (s1.trans (same_upd n2)) (same_upd n2 _ _ upd_same) upd_same
    · refine if_true_of (congrArg (fun b => !b) (neq_lit (n := 5) c)) ?_
      have e : rowPart p row = [] := if_neg c
      have er := nr c
      subst er
      rw [e] at q
      rw [List.append_nil] at q
      refine ⟨Nat.zero_le _, fun p1 n1 => ⟨.int (pre.length : Nat), rfl, two_ok _ _, fun p2 n2 => ?_⟩⟩
      have s1 : Same H (upd H p1 (.lst [])) := same_upd n1
      exact q _ p2 p1 n1 (s1.trans (same_upd n2)) (same_upd n2 _ _ upd_same) upd_same
/-! ### answers -/
abbrev sAns : Stmt := top 31
theorem scAns : FnScope ["calls", "desk", "found", "at", "call", "end", "row", "later", "answer"] ["calls"] (defScope sAns) := ⟨rfl, rfl, rfl, by decide +kernel, rfl, by decide +kernel, by decide +kernel⟩
def spAnswers (K : PySem.W.Frag) : Sp := fun vs H Q _ => ∃ (a : Addr) (ns : List Int), vs = [.ref a] ∧ SqL K H a (ns.map V.int) ∧ ns.length ≤ 6000 ∧ (∀ z ∈ ns, 0 ≤ z ∧ z ≤ 4294967295) ∧ PySy82.answers_asked ns = true ∧
  ∀ (H' : Hp) (p : Addr), H' p = some (.lst ((PySy82.answers ns).map V.int)) → Q (.ref p) H'
/-- COUNTS stands among the written things -/
def CountsAt (K : PySem.W.Frag) (mg : Str → Option Value) : Prop := ∃ c, mg "COUNTS" = some (.ref c) ∧ ∀ H, SqT K H c (natV counts)
theorem But.seq {d C dx : Addr} {fs : List (Str × V)} {H H' : Hp} {a : Addr} {xs : List V} (b : But d H H') (hd : H d = some (.ins C dx fs)) (h : SqL K H a xs) : SqL K H' a xs := by
  rcases h with (h | ⟨o, h⟩) | h
  · exact .inl (.inl (b _ _ h (ne_of h hd (by intro z; cases z))))
  · exact .inl (.inr ⟨o, b _ _ h (ne_of h hd (by intro z; cases z))⟩)
  · exact .inr h
/-! ### an address that the desk does not lean on -/
def Z0 : HO := .rng 0 0
structure Odd (o : HO) : Prop where
  l : ∀ xs, o ≠ .lst xs
  t : ∀ xs, o ≠ .tup xs
  i : ∀ C dx fs, o ≠ .ins C dx fs
theorem odd_z : Odd Z0 := ⟨fun _ z => (by cases z), fun _ z => (by cases z), fun _ _ _ z => (by cases z)⟩
theorem odd_frz {ob : Obj} {u : HO} : Odd (.frz ob u) := ⟨fun _ z => (by cases z), fun _ z => (by cases z), fun _ _ _ z => (by cases z)⟩
theorem DeskAt.swap {C : Addr} {H : Hp} {d fo : Addr} {s : Sy82.St} {o : HO} (od : Odd o) (h : DeskAt C (upd H fo o) d s) (o' : HO) : DeskAt C (upd H fo o') d s := by
  have go : ∀ {b : Addr} {u : HO}, (upd H fo o) b = some u → o ≠ u → (upd H fo o') b = some u := fun {b u} e n => by
    by_cases c : b = fo
    · rw [c, upd_same] at e
      exact absurd (Option.some.inj e) n
    · rw [upd_ne c] at e ⊢
      exact e
  obtain ⟨dx, a, hd, h1, ⟨rs, h2, h3⟩, h4⟩ := h
  exact ⟨dx, a, hd, go h1 (od.i _ _ _), ⟨rs, go h2 (od.l _), h3.mono fun r b ⟨k, z1, z2⟩ => ⟨k, go z1 (od.t _), go z2 (od.t _)⟩⟩, go h4 (od.l _)⟩
theorem upd_self {H : Hp} {a : Addr} {o : HO} (h : H a = some o) : upd H a o = H := by
  funext b
  by_cases c : b = a
  · rw [c, upd_same, h]
  · rw [upd_ne c]
theorem same_swap {H H' : Hp} {fo : Addr} {o : HO} (s : Same H H') : Same (upd H fo o) (upd H' fo o) := fun b x e => by
  by_cases c : b = fo
  · rw [c, upd_same] at e ⊢
    exact e
  · rw [upd_ne c] at e ⊢
    exact s _ _ e
/-- the request, off that address -/
def SqOff (K : PySem.W.Frag) (H : Hp) (fo a : Addr) (xs : List V) : Prop := ∀ o, SqL K (upd H fo o) a xs
theorem SqOff.of {K : PySem.W.Frag} {H : Hp} {fo a : Addr} {xs : List V} (n : H fo = none) (h : SqL K H a xs) (o : HO) : SqL K (upd H fo o) a xs := (same_upd n).seq h
theorem out_pos (a : Sy82.Ans) : 0 < (Sy82Neutral.out a).length := Nat.succ_pos _
theorem put1_pos {c : List (List Int)} {p : Nat} {xs row : List Nat} {x : Sy82.Call} (g : Good c p xs row x) : 0 < (PyFlat.put1 c).length := by
  rw [g.flat]
  exact Nat.succ_pos _
theorem ok_answers {f fI : Addr} {fd fdI : FuncData} (F : Fun K "answers" "answers" sAns f fd) (G : Glb mg) (T : DTxt K C) (cn : CountsAt K mg) (M : Mk K C fI) (gD : mg "Desk" = some (.ref C)) (GI : FnOk P w K mg base CX0 1 fI fdI ["self"] (spInit C)) (bI : Binds K fdI ["self"] [])
    (Hr : Has P w K mg base CX0 1 "row_from" ["calls", "at", "call"] (spRow K)) (Ha : HasM P w K mg base C CX0 9 "ask" ["self", "call", "some", "row"] (spAsk C)) : FnOk P w K mg base CX0 10 f fd ["calls"] (spAnswers K) := by
  obtain ⟨fr, fdr, Gr, gr, kr, br⟩ := Hr
  obtain ⟨fa, fda, Ga, ma, ba⟩ := Ha
  obtain ⟨cA, gC, hC⟩ := cn
  refine F.ok scAns (fun vs H Q E h => ?_) (fun cdv A outer s H vs Q E hr h => ?_)
  · obtain ⟨a, ns, rfl, _⟩ := h
    rfl
  · obtain ⟨a, ns, rfl, hS, n6, item, ask, q⟩ := h
    have nd := scAns.nd
    have r1 : Room 1 _ := hr.mono (by decide)
    have r2 : Room 2 _ := hr.mono (by decide)
    refine ⟨_, pss_cons (ps_set (i := 1) nd rfl (.inl rfl) (pe_make0 M GI r2 (by rfl) gD bI .nil pass0))
      (pss_cons (ps_set (i := 2) nd rfl (.inl rfl) (pe_lst pa_nil))
      (pss_cons (ps_set (i := 3) nd rfl (.inl rfl) pe_int)
      (pss_cons (ps_while PassesOwn.never (pt_cmpR op_lt (pv 3) (pe_callB call_len_seq (by rfl) G.len PySem.boot_len (pa_cons (pv 0) pa_nil)) (nomark _))
        (pss_cons (ps_set (i := 4) nd rfl (.inl rfl) (pe_ix ix_list (pv 0) (pv 3) (fun _ _ => rfl)))
        (pss_cons (ps_set (i := 5) nd rfl (.inl rfl) (pe_op op_add (pe_op op_add (pv 3) pe_int) (pe_ix ix_tup (pe_glob (v := .ref cA) rfl gC rfl) (pv 4) (fun _ _ => rfl))))
        (pss_cons (ps_asg (pe_call Gr r1 (by rfl) gr kr br .nil pass0 (pa_cons (pv 0) (pa_cons (pv 5) (pa_cons (pv 4) pa_nil)))) (pg_tup rfl (pgs_cons (pg_name (i := 6) nd rfl (.inl rfl)) (pgs_cons (pg_name (i := 7) nd rfl (.inl rfl)) pgs_nil))))
        (pss_cons (ps_set (i := 8) nd rfl (.inl rfl) (pe_lock <| pe_meth (pv 1) T.cl ma Ga hr ba .nil pass0 (pa_cons (pv 4) (pa_cons (pe_slice sl_list (pv 0) (po_some (pe_op op_add (pv 3) pe_int)) (po_some (pv 5))) (pa_cons (pv 6) pa_nil)))))
        (pss_cons (ps_set (i := 3) nd rfl (.inl rfl) (pv 7))
        (pss_cons (ps_expr (pe_bm PySem.F.plainAttrs_list PySem.F.slot_list_append PySem.F.type_list_append mt_append (pv 2) (pa_cons (pe_callB call_len_seq (by rfl) G.len PySem.boot_len (pa_cons (pv 8) pa_nil)) pa_nil)))
        (pss_one (ps_expr (pe_bm PySem.F.plainAttrs_list PySem.F.slot_list_extend PySem.F.type_list_extend mt_extend (pv 2) (pa_cons (pv 8) pa_nil)))))))))))
      (pss_one (ps_ret (pv 2)))))), ?_⟩
    obtain ⟨cs, ens, good, eans, few⟩ := request ask item
    -- desk = Desk()
    intro d dx nx nd' ne
    refine ⟨d, dx, rfl, upd_same, fun H1 hD1 b1 => ⟨rfl, ?_⟩⟩
    have sm1 : Same H H1 := fun b o e => b1 b o (by rw [upd_ne (ne_of_none e nx), upd_ne (ne_of_none e nd')]; exact e) (ne_of_none e nx)
    -- found = []; at = 0
    refine ⟨Nat.zero_le _, fun fo nf => ?_⟩
    have s2 : Same H1 (upd H1 fo (.lst [])) := same_upd nf
    -- the loop: what is gone through, what is answered; the desk and the request lie off found
    refine ⟨fun m σ H3 => ∃ (pre : List Int) (rs : List (List (List Int))) (st : Sy82.St) (fs : List Int) (y4 y5 y6 y7 y8 : Option V), σ = [some (.ref a), some (.ref d), some (.ref fo), some (.int (pre.length : Nat)), y4, y5, y6, y7, y8] ∧
        m + pre.length = ns.length ∧ ns = pre ++ PyFlat.put rs ∧ (∀ c ∈ rs, ∃ p xs row x, Good c p xs row x) ∧ PySy82.answers ns = fs ++ rest st rs ∧ WS st ∧ DeskAt C (upd H3 fo Z0) d st ∧ SqOff K H3 fo a (ns.map V.int) ∧ H3 fo = some (.lst (fs.map V.int)),
      ⟨ns.length, [], cs, Sy82.init, [], none, none, none, none, none, rfl, rfl, ens, good, eans, ws_init, by rw [upd_upd]; exact hD1.same (same_upd nf), fun o => by rw [upd_upd]; exact (same_upd nf).seq (sm1.seq hS), upd_same⟩, fun m σ H3 hW => ?_⟩
    obtain ⟨pre, rs, st, fs, y4, y5, y6, y7, y8, rfl, em, ep, gd, ea, hw, hD, hO, hF⟩ := hW
    have hA : SqL K H3 a (ns.map V.int) := by
      have z := hO (.lst (fs.map V.int))
      rw [upd_self hF] at z
      exact z
    refine ⟨.int (pre.length : Nat), rfl, .ref a, rfl, a, _, rfl, .inl hA, _, _, rfl, rfl, _, rfl, ?_⟩
    rw [List.length_map]
    cases rs with
    | nil =>
      have z : ns = pre := by
        rw [ep]
        exact List.append_nil pre
      refine if_false_of (nlt_lit (by rw [z]; exact Nat.lt_irrefl _)) ⟨.ref fo, rfl, q H3 fo ?_⟩
      rw [ea, rest_nil, List.append_nil]
      exact hF
    | cons c rs =>
      obtain ⟨p, xs, row, x, g⟩ := gd c (List.mem_cons_self ..)
      have ep2 : ns = pre ++ (p : Int) :: (castI xs ++ (rowPart p row ++ PyFlat.put rs)) := by
        rw [ep]
        show pre ++ (PyFlat.put1 c ++ PyFlat.put rs) = _
        rw [g.flat]
        simp
      have lt : pre.length < ns.length := by
        rw [ep2, List.length_append, List.length_cons]
        omega
      refine if_true_of (lt_lit lt) ?_
      have eans := rest_cons (s := st) (cs := rs) g.call
      -- call, end
      have pre2 : ns = (pre ++ (p : Int) :: castI xs) ++ rowPart p row ++ PyFlat.put rs := by
        rw [ep2]
        simp
      have le2 : (pre ++ (p : Int) :: castI xs).length = pre.length + 1 + xs.length := by
        rw [List.length_append, List.length_cons, castI_len]
        omega
      refine ⟨fun σ' H' => ∃ (pre' : List Int) (st' : Sy82.St) (fs' : List Int) (y4 y5 y6 y7 y8 : Option V), σ' = [some (.ref a), some (.ref d), some (.ref fo), some (.int (pre'.length : Nat)), y4, y5, y6, y7, y8] ∧
          pre.length < pre'.length ∧ ns = pre' ++ PyFlat.put rs ∧ PySy82.answers ns = fs' ++ rest st' rs ∧ WS st' ∧ DeskAt C (upd H' fo Z0) d st' ∧ SqOff K H' fo a (ns.map V.int) ∧ H' fo = some (.lst (fs'.map V.int)), fun σ' H' hN => ?_, ?_⟩
      · obtain ⟨pre', st', fs', z4, z5, z6, z7, z8, e, l', ep', ea', hw', hD', hA', hF'⟩ := hN
        have : pre'.length ≤ ns.length := by
          rw [ep', List.length_append]
          omega
        exact ⟨ns.length - pre'.length, by omega, pre', rs, st', fs', z4, z5, z6, z7, z8, e, by omega, ep', fun c hc => gd c (List.mem_cons_of_mem _ hc), ea', hw', hD', hA', hF'⟩
      · refine ⟨.ref a, rfl, .int (pre.length : Nat), rfl, a, _, _, _, rfl, rfl, hA, atI_nat (at_in ep2 rfl), ?_⟩
        refine ⟨.int (pre.length : Nat), rfl, _, _, rfl, rfl, .int (p : Nat), rfl, cA, _, _, _, rfl, rfl, hC H3, atI_nat (natV_at g.req.count), _, _, rfl, rfl, ?_⟩
        have ee : (((pre.length : Nat) : Int) + 1 + ((xs.length : Nat) : Int)) = ((pre ++ (p : Int) :: castI xs).length : Nat) := by
          rw [le2]
          omega
        rw [show (fun (i j : Int) => V.int (i + j)) (((pre.length : Nat) : Int) + 1) ((xs.length : Nat) : Int) = V.int ((pre ++ (p : Int) :: castI xs).length : Nat) from congrArg V.int ee]
        -- row, later
        refine ⟨.ref a, rfl, .int ((pre ++ (p : Int) :: castI xs).length : Nat), rfl, .int (p : Nat), rfl, a, pre ++ (p : Int) :: castI xs, PyFlat.put rs, p, row, rfl, by rw [← pre2]; exact hA, fun np => ?_, fun H4 t r nr s4 eR eT => ?_⟩
        · have rq := g.req
          cases rq with
          | opened l hl => exact absurd rfl np
          | _ => rfl
        refine ⟨t, _, rfl, SqT.of eT, rfl, _, [_], rfl, _, [], rfl, rfl, ?_⟩
        -- answer: found is locked for the while
        have hF4 := s4 _ _ hF
        have rf : r ≠ fo := fun e => by
          rw [e, hF] at nr
          cases nr
        have cut : cutV (ns.map V.int) (some ((pre.length : Nat) + 1)) (some ((pre ++ (p : Int) :: castI xs).length : Nat)) = natV xs := by
          have z : (((pre.length : Nat) : Int) + 1) = ((pre.length + 1 : Nat) : Int) := by omega
          rw [z]
          refine cut_in (ys := (pre ++ [(p : Int)]).map V.int) (ws := (rowPart p row ++ PyFlat.put rs).map V.int) ?_ ?_ ?_
          · rw [natV_castI, ← List.map_append, ← List.map_append]
            congr 1
            rw [ep2]
            simp
          · rw [List.length_map, List.length_append]
            rfl
          · rw [le2, List.length_append, List.length_map, natV_len, List.length_append]
            rfl
        refine ⟨fo, _, hF4, True.intro, fun ob => ?_⟩
        have hDf : DeskAt C (upd H4 fo (.frz ob (.lst (fs.map V.int)))) d st := (hD.same (same_swap s4)).swap odd_z _
        have hAf : SqL K (upd H4 fo (.frz ob (.lst (fs.map V.int)))) a (ns.map V.int) := (same_swap s4).seq (hO _)
        have eRf : (upd H4 fo (.frz ob (.lst (fs.map V.int)))) r = some (.lst (natV row)) := by
          rw [upd_ne rf]
          exact eR
        have eFf : (upd H4 fo (.frz ob (.lst (fs.map V.int)))) fo = some (.frz ob (.lst (fs.map V.int))) := upd_same
        generalize upd H4 fo (.frz ob (.lst (fs.map V.int))) = Hf at hDf hAf eRf eFf
        obtain ⟨dx3, b3, h3, e1, hB, e3⟩ := id hDf
        have hfd : fo ≠ d := ne_of eFf e1 (by intro z; cases z)
        refine ⟨.ref d, rfl, d, dx3, _, rfl, e1, deskF_no (by decide +kernel) (by decide +kernel), .int (p : Nat), rfl, .ref a, rfl, .int (pre.length : Nat), rfl, _, _, rfl, rfl, _, rfl, _, rfl, _, rfl, a, _, rfl, hAf, fun p1 n1 => ?_⟩
        rw [cut]
        have s5 := same_upd (o := .lst (natV xs)) n1
        refine ⟨.ref r, rfl, d, p1, r, st, p, xs, row, x, rfl, hw, hDf.same s5, upd_same, s5 _ _ eRf, g.req, fun H6 qa nq hD6 b6 eQ => ?_⟩
        have eF6 := b6 _ _ (s5 _ _ eFf) hfd
        have hA6 := But.seq b6 (s5 _ _ e1) (s5.seq hAf)
        refine ⟨eF6, ?_⟩
        -- at = later; found.append(len(answer)); found.extend(answer)
        have nqf : qa ≠ fo := fun e => by
          rw [e, s5 _ _ eFf] at nq
          cases nq
        have eQ6 : (upd H6 fo (.lst (fs.map V.int))) qa = some (.lst (outV (Sy82.step st x).2)) := by
          rw [upd_ne nqf]
          exact eQ
        have len1 : fs.length + (1 + (Sy82Neutral.out (Sy82.step st x).2).length) ≤ 10000000 := by
          rw [ea, eans, List.length_append, List.length_append, List.length_cons] at few
          omega
        refine ⟨_, rfl, ?_⟩
        refine ⟨.ref fo, rfl, .inl ⟨rfl, _, SqL.of upd_same⟩, .ref qa, rfl, qa, _, rfl, .inl (SqL.of eQ6), fo, _, _, rfl, rfl, upd_same, ?_, ?_⟩
        · rw [List.length_map]
          exact small (by omega)
        rw [upd_upd]
        have eQ7 : (upd H6 fo (.lst (fs.map V.int ++ [.int ((outV (Sy82.step st x).2).length : Nat)]))) qa = some (.lst (outV (Sy82.step st x).2)) := by
          rw [upd_ne nqf]
          exact eQ
        refine ⟨.ref fo, rfl, .inl ⟨rfl, _, SqL.of upd_same⟩, .ref qa, rfl, fo, qa, _, _, rfl, rfl, upd_same, eQ7, ?_, ?_⟩
        · rw [List.length_append, List.length_map, List.length_singleton]
          unfold outV
          rw [List.length_map]
          exact smallE (by omega)
        rw [upd_upd]
        refine ⟨pre ++ (p : Int) :: castI xs ++ rowPart p row, (Sy82.step st x).1, fs ++ (((Sy82Neutral.out (Sy82.step st x).2).length : Int) :: Sy82Neutral.out (Sy82.step st x).2), _, _, _, _, _, rfl, ?_, pre2, ?_, ws_step hw x, ?_, fun o => ?_, ?_⟩
        · rw [List.length_append, le2]
          omega
        · rw [ea, eans, List.append_assoc]
        · rw [upd_upd]
          refine DeskAt.swap (o := .frz ob (.lst (fs.map V.int))) odd_frz ?_ _
          rw [upd_self eF6]
          exact hD6
        · rw [upd_upd]
          by_cases cc : a = fo
          · rcases hO Z0 with (z1 | ⟨ob3, z1⟩) | z1
            · rw [cc, upd_same] at z1
              cases z1
            · rw [cc, upd_same] at z1
              cases z1
            · exact .inr z1
          · rcases hA6 with (z | ⟨ob2, z⟩) | z
            · exact .inl (.inl (by rw [upd_ne cc]; exact z))
            · exact .inl (.inr ⟨ob2, by rw [upd_ne cc]; exact z⟩)
            · exact .inr z
        · rw [upd_same, List.map_append, List.append_assoc]
          unfold outV
          rw [List.length_map]
          rfl
end
end Bk

/-! # The end: what the top has written (every address a letter) -/
namespace Bk
open PySem PySem.Spec PyProof.Rows L2 BkR
/-- an error of the class at S is what «except S» names -/
theorem exm_self {K : PySem.W.Frag} {S : Addr} (h1 : PySem.W.subIn K (.ref S) (.type "BaseException") = some true) (h2 : PySem.W.isClsIn K S = true) (h3 : PySem.W.typeIn K (.ref S) = some (.type "type")) (h4 : PySem.W.subIn K (.ref S) (.ref S) = some true) :
    PySem.W.exmOne K (.ref S) (.ref S) = some true := by
  have e1 : (PySem.W.subIn K (.ref S) (.type "BaseException") == some true) = true := by rw [h1] <;> rfl
  have e2 : ((PySem.W.clsIn K S).isSome && PySem.W.typeIn K (.ref S) == some (.type "type")) = true := by
    have h2' : (PySem.W.clsIn K S).isSome = true := h2
    rw [h2', h3] <;> rfl
  show (if (PySem.W.subIn K (.ref S) (.type "BaseException") == some true) = true then (if ((PySem.W.clsIn K S).isSome && PySem.W.typeIn K (.ref S) == some (.type "type")) = true then PySem.W.subIn K (.ref S) (.ref S) else none) else none) = some true
  rw [if_pos e1, if_pos e2]
  exact h4
/-- a def of the top as the top has left it -/
structure Left (K : PySem.W.Frag) (x : Str) (st : Stmt) (f : Addr) (oc kV dc pm cd ct : Value) (od an : Option Addr) (sl : Array (Option Value)) : Prop where
  n : PySem.W.nsIn K mainGlobals x = some (some (.ref f))
  l : K.lookup f = some ⟨oc, od, .func (PySem.W.fnOf x x (defArgs st) (defBody st) (defScope st) .none kV dc pm an cd ct), sl⟩
  c : PySem.W.codeIn K cd x = true
  k : PySem.W.keepIn K (.ref f) = true
/-- a method of the class at C -/
structure LeftM (K : PySem.W.Frag) (C : Addr) (x q : Str) (st : Stmt) (f : Addr) (oc kV dc pm cd ct : Value) (od an : Option Addr) (sl : Array (Option Value)) : Prop where
  n : PySem.W.findIn K (.ref C) x = some (some (.ref f))
  i : PySem.W.isFn K (.ref f) = true
  l : K.lookup f = some ⟨oc, od, .func (PySem.W.fnOf x q (defArgs st) (defBody st) (defScope st) .none kV dc pm an cd ct), sl⟩
  c : PySem.W.codeIn K cd q = true
  k : PySem.W.keepIn K (.ref f) = true
theorem all_mk {P : Program} {w : World} {K : PySem.W.Frag} {h : Heap} {mg : Str → Option Value} {fa C CF cA xi : Addr} (X : K.In h) (G : h.Ns mainGlobals mg) (hfa : mg "answers" = some (.ref fa))
    {fa1 fa2 fa3 fa4 fa5 fa6 fa7 fa8 fa9 fb1 fb2 fb3 fb4 fb5 fb6 fb7 fc0 fc1 fc2 fc3 fc4 fc5 fc6 fc7 fc8 fc9 fd0 fd1 fd2 fd3 fd4 fd5 fd6 fd7 fd8 fd9 : Addr}
    {oda1 ana1 oda2 ana2 oda3 ana3 oda4 ana4 oda5 ana5 oda6 ana6 oda7 ana7 oda8 ana8 oda9 ana9 odb1 anb1 odb2 anb2 odb3 anb3 odb4 anb4 odb5 anb5 odb6 anb6 odb7 anb7 odc0 anc0 odc1 anc1 odc2 anc2 odc3 anc3 odc4 anc4 odc5 anc5 odc6 anc6 odc7 anc7 odc8 anc8 odc9 anc9 odd0 and0 odd1 and1 odd2 and2 odd3 and3 odd4 and4 odd5 and5 odd6 and6 odd7 and7 odd8 and8 odd9 and9 odx anx odk : Option Addr} {sla1 sla2 sla3 sla4 sla5 sla6 sla7 sla8 sla9 slb1 slb2 slb3 slb4 slb5 slb6 slb7 slc0 slc1 slc2 slc3 slc4 slc5 slc6 slc7 slc8 slc9 sld0 sld1 sld2 sld3 sld4 sld5 sld6 sld7 sld8 sld9 slx slk : Array (Option Value)}
    {oca1 kVa1 dca1 pma1 cda1 cta1 oca2 kVa2 dca2 pma2 cda2 cta2 oca3 kVa3 dca3 pma3 cda3 cta3 oca4 kVa4 dca4 pma4 cda4 cta4 oca5 kVa5 dca5 pma5 cda5 cta5 oca6 kVa6 dca6 pma6 cda6 cta6 oca7 kVa7 dca7 pma7 cda7 cta7 oca8 kVa8 dca8 pma8 cda8 cta8 oca9 kVa9 dca9 pma9 cda9 cta9 ocb1 kVb1 dcb1 pmb1 cdb1 ctb1 ocb2 kVb2 dcb2 pmb2 cdb2 ctb2 ocb3 kVb3 dcb3 pmb3 cdb3 ctb3 ocb4 kVb4 dcb4 pmb4 cdb4 ctb4 ocb5 kVb5 dcb5 pmb5 cdb5 ctb5 ocb6 kVb6 dcb6 pmb6 cdb6 ctb6 ocb7 kVb7 dcb7 pmb7 cdb7 ctb7 occ0 kVc0 dcc0 pmc0 cdc0 ctc0 occ1 kVc1 dcc1 pmc1 cdc1 ctc1 occ2 kVc2 dcc2 pmc2 cdc2 ctc2 occ3 kVc3 dcc3 pmc3 cdc3 ctc3 occ4 kVc4 dcc4 pmc4 cdc4 ctc4 occ5 kVc5 dcc5 pmc5 cdc5 ctc5 occ6 kVc6 dcc6 pmc6 cdc6 ctc6 occ7 kVc7 dcc7 pmc7 cdc7 ctc7 occ8 kVc8 dcc8 pmc8 cdc8 ctc8 occ9 kVc9 dcc9 pmc9 cdc9 ctc9 ocd0 kVd0 dcd0 pmd0 cdd0 ctd0 ocd1 kVd1 dcd1 pmd1 cdd1 ctd1 ocd2 kVd2 dcd2 pmd2 cdd2 ctd2 ocd3 kVd3 dcd3 pmd3 cdd3 ctd3 ocd4 kVd4 dcd4 pmd4 cdd4 ctd4 ocd5 kVd5 dcd5 pmd5 cdd5 ctd5 ocd6 kVd6 dcd6 pmd6 cdd6 ctd6 ocd7 kVd7 dcd7 pmd7 cdd7 ctd7 ocd8 kVd8 dcd8 pmd8 cdd8 ctd8 ocd9 kVd9 dcd9 pmd9 cdd9 ctd9 ocx kVx dcx pmx cdx ctx : Value}
    {t0 t1 t2 t3 t4 t5 t6 t7 t8 u0 u1 u2 u3 u4 u5 u6 u7 u8 u9 u10 u11 : Tok} {nk : Nat}
    {nm q : Str} {N : Addr} {bs : List Value} {sn : List Str} {sub : List Value} {ab : Bool} {col : Option Bool} {dd : Option Addr} {m0 m1 m2 m3 m5 : Option Value}
    (La1 : Left K "can_open" sCanOpen fa1 oca1 kVa1 dca1 pma1 cda1 cta1 oda1 ana1 sla1)
    (La2 : Left K "next_open" sNextOpen fa2 oca2 kVa2 dca2 pma2 cda2 cta2 oda2 ana2 sla2)
    (La3 : Left K "opened" sOpened fa3 oca3 kVa3 dca3 pma3 cda3 cta3 oda3 ana3 sla3)
    (La4 : Left K "with_key" sWithKey fa4 oca4 kVa4 dca4 pma4 cda4 cta4 oda4 ana4 sla4)
    (La5 : Left K "without_key" sWithoutKey fa5 oca5 kVa5 dca5 pma5 cda5 cta5 oda5 ana5 sla5)
    (La6 : Left K "with_box" sWithBox fa6 oca6 kVa6 dca6 pma6 cda6 cta6 oda6 ana6 sla6)
    (La7 : Left K "choices" sChoices fa7 oca7 kVa7 dca7 pma7 cda7 cta7 oda7 ana7 sla7)
    (La8 : Left K "cost" sCost fa8 oca8 kVa8 dca8 pma8 cda8 cta8 oda8 ana8 sla8)
    (La9 : Left K "opens" sOpens fa9 oca9 kVa9 dca9 pma9 cda9 cta9 oda9 ana9 sla9)
    (Lb1 : Left K "cheapest" sCheapest fb1 ocb1 kVb1 dcb1 pmb1 cdb1 ctb1 odb1 anb1 slb1)
    (Lb2 : Left K "needed" sNeeded fb2 ocb2 kVb2 dcb2 pmb2 cdb2 ctb2 odb2 anb2 slb2)
    (Lb3 : Left K "follow" sFollow fb3 ocb3 kVb3 dcb3 pmb3 cdb3 ctb3 odb3 anb3 slb3)
    (Lb4 : Left K "must" sMust fb4 ocb4 kVb4 dcb4 pmb4 cdb4 ctb4 odb4 anb4 slb4)
    (Lb5 : Left K "listed" sListed fb5 ocb5 kVb5 dcb5 pmb5 cdb5 ctb5 odb5 anb5 slb5)
    (Lb6 : Left K "row_from" sRow fb6 ocb6 kVb6 dcb6 pmb6 cdb6 ctb6 odb6 anb6 slb6)
    (Lb7 : Left K "answers" sAns fb7 ocb7 kVb7 dcb7 pmb7 cdb7 ctb7 odb7 anb7 slb7)
    (aC : PySem.W.nsIn K mainGlobals "Desk" = some (some (.ref C))) (aF : PySem.W.nsIn K mainGlobals "Refused" = some (some (.ref CF)))
    (Lc0 : LeftM K C "__init__" "Desk.__init__" (sDesk 0) fc0 occ0 kVc0 dcc0 pmc0 cdc0 ctc0 odc0 anc0 slc0)
    (Lc1 : LeftM K C "begins" "Desk.begins" (sDesk 1) fc1 occ1 kVc1 dcc1 pmc1 cdc1 ctc1 odc1 anc1 slc1)
    (Lc2 : LeftM K C "look" "Desk.look" (sDesk 2) fc2 occ2 kVc2 dcc2 pmc2 cdc2 ctc2 odc2 anc2 slc2)
    (Lc3 : LeftM K C "every" "Desk.every" (sDesk 3) fc3 occ3 kVc3 dcc3 pmc3 cdc3 ctc3 odc3 anc3 slc3)
    (Lc4 : LeftM K C "box" "Desk.box" (sDesk 4) fc4 occ4 kVc4 dcc4 pmc4 cdc4 ctc4 odc4 anc4 slc4)
    (Lc5 : LeftM K C "change" "Desk.change" (sDesk 5) fc5 occ5 kVc5 dcc5 pmc5 cdc5 ctc5 odc5 anc5 slc5)
    (Lc6 : LeftM K C "key" "Desk.key" (sDesk 6) fc6 occ6 kVc6 dcc6 pmc6 cdc6 ctc6 odc6 anc6 slc6)
    (Lc7 : LeftM K C "look_key" "Desk.look_key" (sDesk 7) fc7 occ7 kVc7 dcc7 pmc7 cdc7 ctc7 odc7 anc7 slc7)
    (Lc8 : LeftM K C "out" "Desk.out" (sDesk 8) fc8 occ8 kVc8 dcc8 pmc8 cdc8 ctc8 odc8 anc8 slc8)
    (Lc9 : LeftM K C "hold" "Desk.hold" (sDesk 9) fc9 occ9 kVc9 dcc9 pmc9 cdc9 ctc9 odc9 anc9 slc9)
    (Ld0 : LeftM K C "told_opened" "Desk.told_opened" (sDesk 10) fd0 ocd0 kVd0 dcd0 pmd0 cdd0 ctd0 odd0 and0 sld0)
    (Ld1 : LeftM K C "told_cheapest" "Desk.told_cheapest" (sDesk 11) fd1 ocd1 kVd1 dcd1 pmd1 cdd1 ctd1 odd1 and1 sld1)
    (Ld2 : LeftM K C "one" "Desk.one" (sDesk 12) fd2 ocd2 kVd2 dcd2 pmd2 cdd2 ctd2 odd2 and2 sld2)
    (Ld3 : LeftM K C "told_needed" "Desk.told_needed" (sDesk 13) fd3 ocd3 kVd3 dcd3 pmd3 cdd3 ctd3 odd3 and3 sld3)
    (Ld4 : LeftM K C "told_follow" "Desk.told_follow" (sDesk 14) fd4 ocd4 kVd4 dcd4 pmd4 cdd4 ctd4 odd4 and4 sld4)
    (Ld5 : LeftM K C "lost" "Desk.lost" (sDesk 15) fd5 ocd5 kVd5 dcd5 pmd5 cdd5 ctd5 odd5 and5 sld5)
    (Ld6 : LeftM K C "told_state" "Desk.told_state" (sDesk 16) fd6 ocd6 kVd6 dcd6 pmd6 cdd6 ctd6 odd6 and6 sld6)
    (Ld7 : LeftM K C "changed" "Desk.changed" (sDesk 17) fd7 ocd7 kVd7 dcd7 pmd7 cdd7 ctd7 odd7 and7 sld7)
    (Ld8 : LeftM K C "told" "Desk.told" (sDesk 18) fd8 ocd8 kVd8 dcd8 pmd8 cdd8 ctd8 odd8 and8 sld8)
    (Ld9 : LeftM K C "ask" "Desk.ask" (sDesk 19) fd9 ocd9 kVd9 dcd9 pmd9 cdd9 ctd9 odd9 and9 sld9)
    (z0 : PySem.W.nsIn K mainGlobals "len" = some none)
    (z1 : PySem.W.nsIn K mainGlobals "list" = some none)
    (z2 : PySem.W.nsIn K mainGlobals "tuple" = some none)
    (z3 : PySem.W.nsIn K mainGlobals "sorted" = some none)
    (z4 : PySem.W.nsIn K mainGlobals "range" = some none)
    (z5 : PySem.W.nsIn K mainGlobals "enumerate" = some none)
    (z6 : PySem.W.nsIn K mainGlobals "sum" = some none)
    (z7 : PySem.W.nsIn K mainGlobals "all" = some none)
    (z8 : PySem.W.nsIn K mainGlobals "min" = some none)
    (z9 : PySem.W.nsIn K mainGlobals "set" = some none)
    (z10 : PySem.W.nsIn K mainGlobals "ValueError" = some none)
    (v0 : PySem.W.nsIn K mainGlobals "NO_LOCK" = some (some (.int 99 t0)))
    (v1 : PySem.W.nsIn K mainGlobals "OUT_OF_BOUNDS" = some (some (.int (-1) t1)))
    (v2 : PySem.W.nsIn K mainGlobals "NO_SUCH" = some (some (.int (-2) t2)))
    (v3 : PySem.W.nsIn K mainGlobals "NOT_SO" = some (some (.int (-4) t3)))
    (v4 : PySem.W.nsIn K mainGlobals "TOO_MANY" = some (some (.int (-5) t4)))
    (v5 : PySem.W.nsIn K mainGlobals "LOCKS" = some (some (.int 10 t5)))
    (v6 : PySem.W.nsIn K mainGlobals "MOST_COST" = some (some (.int 1000 t6)))
    (v7 : PySem.W.nsIn K mainGlobals "MOST_BOXES" = some (some (.int 8 t7)))
    (v8 : PySem.W.nsIn K mainGlobals "OPENED" = some (some (.int 5 t8)))
    (aK : PySem.W.nsIn K mainGlobals "COUNTS" = some (some (.ref cA))) (lK : K.lookup cA = some ⟨.type "tuple", odk, .seq #[.int 0 u0, .int 2 u1, .int 2 u2, .int 2 u3, .int 2 u4, .int 0 u5, .int 0 u6, .int 1 u7, .int 0 u8, .int 1 u9, .int 2 u10, .int 0 u11] nk, slk⟩)
    (pg : PySem.W.plainGet K C Str.empty = true) (hd : PySem.W.hasDictIn K C = true) (po : PySem.W.plainOver K C = true) (sa : PySem.W.findIn K (.ref C) "__setattr__" = some (some (.builtin "object.__setattr__"))) (mk : PySem.W.makesIn K C = true) (kc : PySem.W.keepIn K (.ref C) = true)
    (nB : PySem.W.findIn K (.ref C) "boxes" = some none) (nH : PySem.W.findIn K (.ref C) "hand" = some none)
    (xL : K.lookup CF = some (excClassObj nm q CF N bs [.type "ValueError", .type "Exception", .type "BaseException", .type "object"] true sn sub ab col dd m0 m1 m2 m3 m5 "ValueError.__new__"))
    (xs : PySem.W.findIn K (.ref CF) "__setattr__" = some (some (.builtin "object.__setattr__"))) (xg : PySem.W.findIn K (.ref CF) "__getattribute__" = some (some (.builtin "BaseException.__getattribute__"))) (xh : PySem.W.findIn K (.ref CF) "__getattr__" = some none) (xn : PySem.W.findIn K (.ref CF) "number" = some none)
    (xI : PySem.W.findIn K (.ref CF) "__init__" = some (some (.ref xi))) (xT : PySem.W.typeIn K (.ref xi) = some (.type "function"))
    (xl : K.lookup xi = some ⟨ocx, odx, .func (PySem.W.fnOf "__init__" "Refused.__init__" (defArgs sRefI) (defBody sRefI) (defScope sRefI) .none kVx dcx pmx anx cdx ctx), slx⟩) (xc : PySem.W.codeIn K cdx "Refused.__init__" = true) (xk : PySem.W.keepIn K (.ref xi) = true)
    (kF : PySem.W.keepIn K (.ref CF) = true) (eF : PySem.W.subIn K (.ref CF) (.type "BaseException") = some true) (tF : PySem.W.typeIn K (.ref CF) = some (.type "type")) (hF : PySem.W.hasDictIn K CF = true) (iF : PySem.W.isClsIn K CF = true) (sF : PySem.W.subIn K (.ref CF) (.ref CF) = some true)
    (vV : PySem.W.findCls K (.type "ValueError") (.type "type") "__init__" = some (.val (.builtin "ValueError.__init__"))) :
    ∃ fd : FuncData, (∀ (s : Shared) (us : List Value), us.length = (["calls"] : List Str).length → BindsTo s fd ⟨us, []⟩ ((["calls"] : List Str).zip us)) ∧ ∀ base : Heap, K.In base → base.Ns mainGlobals mg → FnOk P w K mg base CX0 10 fa fd ["calls"] (spAnswers K) := by
  have e := hfa.symm.trans (PySem.W.mg_of X G Lb7.n)
  cases e
  have GB : Glb mg := ⟨PySem.W.mg_none_of X G z0, PySem.W.mg_none_of X G z1, PySem.W.mg_none_of X G z2, PySem.W.mg_none_of X G z3, PySem.W.mg_none_of X G z4, PySem.W.mg_none_of X G z5, PySem.W.mg_none_of X G z6, PySem.W.mg_none_of X G z7, PySem.W.mg_none_of X G z8, PySem.W.mg_none_of X G z9, PySem.W.mg_none_of X G z10, ⟨t0, PySem.W.mg_of X G v0⟩, ⟨t1, PySem.W.mg_of X G v1⟩, ⟨t2, PySem.W.mg_of X G v2⟩, ⟨t3, PySem.W.mg_of X G v3⟩, ⟨t4, PySem.W.mg_of X G v4⟩, ⟨t5, PySem.W.mg_of X G v5⟩, ⟨t6, PySem.W.mg_of X G v6⟩, ⟨t7, PySem.W.mg_of X G v7⟩, ⟨t8, PySem.W.mg_of X G v8⟩⟩
  have DT : DTxt K C := ⟨⟨pg, hd, po, sa⟩, nB, nH⟩
  have XT : XTxt K mg CF xi := ⟨⟨⟨nm, q, N, bs, _, sn, sub, ab, col, dd, m0, m1, m2, m3, m5, xL, by decide +kernel⟩, xs, eF, tF, kF⟩, xn, vV, xI, xT, PySem.W.mg_of X G aF, ⟨xg, xh, eF, hF⟩, exm_self eF iF tF sF⟩
  have CN : CountsAt K mg := ⟨cA, PySem.W.mg_of X G aK, fun H => .inr ⟨_, _, _, lK, rfl, rfl, smallE (show 12 ≤ 16000000 by decide), .cons ⟨_, rfl⟩ (.cons ⟨_, rfl⟩ (.cons ⟨_, rfl⟩ (.cons ⟨_, rfl⟩ (.cons ⟨_, rfl⟩ (.cons ⟨_, rfl⟩ (.cons ⟨_, rfl⟩ (.cons ⟨_, rfl⟩ (.cons ⟨_, rfl⟩ (.cons ⟨_, rfl⟩ (.cons ⟨_, rfl⟩ (.cons ⟨_, rfl⟩ (.nil))))))))))))⟩⟩
  have Fa1 := fun_mk (st := sCanOpen) La1.l La1.c La1.k
  have Ba1 := Fa1.binds (ps := ["box", "keys"]) fun _ _ _ _ _ _ us hl => match us, hl with | [_, _], _ => rfl
  have Fa2 := fun_mk (st := sNextOpen) La2.l La2.c La2.k
  have Ba2 := Fa2.binds (ps := ["boxes", "keys", "found"]) fun _ _ _ _ _ _ us hl => match us, hl with | [_, _, _], _ => rfl
  have Fa3 := fun_mk (st := sOpened) La3.l La3.c La3.k
  have Ba3 := Fa3.binds (ps := ["boxes", "hand", "broken"]) fun _ _ _ _ _ _ us hl => match us, hl with | [_, _, _], _ => rfl
  have Fa4 := fun_mk (st := sWithKey) La4.l La4.c La4.k
  have Ba4 := Fa4.binds (ps := ["box", "lock"]) fun _ _ _ _ _ _ us hl => match us, hl with | [_, _], _ => rfl
  have Fa5 := fun_mk (st := sWithoutKey) La5.l La5.c La5.k
  have Ba5 := Fa5.binds (ps := ["box", "lock"]) fun _ _ _ _ _ _ us hl => match us, hl with | [_, _], _ => rfl
  have Fa6 := fun_mk (st := sWithBox) La6.l La6.c La6.k
  have Ba6 := Fa6.binds (ps := ["boxes", "number", "box"]) fun _ _ _ _ _ _ us hl => match us, hl with | [_, _, _], _ => rfl
  have Fa7 := fun_mk (st := sChoices) La7.l La7.c La7.k
  have Ba7 := Fa7.binds (ps := ["many"]) fun _ _ _ _ _ _ us hl => match us, hl with | [_], _ => rfl
  have Fa8 := fun_mk (st := sCost) La8.l La8.c La8.k
  have Ba8 := Fa8.binds (ps := ["boxes", "choice"]) fun _ _ _ _ _ _ us hl => match us, hl with | [_, _], _ => rfl
  have Fa9 := fun_mk (st := sOpens) La9.l La9.c La9.k
  have Ba9 := Fa9.binds (ps := ["boxes", "hand", "choice", "goal"]) fun _ _ _ _ _ _ us hl => match us, hl with | [_, _, _, _], _ => rfl
  have Fb1 := fun_mk (st := sCheapest) Lb1.l Lb1.c Lb1.k
  have Bb1 := Fb1.binds (ps := ["boxes", "hand", "goal"]) fun _ _ _ _ _ _ us hl => match us, hl with | [_, _, _], _ => rfl
  have Fb2 := fun_mk (st := sNeeded) Lb2.l Lb2.c Lb2.k
  have Bb2 := Fb2.binds (ps := ["boxes", "hand"]) fun _ _ _ _ _ _ us hl => match us, hl with | [_, _], _ => rfl
  have Fb3 := fun_mk (st := sFollow) Lb3.l Lb3.c Lb3.k
  have Bb3 := Fb3.binds (ps := ["boxes", "hand", "number"]) fun _ _ _ _ _ _ us hl => match us, hl with | [_, _, _], _ => rfl
  have Fb4 := fun_mk (st := sMust) Lb4.l Lb4.c Lb4.k
  have Bb4 := Fb4.binds (ps := ["truth", "number"]) fun _ _ _ _ _ _ us hl => match us, hl with | [_, _], _ => rfl
  have Fb5 := fun_mk (st := sListed) Lb5.l Lb5.c Lb5.k
  have Bb5 := Fb5.binds (ps := ["some"]) fun _ _ _ _ _ _ us hl => match us, hl with | [_], _ => rfl
  have Fb6 := fun_mk (st := sRow) Lb6.l Lb6.c Lb6.k
  have Bb6 := Fb6.binds (ps := ["calls", "at", "call"]) fun _ _ _ _ _ _ us hl => match us, hl with | [_, _, _], _ => rfl
  have Fb7 := fun_mk (st := sAns) Lb7.l Lb7.c Lb7.k
  have Fc0 := fun_mk (st := sDesk 0) Lc0.l Lc0.c Lc0.k
  have Bc0 := Fc0.binds (ps := ["self"]) fun _ _ _ _ _ _ us hl => match us, hl with | [_], _ => rfl
  have Fc1 := fun_mk (st := sDesk 1) Lc1.l Lc1.c Lc1.k
  have Bc1 := Fc1.binds (ps := ["self"]) fun _ _ _ _ _ _ us hl => match us, hl with | [_], _ => rfl
  have Fc2 := fun_mk (st := sDesk 2) Lc2.l Lc2.c Lc2.k
  have Bc2 := Fc2.binds (ps := ["self", "some"]) fun _ _ _ _ _ _ us hl => match us, hl with | [_, _], _ => rfl
  have Fc3 := fun_mk (st := sDesk 3) Lc3.l Lc3.c Lc3.k
  have Bc3 := Fc3.binds (ps := ["self"]) fun _ _ _ _ _ _ us hl => match us, hl with | [_], _ => rfl
  have Fc4 := fun_mk (st := sDesk 4) Lc4.l Lc4.c Lc4.k
  have Bc4 := Fc4.binds (ps := ["self", "lock", "cost"]) fun _ _ _ _ _ _ us hl => match us, hl with | [_, _, _], _ => rfl
  have Fc5 := fun_mk (st := sDesk 5) Lc5.l Lc5.c Lc5.k
  have Bc5 := Fc5.binds (ps := ["self", "number", "box"]) fun _ _ _ _ _ _ us hl => match us, hl with | [_, _, _], _ => rfl
  have Fc6 := fun_mk (st := sDesk 6) Lc6.l Lc6.c Lc6.k
  have Bc6 := Fc6.binds (ps := ["self", "number", "lock"]) fun _ _ _ _ _ _ us hl => match us, hl with | [_, _, _], _ => rfl
  have Fc7 := fun_mk (st := sDesk 7) Lc7.l Lc7.c Lc7.k
  have Bc7 := Fc7.binds (ps := ["self", "number", "lock"]) fun _ _ _ _ _ _ us hl => match us, hl with | [_, _, _], _ => rfl
  have Fc8 := fun_mk (st := sDesk 8) Lc8.l Lc8.c Lc8.k
  have Bc8 := Fc8.binds (ps := ["self", "number", "lock"]) fun _ _ _ _ _ _ us hl => match us, hl with | [_, _, _], _ => rfl
  have Fc9 := fun_mk (st := sDesk 9) Lc9.l Lc9.c Lc9.k
  have Bc9 := Fc9.binds (ps := ["self", "lock", "has"]) fun _ _ _ _ _ _ us hl => match us, hl with | [_, _, _], _ => rfl
  have Fd0 := fun_mk (st := sDesk 10) Ld0.l Ld0.c Ld0.k
  have Bd0 := Fd0.binds (ps := ["self", "some"]) fun _ _ _ _ _ _ us hl => match us, hl with | [_, _], _ => rfl
  have Fd1 := fun_mk (st := sDesk 11) Ld1.l Ld1.c Ld1.k
  have Bd1 := Fd1.binds (ps := ["self", "goal"]) fun _ _ _ _ _ _ us hl => match us, hl with | [_, _], _ => rfl
  have Fd2 := fun_mk (st := sDesk 12) Ld2.l Ld2.c Ld2.k
  have Bd2 := Fd2.binds (ps := ["self", "number"]) fun _ _ _ _ _ _ us hl => match us, hl with | [_, _], _ => rfl
  have Fd3 := fun_mk (st := sDesk 13) Ld3.l Ld3.c Ld3.k
  have Bd3 := Fd3.binds (ps := ["self"]) fun _ _ _ _ _ _ us hl => match us, hl with | [_], _ => rfl
  have Fd4 := fun_mk (st := sDesk 14) Ld4.l Ld4.c Ld4.k
  have Bd4 := Fd4.binds (ps := ["self", "number"]) fun _ _ _ _ _ _ us hl => match us, hl with | [_, _], _ => rfl
  have Fd5 := fun_mk (st := sDesk 15) Ld5.l Ld5.c Ld5.k
  have Bd5 := Fd5.binds (ps := ["self", "number", "lock"]) fun _ _ _ _ _ _ us hl => match us, hl with | [_, _, _], _ => rfl
  have Fd6 := fun_mk (st := sDesk 16) Ld6.l Ld6.c Ld6.k
  have Bd6 := Fd6.binds (ps := ["self"]) fun _ _ _ _ _ _ us hl => match us, hl with | [_], _ => rfl
  have Fd7 := fun_mk (st := sDesk 17) Ld7.l Ld7.c Ld7.k
  have Bd7 := Fd7.binds (ps := ["self", "call", "some", "row"]) fun _ _ _ _ _ _ us hl => match us, hl with | [_, _, _, _], _ => rfl
  have Fd8 := fun_mk (st := sDesk 18) Ld8.l Ld8.c Ld8.k
  have Bd8 := Fd8.binds (ps := ["self", "call", "some", "row"]) fun _ _ _ _ _ _ us hl => match us, hl with | [_, _, _, _], _ => rfl
  have Fd9 := fun_mk (st := sDesk 19) Ld9.l Ld9.c Ld9.k
  have Bd9 := Fd9.binds (ps := ["self", "call", "some", "row"]) fun _ _ _ _ _ _ us hl => match us, hl with | [_, _, _, _], _ => rfl
  have Fx := fun_mk (st := sRefI) xl xc xk
  have Bx := Fx.binds (ps := ["self", "number"]) fun _ _ _ _ _ _ us hl => match us, hl with | [_, _], _ => rfl
  refine ⟨PySem.W.fnOf "answers" "answers" (defArgs sAns) (defBody sAns) (defScope sAns) .none kVb7 dcb7 pmb7 anb7 cdb7 ctb7, fun s us hu => match us, hu with | [_], _ => .of_eq rfl, fun base _ _ => ?_⟩
  have Ha1 : Has P w K mg base CX0 1 "can_open" ["box", "keys"] spCanOpen := ⟨_, _, ok_can_open Fa1 GB, PySem.W.mg_of X G La1.n, La1.k, Ba1⟩
  have Ha2 : Has P w K mg base CX0 2 "next_open" ["boxes", "keys", "found"] spNextOpen := ⟨_, _, ok_next_open Fa2 GB Ha1, PySem.W.mg_of X G La2.n, La2.k, Ba2⟩
  have Ha3 : Has P w K mg base CX0 3 "opened" ["boxes", "hand", "broken"] spOpened := ⟨_, _, ok_opened Fa3 GB Ha2, PySem.W.mg_of X G La3.n, La3.k, Ba3⟩
  have Ha4 : Has P w K mg base CX0 1 "with_key" ["box", "lock"] spWithKey := ⟨_, _, ok_with_key Fa4 GB, PySem.W.mg_of X G La4.n, La4.k, Ba4⟩
  have Ha5 : Has P w K mg base CX0 1 "without_key" ["box", "lock"] spWithoutKey := ⟨_, _, ok_without_key Fa5 GB, PySem.W.mg_of X G La5.n, La5.k, Ba5⟩
  have Ha6 : Has P w K mg base CX0 1 "with_box" ["boxes", "number", "box"] spWithBox := ⟨_, _, ok_with_box Fa6, PySem.W.mg_of X G La6.n, La6.k, Ba6⟩
  have Ha7 : Has P w K mg base CX0 1 "choices" ["many"] spChoices := ⟨_, _, ok_choices Fa7 GB, PySem.W.mg_of X G La7.n, La7.k, Ba7⟩
  have Ha8 : Has P w K mg base CX0 1 "cost" ["boxes", "choice"] spCost := ⟨_, _, ok_cost Fa8 GB, PySem.W.mg_of X G La8.n, La8.k, Ba8⟩
  have Ha9 : Has P w K mg base CX0 4 "opens" ["boxes", "hand", "choice", "goal"] spOpens := ⟨_, _, ok_opens Fa9 GB Ha3, PySem.W.mg_of X G La9.n, La9.k, Ba9⟩
  have Hb1 : Has P w K mg base CX0 5 "cheapest" ["boxes", "hand", "goal"] spCheapest := ⟨_, _, ok_cheapest Fb1 GB Ha7 Ha9 Ha8, PySem.W.mg_of X G Lb1.n, Lb1.k, Bb1⟩
  have Hb2 : Has P w K mg base CX0 5 "needed" ["boxes", "hand"] spNeeded := ⟨_, _, ok_needed Fb2 GB Ha9, PySem.W.mg_of X G Lb2.n, Lb2.k, Bb2⟩
  have Hb3 : Has P w K mg base CX0 4 "follow" ["boxes", "hand", "number"] spFollow := ⟨_, _, ok_follow Fb3 Ha3, PySem.W.mg_of X G Lb3.n, Lb3.k, Bb3⟩
  have GX : FnOk P w K mg base CX0 1 xi _ ["self", "number"] (spRefI CF) := ok_refI Fx GB XT
  have Hb4 : Has P w K mg base (L2.CX P w) 3 "must" ["truth", "number"] (spMust CF) := ⟨_, _, ok_must Fb4 XT GX Bx, PySem.W.mg_of X G Lb4.n, Lb4.k, Bb4⟩
  have Hb5 : Has P w K mg base CX0 1 "listed" ["some"] spListed := ⟨_, _, ok_listed Fb5 GB, PySem.W.mg_of X G Lb5.n, Lb5.k, Bb5⟩
  have Hb6 : Has P w K mg base CX0 1 "row_from" ["calls", "at", "call"] (spRow K) := ⟨_, _, ok_row Fb6 GB, PySem.W.mg_of X G Lb6.n, Lb6.k, Bb6⟩
  have Hc1 : HasM P w K mg base C (L2.CX P w) 1 "begins" ["self"] (spBegins C CF) := ⟨_, _, ok_begins Fc1 DT, ⟨Lc1.n, Lc1.i, Lc1.k⟩, Bc1⟩
  have Hc2 : HasM P w K mg base C (L2.CX P w) 4 "look" ["self", "some"] (spLook C CF) := ⟨_, _, ok_look Fc2 GB DT Hb4, ⟨Lc2.n, Lc2.i, Lc2.k⟩, Bc2⟩
  have Hc3 : HasM P w K mg base C CX0 1 "every" ["self"] (spEvery C) := ⟨_, _, ok_every Fc3 GB DT, ⟨Lc3.n, Lc3.i, Lc3.k⟩, Bc3⟩
  have Hc4 : HasM P w K mg base C (L2.CX P w) 4 "box" ["self", "lock", "cost"] (spBox C CF) := ⟨_, _, ok_box Fc4 GB DT Hb4, ⟨Lc4.n, Lc4.i, Lc4.k⟩, Bc4⟩
  have Hc5 : HasM P w K mg base C CX0 2 "change" ["self", "number", "box"] (spChange C) := ⟨_, _, ok_change Fc5 GB DT Ha6, ⟨Lc5.n, Lc5.i, Lc5.k⟩, Bc5⟩
  have Hc6 : HasM P w K mg base C (L2.CX P w) 5 "key" ["self", "number", "lock"] (spKey C CF) := ⟨_, _, ok_key Fc6 GB DT Hb4 Hc2 Hc5 Ha4, ⟨Lc6.n, Lc6.i, Lc6.k⟩, Bc6⟩
  have Hc7 : HasM P w K mg base C (L2.CX P w) 5 "look_key" ["self", "number", "lock"] (spLookKey C CF) := ⟨_, _, ok_look_key Fc7 GB DT Hb4 Hc2, ⟨Lc7.n, Lc7.i, Lc7.k⟩, Bc7⟩
  have Hc8 : HasM P w K mg base C (L2.CX P w) 6 "out" ["self", "number", "lock"] (spOut C CF) := ⟨_, _, ok_out Fc8 DT Hc7 Hc5 Ha5, ⟨Lc8.n, Lc8.i, Lc8.k⟩, Bc8⟩
  have Hc9 : HasM P w K mg base C (L2.CX P w) 4 "hold" ["self", "lock", "has"] (spHold C CF) := ⟨_, _, ok_hold Fc9 GB DT Hb4, ⟨Lc9.n, Lc9.i, Lc9.k⟩, Bc9⟩
  have Hd0 : HasM P w K mg base C (L2.CX P w) 5 "told_opened" ["self", "some"] (spTO C CF) := ⟨_, _, ok_told_opened Fd0 GB DT Hc2 Ha3 Hb5, ⟨Ld0.n, Ld0.i, Ld0.k⟩, Bd0⟩
  have Hd1 : HasM P w K mg base C CX0 6 "told_cheapest" ["self", "goal"] (spTC C) := ⟨_, _, ok_told_cheapest Fd1 GB DT Hb1 Hb5, ⟨Ld1.n, Ld1.i, Ld1.k⟩, Bd1⟩
  have Hd2 : HasM P w K mg base C (L2.CX P w) 7 "one" ["self", "number"] (spOne C CF) := ⟨_, _, ok_one Fd2 GB DT Hc2 Hd1, ⟨Ld2.n, Ld2.i, Ld2.k⟩, Bd2⟩
  have Hd3 : HasM P w K mg base C (L2.CX P w) 6 "told_needed" ["self"] (spTN C CF) := ⟨_, _, ok_told_needed Fd3 GB DT Hb2 Hb5, ⟨Ld3.n, Ld3.i, Ld3.k⟩, Bd3⟩
  have Hd4 : HasM P w K mg base C (L2.CX P w) 5 "told_follow" ["self", "number"] (spTF C CF) := ⟨_, _, ok_told_follow Fd4 GB DT Hc2 Hb3 Hb5, ⟨Ld4.n, Ld4.i, Ld4.k⟩, Bd4⟩
  have Hd5 : HasM P w K mg base C (L2.CX P w) 6 "lost" ["self", "number", "lock"] (spLost C CF) := ⟨_, _, ok_lost Fd5 DT Hc7 Hc3 Ha6 Ha5 Hb1, ⟨Ld5.n, Ld5.i, Ld5.k⟩, Bd5⟩
  have Hd6 : HasM P w K mg base C CX0 2 "told_state" ["self"] (spTS C) := ⟨_, _, ok_told_state Fd6 GB DT Hb5, ⟨Ld6.n, Ld6.i, Ld6.k⟩, Bd6⟩
  have Hd7 : HasM P w K mg base C (L2.CX P w) 7 "changed" ["self", "call", "some", "row"] (spReq 0 5 C CF) := ⟨_, _, ok_changed Fd7 DT Hc1 Hc4 Hc6 Hc9 Hc8, ⟨Ld7.n, Ld7.i, Ld7.k⟩, Bd7⟩
  have Hd8 : HasM P w K mg base C (L2.CX P w) 8 "told" ["self", "call", "some", "row"] (spReq 5 12 C CF) := ⟨_, _, ok_told Fd8 DT Hd0 Hd1 Hc3 Hd2 Hd3 Hd4 Hd5 Hd6, ⟨Ld8.n, Ld8.i, Ld8.k⟩, Bd8⟩
  have Hd9 : HasM P w K mg base C CX0 9 "ask" ["self", "call", "some", "row"] (spAsk C) := ⟨_, _, ok_ask Fd9 DT XT Hd7 Hd8, ⟨Ld9.n, Ld9.i, Ld9.k⟩, Bd9⟩
  exact ok_answers Fb7 GB DT CN ⟨mk, Lc0.n, Lc0.i, kc⟩ (PySem.W.mg_of X G aC) (ok_init Fc0 DT) Bc0 Hb6 Hd9
end Bk

open PySem PySem.W PyProof.Rows
set_option maxRecDepth 100000 in
set_option maxHeartbeats 8000000 in
theorem PySem.Challenge.cw_boxeskeys_s01_answers_holds : PySem.Challenge.rw_boxeskeys_s01_answers.Holds := by
  w_on; k_headS; (case hw => exact ⟨[.list [.int 0]], by decide +kernel, by decide +kernel⟩)
  k_fillS
  refine L2.walk_specK (r := PySem.Challenge.rw_boxeskeys_s01_answers) (k := 10) (CX := L2.CX0) (ps := ["calls"]) (sp := Bk.spAnswers) (by decide +kernel) rfl rfl ⟨rfl, by decide, by decide⟩ (fun w h Y => PySem.W.kIn_of Y) ?F ?S (fun _ _ _ _ z => z)
  case F =>
    intro w mg fa h Y KX G hmg
    refine' Bk.all_mk KX G hmg ⟨?a1n, ?a1l, ?a1c, ?a1k⟩ ⟨?a2n, ?a2l, ?a2c, ?a2k⟩ ⟨?a3n, ?a3l, ?a3c, ?a3k⟩ ⟨?a4n, ?a4l, ?a4c, ?a4k⟩ ⟨?a5n, ?a5l, ?a5c, ?a5k⟩ ⟨?a6n, ?a6l, ?a6c, ?a6k⟩ ⟨?a7n, ?a7l, ?a7c, ?a7k⟩ ⟨?a8n, ?a8l, ?a8c, ?a8k⟩ ⟨?a9n, ?a9l, ?a9c, ?a9k⟩ ⟨?b1n, ?b1l, ?b1c, ?b1k⟩ ⟨?b2n, ?b2l, ?b2c, ?b2k⟩ ⟨?b3n, ?b3l, ?b3c, ?b3k⟩ ⟨?b4n, ?b4l, ?b4c, ?b4k⟩ ⟨?b5n, ?b5l, ?b5c, ?b5k⟩ ⟨?b6n, ?b6l, ?b6c, ?b6k⟩ ⟨?b7n, ?b7l, ?b7c, ?b7k⟩ ?aC ?aF ⟨?c0n, ?c0i, ?c0l, ?c0c, ?c0k⟩ ⟨?c1n, ?c1i, ?c1l, ?c1c, ?c1k⟩ ⟨?c2n, ?c2i, ?c2l, ?c2c, ?c2k⟩ ⟨?c3n, ?c3i, ?c3l, ?c3c, ?c3k⟩ ⟨?c4n, ?c4i, ?c4l, ?c4c, ?c4k⟩ ⟨?c5n, ?c5i, ?c5l, ?c5c, ?c5k⟩ ⟨?c6n, ?c6i, ?c6l, ?c6c, ?c6k⟩ ⟨?c7n, ?c7i, ?c7l, ?c7c, ?c7k⟩ ⟨?c8n, ?c8i, ?c8l, ?c8c, ?c8k⟩ ⟨?c9n, ?c9i, ?c9l, ?c9c, ?c9k⟩ ⟨?d0n, ?d0i, ?d0l, ?d0c, ?d0k⟩ ⟨?d1n, ?d1i, ?d1l, ?d1c, ?d1k⟩ ⟨?d2n, ?d2i, ?d2l, ?d2c, ?d2k⟩ ⟨?d3n, ?d3i, ?d3l, ?d3c, ?d3k⟩ ⟨?d4n, ?d4i, ?d4l, ?d4c, ?d4k⟩ ⟨?d5n, ?d5i, ?d5l, ?d5c, ?d5k⟩ ⟨?d6n, ?d6i, ?d6l, ?d6c, ?d6k⟩ ⟨?d7n, ?d7i, ?d7l, ?d7c, ?d7k⟩ ⟨?d8n, ?d8i, ?d8l, ?d8c, ?d8k⟩ ⟨?d9n, ?d9i, ?d9l, ?d9c, ?d9k⟩ ?z0 ?z1 ?z2 ?z3 ?z4 ?z5 ?z6 ?z7 ?z8 ?z9 ?z10 ?v0 ?v1 ?v2 ?v3 ?v4 ?v5 ?v6 ?v7 ?v8 ?aK ?lK ?pg ?hd ?po ?sa ?mk ?kc ?nB ?nH ?xL ?xs ?xg ?xh ?xn ?xI ?xT ?xl ?xc ?xk ?kF ?eF ?tF ?hF ?iF ?sF ?vV
    (case a1n => k_is); (case a1l => k_is); (case a1c => k_is); (case a1k => k_is)
    (case a2n => k_is); (case a2l => k_is); (case a2c => k_is); (case a2k => k_is)
    (case a3n => k_is); (case a3l => k_is); (case a3c => k_is); (case a3k => k_is)
    (case a4n => k_is); (case a4l => k_is); (case a4c => k_is); (case a4k => k_is)
    (case a5n => k_is); (case a5l => k_is); (case a5c => k_is); (case a5k => k_is)
    (case a6n => k_is); (case a6l => k_is); (case a6c => k_is); (case a6k => k_is)
    (case a7n => k_is); (case a7l => k_is); (case a7c => k_is); (case a7k => k_is)
    (case a8n => k_is); (case a8l => k_is); (case a8c => k_is); (case a8k => k_is)
    (case a9n => k_is); (case a9l => k_is); (case a9c => k_is); (case a9k => k_is)
    (case b1n => k_is); (case b1l => k_is); (case b1c => k_is); (case b1k => k_is)
    (case b2n => k_is); (case b2l => k_is); (case b2c => k_is); (case b2k => k_is)
    (case b3n => k_is); (case b3l => k_is); (case b3c => k_is); (case b3k => k_is)
    (case b4n => k_is); (case b4l => k_is); (case b4c => k_is); (case b4k => k_is)
    (case b5n => k_is); (case b5l => k_is); (case b5c => k_is); (case b5k => k_is)
    (case b6n => k_is); (case b6l => k_is); (case b6c => k_is); (case b6k => k_is)
    (case b7n => k_is); (case b7l => k_is); (case b7c => k_is); (case b7k => k_is)
    (case aC => k_is); (case aF => k_is)
    (case c0n => k_is); (case c0i => k_is); (case c0l => k_is); (case c0c => k_is); (case c0k => k_is)
    (case c1n => k_is); (case c1i => k_is); (case c1l => k_is); (case c1c => k_is); (case c1k => k_is)
    (case c2n => k_is); (case c2i => k_is); (case c2l => k_is); (case c2c => k_is); (case c2k => k_is)
    (case c3n => k_is); (case c3i => k_is); (case c3l => k_is); (case c3c => k_is); (case c3k => k_is)
    (case c4n => k_is); (case c4i => k_is); (case c4l => k_is); (case c4c => k_is); (case c4k => k_is)
    (case c5n => k_is); (case c5i => k_is); (case c5l => k_is); (case c5c => k_is); (case c5k => k_is)
    (case c6n => k_is); (case c6i => k_is); (case c6l => k_is); (case c6c => k_is); (case c6k => k_is)
    (case c7n => k_is); (case c7i => k_is); (case c7l => k_is); (case c7c => k_is); (case c7k => k_is)
    (case c8n => k_is); (case c8i => k_is); (case c8l => k_is); (case c8c => k_is); (case c8k => k_is)
    (case c9n => k_is); (case c9i => k_is); (case c9l => k_is); (case c9c => k_is); (case c9k => k_is)
    (case d0n => k_is); (case d0i => k_is); (case d0l => k_is); (case d0c => k_is); (case d0k => k_is)
    (case d1n => k_is); (case d1i => k_is); (case d1l => k_is); (case d1c => k_is); (case d1k => k_is)
    (case d2n => k_is); (case d2i => k_is); (case d2l => k_is); (case d2c => k_is); (case d2k => k_is)
    (case d3n => k_is); (case d3i => k_is); (case d3l => k_is); (case d3c => k_is); (case d3k => k_is)
    (case d4n => k_is); (case d4i => k_is); (case d4l => k_is); (case d4c => k_is); (case d4k => k_is)
    (case d5n => k_is); (case d5i => k_is); (case d5l => k_is); (case d5c => k_is); (case d5k => k_is)
    (case d6n => k_is); (case d6i => k_is); (case d6l => k_is); (case d6c => k_is); (case d6k => k_is)
    (case d7n => k_is); (case d7i => k_is); (case d7l => k_is); (case d7c => k_is); (case d7k => k_is)
    (case d8n => k_is); (case d8i => k_is); (case d8l => k_is); (case d8c => k_is); (case d8k => k_is)
    (case d9n => k_is); (case d9i => k_is); (case d9l => k_is); (case d9c => k_is); (case d9k => k_is)
    (case z0 => k_is)
    (case z1 => k_is)
    (case z2 => k_is)
    (case z3 => k_is)
    (case z4 => k_is)
    (case z5 => k_is)
    (case z6 => k_is)
    (case z7 => k_is)
    (case z8 => k_is)
    (case z9 => k_is)
    (case z10 => k_is)
    (case v0 => k_is)
    (case v1 => k_is)
    (case v2 => k_is)
    (case v3 => k_is)
    (case v4 => k_is)
    (case v5 => k_is)
    (case v6 => k_is)
    (case v7 => k_is)
    (case v8 => k_is)
    (case aK => k_is)
    (case lK => k_is)
    (case pg => k_is)
    (case hd => k_is)
    (case po => k_is)
    (case sa => k_is)
    (case mk => k_is)
    (case kc => k_is)
    (case nB => k_is)
    (case nH => k_is)
    (case xL => k_is)
    (case xs => k_is)
    (case xg => k_is)
    (case xh => k_is)
    (case xn => k_is)
    (case xI => k_is)
    (case xT => k_is)
    (case xl => k_is)
    (case xc => k_is)
    (case xk => k_is)
    (case kF => k_is)
    (case eF => k_is)
    (case tF => k_is)
    (case hF => k_is)
    (case iF => k_is)
    (case sF => first | k_is | rfl)
    (case vV => k_is)
  case S =>
    intro K H xs a hO hwi hask hx
    cases hx with
    | cons h1 h2 =>
      cases h2
      cases h1 with
      | lst hs ha =>
        have e := L2.ints_dw a.1 _ ha
        subst e
        have q : ((Codec.inLen 0 6000 a.1 && a.1.all (Codec.inInt 0 4294967295)) && true) = true := hwi
        rw [Bool.and_eq_true, Bool.and_eq_true] at q
        refine ⟨_, a.1, rfl, hs, (Codec.inNat_iff.mp q.1.1).2, fun z hz => ?_, hask, fun H' p hp => .lst (L2.SqL.of hp) (L2.dw_ints _)⟩
        have z1 := List.all_eq_true.mp q.1.2 z hz
        exact Codec.inInt_iff.mp z1
#print axioms PySem.Challenge.cw_boxeskeys_s01_answers_holds
