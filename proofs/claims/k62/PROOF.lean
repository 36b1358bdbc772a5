import PyProof.Rows.All
import Wide.All
import OpenK.AllK
import Wide.FinOn
import HandS.Base
import HandS.Call
import HandS.List
import HandS.Comp
import HandS.Dict
import HandS.Iter
import HandS.Text
import HandS.Conv
import HandS.Exc
import HandS.Flow
import HandS.Style
import HandS.TupAny
import HandS.Defaults
import HandS.HeadHook1
import HandS.HeadHook2
import HandS.Wide
import HandS.SetKeys
import HandS.StrMore
import HandS.Small
import KE.KEqNest
import HandS.More
import HandS.WordsDict
import PyProof.TupleOfStr
import HandS.RaiseMore
import HandS.Star
import HandS.BoundDict
import HandS.IsInst
import HandS.FStr
import HandS.Words
import HandS.WordsExc
import HandS.DictComp
import HandS.Strs
import KE.GoesZip
import KE.GoesMore
import KE.GoesEnumKw
import HandS.Finally
import PyProof.Rows.FactsT3
import PyProof.Rows.StrIntSpec
import PyProof.FString3
import KE.KItemsList
import KE.KDictWalk
import HandS.HeadEnd
import HandS.Property
import KE.KCallOwn
import OpenK.KOps
import HandS.HeadHook4
import PyProof.ReprRoads
import HandS.Head0
import HandS.Head1
import HandS.Head2
import HandS.HeadHook3
import PySem.Challenge.RW_nextbehind_k62_texts_of_worlds
set_option Elab.async false
set_option linter.all false
set_option maxRecDepth 100000
set_option maxHeartbeats 4000000
/-! NbC3: the merge of orders, in plain Lean. -/
namespace NB
section
variable {α : Type} [DecidableEq α]
def hds (L : List (List α)) : List α := L.filterMap List.head?
/-- in no tail -/
def frB (L : List (List α)) (x : α) : Bool := L.all fun l => !decide (x ∈ l.tail)
def fre (L : List (List α)) : List α := (hds L).filter (frB L)
def popH (g : α) (l : List α) : List α := if l.head? = some g then l.tail else l
def popL (g : α) (L : List (List α)) : List (List α) := L.map (popH g)
def tot : List (List α) → Nat
  | [] => 0
  | l :: L => l.length + tot L
theorem popH_le (g : α) (l : List α) : (popH g l).length ≤ l.length := by
  unfold popH
  split
  · rw [List.length_tail]; exact Nat.sub_le _ _
  · exact Nat.le_refl _
theorem popH_lt {g : α} {l : List α} (h : l.head? = some g) : (popH g l).length < l.length := by
  unfold popH
  rw [if_pos h]
  cases l with
  | nil => cases h
  | cons a l => simp
theorem tot_le (g : α) : ∀ L : List (List α), tot (L.map (popH g)) ≤ tot L
  | [] => Nat.le_refl _
  | l :: L => Nat.add_le_add (popH_le g l) (tot_le g L)
theorem tot_lt {g : α} : ∀ {L : List (List α)}, g ∈ hds L → tot (L.map (popH g)) < tot L
  | [], h => by simp [hds] at h
  | l :: L, h => by
    unfold hds at h
    show (popH g l).length + tot (L.map (popH g)) < l.length + tot L
    by_cases e : l.head? = some g
    · exact Nat.add_lt_add_of_lt_of_le (popH_lt e) (tot_le g L)
    · have : g ∈ hds L := by
        unfold hds
        cases l with
        | nil => simpa using h
        | cons a l =>
          simp only [List.head?_cons, List.filterMap_cons, List.mem_cons] at h
          rcases h with h | h
          · exact absurd (by rw [h]; rfl) e
          · exact h
      exact Nat.add_lt_add_of_le_of_lt (popH_le g l) (tot_lt this)
theorem fre_hds {L : List (List α)} {g : α} (h : g ∈ fre L) : g ∈ hds L := (List.mem_filter.mp h).1
/-- the merge -/
def mrg (L : List (List α)) : Option (List α) :=
  if hds L = [] then some [] else match e : fre L with
    | [] => none
    | g :: _ => (mrg (popL g L)).map (g :: ·)
termination_by tot L
decreasing_by exact tot_lt (fre_hds (by rw [e]; exact List.mem_cons_self))
theorem mrg_done {L : List (List α)} (h : hds L = []) : mrg L = some [] := by
  rw [mrg, if_pos h]
theorem mrg_stop {L : List (List α)} (h : hds L ≠ []) (e : fre L = []) : mrg L = none := by
  rw [mrg, if_neg h]
  split
  · rfl
  · rename_i q; rw [e] at q; cases q
theorem mrg_step {L : List (List α)} {g : α} {fs : List α} (e : fre L = g :: fs) : mrg L = (mrg (popL g L)).map (g :: ·) := by
  have h : hds L ≠ [] := by
    intro z
    unfold fre at e
    rw [z] at e
    cases e
  rw [mrg, if_neg h]
  split
  · rename_i q; rw [e] at q; cases q
  · rename_i q; rw [e] at q; cases q; rfl
/-- what is free is only at heads -/
theorem popH_filter {g : α} {l : List α} (h : g ∉ l.tail) : l.filter (fun x => decide (x ≠ g)) = popH g l := by
  unfold popH
  cases l with
  | nil => simp
  | cons a l =>
    have t : l.filter (fun x => decide (x ≠ g)) = l := List.filter_eq_self.mpr fun x hx => by
      simp only [ne_eq, decide_not, Bool.not_eq_eq_eq_not, Bool.not_true, decide_eq_false_iff_not]
      intro z
      rw [z] at hx
      exact h hx
    by_cases e : a = g
    · subst e
      simpa using t
    · simp only [List.head?_cons, Option.some.injEq, e, if_false]
      rw [List.filter_cons_of_pos (by simpa using e), t]
theorem frB_tail {L : List (List α)} {g : α} (h : frB L g = true) {l : List α} (hl : l ∈ L) : g ∉ l.tail := by
  unfold frB at h
  have := List.all_eq_true.mp h l hl
  simpa using this
end
end NB

set_option Elab.async false
set_option linter.all false
set_option maxRecDepth 100000
set_option maxHeartbeats 4000000
/-! NbM3: laws of the merge: renaming, members, no repeats; rows of classes. -/
namespace NB
section
variable {α : Type} [DecidableEq α]
theorem hds_nil {L : List (List α)} (h : hds L = []) : ∀ l ∈ L, l = [] := by
  intro l hl
  cases l with
  | nil => rfl
  | cons a l =>
    have : a ∈ hds L := List.mem_filterMap.mpr ⟨_, hl, rfl⟩
    rw [h] at this
    cases this
/-- the steps of a merge, as a fact -/
inductive Mrg : List (List α) → List α → Prop where
  | done {L} (h : hds L = []) : Mrg L []
  | step {L : List (List α)} {g : α} {fs m : List α} (e : fre L = g :: fs) (r : Mrg (popL g L) m) : Mrg L (g :: m)
theorem mrg_Mrg : ∀ {m : List α} {L : List (List α)}, mrg L = some m → Mrg L m := by
  intro m
  induction m with
  | nil =>
    intro L h
    by_cases z : hds L = []
    · exact .done z
    · cases e : fre L with
      | nil => rw [mrg_stop z e] at h; cases h
      | cons g fs =>
        rw [mrg_step e] at h
        cases q : mrg (popL g L) with
        | none => rw [q] at h; cases h
        | some m => rw [q] at h; cases h
  | cons a m ih =>
    intro L h
    by_cases z : hds L = []
    · rw [mrg_done z] at h; cases h
    · cases e : fre L with
      | nil => rw [mrg_stop z e] at h; cases h
      | cons g fs =>
        rw [mrg_step e] at h
        cases q : mrg (popL g L) with
        | none => rw [q] at h; cases h
        | some m' =>
          rw [q] at h
          cases h
          exact .step e (ih q)
theorem Mrg.mrg {L : List (List α)} {m : List α} (h : Mrg L m) : mrg L = some m := by
  induction h with
  | done h => exact mrg_done h
  | step e r ih => rw [mrg_step e, ih]; rfl
/-- where a name is in the lists -/
def isIn (L : List (List α)) (x : α) : Prop := ∃ l ∈ L, x ∈ l
theorem mem_popH {g x : α} {l : List α} (h : x ∈ popH g l) : x ∈ l := by
  unfold popH at h
  split at h
  · exact List.mem_of_mem_tail h
  · exact h
theorem mem_popH' {g x : α} {l : List α} (h : x ∈ l) : x = g ∨ x ∈ popH g l := by
  unfold popH
  split
  · rename_i e
    cases l with
    | nil => cases h
    | cons a l =>
      simp only [List.head?_cons, Option.some.injEq] at e
      rcases List.mem_cons.mp h with h | h
      · exact .inl (h.trans e)
      · exact .inr h
  · exact .inr h
theorem isIn_pop {g x : α} {L : List (List α)} (h : isIn (popL g L) x) : isIn L x := by
  obtain ⟨l, hl, hx⟩ := h
  obtain ⟨l', hl', rfl⟩ := List.mem_map.mp hl
  exact ⟨l', hl', mem_popH hx⟩
theorem isIn_pop' {g x : α} {L : List (List α)} (h : isIn L x) : x = g ∨ isIn (popL g L) x := by
  obtain ⟨l, hl, hx⟩ := h
  rcases mem_popH' (g := g) hx with h | h
  · exact .inl h
  · exact .inr ⟨_, List.mem_map.mpr ⟨l, hl, rfl⟩, h⟩
theorem fre_in {L : List (List α)} {g : α} (h : g ∈ fre L) : isIn L g := by
  obtain ⟨l, hl, e⟩ := List.mem_filterMap.mp (fre_hds h)
  exact ⟨l, hl, by cases l with
    | nil => cases e
    | cons a l => simp only [List.head?_cons, Option.some.injEq] at e; rw [e]; exact List.mem_cons_self⟩
theorem Mrg.mem {L : List (List α)} {m : List α} (h : Mrg L m) (x : α) : x ∈ m ↔ isIn L x := by
  induction h with
  | done h =>
    constructor
    · intro z; cases z
    · intro ⟨l, hl, hx⟩
      rw [hds_nil h l hl] at hx
      exact hx
  | @step L g fs m e r ih =>
    have hg : g ∈ fre L := by rw [e]; exact List.mem_cons_self
    constructor
    · intro h
      rcases List.mem_cons.mp h with h | h
      · rw [h]; exact fre_in hg
      · exact isIn_pop (ih.mp h)
    · intro h
      rcases isIn_pop' (g := g) h with h | h
      · rw [h]; exact List.mem_cons_self
      · exact List.mem_cons_of_mem _ (ih.mpr h)
theorem Mrg.len {L : List (List α)} {m : List α} (h : Mrg L m) : m.length ≤ tot L := by
  induction h with
  | done h => exact Nat.zero_le _
  | @step L g fs m e r ih =>
    have : tot (popL g L) < tot L := tot_lt (fre_hds (by rw [e]; exact List.mem_cons_self))
    simp only [List.length_cons]
    omega
theorem popH_nodup {g : α} {l : List α} (h : l.Nodup) : (popH g l).Nodup := by
  unfold popH
  split
  · exact List.Nodup.sublist (List.tail_sublist l) h
  · exact h
theorem not_in_pop {L : List (List α)} {g : α} (hg : g ∈ fre L) (nd : ∀ l ∈ L, l.Nodup) : ¬ isIn (popL g L) g := by
  intro ⟨l, hl, hx⟩
  obtain ⟨l', hl', rfl⟩ := List.mem_map.mp hl
  have t := frB_tail (List.mem_filter.mp hg).2 hl'
  unfold popH at hx
  split at hx
  · exact t hx
  · rename_i ne
    cases l' with
    | nil => cases hx
    | cons a l =>
      rcases List.mem_cons.mp hx with h | h
      · exact ne (by rw [h]; rfl)
      · exact t h
theorem pop_nodup {L : List (List α)} {g : α} (nd : ∀ l ∈ L, l.Nodup) : ∀ l ∈ popL g L, l.Nodup := by
  intro l hl
  obtain ⟨l', hl', rfl⟩ := List.mem_map.mp hl
  exact popH_nodup (nd l' hl')
theorem Mrg.nodup {L : List (List α)} {m : List α} (h : Mrg L m) (nd : ∀ l ∈ L, l.Nodup) : m.Nodup := by
  induction h with
  | done h => exact List.nodup_nil
  | @step L g fs m e r ih =>
    have hg : g ∈ fre L := by rw [e]; exact List.mem_cons_self
    exact List.nodup_cons.mpr ⟨fun z => not_in_pop hg nd ((r.mem g).mp z), ih (pop_nodup nd)⟩
end
section
variable {α β : Type} [DecidableEq α] [DecidableEq β]
/-- the same names, otherwise called -/
def InjOn (f : α → β) (L : List (List α)) : Prop := ∀ x y, isIn L x → isIn L y → f x = f y → x = y
theorem hds_map (f : α → β) : ∀ L : List (List α), hds (L.map (List.map f)) = (hds L).map f
  | [] => rfl
  | [] :: L => hds_map f L
  | (a :: l) :: L => by
    show f a :: hds (L.map (List.map f)) = f a :: (hds L).map f
    rw [hds_map f L]
theorem frB_map {f : α → β} {L : List (List α)} (i : InjOn f L) {x : α} (hx : isIn L x) : frB (L.map (List.map f)) (f x) = frB L x := by
  unfold frB
  rw [List.all_map]
  apply Bool.eq_iff_iff.mpr
  rw [List.all_eq_true, List.all_eq_true]
  have k : ∀ l ∈ L, (f x ∈ (l.map f).tail ↔ x ∈ l.tail) := by
    intro l hl
    rw [← List.map_tail]
    constructor
    · intro h
      obtain ⟨y, hy, e⟩ := List.mem_map.mp h
      have := i y x ⟨l, hl, List.mem_of_mem_tail hy⟩ hx e
      rw [← this]; exact hy
    · intro h; exact List.mem_map.mpr ⟨x, h, rfl⟩
  constructor
  · intro h l hl
    have := h l hl
    simp only [Function.comp, Bool.not_eq_eq_eq_not, Bool.not_true, decide_eq_false_iff_not, k l hl] at this ⊢
    exact this
  · intro h l hl
    have := h l hl
    simp only [Function.comp, Bool.not_eq_eq_eq_not, Bool.not_true, decide_eq_false_iff_not, k l hl] at this ⊢
    exact this
theorem hds_in {L : List (List α)} {x : α} (h : x ∈ hds L) : isIn L x := by
  obtain ⟨l, hl, e⟩ := List.mem_filterMap.mp h
  exact ⟨l, hl, by cases l with
    | nil => cases e
    | cons a l => simp only [List.head?_cons, Option.some.injEq] at e; rw [e]; exact List.mem_cons_self⟩
theorem fre_map {f : α → β} {L : List (List α)} (i : InjOn f L) : fre (L.map (List.map f)) = (fre L).map f := by
  unfold fre
  rw [hds_map, List.filter_map]
  congr 1
  apply List.filter_congr
  intro x hx
  exact frB_map i (hds_in hx)
theorem popH_map {f : α → β} {g : α} {l : List α} (k : ∀ x ∈ l, f x = f g → x = g) : popH (f g) (l.map f) = (popH g l).map f := by
  unfold popH
  cases l with
  | nil => simp
  | cons a l =>
    simp only [List.map_cons, List.head?_cons, Option.some.injEq, List.tail_cons]
    by_cases e : a = g
    · rw [if_pos e, if_pos (by rw [e])]
    · rw [if_neg e, if_neg (fun z => e (k a List.mem_cons_self z))]
      rfl
theorem popL_map {f : α → β} {L : List (List α)} {g : α} (i : InjOn f L) (hg : isIn L g) : popL (f g) (L.map (List.map f)) = (popL g L).map (List.map f) := by
  unfold popL
  rw [List.map_map, List.map_map]
  apply List.map_congr_left
  intro l hl
  exact popH_map fun x hx e => i x g ⟨l, hl, hx⟩ hg e
theorem Mrg.map {f : α → β} {L : List (List α)} {m : List α} (h : Mrg L m) (i : InjOn f L) : Mrg (L.map (List.map f)) (m.map f) := by
  induction h with
  | done h => exact .done (by rw [hds_map, h]; rfl)
  | @step L g fs m e r ih =>
    have hg : g ∈ fre L := by rw [e]; exact List.mem_cons_self
    refine .step (g := f g) (fs := fs.map f) (by rw [fre_map i, e]; rfl) ?_
    rw [popL_map i (fre_in hg)]
    exact ih fun x y hx hy => i x y (isIn_pop hx) (isIn_pop hy)
end
section
variable {α : Type} [DecidableEq α]
theorem mrg_single : ∀ {l : List α}, l.Nodup → ∀ n, Mrg (l :: List.replicate n []) l
  | [], _, n => .done (by
    unfold hds
    rw [List.filterMap_eq_nil_iff]
    intro a h
    rcases List.mem_cons.mp h with h | h
    · rw [h]; rfl
    · rw [(List.mem_replicate.mp h).2]; rfl)
  | a :: l, nd, n => by
    have nd' := List.nodup_cons.mp nd
    have h0 : hds (List.replicate n ([] : List α)) = [] := by
      unfold hds
      rw [List.filterMap_eq_nil_iff]
      intro a h
      rw [(List.mem_replicate.mp h).2]; rfl
    refine .step (g := a) (fs := []) ?_ ?_
    · unfold fre
      rw [show hds ((a :: l) :: List.replicate n []) = [a] by
        show a :: hds (List.replicate n []) = [a]
        rw [h0]]
      rw [List.filter_cons_of_pos]
      · rfl
      · unfold frB
        rw [List.all_eq_true]
        intro q hq
        rcases List.mem_cons.mp hq with h | h
        · rw [h]; simp [nd'.1]
        · rw [(List.mem_replicate.mp h).2]; rfl
    · have : popL a ((a :: l) :: List.replicate n []) = l :: List.replicate n [] := by
        unfold popL
        rw [List.map_cons, List.map_replicate]
        simp [popH]
      rw [this]
      exact mrg_single nd'.2 n
/-- a class with one base -/
theorem mrg_one {x : α} {l : List α} (nd : (x :: l).Nodup) : Mrg [x :: l, [x]] (x :: l) := by
  have nd' := List.nodup_cons.mp nd
  refine .step (g := x) (fs := [x]) ?_ ?_
  · simp [fre, hds, frB, nd'.1]
  · have : popL x [x :: l, [x]] = l :: List.replicate 1 [] := by simp [popL, popH]
    rw [this]
    exact mrg_single nd'.2 1
theorem mrg_nil : Mrg ([[]] : List (List α)) [] := .done rfl
/-- the linearization of a class: the lines of the others are given as pairs -/
def lnOf (L : List (α × List α)) (b : α) : List α := (L.lookup b).getD []
def lineR (L : List (α × List α)) (n : α) (bs : List α) : Option (List α) := (mrg (bs.map (lnOf L) ++ [bs])).map (n :: ·)
/-- rows with their lines: each class has new name, earlier different bases, a line -/
inductive VR : List (α × List α) → List (α × List α) → Prop where
  | nil : VR [] []
  | snoc {rows L : List (α × List α)} {n : α} {bs l : List α} (v : VR rows L) (nn : n ∉ L.map (·.1)) (hb : ∀ b ∈ bs, b ∈ L.map (·.1)) (nd : bs.Nodup) (e : lineR L n bs = some l) : VR (rows ++ [(n, bs)]) (L ++ [(n, l)])
theorem VR.names {rows L : List (α × List α)} (v : VR rows L) : L.map (·.1) = rows.map (·.1) := by
  induction v with
  | nil => rfl
  | snoc v nn hb nd e ih => rw [List.map_append, List.map_append, ih]; rfl
theorem VR.nodup {rows L : List (α × List α)} (v : VR rows L) : (L.map (·.1)).Nodup := by
  induction v with
  | nil => exact List.nodup_nil
  | @snoc rows L n bs l v nn hb nd e ih =>
    rw [List.map_append]
    exact List.nodup_append.mpr ⟨ih, by simp, fun a ha b hb z => by
      simp only [List.map_cons, List.map_nil, List.mem_singleton] at hb
      rw [z, hb] at ha
      exact nn ha⟩
theorem VR.len {rows L : List (α × List α)} (v : VR rows L) : L.length = rows.length := by
  have := congrArg List.length v.names
  simpa using this
theorem lookup_mem : ∀ {L : List (α × List α)} {b : α} {l : List α}, L.lookup b = some l → (b, l) ∈ L
  | [], _, _, h => by cases h
  | (a, q) :: L, b, l, h => by
    rw [List.lookup_cons] at h
    by_cases e : (b == a) = true
    · rw [e] at h
      simp only [if_true, Option.some.injEq] at h
      have e := eq_of_beq e
      subst e h
      exact List.mem_cons_self
    · simp only [Bool.not_eq_true] at e
      rw [e] at h
      exact List.mem_cons_of_mem _ (lookup_mem h)
theorem lookup_some : ∀ {L : List (α × List α)} {b : α}, b ∈ L.map (·.1) → ∃ l, L.lookup b = some l
  | [], _, h => by cases h
  | (a, q) :: L, b, h => by
    rw [List.lookup_cons]
    by_cases e : (b == a) = true
    · rw [e]; exact ⟨q, rfl⟩
    · simp only [Bool.not_eq_true] at e
      rw [e]
      rcases List.mem_cons.mp h with h | h
      · rw [h] at e; simp at e
      · exact lookup_some h
theorem lnOf_mem {L : List (α × List α)} {b : α} (h : b ∈ L.map (·.1)) : (b, lnOf L b) ∈ L := by
  obtain ⟨l, e⟩ := lookup_some h
  unfold lnOf
  rw [e]
  exact lookup_mem e
theorem lineR_some {L : List (α × List α)} {n : α} {bs l : List α} (e : lineR L n bs = some l) : ∃ m, l = n :: m ∧ Mrg (bs.map (lnOf L) ++ [bs]) m := by
  unfold lineR at e
  obtain ⟨m, h, rfl⟩ := Option.map_eq_some_iff.mp e
  exact ⟨m, rfl, mrg_Mrg h⟩
/-- each line is of the names so far, without repeats, begins with its class -/
theorem VR.lines {rows L : List (α × List α)} (v : VR rows L) : ∀ n l, (n, l) ∈ L → l.Nodup ∧ l.head? = some n ∧ ∀ x ∈ l, x ∈ L.map (·.1) := by
  induction v with
  | nil => intro n l h; cases h
  | @snoc rows L n bs l v nn hb nd e ih =>
    intro n' l' h
    rcases List.mem_append.mp h with h | h
    · obtain ⟨a, b, c⟩ := ih n' l' h
      exact ⟨a, b, fun x hx => by rw [List.map_append]; exact List.mem_append_left _ (c x hx)⟩
    · simp only [List.mem_singleton, Prod.mk.injEq] at h
      obtain ⟨rfl, rfl⟩ := h
      obtain ⟨m, rfl, hm⟩ := lineR_some e
      have inm : ∀ x ∈ m, x ∈ L.map (·.1) := fun x hx => by
        obtain ⟨q, hq, hxq⟩ := (hm.mem x).mp hx
        rcases List.mem_append.mp hq with hq | hq
        · obtain ⟨b, hb', rfl⟩ := List.mem_map.mp hq
          exact (ih b _ (lnOf_mem (hb b hb'))).2.2 x hxq
        · rw [List.mem_singleton.mp hq] at hxq
          exact hb x hxq
      refine ⟨List.nodup_cons.mpr ⟨fun z => nn (inm _ z), hm.nodup fun q hq => ?_⟩, rfl, fun x hx => ?_⟩
      · rcases List.mem_append.mp hq with hq | hq
        · obtain ⟨b, hb', rfl⟩ := List.mem_map.mp hq
          exact (ih b _ (lnOf_mem (hb b hb'))).1
        · rw [List.mem_singleton.mp hq]; exact nd
      · rw [List.map_append]
        rcases List.mem_cons.mp hx with h | h
        · rw [h]; exact List.mem_append_right _ (by simp)
        · exact List.mem_append_left _ (inm x h)
theorem VR.row {rows L : List (α × List α)} (v : VR rows L) : ∀ n bs, (n, bs) ∈ rows → bs.Nodup ∧ ∀ b ∈ bs, b ∈ rows.map (·.1) := by
  induction v with
  | nil => intro n l h; cases h
  | @snoc rows L n bs l v nn hb nd e ih =>
    intro n' l' h
    rcases List.mem_append.mp h with h | h
    · obtain ⟨a, c⟩ := ih n' l' h
      exact ⟨a, fun x hx => by rw [List.map_append]; exact List.mem_append_left _ (c x hx)⟩
    · simp only [List.mem_singleton, Prod.mk.injEq] at h
      obtain ⟨rfl, rfl⟩ := h
      exact ⟨nd, fun x hx => by rw [List.map_append, ← v.names]; exact List.mem_append_left _ (hb x hx)⟩
theorem nodup_sub_len : ∀ {l m : List α}, l.Nodup → (∀ x ∈ l, x ∈ m) → l.length ≤ m.length
  | [], _, _, _ => Nat.zero_le _
  | a :: l, m, nd, h => by
    have nd' := List.nodup_cons.mp nd
    have hm : a ∈ m := h a List.mem_cons_self
    have := nodup_sub_len (m := m.erase a) nd'.2 fun x hx => (List.mem_erase_of_ne (fun z => nd'.1 (by rw [← z]; exact hx))).mpr (h x (List.mem_cons_of_mem _ hx))
    rw [List.length_erase_of_mem hm] at this
    have : 0 < m.length := List.length_pos_of_mem hm
    simp only [List.length_cons]
    omega
theorem VR.line_len {rows L : List (α × List α)} (v : VR rows L) {n : α} {l : List α} (h : (n, l) ∈ L) : 1 ≤ l.length ∧ l.length ≤ rows.length := by
  obtain ⟨a, b, c⟩ := v.lines n l h
  refine ⟨?_, ?_⟩
  · cases l with
    | nil => cases b
    | cons x l => simp
  · have := nodup_sub_len a c
    rw [List.length_map, v.len] at this
    exact this
theorem VR.pre {rows r1 r2 L : List (α × List α)} (v : VR rows L) (e : rows = r1 ++ r2) : ∃ L1, VR r1 L1 ∧ L1 = L.take r1.length := by
  induction v generalizing r1 r2 with
  | nil =>
    have : r1 = [] := by cases r1 with
      | nil => rfl
      | cons a r => cases e
    subst this
    exact ⟨[], .nil, rfl⟩
  | @snoc rows L n bs l v nn hb nd e' ih =>
    rcases List.eq_nil_or_concat r2 with z | ⟨r3, x, z⟩
    · subst z
      rw [List.append_nil] at e
      subst e
      refine ⟨_, .snoc v nn hb nd e', ?_⟩
      rw [List.take_of_length_le]
      simp [v.len]
    · subst z
      rw [List.concat_eq_append, ← List.append_assoc] at e
      have q : rows = r1 ++ r3 := by
        have := congrArg List.dropLast e
        simpa using this
      obtain ⟨L1, a, b⟩ := ih q
      refine ⟨L1, a, ?_⟩
      rw [b, List.take_append_of_le_length]
      rw [v.len, q]
      simp
end
section
variable {α β : Type} [DecidableEq α] [DecidableEq β]
def mapL (f : α → β) (L : List (α × List α)) : List (β × List β) := L.map fun p => (f p.1, p.2.map f)
theorem lookup_map {f : α → β} : ∀ {L : List (α × List α)} {b : α}, (∀ x ∈ L.map (·.1), f x = f b → x = b) → (mapL f L).lookup (f b) = (L.lookup b).map (List.map f)
  | [], _, _ => rfl
  | (a, q) :: L, b, h => by
    show List.lookup (f b) ((f a, q.map f) :: mapL f L) = _
    rw [List.lookup_cons, List.lookup_cons]
    by_cases e : a = b
    · subst e
      simp
    · have e1 : (b == a) = false := by simpa using fun z : b = a => e z.symm
      have e2 : (f b == f a) = false := by simpa using fun z : f b = f a => e (h a List.mem_cons_self z.symm)
      rw [e1, e2]
      exact lookup_map fun x hx => h x (List.mem_cons_of_mem _ hx)
/-- classes otherwise called -/
theorem VR.map {f : α → β} {rows L : List (α × List α)} (v : VR rows L) (i : ∀ x y, x ∈ L.map (·.1) → y ∈ L.map (·.1) → f x = f y → x = y) : VR (mapL f rows) (mapL f L) := by
  induction v with
  | nil => exact .nil
  | @snoc rows L n bs l v nn hb nd e ih =>
    have i' : ∀ x y, x ∈ L.map (·.1) → y ∈ L.map (·.1) → f x = f y → x = y := fun x y hx hy => i x y (by rw [List.map_append]; exact List.mem_append_left _ hx) (by rw [List.map_append]; exact List.mem_append_left _ hy)
    have hn : n ∈ (L ++ [(n, l)]).map (·.1) := by simp
    have fm : (mapL f L).map (·.1) = (L.map (·.1)).map f := by unfold mapL; rw [List.map_map, List.map_map]; rfl
    unfold mapL
    rw [List.map_append, List.map_append]
    refine .snoc (ih i') (fun z => ?_) (fun b hb' => ?_) ?_ ?_
    · have z : f n ∈ (mapL f L).map (·.1) := z
      rw [fm] at z
      obtain ⟨x, hx, e⟩ := List.mem_map.mp z
      have := i x n (by rw [List.map_append]; exact List.mem_append_left _ hx) hn e
      rw [this] at hx
      exact nn hx
    · show b ∈ (mapL f L).map (·.1)
      rw [fm]
      obtain ⟨x, hx, rfl⟩ := List.mem_map.mp hb'
      exact List.mem_map.mpr ⟨x, hb x hx, rfl⟩
    · rw [List.nodup_iff_pairwise_ne, List.pairwise_map]
      refine List.Pairwise.imp_of_mem (fun {a b} ha hb' (ne : a ≠ b) z => ne (i' a b (hb a ha) (hb b hb') z)) (List.nodup_iff_pairwise_ne.mp nd)
    · obtain ⟨m, rfl, hm⟩ := lineR_some e
      have e1 : ∀ b ∈ bs, lnOf (mapL f L) (f b) = (lnOf L b).map f := fun b hb' => by
        unfold lnOf
        rw [lookup_map fun x hx => i' x b hx (hb b hb')]
        cases L.lookup b <;> rfl
      have e2 : (bs.map f).map (lnOf (mapL f L)) ++ [bs.map f] = (bs.map (lnOf L) ++ [bs]).map (List.map f) := by
        rw [List.map_append, List.map_map, List.map_map]
        congr 1
        exact List.map_congr_left e1
      show lineR (mapL f L) (f n) (bs.map f) = some (f n :: m.map f)
      unfold lineR
      rw [e2]
      have inL : ∀ x, isIn (bs.map (lnOf L) ++ [bs]) x → x ∈ L.map (·.1) := fun x ⟨q, hq, hx⟩ => by
        rcases List.mem_append.mp hq with hq | hq
        · obtain ⟨b, hb', rfl⟩ := List.mem_map.mp hq
          exact (v.lines b _ (lnOf_mem (hb b hb'))).2.2 x hx
        · rw [List.mem_singleton.mp hq] at hx
          exact hb x hx
      rw [(hm.map fun x y hx hy => i' x y (inL x hx) (inL y hy)).mrg]
      rfl
end
end NB

set_option Elab.async false
set_option linter.all false
set_option maxRecDepth 100000
set_option maxHeartbeats 4000000
/-! NbA: values whose tuples are plain data, a heap of the changing objects, the tie to the layer's values and heap, readings from functions. -/
namespace NB
open PySem PySem.Spec L2
open PyProof.Rows hiding St

/-- a value: tuples are data (rls: a list that is never written), what changes has a number -/
inductive W where
  | non | bl (b : Bool) | int (i : Int) | str (s : Str) | tup (ws : List W) | rls (ws : List W) | loc (n : Nat) | cl (C : Str)
  deriving Inhabited
/-- what changes: a list, a dict (lk: it is walked), an instance of the class C -/
inductive Ob where
  | lst (ws : List W)
  | dct (lk : Bool) (kvs : List (Key × W))
  | ins (C : Str) (fs : List (Str × W))
  deriving Inhabited
abbrev Hh := List Ob
abbrev Sg := List (Option W)
structure Exn where
  cls : Str
  fs : List (Str × W)
  deriving Inhabited
/-- what a reckoning comes to -/
inductive R (α : Type) where
  | ok (a : α) (h : Hh) | exn (x : Exn) (h : Hh) | stk
def R.bind {α β : Type} (r : R α) (k : α → Hh → R β) : R β := match r with
  | .ok a h => k a h
  | .exn x h => .exn x h
  | .stk => .stk
def wpR {α : Type} (r : R α) (P : α → Hh → Prop) (E : Exn → Hh → Prop) : Prop := match r with
  | .ok a h => P a h
  | .exn x h => E x h
  | .stk => False
theorem wpR_bind {α β : Type} {r : R α} {k : α → Hh → R β} {P : β → Hh → Prop} {E : Exn → Hh → Prop} (h : wpR (r.bind k) P E) : wpR r (fun a h => wpR (k a h) P E) E := by
  cases r <;> exact h
theorem wpR_mono {α : Type} {r : R α} {P P' : α → Hh → Prop} {E E' : Exn → Hh → Prop} (h : wpR r P E) (hP : ∀ a h, P a h → P' a h) (hE : ∀ x h, E x h → E' x h) : wpR r P' E' := by
  cases r with
  | ok a h' => exact hP _ _ h
  | exn x h' => exact hE _ _ h
  | stk => exact h
@[simp] theorem R.bind_ok {α β : Type} (a : α) (h : Hh) (k : α → Hh → R β) : (R.ok a h).bind k = k a h := rfl
@[simp] theorem R.bind_stk {α β : Type} (k : α → Hh → R β) : (R.stk : R α).bind k = .stk := rfl
@[simp] theorem R.bind_exn {α β : Type} (x : Exn) (h : Hh) (k : α → Hh → R β) : (R.exn x h : R α).bind k = .exn x h := rfl

/-! ### the tie -/
section
variable (K : PySem.W.Frag)
/-- a tuple that stands: tracked, or written -/
def Tp (H : Hp) (a : Addr) (xs : List V) : Prop := xs.length ≤ sizeLine ∧ (H a = some (.tup xs) ∨
    ∃ (o : Obj) (its : Array Value) (n : Nat), K.lookup a = some o ∧ o.cls = .type "tuple" ∧ o.data = .seq its n ∧ its.size ≤ sizeLine ∧ Vals xs its.toList)
/-- a list that is never written stands: locked, or written -/
def Lp (H : Hp) (a : Addr) (xs : List V) : Prop := (∃ o, H a = some (.frz o (.lst xs))) ∨
    ∃ (o : Obj) (its : Array Value) (n : Nat), K.lookup a = some o ∧ o.cls = .type "list" ∧ o.dict = none ∧ o.data = .seq its n ∧ its.size ≤ sizeLine ∧ Vals xs its.toList
mutual
def Rv (H : Hp) (ι : List Addr) : W → V → Prop
  | .non, v => v = .non
  | .bl b, v => v = .bl b
  | .int i, v => v = .int i
  | .str s, v => v = .str s
  | .tup ws, v => ∃ a xs, v = .ref a ∧ Tp K H a xs ∧ Rvs H ι ws xs
  | .rls ws, v => ∃ a xs, v = .ref a ∧ Lp K H a xs ∧ Rvs H ι ws xs
  | .loc n, v => ∃ a, ι[n]? = some a ∧ v = .ref a
  | .cl C, v => v = .ref (He.ga K C)
def Rvs (H : Hp) (ι : List Addr) : List W → List V → Prop
  | [], xs => xs = []
  | w :: ws, xs => ∃ x r, xs = x :: r ∧ Rv H ι w x ∧ Rvs H ι ws r
end
def Rkv {κ : Type} (H : Hp) (ι : List Addr) : List (κ × W) → List (κ × V) → Prop
  | [], xs => xs = []
  | (k, w) :: ws, xs => ∃ x r, xs = (k, x) :: r ∧ Rv K H ι w x ∧ Rkv H ι ws r
/-- the object at a is so -/
def ObR (H : Hp) (ι : List Addr) : Ob → Addr → Prop
  | .lst ws, a => ∃ xs, H a = some (.lst xs) ∧ Rvs K H ι ws xs
  | .dct false kvs, a => ∃ ys, H a = some (.dK ys) ∧ Rkv K H ι kvs ys
  | .dct true kvs, a => ∃ ys od, H a = some (.frz od (.dK ys)) ∧ Rkv K H ι kvs ys
  | .ins C fs, a => ∃ dx gs, H a = some (.ins (He.ga K C) dx gs) ∧ Rkv K H ι fs gs
/-- tuples are kept, and what is locked -/
structure TK (H H' : Hp) : Prop where
  tp : ∀ a xs, H a = some (.tup xs) → H' a = some (.tup xs)
  fz : ∀ a o u, H a = some (.frz o u) → H' a = some (.frz o u)
def Pre (ι ι' : List Addr) : Prop := ∀ (n : Nat) (a : Addr), ι[n]? = some a → ι'[n]? = some a
/-- what was: it stays, and what is not ours stays as it is; what is ours from now on was nobody's -/
structure Ext (ι : List Addr) (H : Hp) (ι' : List Addr) (H' : Hp) : Prop where
  pre : Pre ι ι'
  tk : TK H H'
  fr : ∀ b o, H b = some o → b ∉ ι → H' b = some o
  nw : ∀ b, b ∈ ι' → b ∉ ι → H b = none
structure Sim (H : Hp) (ι : List Addr) (h : Hh) : Prop where
  len : ι.length = h.length
  dj : ∀ (i j : Nat) (a : Addr), ι[i]? = some a → ι[j]? = some a → i = j
  ob : ∀ (i : Nat) (o : Ob), h[i]? = some o → ∃ a, ι[i]? = some a ∧ ObR K H ι o a
/-- slots -/
def Sl (H : Hp) (ι : List Addr) (s : Sg) (σ : St) : Prop := σ.length = s.length ∧ ∀ (i : Nat) (w : W), s[i]? = some (some w) → ∃ v, σ[i]? = some (some v) ∧ Rv K H ι w v
end

section
variable {K : PySem.W.Frag} {H H' H'' : Hp} {ι ι' ι'' : List Addr} {h h' : Hh}
theorem TK.refl : TK H H := ⟨fun _ _ e => e, fun _ _ _ e => e⟩
theorem TK.trans (a : TK H H') (b : TK H' H'') : TK H H'' := ⟨fun x y e => b.tp x y (a.tp x y e), fun x y z e => b.fz x y z (a.fz x y z e)⟩
theorem Ext.refl : Ext ι H ι H := ⟨fun _ _ e => e, .refl, fun _ _ e _ => e, fun _ h n => absurd h n⟩
theorem Ext.trans (a : Ext ι H ι' H') (b : Ext ι' H' ι'' H'') : Ext ι H ι'' H'' := by
  refine ⟨fun n x e => b.pre n x (a.pre n x e), a.tk.trans b.tk, fun c o e n => ?_, fun c m n => ?_⟩
  · refine b.fr c o (a.fr c o e n) fun m => ?_
    have z := a.nw c m n
    rw [e] at z
    cases z
  · by_cases m' : c ∈ ι'
    · exact a.nw c m' n
    · have z := b.nw c m m'
      cases e : H c with
      | none => rfl
      | some o =>
        rw [a.fr c o e n] at z
        cases z
theorem Lp.mono (t : TK H H') {a : Addr} {xs : List V} (x : Lp K H a xs) : Lp K H' a xs := x.imp (fun ⟨o, e⟩ => ⟨o, t.fz _ _ _ e⟩) id
theorem Lp.sq {a : Addr} {xs : List V} (x : Lp K H a xs) : SqL K H a xs := by
  rcases x with e | e
  · exact .inl (.inr e)
  · exact .inr e
theorem Tp.mono (t : TK H H') {a : Addr} {xs : List V} (x : Tp K H a xs) : Tp K H' a xs := ⟨x.1, x.2.imp (t.tp a xs) id⟩
theorem Tp.sq {a : Addr} {xs : List V} (x : Tp K H a xs) : SqT K H a xs := by
  rcases x.2 with e | e
  · exact .inl (.inl e)
  · exact .inr e
mutual
theorem Rv.mono (e : Ext ι H ι' H') : ∀ {w : W} {v : V}, Rv K H ι w v → Rv K H' ι' w v
  | .non, _, r => r
  | .bl _, _, r => r
  | .int _, _, r => r
  | .str _, _, r => r
  | .tup _, _, ⟨a, xs, e1, t, r⟩ => ⟨a, xs, e1, t.mono e.tk, Rvs.mono e r⟩
  | .rls _, _, ⟨a, xs, e1, t, r⟩ => ⟨a, xs, e1, t.mono e.tk, Rvs.mono e r⟩
  | .loc _, _, ⟨a, e1, e2⟩ => ⟨a, e.pre _ _ e1, e2⟩
  | .cl _, _, r => r
theorem Rvs.mono (e : Ext ι H ι' H') : ∀ {ws : List W} {xs : List V}, Rvs K H ι ws xs → Rvs K H' ι' ws xs
  | [], _, r => r
  | _ :: _, _, ⟨x, r, e1, q, t⟩ => ⟨x, r, e1, Rv.mono e q, Rvs.mono e t⟩
end
theorem Rkv.mono {κ : Type} (e : Ext ι H ι' H') : ∀ {ws : List (κ × W)} {xs : List (κ × V)}, Rkv K H ι ws xs → Rkv K H' ι' ws xs
  | [], _, r => r
  | _ :: _, _, ⟨x, r, e1, q, t⟩ => ⟨x, r, e1, Rv.mono e q, Rkv.mono e t⟩
theorem Sl.mono (e : Ext ι H ι' H') {s : Sg} {σ : St} (x : Sl K H ι s σ) : Sl K H' ι' s σ := ⟨x.1, fun i w q => let ⟨v, e1, r⟩ := x.2 i w q; ⟨v, e1, r.mono e⟩⟩
theorem Rvs.len : ∀ {ws : List W} {xs : List V}, Rvs K H ι ws xs → xs.length = ws.length
  | [], _, r => by rw [show _ = [] from r]; rfl
  | _ :: _, _, ⟨x, r, e1, _, t⟩ => by rw [e1, List.length_cons, List.length_cons, Rvs.len t]
theorem Rkv.len {κ : Type} : ∀ {ws : List (κ × W)} {xs : List (κ × V)}, Rkv K H ι ws xs → xs.length = ws.length
  | [], _, r => by rw [show _ = [] from r]; rfl
  | _ :: _, _, ⟨x, r, e1, _, t⟩ => by rw [e1, List.length_cons, List.length_cons, Rkv.len t]
theorem Rvs.append : ∀ {ws ws' : List W} {xs ys : List V}, Rvs K H ι ws xs → Rvs K H ι ws' ys → Rvs K H ι (ws ++ ws') (xs ++ ys)
  | [], _, _, _, r, q => by rw [show _ = [] from r]; exact q
  | _ :: _, _, _, _, ⟨x, r, e1, a, t⟩, q => by rw [e1]; exact ⟨x, _, rfl, a, Rvs.append t q⟩
theorem Rvs.one {w : W} {v : V} (r : Rv K H ι w v) : Rvs K H ι [w] [v] := ⟨v, [], rfl, r, rfl⟩
theorem Rvs.get : ∀ {ws : List W} {xs : List V} {i : Nat} {w : W}, Rvs K H ι ws xs → ws[i]? = some w → ∃ x, xs[i]? = some x ∧ Rv K H ι w x
  | [], _, _, _, _, e => by simp at e
  | _ :: _, _, 0, _, ⟨x, r, e1, a, _⟩, e => by
    simp only [List.getElem?_cons_zero, Option.some.injEq] at e
    subst e e1
    exact ⟨x, rfl, a⟩
  | _ :: _, _, i + 1, _, ⟨x, r, e1, _, t⟩, e => by
    subst e1
    exact Rvs.get (i := i) t (by simpa using e)
theorem Rvs.getV : ∀ {ws : List W} {xs : List V} {i : Nat} {x : V}, Rvs K H ι ws xs → xs[i]? = some x → ∃ w, ws[i]? = some w ∧ Rv K H ι w x
  | [], _, _, _, r, e => by rw [show _ = [] from r] at e; simp at e
  | w :: _, _, 0, _, ⟨x, r, e1, a, _⟩, e => by
    subst e1
    simp only [List.getElem?_cons_zero, Option.some.injEq] at e
    subst e
    exact ⟨w, rfl, a⟩
  | _ :: _, _, i + 1, _, ⟨x, r, e1, _, t⟩, e => by
    subst e1
    exact Rvs.getV (i := i) t (by simpa using e)
theorem Rvs.take : ∀ {ws : List W} {xs : List V} (n : Nat), Rvs K H ι ws xs → Rvs K H ι (ws.take n) (xs.take n)
  | [], _, n, r => by rw [show _ = [] from r]; simp [Rvs]
  | _ :: _, _, 0, _ => by simp [Rvs]
  | _ :: _, _, n + 1, ⟨x, r, e1, a, t⟩ => by rw [e1]; exact ⟨x, _, rfl, a, Rvs.take n t⟩
theorem Rvs.drop : ∀ {ws : List W} {xs : List V} (n : Nat), Rvs K H ι ws xs → Rvs K H ι (ws.drop n) (xs.drop n)
  | [], _, n, r => by rw [show _ = [] from r]; simp [Rvs]
  | _ :: _, _, 0, r => by simpa using r
  | _ :: _, _, n + 1, ⟨x, r, e1, a, t⟩ => by rw [e1]; exact Rvs.drop n t
theorem Rvs.set : ∀ {ws : List W} {xs : List V} {w : W} {x : V} (n : Nat), Rvs K H ι ws xs → Rv K H ι w x → Rvs K H ι (ws.set n w) (xs.set n x)
  | [], _, _, _, n, r, _ => by rw [show _ = [] from r]; simp [Rvs]
  | _ :: _, _, _, _, 0, ⟨x, r, e1, a, t⟩, q => by rw [e1]; exact ⟨_, _, rfl, q, t⟩
  | _ :: _, _, _, _, n + 1, ⟨x, r, e1, a, t⟩, q => by rw [e1]; exact ⟨x, _, rfl, a, Rvs.set n t q⟩
theorem Rvs.erase : ∀ {ws : List W} {xs : List V} (n : Nat), Rvs K H ι ws xs → Rvs K H ι (ws.eraseIdx n) (xs.eraseIdx n)
  | [], _, n, r => by rw [show _ = [] from r]; simp [Rvs]
  | _ :: _, _, 0, ⟨x, r, e1, a, t⟩ => by rw [e1]; exact t
  | _ :: _, _, n + 1, ⟨x, r, e1, a, t⟩ => by rw [e1]; exact ⟨x, _, rfl, a, Rvs.erase n t⟩
theorem Rvs.rev : ∀ {ws : List W} {xs : List V}, Rvs K H ι ws xs → Rvs K H ι ws.reverse xs.reverse
  | [], _, r => by rw [show _ = [] from r]; simp [Rvs]
  | _ :: _, _, ⟨x, r, e1, a, t⟩ => by rw [e1, List.reverse_cons, List.reverse_cons]; exact (Rvs.rev t).append (.one a)
theorem Rvs.strs : ∀ {ss : List Str} {xs : List V}, Rvs K H ι (ss.map W.str) xs → xs = ss.map V.str
  | [], _, r => r
  | _ :: _, _, ⟨x, r, e1, a, t⟩ => by rw [e1, show x = _ from a, Rvs.strs t]; rfl
theorem Rvs.ofStrs : ∀ (ss : List Str), Rvs K H ι (ss.map W.str) (ss.map V.str)
  | [] => rfl
  | _ :: r => ⟨_, _, rfl, rfl, Rvs.ofStrs r⟩
theorem Rvs.ints : ∀ {ss : List Int} {xs : List V}, Rvs K H ι (ss.map W.int) xs → xs = ss.map V.int
  | [], _, r => r
  | _ :: _, _, ⟨x, r, e1, a, t⟩ => by rw [e1, show x = _ from a, Rvs.ints t]; rfl
theorem Rvs.ofInts : ∀ (ss : List Int), Rvs K H ι (ss.map W.int) (ss.map V.int)
  | [] => rfl
  | _ :: r => ⟨_, _, rfl, rfl, Rvs.ofInts r⟩
theorem Rvs.bls : ∀ {ss : List Bool} {xs : List V}, Rvs K H ι (ss.map W.bl) xs → xs = ss.map V.bl
  | [], _, r => r
  | _ :: _, _, ⟨x, r, e1, a, t⟩ => by rw [e1, show x = _ from a, Rvs.bls t]; rfl

/-! ### the heap moves -/
theorem tk_new {p : Addr} {o : HO} (hp : H p = none) : TK H (upd H p o) := ⟨fun a xs e => by rw [upd_ne (ne_of_none e hp)]; exact e, fun a b xs e => by rw [upd_ne (ne_of_none e hp)]; exact e⟩
theorem tk_mut {p : Addr} {o : HO} (mu : Mut (H p)) : TK H (upd H p o) := ⟨fun a xs e => by
  rw [upd_ne (fun z => by rw [← z, e] at mu; exact mu)]
  exact e, fun a b xs e => by
  rw [upd_ne (fun z => by rw [← z, e] at mu; exact mu)]
  exact e⟩
theorem ext_new {p : Addr} {o : HO} (hp : H p = none) : Ext ι H ι (upd H p o) := ⟨fun _ _ e => e, tk_new hp, fun b u e _ => by rw [upd_ne (ne_of_none e hp)]; exact e, fun _ h n => absurd h n⟩
theorem pre_app {p : Addr} : Pre ι (ι ++ [p]) := fun n a e => by
  rw [List.getElem?_append_left (List.getElem?_eq_some_iff.mp e).1]
  exact e
theorem ext_push {p : Addr} {o : HO} (hp : H p = none) : Ext ι H (ι ++ [p]) (upd H p o) := ⟨pre_app, tk_new hp, fun b u e _ => by rw [upd_ne (ne_of_none e hp)]; exact e, fun b m n => by
  rcases List.mem_append.mp m with m | m
  · exact absurd m n
  · rw [List.mem_singleton.mp m]
    exact hp⟩
theorem ext_set {p : Addr} {o : HO} (mu : Mut (H p)) (hp : p ∈ ι) : Ext ι H ι (upd H p o) := ⟨fun _ _ e => e, tk_mut mu, fun b u e n => by rw [upd_ne (fun z => n (by rw [z]; exact hp))]; exact e, fun _ h n => absurd h n⟩
theorem ObR.tracked {o : Ob} {a : Addr} (x : ObR K H ι o a) : ∃ u, H a = some u := by
  cases o with
  | lst ws =>
    obtain ⟨_, e, _⟩ := x
    exact ⟨_, e⟩
  | dct lk kvs =>
    cases lk with
    | false =>
      obtain ⟨_, e, _⟩ := x
      exact ⟨_, e⟩
    | true =>
      obtain ⟨_, _, e, _⟩ := x
      exact ⟨_, e⟩
  | ins C fs =>
    obtain ⟨_, _, e, _⟩ := x
    exact ⟨_, e⟩
/-- what an object says stays, where its own place and the tuples stay -/
theorem ObR.stay {o : Ob} {a : Addr} (x : ObR K H ι o a) (e : Ext ι H ι' H') (k : ∀ u, H a = some u → H' a = some u) : ObR K H' ι' o a := by
  cases o with
  | lst ws =>
    obtain ⟨xs, q, r⟩ := x
    exact ⟨xs, k _ q, r.mono e⟩
  | dct lk kvs =>
    cases lk with
    | false =>
      obtain ⟨ys, q, r⟩ := x
      exact ⟨ys, k _ q, r.mono e⟩
    | true =>
      obtain ⟨ys, od, q, r⟩ := x
      exact ⟨ys, od, k _ q, r.mono e⟩
  | ins C fs =>
    obtain ⟨dx, gs, q, r⟩ := x
    exact ⟨dx, gs, k _ q, r.mono e⟩
mutual
theorem Rv.wide (e : Pre ι ι') : ∀ {w : W} {v : V}, Rv K H ι w v → Rv K H ι' w v
  | .non, _, r => r
  | .bl _, _, r => r
  | .int _, _, r => r
  | .str _, _, r => r
  | .tup _, _, ⟨a, xs, e1, t, r⟩ => ⟨a, xs, e1, t, Rvs.wide e r⟩
  | .rls _, _, ⟨a, xs, e1, t, r⟩ => ⟨a, xs, e1, t, Rvs.wide e r⟩
  | .loc _, _, ⟨a, e1, e2⟩ => ⟨a, e _ _ e1, e2⟩
  | .cl _, _, r => r
theorem Rvs.wide (e : Pre ι ι') : ∀ {ws : List W} {xs : List V}, Rvs K H ι ws xs → Rvs K H ι' ws xs
  | [], _, r => r
  | _ :: _, _, ⟨x, r, e1, q, t⟩ => ⟨x, r, e1, Rv.wide e q, Rvs.wide e t⟩
end
theorem Rkv.wide {κ : Type} (e : Pre ι ι') : ∀ {ws : List (κ × W)} {xs : List (κ × V)}, Rkv K H ι ws xs → Rkv K H ι' ws xs
  | [], _, r => r
  | _ :: _, _, ⟨x, r, e1, q, t⟩ => ⟨x, r, e1, Rv.wide e q, Rkv.wide e t⟩
theorem ObR.wide (e : Pre ι ι') {o : Ob} {a : Addr} (x : ObR K H ι o a) : ObR K H ι' o a := by
  cases o with
  | lst ws =>
    obtain ⟨xs, q, r⟩ := x
    exact ⟨xs, q, r.wide e⟩
  | dct lk kvs =>
    cases lk with
    | false =>
      obtain ⟨ys, q, r⟩ := x
      exact ⟨ys, q, r.wide e⟩
    | true =>
      obtain ⟨ys, od, q, r⟩ := x
      exact ⟨ys, od, q, r.wide e⟩
  | ins C fs =>
    obtain ⟨dx, gs, q, r⟩ := x
    exact ⟨dx, gs, q, r.wide e⟩
theorem Sim.in_ (S : Sim K H ι h) {a : Addr} (m : a ∈ ι) : ∃ u, H a = some u := by
  obtain ⟨n, hn, e⟩ := List.getElem_of_mem m
  have hl := S.len
  obtain ⟨a', e1, x⟩ := S.ob n h[n] (by simp)
  rw [List.getElem?_eq_getElem hn, e] at e1
  cases e1
  exact x.tracked
theorem Sim.fresh (S : Sim K H ι h) {p : Addr} (hp : H p = none) : p ∉ ι := fun m => by
  obtain ⟨u, e⟩ := S.in_ m
  rw [hp] at e
  cases e
/-- a new object of the layer's that is none of ours (a tuple, a thing dropped) -/
theorem Sim.new0 {p : Addr} {o : HO} (S : Sim K H ι h) (hp : H p = none) : Sim K (upd H p o) ι h := by
  refine ⟨S.len, S.dj, fun i ob e => ?_⟩
  obtain ⟨a, e1, x⟩ := S.ob i ob e
  refine ⟨a, e1, x.stay (ext_new hp) fun u q => ?_⟩
  rw [upd_ne (ne_of_none q hp)]
  exact q
theorem getLast_app {α : Type} {l : List α} {x y : α} {i : Nat} (e : (l ++ [x])[i]? = some y) : (i < l.length ∧ l[i]? = some y) ∨ (i = l.length ∧ y = x) := by
  by_cases hi : i < l.length
  · rw [List.getElem?_append_left hi] at e
    exact .inl ⟨hi, e⟩
  · rw [List.getElem?_append_right (by omega)] at e
    have h2 : i - l.length = 0 := by
      have h3 := (List.getElem?_eq_some_iff.mp e).1
      simp only [List.length_singleton] at h3
      omega
    rw [h2] at e
    simp only [List.getElem?_cons_zero, Option.some.injEq] at e
    exact .inr ⟨by omega, e.symm⟩
/-- an object that stands, not ours so far, becomes ours -/
theorem Sim.adopt {p : Addr} {ob : Ob} (S : Sim K H ι h) (hp : p ∉ ι) (new : ObR K H (ι ++ [p]) ob p) : Sim K H (ι ++ [p]) (h ++ [ob]) := by
  have hl := S.len
  have at_ : ∀ (i : Nat), ι[i]? = some p → False := fun i e => hp (List.mem_of_getElem? e)
  refine ⟨by simp [hl], fun i j a ai aj => ?_, fun i ob' e => ?_⟩
  · rcases getLast_app ai with ⟨li, ei⟩ | ⟨li, ei⟩
    · rcases getLast_app aj with ⟨lj, ej⟩ | ⟨lj, ej⟩
      · exact S.dj i j a ei ej
      · subst ej
        exact (at_ i ei).elim
    · rcases getLast_app aj with ⟨lj, ej⟩ | ⟨lj, ej⟩
      · subst ei
        exact (at_ j ej).elim
      · omega
  · rcases getLast_app e with ⟨li, e⟩ | ⟨li, e2⟩
    · obtain ⟨a, e1, x⟩ := S.ob i ob' e
      exact ⟨a, pre_app _ _ e1, x.wide pre_app⟩
    · subst li e2
      refine ⟨p, ?_, new⟩
      rw [← hl, List.getElem?_append_right (Nat.le_refl _)]
      simp
/-- a new object of ours -/
theorem Sim.push {p : Addr} {o : HO} {ob : Ob} (S : Sim K H ι h) (hp : H p = none) (new : ObR K (upd H p o) (ι ++ [p]) ob p) : Sim K (upd H p o) (ι ++ [p]) (h ++ [ob]) :=
  (S.new0 hp).adopt (S.fresh hp) new
/-- an object of ours is changed -/
theorem Sim.set {p : Addr} {o : HO} {ob ob0 : Ob} {n : Nat} (S : Sim K H ι h) (h0 : h[n]? = some ob0) (hn : ι[n]? = some p) (ex : Ext ι H ι (upd H p o)) (new : ObR K (upd H p o) ι ob p) :
    Sim K (upd H p o) ι (h.set n ob) := by
  have hlt : n < h.length := (List.getElem?_eq_some_iff.mp h0).1
  refine ⟨by rw [S.len, List.length_set], S.dj, fun i ob' e => ?_⟩
  by_cases q : n = i
  · subst q
    rw [List.getElem?_set_self hlt] at e
    cases e
    exact ⟨p, hn, new⟩
  · rw [List.getElem?_set_ne q] at e
    obtain ⟨a, e1, x⟩ := S.ob i ob' e
    refine ⟨a, e1, x.stay ex fun u z => ?_⟩
    rw [upd_ne (fun z => q (S.dj n i a (by rw [z]; exact hn) e1))]
    exact z
end

/-! ### readings from functions -/
/-- what is wanted where an exception flies: the exception, the slots, the heap; their ties -/
abbrev Wish := Exn → Sg → Hh → List Addr → Hp → St → Prop
section
variable (K : PySem.W.Frag) (E : Wish)
def lE (f : Sg → Hh → R W) : TE := fun σ H Q => ∃ ι s h, Sim K H ι h ∧ Sl K H ι s σ ∧ wpR (f s h)
  (fun w h' => ∀ v H' ι', Sim K H' ι' h' → Ext ι H ι' H' → Rv K H' ι' w v → Q v H') (fun x h' => ∀ H' ι', Sim K H' ι' h' → Ext ι H ι' H' → E x s h' ι' H' σ)
def lT (f : Sg → Hh → R Bool) : TT := fun σ H Q => ∃ ι s h, Sim K H ι h ∧ Sl K H ι s σ ∧ wpR (f s h)
  (fun b h' => ∀ H' ι', Sim K H' ι' h' → Ext ι H ι' H' → Q b H') (fun x h' => ∀ H' ι', Sim K H' ι' h' → Ext ι H ι' H' → E x s h' ι' H' σ)
def lA (f : Sg → Hh → R (List W)) : TA := fun σ H Q => ∃ ι s h, Sim K H ι h ∧ Sl K H ι s σ ∧ wpR (f s h)
  (fun ws h' => ∀ vs H' ι', Sim K H' ι' h' → Ext ι H ι' H' → Rvs K H' ι' ws vs → Q vs H') (fun x h' => ∀ H' ι', Sim K H' ι' h' → Ext ι H ι' H' → E x s h' ι' H' σ)
/-- how a statement ends -/
inductive Fl where
  | nx (s : Sg) | rt (w : W) | bk (s : Sg) | ct (s : Sg) | ex (x : Exn) (s : Sg)
def lF (D : Ends) (fl : Fl) (h' : Hh) (ι' : List Addr) (H' : Hp) : Prop := match fl with
  | .nx s => ∀ σ', Sl K H' ι' s σ' → D.nx σ' H'
  | .rt w => ∀ v, Rv K H' ι' w v → D.rt v H'
  | .bk s => ∀ σ', Sl K H' ι' s σ' → D.bk σ' H'
  | .ct s => ∀ σ', Sl K H' ι' s σ' → D.ct σ' H'
  | .ex x s => ∀ σ', Sl K H' ι' s σ' → E x s h' ι' H' σ'
def lS (f : Sg → Hh → R Fl) : TS := fun D σ H => ∃ ι s h, Sim K H ι h ∧ Sl K H ι s σ ∧ wpR (f s h) (fun fl h' => ∀ H' ι', Sim K H' ι' h' → Ext ι H ι' H' → lF K E D fl h' ι' H') (fun _ _ => False)
/-- two values in -/
def rL (f : W → W → Hh → R W) : R2 := fun x y H Q => ∃ ι h wx wy, Sim K H ι h ∧ Rv K H ι wx x ∧ Rv K H ι wy y ∧ wpR (f wx wy h)
  (fun w h' => ∀ v H' ι', Sim K H' ι' h' → Ext ι H ι' H' → Rv K H' ι' w v → Q v H') (fun _ _ => False)
/-- one value in -/
def rL1 (f : W → Hh → R W) : V → Hp → VK → Prop := fun x H Q => ∃ ι h wx, Sim K H ι h ∧ Rv K H ι wx x ∧ wpR (f wx h)
  (fun w h' => ∀ v H' ι', Sim K H' ι' h' → Ext ι H ι' H' → Rv K H' ι' w v → Q v H') (fun _ _ => False)
/-- values in -/
def rLs (f : List W → Hh → R W) : List V → Hp → VK → Prop := fun xs H Q => ∃ ι h ws, Sim K H ι h ∧ Rvs K H ι ws xs ∧ wpR (f ws h)
  (fun w h' => ∀ v H' ι', Sim K H' ι' h' → Ext ι H ι' H' → Rv K H' ι' w v → Q v H') (fun _ _ => False)
end
theorem PE.imp {X : Cx} {e : Expr} {t t' : TE} (h : PE X e t) (i : ∀ σ H Q, t' σ H Q → t σ H Q) : PE X e t' := ⟨fun p s σ H Q I q => h.run p s σ H Q I (i σ H Q q)⟩
theorem PT.imp {X : Cx} {e : Expr} {t t' : TT} (h : PT X e t) (i : ∀ σ H Q, t' σ H Q → t σ H Q) : PT X e t' := ⟨fun p s σ H Q I q => h.run p s σ H Q I (i σ H Q q)⟩
theorem PW.imp {X : Cx} {e : Expr} {t t' : TT} (h : PW X e t) (i : ∀ σ H Q, t' σ H Q → t σ H Q) : PW X e t' := ⟨fun w p s σ H Q I q => h.run w p s σ H Q I (i σ H Q q)⟩
theorem PA.imp {X : Cx} {e : List Expr} {t t' : TA} (h : PA X e t) (i : ∀ σ H Q, t' σ H Q → t σ H Q) : PA X e t' := ⟨fun o p s σ H Q I q => h.run o p s σ H Q I (i σ H Q q)⟩
theorem PS.imp {X : Cx} {e : Stmt} {t t' : TS} (h : PS X e t) (i : ∀ D σ H, t' D σ H → t D σ H) : PS X e t' := ⟨fun p s σ H D I q => h.run p s σ H D I (i D σ H q)⟩
theorem PSs.imp {X : Cx} {e : List Stmt} {t t' : TS} (h : PSs X e t) (i : ∀ D σ H, t' D σ H → t D σ H) : PSs X e t' := ⟨fun p s σ H D I q => h.run p s σ H D I (i D σ H q)⟩
end NB

set_option Elab.async false
set_option linter.all false
set_option maxRecDepth 100000
set_option maxHeartbeats 4000000
/-! NbB: what the operators, the built-ins and their methods do to data values. -/
namespace NB
open PySem PySem.Spec L2
open PyProof.Rows hiding St

abbrev Sz : Nat := 16777216
theorem sz_eq : sizeLine = Sz := sizeLine_eq
abbrev Goes (K : PySem.W.Frag) (ι : List Addr) (H : Hp) (Q : VK) (w : W) (h' : Hh) : Prop := ∀ v H' ι', Sim K H' ι' h' → Ext ι H ι' H' → Rv K H' ι' w v → Q v H'
section
variable {K : PySem.W.Frag} {H : Hp} {ι : List Addr} {h : Hh} {Q : VK} {ws : List W} {xs : List V} {p : Addr}
theorem fin_tup (g : Goes K ι H Q (.tup ws) h) (S : Sim K H ι h) (r : Rvs K H ι ws xs) (hl : xs.length ≤ sizeLine) (hp : H p = none) : Q (.ref p) (upd H p (.tup xs)) :=
  g _ _ _ (S.new0 hp) (ext_new hp) ⟨p, xs, rfl, ⟨hl, .inl upd_same⟩, r.mono (ext_new hp)⟩
theorem at_push (S : Sim K H ι h) : (ι ++ [p])[h.length]? = some p := by
  rw [← S.len, List.getElem?_append_right (Nat.le_refl _)]
  simp
theorem fin_lst (g : Goes K ι H Q (.loc h.length) (h ++ [.lst ws])) (S : Sim K H ι h) (r : Rvs K H ι ws xs) (hp : H p = none) : Q (.ref p) (upd H p (.lst xs)) :=
  g _ _ _ (S.push hp ⟨xs, upd_same, r.mono (ext_push hp)⟩) (ext_push hp) ⟨p, at_push S, rfl⟩
theorem fin_dct {kvs : List (Key × W)} {ys : List (Key × V)} (g : Goes K ι H Q (.loc h.length) (h ++ [.dct false kvs])) (S : Sim K H ι h) (r : Rkv K H ι kvs ys) (hp : H p = none) : Q (.ref p) (upd H p (.dK ys)) :=
  g _ _ _ (S.push hp ⟨ys, upd_same, r.mono (ext_push hp)⟩) (ext_push hp) ⟨p, at_push S, rfl⟩
/-- the list at n, as it stands -/
theorem Sim.lst (S : Sim K H ι h) {n : Nat} {ws : List W} (e : h[n]? = some (.lst ws)) (ei : ι[n]? = some p) : ∃ xs, H p = some (.lst xs) ∧ Rvs K H ι ws xs := by
  obtain ⟨a, e1, xs, q, r⟩ := S.ob n _ e
  rw [ei] at e1
  cases e1
  exact ⟨xs, q, r⟩
theorem Sim.dct (S : Sim K H ι h) {n : Nat} {kvs : List (Key × W)} (e : h[n]? = some (.dct false kvs)) (ei : ι[n]? = some p) : ∃ ys, H p = some (.dK ys) ∧ Rkv K H ι kvs ys := by
  obtain ⟨a, e1, xs, q, r⟩ := S.ob n _ e
  rw [ei] at e1
  cases e1
  exact ⟨xs, q, r⟩
theorem Sim.dctR (S : Sim K H ι h) {n : Nat} {lk : Bool} {kvs : List (Key × W)} (e : h[n]? = some (.dct lk kvs)) (ei : ι[n]? = some p) : ∃ ys, Rd H p (.dK ys) ∧ Rkv K H ι kvs ys := by
  obtain ⟨a, e1, x⟩ := S.ob n _ e
  rw [ei] at e1
  cases e1
  cases lk with
  | false =>
    obtain ⟨ys, q, r⟩ := x
    exact ⟨ys, .inl q, r⟩
  | true =>
    obtain ⟨ys, od, q, r⟩ := x
    exact ⟨ys, .inr ⟨od, q⟩, r⟩
/-- the list at n is changed -/
theorem Sim.setL (S : Sim K H ι h) {n : Nat} {ws ws' : List W} {xs xs' : List V} (e : h[n]? = some (.lst ws)) (ei : ι[n]? = some p) (q : H p = some (.lst xs)) (r : Rvs K H ι ws' xs') :
    Sim K (upd H p (.lst xs')) ι (h.set n (.lst ws')) ∧ Ext ι H ι (upd H p (.lst xs')) := by
  have ex : Ext ι H ι (upd H p (.lst xs')) := ext_set (by rw [q]; exact True.intro) (List.mem_of_getElem? ei)
  exact ⟨S.set e ei ex ⟨xs', upd_same, r.mono ex⟩, ex⟩
theorem Sim.setD (S : Sim K H ι h) {n : Nat} {kvs kvs' : List (Key × W)} {ys ys' : List (Key × V)} (e : h[n]? = some (.dct false kvs)) (ei : ι[n]? = some p) (q : H p = some (.dK ys)) (r : Rkv K H ι kvs' ys') :
    Sim K (upd H p (.dK ys')) ι (h.set n (.dct false kvs')) ∧ Ext ι H ι (upd H p (.dK ys')) := by
  have ex : Ext ι H ι (upd H p (.dK ys')) := ext_set (by rw [q]; exact True.intro) (List.mem_of_getElem? ei)
  exact ⟨S.set e ei ex ⟨ys', upd_same, r.mono ex⟩, ex⟩
end

/-! ### arithmetic, + -/
def addW : W → W → Hh → R W
  | .int i, .int j, h => .ok (.int (i + j)) h
  | .str a, .str b, h => if a.length + b.length ≤ Sz then .ok (.str (a ++ b)) h else .stk
  | .tup a, .tup b, h => if a.length + b.length ≤ Sz then .ok (.tup (a ++ b)) h else .stk
  | .loc i, .loc j, h => match h[i]?, h[j]? with
    | some (.lst a), some (.lst b) => if a.length + b.length ≤ Sz then .ok (.loc h.length) (h ++ [.lst (a ++ b)]) else .stk
    | _, _ => .stk
  | _, _, _ => .stk
def subW : W → W → Hh → R W
  | .int i, .int j, h => .ok (.int (i - j)) h
  | _, _, _ => .stk
def mulW : W → W → Hh → R W
  | .int i, .int j, h => if (-(2 ^ 64) < i ∧ i < 2 ^ 64) ∨ (-(2 ^ 64) < j ∧ j < 2 ^ 64) then .ok (.int (i * j)) h else .stk
  | .str x, .int k, h => if k < 1000000 ∧ -1000000 < k ∧ x.length = 1 then .ok (.str ⟨(List.replicate k.toNat x.cps).foldl (· ++ ·) #[]⟩) h else .stk
  | .loc i, .int k, h => match h[i]? with
    | some (.lst a) => if k < 1000000 ∧ -1000000 < k ∧ a.length * k.toNat ≤ Sz then .ok (.loc h.length) (h ++ [.lst (List.replicate k.toNat a).flatten]) else .stk
    | _ => .stk
  | _, _, _ => .stk
def fdvW : W → W → Hh → R W
  | .int i, .int j, h => if 0 < j ∧ j < 10 ^ 20 then .ok (.int (i / j)) h else .stk
  | _, _, _ => .stk
def modW : W → W → Hh → R W
  | .int i, .int j, h => if 0 < j then .ok (.int (i % j)) h else .stk
  | _, _, _ => .stk
def powW : W → W → Hh → R W
  | .int i, .int j, h => if 0 ≤ j ∧ j ≤ 1000 ∧ -(2 ^ 64) < i ∧ i < 2 ^ 64 then .ok (.int (i ^ j.toNat)) h else .stk
  | _, _, _ => .stk
theorem Rvs.flat {K : PySem.W.Frag} {H : Hp} {ι : List Addr} {ws : List W} {xs : List V} (r : Rvs K H ι ws xs) : ∀ n : Nat, Rvs K H ι (List.replicate n ws).flatten (List.replicate n xs).flatten
  | 0 => rfl
  | n + 1 => by
    rw [List.replicate_succ, List.replicate_succ, List.flatten_cons, List.flatten_cons]
    exact r.append (Rvs.flat r n)

theorem fold_size (a : Array Nat) : ∀ (n : Nat) (acc : Array Nat), ((List.replicate n a).foldl (· ++ ·) acc).size = acc.size + n * a.size
  | 0, acc => by simp
  | n + 1, acc => by
    rw [List.replicate_succ, List.foldl_cons, fold_size a n, Array.size_append, Nat.add_mul]
    omega

section
variable {X : Cx}
theorem o_add : OpR X (binaryOp .Add) (rL X.K addW) := by
  intro pins s σ H x y v u Q I rx ry hq
  obtain ⟨ι, h, wx, wy, S, ax, ay, hw⟩ := hq
  unfold addW at hw
  split at hw
  · cases ax
    cases ay
    exact op_add pins s σ H _ _ v u Q I rx ry ⟨_, _, rfl, rfl, hw _ _ _ S .refl rfl⟩
  · split at hw
    · rename_i hz
      cases ax
      cases ay
      exact op_add_str pins s σ H _ _ v u Q I rx ry ⟨_, _, rfl, rfl, by rw [sz_eq]; exact hz, hw _ _ _ S .refl rfl⟩
    · exact hw.elim
  · split at hw
    · rename_i hz
      obtain ⟨a, xs, rfl, ta, ra⟩ := ax
      obtain ⟨b, ys, rfl, tb, rb⟩ := ay
      have hl : xs.length + ys.length ≤ sizeLine := by rw [ra.len, rb.len, sz_eq]; exact hz
      have rab := ra.append rb
      refine op_catA pins s σ H _ _ v u Q I rx ry ⟨a, b, xs, ys, rfl, rfl, ta.sq, tb.sq, hl, fun e => ?_, fun _ e => ?_, fun _ _ p hp => ?_⟩
      · subst e
        exact hw _ _ _ S .refl ⟨b, ys, rfl, tb, by simpa using rab⟩
      · subst e
        exact hw _ _ _ S .refl ⟨a, xs, rfl, ta, by simpa using rab⟩
      · exact fin_tup hw S rab (by rw [List.length_append]; exact hl) hp
    · exact hw.elim
  · split at hw
    · rename_i e1 e2
      split at hw
      · rename_i hz
        obtain ⟨a, ei, rfl⟩ := ax
        obtain ⟨b, ej, rfl⟩ := ay
        obtain ⟨xs, q1, r1⟩ := S.lst e1 ei
        obtain ⟨ys, q2, r2⟩ := S.lst e2 ej
        exact op_cat pins s σ H _ _ v u Q I rx ry ⟨a, b, xs, ys, rfl, rfl, q1, q2, by rw [r1.len, r2.len, sz_eq]; exact hz, fun p hp => fin_lst hw S (r1.append r2) hp⟩
      · exact hw.elim
    · exact hw.elim
  · exact hw.elim
theorem o_sub : OpR X (binaryOp .Sub) (rL X.K subW) := by
  intro pins s σ H x y v u Q I rx ry hq
  obtain ⟨ι, h, wx, wy, S, ax, ay, hw⟩ := hq
  unfold subW at hw
  split at hw
  · cases ax
    cases ay
    exact op_sub pins s σ H _ _ v u Q I rx ry ⟨_, _, rfl, rfl, hw _ _ _ S .refl rfl⟩
  · exact hw.elim
theorem o_fdv : OpR X (binaryOp .FloorDiv) (rL X.K fdvW) := by
  intro pins s σ H x y v u Q I rx ry hq
  obtain ⟨ι, h, wx, wy, S, ax, ay, hw⟩ := hq
  unfold fdvW at hw
  split at hw
  · split at hw
    · rename_i hz
      cases ax
      cases ay
      refine op_fdivW pins s σ H _ _ v u Q I rx ry ⟨_, _, rfl, rfl, wide_div (b := 70) hz.1 ?_ (by decide) (by decide), hw _ _ _ S .refl rfl⟩
      have : (10 : Int) ^ 20 = 100000000000000000000 := by decide
      have h2 : (2 : Nat) ^ 70 = 1180591620717411303424 := by decide
      omega
    · exact hw.elim
  · exact hw.elim
theorem o_mod : OpR X (binaryOp .Mod) (rL X.K modW) := by
  intro pins s σ H x y v u Q I rx ry hq
  obtain ⟨ι, h, wx, wy, S, ax, ay, hw⟩ := hq
  unfold modW at hw
  split at hw
  · split at hw
    · rename_i hz
      cases ax
      cases ay
      exact op_mod pins s σ H _ _ v u Q I rx ry ⟨_, _, rfl, rfl, hz, hw _ _ _ S .refl rfl⟩
    · exact hw.elim
  · exact hw.elim
theorem o_pow : OpR X (binaryOp .Pow) (rL X.K powW) := by
  intro pins s σ H x y v u Q I rx ry hq
  obtain ⟨ι, h, wx, wy, S, ax, ay, hw⟩ := hq
  unfold powW at hw
  split at hw
  · split at hw
    · rename_i hz
      cases ax
      cases ay
      have h64 : (2 : Nat) ^ 64 = 18446744073709551616 := by decide
      have h65 : (2 : Int) ^ 64 = 18446744073709551616 := by decide
      obtain ⟨z1, z2, z3, z4⟩ := hz
      exact op_pow pins s σ H _ _ v u Q I rx ry ⟨_, _, rfl, rfl, ⟨z1, by omega, by omega⟩, hw _ _ _ S .refl rfl⟩
    · exact hw.elim
  · exact hw.elim
theorem o_mul : OpR X (binaryOp .Mult) (rL X.K mulW) := by
  intro pins s σ H x y v u Q I rx ry hq
  obtain ⟨ι, h, wx, wy, S, ax, ay, hw⟩ := hq
  unfold mulW at hw
  split at hw
  · split at hw
    · rename_i hz
      cases ax
      cases ay
      exact op_mul pins s σ H _ _ v u Q I rx ry ⟨_, _, rfl, rfl, hz, hw _ _ _ S .refl rfl⟩
    · exact hw.elim
  · split at hw
    · rename_i x0 k hz
      obtain ⟨hz1, hz2, hz3⟩ := hz
      cases ax
      cases ay
      obtain ⟨t, rfl⟩ := rx
      obtain ⟨t', rfl⟩ := ry
      have hd1 : decide (k < -(2 ^ 63 : Int)) = false := decide_eq_false (by omega)
      have hd2 : decide (k ≥ 2 ^ 63) = false := decide_eq_false (by omega)
      refine PySem.P.mul_str (by rw [hd1, hd2]; rfl) (fun h1 _ => ?_) (fun h1 _ => ?_) ?_
      · intro hgt
        rw [hz3] at hgt
        have : (1 : Int) ≤ (2 ^ 63 - 1) / k := by
          rw [Int.le_ediv_iff_mul_le (by omega)]
          omega
        omega
      · rw [hz3, Nat.one_mul]
        unfold PySem.Builtin.Str.tooLong
        rw [sz_eq]
        exact decide_eq_false (by show ¬ (Sz < k.toNat); unfold Sz; omega)
      · by_cases h1 : k < 1
        · rw [if_pos h1]
          refine ⟨by decide, ⟨.str Str.empty, H, I.tok _, ⟨_, rfl⟩, ?_⟩⟩
          have : k.toNat = 0 := by omega
          rw [this] at hw
          exact hw _ _ _ S .refl rfl
        · rw [if_neg h1]
          by_cases h2 : (k == 1 || x0.length == 0) = true
          · rw [if_pos h2]
            have hk : k = 1 := by
              simp only [Bool.or_eq_true, beq_iff_eq] at h2
              omega
            subst hk
            refine ⟨.str x0, H, I, ⟨_, rfl⟩, ?_⟩
            have e : (⟨(List.replicate (1 : Int).toNat x0.cps).foldl (· ++ ·) #[]⟩ : Str) = x0 := by
              show (⟨#[] ++ x0.cps⟩ : Str) = x0
              simp
            rw [e] at hw
            exact hw _ _ _ S .refl rfl
          · rw [if_neg h2]
            refine ⟨?_, ⟨.str _, H, I.tok _, ⟨_, rfl⟩, hw _ _ _ S .refl rfl⟩⟩
            show Array.size _ ≤ sizeLine
            have hz3' : x0.cps.size = 1 := hz3
            rw [fold_size, hz3', sz_eq]
            show 0 + k.toNat * 1 ≤ 16777216
            omega
    · exact hw.elim
  · split at hw
    · rename_i e1
      split at hw
      · rename_i hz
        obtain ⟨hz1, hz2, hz3⟩ := hz
        obtain ⟨a, ei, rfl⟩ := ax
        cases ay
        obtain ⟨xs, q1, r1⟩ := S.lst e1 ei
        refine op_rep pins s σ H _ _ v u Q I rx ry ⟨a, _, xs, rfl, rfl, q1, by omega, by omega, by rw [r1.len, sz_eq]; exact hz3, fun p hp => fin_lst hw S (r1.flat _) hp⟩
      · exact hw.elim
    · exact hw.elim
  · exact hw.elim

end
/-! ### comparisons -/
def pyAll (f : W → Option PyData) : List W → Option (List PyData)
  | [] => some []
  | w :: ws => match f w, pyAll f ws with
    | some d, some ds => some (d :: ds)
    | _, _ => none
/-- a value as data, lists read -/
def pyW (h : Hh) : Nat → W → Option PyData
  | 0, _ => none
  | n + 1, w => match w with
    | .non => some .none
    | .bl b => some (.bool b)
    | .int i => some (.int i)
    | .str s => some (.str s)
    | .tup ws => (pyAll (pyW h n) ws).map PyData.tuple
    | .rls ws => (pyAll (pyW h n) ws).map PyData.list
    | .loc i => match h[i]? with
      | some (.lst ws) => (pyAll (pyW h n) ws).map PyData.list
      | _ => none
    | .cl _ => none
theorem pyAll_dp {K : PySem.W.Frag} {H : Hp} {ι : List Addr} {f : W → Option PyData} (hf : ∀ w v d, Rv K H ι w v → f w = some d → Dp K H v d) : ∀ {ws : List W} {xs : List V} {ds : List PyData}, Rvs K H ι ws xs → pyAll f ws = some ds → DpAll K H xs ds
  | [], xs, ds, r, e => by
    cases (show some [] = some ds from e)
    rw [show xs = [] from r]
    exact .nil
  | w :: ws, xs, ds, ⟨x, r, e1, a, t⟩, e => by
    unfold pyAll at e
    split at e
    · rename_i d ds' e2 e3
      cases e
      rw [e1]
      exact .cons (hf _ _ _ a e2) (pyAll_dp hf t e3)
    · cases e
theorem pyW_dp {K : PySem.W.Frag} {H : Hp} {ι : List Addr} {h : Hh} (S : Sim K H ι h) : ∀ (n : Nat) (w : W) (v : V) (d : PyData), Rv K H ι w v → pyW h n w = some d → Dp K H v d
  | 0, _, _, _, _, e => by cases e
  | n + 1, w, v, d, r, e => by
    cases w with
    | non => cases r; cases e; exact .non
    | bl b => cases r; cases e; exact .bl b
    | int i => cases r; cases e; exact .int i
    | str s => cases r; cases e; exact .str s
    | tup ws =>
      obtain ⟨a, xs, rfl, t, r⟩ := r
      obtain ⟨ds, e1, rfl⟩ := Option.map_eq_some_iff.mp (show (pyAll (pyW h n) ws).map PyData.tuple = some d from e)
      exact .tup t.sq (pyAll_dp (fun w v d => pyW_dp S n w v d) r e1)
    | rls ws =>
      obtain ⟨a, xs, rfl, t, r⟩ := r
      obtain ⟨ds, e1, rfl⟩ := Option.map_eq_some_iff.mp (show (pyAll (pyW h n) ws).map PyData.list = some d from e)
      exact .lst t.sq (pyAll_dp (fun w v d => pyW_dp S n w v d) r e1)
    | cl C => cases e
    | loc i =>
      obtain ⟨a, ei, rfl⟩ := r
      have e' : (match h[i]? with
        | some (.lst ws) => (pyAll (pyW h n) ws).map PyData.list
        | _ => none) = some d := e
      split at e'
      · rename_i e0
        obtain ⟨xs, q, r⟩ := S.lst e0 ei
        obtain ⟨ds, e1, rfl⟩ := Option.map_eq_some_iff.mp e'
        exact .lst (.of q) (pyAll_dp (fun w v d => pyW_dp S n w v d) r e1)
      · cases e'
/-- a scalar -/
def scV : W → Option V
  | .non => some .non
  | .bl b => some (.bl b)
  | .int i => some (.int i)
  | .str s => some (.str s)
  | _ => none
theorem scV_ok {K : PySem.W.Frag} {H : Hp} {ι : List Addr} {w : W} {v x : V} (r : Rv K H ι w v) (e : scV w = some x) : v = x := by
  cases w <;> cases e <;> exact r
def eqData (h : Hh) (x y : W) : Option Bool := match pyW h 9 x, pyW h 9 y with
  | some d, some e => if SeqAt.shaped d = true ∧ SeqAt.shaped e = true then some (PyData.eqv d e) else none
  | _, _ => none
def eqB (h : Hh) (x y : W) : Option Bool := match scV x, scV y with
  | some a, some b => if scal a b = true then some (decide (a = b)) else eqData h x y
  | _, _ => eqData h x y
/-- a tuple of any things against () -/
def eqT0 (x y : W) (h : Hh) : R W := match x, y with
  | .tup a, .tup [] => .ok (.bl a.isEmpty) h
  | _, _ => .stk
def eqW (x y : W) (h : Hh) : R W := match eqB h x y with
  | some b => .ok (.bl b) h
  | none => eqT0 x y h
def neW (x y : W) (h : Hh) : R W := match eqB h x y with
  | some b => .ok (.bl (!b)) h
  | none => .stk
def ltW : W → W → Hh → R W
  | .int i, .int j, h => .ok (.bl (decide (i < j))) h
  | .str a, .str b, h => .ok (.bl (decide (a.cps.toList < b.cps.toList))) h
  | _, _, _ => .stk
def leW : W → W → Hh → R W
  | .int i, .int j, h => .ok (.bl (decide (i ≤ j))) h
  | .str a, .str b, h => .ok (.bl (!decide (b.cps.toList < a.cps.toList))) h
  | _, _, _ => .stk
def gtW : W → W → Hh → R W
  | .int i, .int j, h => .ok (.bl (decide (j < i))) h
  | .str a, .str b, h => .ok (.bl (decide (b.cps.toList < a.cps.toList))) h
  | _, _, _ => .stk
def geW : W → W → Hh → R W
  | .int i, .int j, h => .ok (.bl (decide (j ≤ i))) h
  | .str a, .str b, h => .ok (.bl (!decide (a.cps.toList < b.cps.toList))) h
  | _, _, _ => .stk
def isNon : W → Bool
  | .non => true
  | _ => false
def isW : W → W → Hh → R W
  | x, .non, h => .ok (.bl (isNon x)) h
  | _, _, _ => .stk
def isnW : W → W → Hh → R W
  | x, .non, h => .ok (.bl (!isNon x)) h
  | _, _, _ => .stk
/-- the items of a list or a tuple -/
def seqW (h : Hh) : W → Option (List W)
  | .tup ws => some ws
  | .rls ws => some ws
  | .loc n => match h[n]? with
    | some (.lst ws) => some ws
    | _ => none
  | _ => none
def scAll : List W → Option (List V)
  | [] => some []
  | w :: ws => match scV w, scAll ws with
    | some v, some vs => some (v :: vs)
    | _, _ => none
theorem scAll_ok {K : PySem.W.Frag} {H : Hp} {ι : List Addr} : ∀ {ws : List W} {xs vs : List V}, Rvs K H ι ws xs → scAll ws = some vs → xs = vs
  | [], xs, vs, r, e => by
    cases (show some [] = some vs from e)
    exact r
  | w :: ws, xs, vs, ⟨x, r, e1, a, t⟩, e => by
    unfold scAll at e
    split at e
    · rename_i v vs' e2 e3
      cases e
      rw [e1, scV_ok a e2, scAll_ok t e3]
    · cases e
def inB (h : Hh) (x y : W) : Option Bool := match x, y with
  | .str a, .str b => if a.length = 1 then some (decide (a.cps.getD 0 0 ∈ b.cps.toList)) else some (!(Builtin.Str.occurrences b a 0 b.length 1).isEmpty)
  | _, _ => match scV x, seqW h y with
    | some a, some ws => match scAll ws with
      | some vs => if flatV a = true ∧ vs.all flatV = true then some (inV a vs) else none
      | none => none
    | _, _ => none
def inW (x y : W) (h : Hh) : R W := match inB h x y with
  | some b => .ok (.bl b) h
  | none => .stk
def ninW (x y : W) (h : Hh) : R W := match inB h x y with
  | some b => .ok (.bl (!b)) h
  | none => .stk
section
variable {X : Cx}
theorem seq_ok {K : PySem.W.Frag} {H : Hp} {ι : List Addr} {h : Hh} (S : Sim K H ι h) {w : W} {v : V} {ws : List W} (r : Rv K H ι w v) (e : seqW h w = some ws) : ∃ p xs, v = .ref p ∧ (SqL K H p xs ∨ SqT K H p xs) ∧ Rvs K H ι ws xs ∧ xs.length ≤ xs.length := by
  unfold seqW at e
  split at e
  · cases e
    obtain ⟨a, xs, rfl, t, r⟩ := r
    exact ⟨a, xs, rfl, .inr t.sq, r, Nat.le_refl _⟩
  · cases e
    obtain ⟨a, xs, rfl, t, r⟩ := r
    exact ⟨a, xs, rfl, .inl t.sq, r, Nat.le_refl _⟩
  · split at e
    · rename_i e0
      cases e
      obtain ⟨a, ei, rfl⟩ := r
      obtain ⟨xs, q, r⟩ := S.lst e0 ei
      exact ⟨a, xs, rfl, .inl (.of q), r, Nat.le_refl _⟩
    · cases e
  · cases e
theorem o_eq (hu : X.A.units + 64 < cLine) : OpR X (compareOp .Eq) (rL X.K eqW) := by
  intro pins s σ H x y v u Q I rx ry hq
  obtain ⟨ι, h, wx, wy, S, ax, ay, hw⟩ := hq
  have dat : ∀ b, eqData h wx wy = some b → Q (.bl b) H → wpAny (model X.prog X.w) X.A (compareOp .Eq v u) (EP X pins σ Q) X.xe s := fun b e q => by
    unfold eqData at e
    split at e
    · rename_i d1 d2 e1 e2
      split at e
      · rename_i hs
        cases e
        exact op_eqD hu pins s σ H _ _ v u Q I rx ry ⟨d1, d2, pyW_dp S _ _ _ _ ax e1, pyW_dp S _ _ _ _ ay e2, hs.1, hs.2, q⟩
      · cases e
    · cases e
  unfold eqW at hw
  split at hw
  · rename_i b e
    have q := hw _ _ _ S .refl rfl
    unfold eqB at e
    split at e
    · rename_i a c e1 e2
      split at e
      · rename_i hs
        cases e
        rw [scV_ok ax e1] at rx
        rw [scV_ok ay e2] at ry
        exact op_eq pins s σ H _ _ v u Q I rx ry ⟨hs, q⟩
      · exact dat b e q
    · exact dat b e q
  · unfold eqT0 at hw
    split at hw
    · rename_i a0 _
      obtain ⟨a, xs, rfl, ta, ra⟩ := ax
      obtain ⟨b, ys, rfl, tb, rb⟩ := ay
      have q := hw _ _ _ S .refl rfl
      cases rx
      cases ry
      obtain ⟨its, r1, t1, _⟩ := I.tuple ta.sq
      obtain ⟨its2, r2, t2, _⟩ := I.tuple tb.sq
      have e0 : ys = [] := rb
      subst e0
      have l2 : its2 = [] := by
        have := r2.length
        cases its2 with
        | nil => rfl
        | cons a b => simp at this
      subst l2
      refine SeqAt.rcIn_tuples (e := fun _ => true) t1 t2 (by omega) (fun j h1 h2 => absurd h2 (by simp)) ⟨.bl _, H, I, rfl, ?_⟩
      have l1 := r1.length
      have l3 := ra.len
      have : ((List.range (min its.toArray.size ([] : List Value).toArray.size)).all (fun _ => true) && its.toArray.size == ([] : List Value).toArray.size) = a0.isEmpty := by
        cases a0 <;> cases its <;> simp_all
      rw [this]
      exact q
    · exact hw.elim
theorem o_ne (hu : X.A.units + 64 < cLine) : OpR X (compareOp .NotEq) (rL X.K neW) := by
  intro pins s σ H x y v u Q I rx ry hq
  obtain ⟨ι, h, wx, wy, S, ax, ay, hw⟩ := hq
  have dat : ∀ b, eqData h wx wy = some b → Q (.bl (!b)) H → wpAny (model X.prog X.w) X.A (compareOp .NotEq v u) (EP X pins σ Q) X.xe s := fun b e q => by
    unfold eqData at e
    split at e
    · rename_i d1 d2 e1 e2
      split at e
      · rename_i hs
        cases e
        exact op_neD hu pins s σ H _ _ v u Q I rx ry ⟨d1, d2, pyW_dp S _ _ _ _ ax e1, pyW_dp S _ _ _ _ ay e2, hs.1, hs.2, q⟩
      · cases e
    · cases e
  unfold neW at hw
  split at hw
  · rename_i b e
    have q := hw _ _ _ S .refl rfl
    unfold eqB at e
    split at e
    · rename_i a c e1 e2
      split at e
      · rename_i hs
        cases e
        rw [scV_ok ax e1] at rx
        rw [scV_ok ay e2] at ry
        exact op_ne pins s σ H _ _ v u Q I rx ry ⟨hs, q⟩
      · exact dat b e q
    · exact dat b e q
  · exact hw.elim
theorem o_lt : OpR X (compareOp .Lt) (rL X.K ltW) := by
  intro pins s σ H x y v u Q I rx ry hq
  obtain ⟨ι, h, wx, wy, S, ax, ay, hw⟩ := hq
  unfold ltW at hw
  split at hw
  · cases ax; cases ay; exact op_lt pins s σ H _ _ v u Q I rx ry ⟨_, _, rfl, rfl, hw _ _ _ S .refl rfl⟩
  · cases ax; cases ay; exact op_lt_str pins s σ H _ _ v u Q I rx ry ⟨_, _, rfl, rfl, hw _ _ _ S .refl rfl⟩
  · exact hw.elim
theorem o_le : OpR X (compareOp .LtE) (rL X.K leW) := by
  intro pins s σ H x y v u Q I rx ry hq
  obtain ⟨ι, h, wx, wy, S, ax, ay, hw⟩ := hq
  unfold leW at hw
  split at hw
  · cases ax; cases ay; exact op_le pins s σ H _ _ v u Q I rx ry ⟨_, _, rfl, rfl, hw _ _ _ S .refl rfl⟩
  · cases ax; cases ay; exact op_le_str pins s σ H _ _ v u Q I rx ry ⟨_, _, rfl, rfl, hw _ _ _ S .refl rfl⟩
  · exact hw.elim
theorem o_gt : OpR X (compareOp .Gt) (rL X.K gtW) := by
  intro pins s σ H x y v u Q I rx ry hq
  obtain ⟨ι, h, wx, wy, S, ax, ay, hw⟩ := hq
  unfold gtW at hw
  split at hw
  · cases ax; cases ay; exact op_gt pins s σ H _ _ v u Q I rx ry ⟨_, _, rfl, rfl, hw _ _ _ S .refl rfl⟩
  · cases ax; cases ay; exact op_gt_str pins s σ H _ _ v u Q I rx ry ⟨_, _, rfl, rfl, hw _ _ _ S .refl rfl⟩
  · exact hw.elim
theorem o_ge : OpR X (compareOp .GtE) (rL X.K geW) := by
  intro pins s σ H x y v u Q I rx ry hq
  obtain ⟨ι, h, wx, wy, S, ax, ay, hw⟩ := hq
  unfold geW at hw
  split at hw
  · cases ax; cases ay; exact op_ge pins s σ H _ _ v u Q I rx ry ⟨_, _, rfl, rfl, hw _ _ _ S .refl rfl⟩
  · cases ax; cases ay; exact op_ge_str pins s σ H _ _ v u Q I rx ry ⟨_, _, rfl, rfl, hw _ _ _ S .refl rfl⟩
  · exact hw.elim
theorem non_iff {K : PySem.W.Frag} {H : Hp} {ι : List Addr} {w : W} {v : V} (r : Rv K H ι w v) : decide (v = V.non) = isNon w := by
  cases w with
  | non => cases r; rfl
  | bl b => cases r; rfl
  | int b => cases r; rfl
  | str b => cases r; rfl
  | tup ws => obtain ⟨a, xs, rfl, _⟩ := r; rfl
  | rls ws => obtain ⟨a, xs, rfl, _⟩ := r; rfl
  | loc n => obtain ⟨a, _, rfl⟩ := r; rfl
  | cl C => rw [show v = _ from r]; rfl
theorem o_is : OpR X (compareOp .Is) (rL X.K isW) := by
  intro pins s σ H x y v u Q I rx ry hq
  obtain ⟨ι, h, wx, wy, S, ax, ay, hw⟩ := hq
  unfold isW at hw
  split at hw
  · cases ay
    exact op_isN pins s σ H _ _ v u Q I rx ry ⟨rfl, by rw [non_iff ax]; exact hw _ _ _ S .refl rfl⟩
  · exact hw.elim
theorem o_isn : OpR X (compareOp .IsNot) (rL X.K isnW) := by
  intro pins s σ H x y v u Q I rx ry hq
  obtain ⟨ι, h, wx, wy, S, ax, ay, hw⟩ := hq
  unfold isnW at hw
  split at hw
  · cases ay
    exact op_notN pins s σ H _ _ v u Q I rx ry ⟨rfl, by rw [non_iff ax]; exact hw _ _ _ S .refl rfl⟩
  · exact hw.elim
theorem str_one {a : Str} (h : a.length = 1) : a = ⟨#[a.cps.getD 0 0]⟩ := by
  obtain ⟨c⟩ := a
  have h' : c.size = 1 := h
  obtain ⟨l⟩ := c
  match l, h' with
  | [x], _ => rfl
theorem o_in : OpR X (compareOp .In) (rL X.K inW) := by
  intro pins s σ H x y v u Q I rx ry hq
  obtain ⟨ι, h, wx, wy, S, ax, ay, hw⟩ := hq
  unfold inW at hw
  split at hw
  · rename_i b e
    have q := hw _ _ _ S .refl rfl
    unfold inB at e
    split at e
    · cases ax
      cases ay
      split at e
      · rename_i h1
        cases e
        rw [str_one h1] at rx
        exact op_in_sign pins s σ H _ _ v u Q I rx ry ⟨_, _, rfl, rfl, q⟩
      · cases e
        exact op_in_str pins s σ H _ _ v u Q I rx ry ⟨_, _, rfl, rfl, q⟩
    · split at e
      · rename_i e1 e2
        split at e
        · rename_i e3
          split at e
          · rename_i hf
            cases e
            obtain ⟨p, xs, rfl, hs, r, _⟩ := seq_ok S ay e2
            rw [scV_ok ax e1] at rx
            rw [scAll_ok r e3] at hs
            exact op_in_seq pins s σ H _ _ v u Q I rx ry ⟨p, _, rfl, hs, hf.1, hf.2, q⟩
          · cases e
        · cases e
      · cases e
  · exact hw.elim
theorem o_nin : OpR X (compareOp .NotIn) (rL X.K ninW) := by
  intro pins s σ H x y v u Q I rx ry hq
  obtain ⟨ι, h, wx, wy, S, ax, ay, hw⟩ := hq
  unfold ninW at hw
  split at hw
  · rename_i b e
    have q := hw _ _ _ S .refl rfl
    unfold inB at e
    split at e
    · cases ax
      cases ay
      split at e
      · rename_i h1
        cases e
        rw [str_one h1] at rx
        exact op_notIn_sign pins s σ H _ _ v u Q I rx ry ⟨_, _, rfl, rfl, q⟩
      · cases e
        exact op_notIn_str pins s σ H _ _ v u Q I rx ry ⟨_, _, rfl, rfl, q⟩
    · split at e
      · rename_i e1 e2
        split at e
        · rename_i e3
          split at e
          · rename_i hf
            cases e
            obtain ⟨p, xs, rfl, hs, r, _⟩ := seq_ok S ay e2
            rw [scV_ok ax e1] at rx
            rw [scAll_ok r e3] at hs
            exact op_notIn_seq pins s σ H _ _ v u Q I rx ry ⟨p, _, rfl, hs, hf.1, hf.2, q⟩
          · cases e
        · cases e
      · cases e
  · exact hw.elim
end
end NB

set_option Elab.async false
set_option linter.all false
set_option maxRecDepth 100000
set_option maxHeartbeats 4000000
/-! NbTd: tuple(d) of a dict: its keys. -/
namespace NB
open PySem PySem.Spec L2 PySem.W
open PyProof.Rows hiding St
section
variable {P : Program} {w : World} {A : Around} {E : Value → Shared → Prop} {s : Shared} {T : String} {r d : Addr} {n : Nat} {C : Nat → Value → Prop} {OK : Heap → Prop}
/-- what the walk of a source leaves -/
def Left (s : Shared) (C : Nat → Value → Prop) (n : Nat) (s' : Shared) : Prop := ∃ (g : Heap) (tk : Nat) (xs : Array Value) (c : Nat), s' = { s with heap := g, toks := tk } ∧ (∀ b o, s.heap.get? b = some o → g.get? b = some o) ∧
  g.get? s.heap.objs.size = some { cls := .type "list", dict := none, data := .seq xs c, slots := #[] } ∧ ItemsOf C xs n
theorem gather (K : KdlSrc P w T r d n C OK) (calm : A.handled = none) (ok : OK s.heap) (few : n ≤ sizeLine) {Q : List Value → Shared → Prop}
    (q : ∀ (g : Heap) (tk : Nat) (xs : Array Value), (∀ b o, s.heap.get? b = some o → g.get? b = some o) → ItemsOf C xs n → Q xs.toList { s with heap := g, toks := tk }) :
    wpAny (model P w) A (collect (.ref r)) Q E s := by
  unfold collect
  apply wpAny_bind
  apply wpAny_runValue
  refine codeAny_builtin F.entry_proto_collect ?_
  rw [Around.under_plainId F.plain_proto_collect ⟨[.ref r], []⟩]
  show wpAny _ A.in1 (do
    let l ← newList []
    again (.builtin "list.__iadd__" ⟨[l, .ref r], []⟩)) _ _ s
  apply wpAny_bind
  refine wpAny_newObj_type (wpAny_pure ⟨plainId_quiet F.plain_list_iadd _, ?_⟩)
  refine codeAny_builtin F.entry_list_iadd ?_
  rw [Around.under_plainId F.plain_list_iadd ⟨[.ref s.heap.objs.size, .ref r], []⟩]
  have new : ({ s with heap := s.heap.push { cls := .type "list", data := .seq ([] : List Value).toArray } } : Shared).heap.get? s.heap.objs.size = some { cls := .type "list", data := .seq #[] 0 } := Heap.get?_push_size _ rfl
  have up : ∀ b o, s.heap.get? b = some o → (s.heap.push { cls := .type "list", data := .seq ([] : List Value).toArray }).get? b = some o := fun b o e => Heap.get?_push_of_some _ e
  have far := K.there _ ok
  show wpAny _ A.in1 (Builtin.List.listExtendWith (.ref s.heap.objs.size) (.ref r) (.ref s.heap.objs.size)) _ _ { s with heap := s.heap.push { cls := .type "list", data := .seq ([] : List Value).toArray } }
  have ext := kdl_extend (A := A) (s := { s with heap := s.heap.push { cls := .type "list", data := .seq ([] : List Value).toArray } }) (R := fun f s' => f = .ok (.ret (.ref s.heap.objs.size)) ∧ Left s C n s') K calm (K.keep _ _ ok fun b _ o e => up b o e) s.heap.objs.size (Nat.ne_of_gt far.1) (Nat.ne_of_gt far.2) (.ref s.heap.objs.size) 0 new (fun g tk xs c k e1 i => ⟨rfl, g, tk, xs, c, rfl, fun b o e => k b o (Nat.ne_of_lt (Heap.lt_size e)) (up b o e), e1, i⟩) few
  have out : ∀ s', Left s C n s' → wpAny (model P w) A (do
      let o ← load s.heap.objs.size
      match o.data with
      | .seq xs _ => pure xs.toList
      | _ => unsupported "internal:collect") Q E s' := fun s' ⟨g, tk, xs, c, e, k, e1, i⟩ => by
    subst e
    exact wpAny_bind (wpAny_load e1 (wpAny_pure (q g tk xs k i)))
  refine wpAny_mono ext ?_ fun e s' z => absurd z.1 (by simp)
  intro f s' z
  cases f with
  | done f =>
    cases z.1
    exact out s' z.2
  | again c => exact ⟨z.1, codeAny_mono z.2 fun f s2 y => by
      cases y.1
      exact out s2 y.2⟩
/-- a new tuple of what r walks -/
theorem newT (K : KdlSrc P w T r d n C OK) (calm : A.handled = none) (ok : OK s.heap) (few : n ≤ sizeLine) {Q : Value → Shared → Prop}
    (q : ∀ (g : Heap) (tk : Nat) (xs : Array Value), (∀ b o, s.heap.get? b = some o → g.get? b = some o) → ItemsOf C xs n → Q (.ref g.objs.size) { s with heap := g.push { cls := .type "tuple", data := .seq xs }, toks := tk }) :
    codeAny (model P w) A (.call (.builtin "tuple.__new__") ⟨[.type "tuple", .ref r], []⟩) (wants Q E) s := by
  apply codeAny_of_tree
  show wpAny _ A.in1 (do
    checkBuiltinCall "tuple.__new__" ⟨[.type "tuple", .ref r], []⟩
    again (.builtin "tuple.__new__" ⟨[.type "tuple", .ref r], []⟩)) _ _ s
  apply wpAny_bind
  refine wpAny_of_eq (F.newCall_tuple_1 _) ?_
  refine wpAny_pure ⟨plainId_quiet F.plain_tuple_new _, ?_⟩
  refine codeAny_builtin F.entry_tuple_new ?_
  rw [Around.under_plainId F.plain_tuple_new ⟨[.type "tuple", .ref r], []⟩]
  have k1 := sub_tuple_self
  have k2 := init_tuple_lookup
  have k3 := madeHere_tuple
  have ty := K.type s ok
  have calm1 : A.in1.handled = none := calm
  wp_walk using wpAny_typeOf ty
  rw [if_neg (by rw [K.notTuple]; decide)]
  apply wpAny_bind
  refine gather (A := A.in1) K calm1 ok few fun g tk xs k i => ?_
  apply wpAny_bind
  apply wpAny_pure
  show wpAny _ _ (do
    let t ← Builtin.Tuple.tupleExact xs.toList.toArray
    ret t) _ _ _
  have ez : xs.toList.toArray = xs := Array.toArray_toList
  rw [ez]
  unfold Builtin.Tuple.tupleExact
  apply wpAny_bind
  refine wpAny_newObj_type ?_ (show xs.size ≤ sizeLine by rw [i.1]; exact few)
  exact wpAny_pure (q g tk xs k i)
/-- tuple(r) -/
theorem made (K : KdlSrc P w T r d n C OK) (calm : A.handled = none) (ok : OK s.heap) (few : n ≤ sizeLine) {Q : Value → Shared → Prop}
    (q : ∀ (g : Heap) (tk : Nat) (xs : Array Value), (∀ b o, s.heap.get? b = some o → g.get? b = some o) → ItemsOf C xs n → Q (.ref g.objs.size) { s with heap := g.push { cls := .type "tuple", data := .seq xs }, toks := tk }) :
    wpAny (model P w) A (call (.type "tuple") [.ref r]) Q E s := by
  have calm1 : A.in1.handled = none := calm
  refine callType_codes (Q₁ := fun o s' => s'.TypeIs o "tuple" ∧ Q o s') F.called_tuple (F.typeCall_tuple_1 _) F.entry_object_init
    (newT K calm1 ok few fun g tk xs k i => ⟨⟨_, Heap.get?_push_size _ rfl, rfl⟩, q g tk xs k i⟩) fun o s' z => ⟨z.1, F.args_object_init_2 o _, object_init_meets F.called_tuple.init.lookup F.called_tuple.made (by decide) P w A.in1 _ s' ⟨z.1, rfl, z.2⟩⟩
end
section
variable {X : Cx}
theorem call_tupleD (calm : X.calm = true) : CallR X (.type "tuple") (fun xs H Q => ∃ (a : Addr) (kvs : List (Key × V)), xs = [.ref a] ∧ L2.Rd H a (.dK kvs) ∧ ∀ p, H p = none → Q (.ref p) (upd H p (.tup (kvs.map fun kv => kV kv.1)))) := by
  intro pins s σ H xs us Q I r h
  obtain ⟨a, kvs, rfl, hd, q⟩ := h
  obtain ⟨u, rfl, ru⟩ := vals1 r
  obtain rfl : u = Value.ref a := ru
  obtain ⟨z, low, vs, rel, dd⟩ := dk_rd I.hok hd
  obtain ⟨ep, at_⟩ := dd.dictAt
  have ks : (kvs.map fun kv => kV kv.1) = vs.map fun p => kV p.1 := by
    have := congrArg (List.map kV) rel.keys
    rw [List.map_map, List.map_map] at this
    exact this
  refine made (kdl_dict (knd := mixKind X.prog X.w) (kvs := vs) (ep := ep) low) (I.ok.hd calm) at_ (by rw [← rel.length]; exact z) fun g tk xs k i => ?_
  have vals : Vals (vs.map fun p => kV p.1) xs.toList := keys_at (by rw [Array.length_toList]; exact i.1) fun j v e => i.2 j v (by rw [← Array.getElem?_toList]; exact e)
  have I1 : Inv X pins σ H { s with heap := g, toks := tk } := I.kept (t' := tk) k
  have I2 : Inv X pins σ (upd H g.objs.size (.tup (kvs.map fun kv => kV kv.1))) { s with heap := g.push { cls := .type "tuple", data := .seq xs }, toks := tk } :=
    I1.laid (t' := tk) (fun b o e => Heap.get?_push_of_some _ e) (Nat.le_refl _) (show ObjOk X.prog X.w _ _ _ (.tup _) from ⟨by rw [List.length_map]; exact z, xs.toList, by rw [ks]; exact vals, by
      rw [Array.toArray_toList]
      exact IsTup.new g xs⟩)
  exact ⟨.ref g.objs.size, _, I2, rfl, q _ (I1.hok.fresh (Nat.le_refl _))⟩
end
end NB

set_option Elab.async false
set_option linter.all false
set_option maxRecDepth 100000
set_option maxHeartbeats 4000000
/-! NbC: items, slices, truth, built-in functions and methods on data values. -/
namespace NB
open PySem PySem.Spec L2
open PyProof.Rows hiding St

theorem atI_some {α β : Type} {xs : List α} {ys : List β} (hl : ys.length = xs.length) {i : Int} {x : α} (e : atI xs i = some x) : ∃ j, ixN ys.length i = some j ∧ xs[j]? = some x := by
  unfold atI at e
  obtain ⟨j, e1, e2⟩ := Option.bind_eq_some_iff.mp e
  exact ⟨j, by rw [hl]; exact e1, e2⟩
theorem Rvs.atI {K : PySem.W.Frag} {H : Hp} {ι : List Addr} {ws : List W} {xs : List V} {i : Int} {w : W} (r : Rvs K H ι ws xs) (e : L2.atI ws i = some w) : ∃ x, L2.atI xs i = some x ∧ Rv K H ι w x := by
  obtain ⟨j, e1, e2⟩ := atI_some (ys := xs) r.len e
  obtain ⟨x, e3, r3⟩ := r.get e2
  exact ⟨x, by unfold L2.atI; rw [e1]; exact e3, r3⟩
def ixW : W → W → Hh → R W
  | .tup ws, .int i, h => match atI ws i with
    | some w => .ok w h
    | none => .stk
  | .rls ws, .int i, h => match atI ws i with
    | some w => .ok w h
    | none => .stk
  | .str s, .int i, h => if s.length ≤ Sz then match atI s.cps.toList i with
    | some c => .ok (.str ⟨#[c]⟩) h
    | none => .stk else .stk
  | .loc n, .int i, h => match h[n]? with
    | some (.lst ws) => match atI ws i with
      | some w => .ok w h
      | none => .stk
    | _ => .stk
  | _, _, _ => .stk
def cutW (ws : List W) (lo hi : Option Int) : List W := (ws.drop (HT.sIx ws.length 0 lo)).take (HT.sIx ws.length ws.length hi - HT.sIx ws.length 0 lo)
theorem Rvs.cut {K : PySem.W.Frag} {H : Hp} {ι : List Addr} {ws : List W} {xs : List V} (r : Rvs K H ι ws xs) (lo hi : Option Int) : Rvs K H ι (cutW ws lo hi) (cutV xs lo hi) := by
  unfold cutW cutV
  rw [r.len]
  exact (r.drop _).take _
def slW : W → Option Int → Option Int → Hh → R W
  | .tup ws, lo, hi, h => .ok (.tup (cutW ws lo hi)) h
  | .str s, lo, hi, h => if s.length ≤ Sz then .ok (.str (cutS s lo hi)) h else .stk
  | .loc n, lo, hi, h => match h[n]? with
    | some (.lst ws) => .ok (.loc h.length) (h ++ [.lst (cutW ws lo hi)])
    | _ => .stk
  | _, _, _, _ => .stk
/-- truth -/
def truB (h : Hh) : W → Option Bool
  | .non => some false
  | .bl b => some b
  | .int i => some (i != 0)
  | .str s => if s.length ≤ Sz then some ((s.length : Int) != 0) else none
  | .tup ws => some (!ws.isEmpty)
  | .rls ws => some (!ws.isEmpty)
  | .cl _ => none
  | .loc n => match h[n]? with
    | some (.lst ws) => some (!ws.isEmpty)
    | some (.dct false kvs) => some (!kvs.isEmpty)
    | _ => none
theorem Rvs.emp {K : PySem.W.Frag} {H : Hp} {ι : List Addr} {ws : List W} {xs : List V} (r : Rvs K H ι ws xs) : xs.isEmpty = ws.isEmpty := by
  have e := r.len
  cases ws <;> cases xs <;> simp_all
theorem Rkv.emp {κ : Type} {K : PySem.W.Frag} {H : Hp} {ι : List Addr} {ws : List (κ × W)} {xs : List (κ × V)} (r : Rkv K H ι ws xs) : xs.isEmpty = ws.isEmpty := by
  have e := r.len
  cases ws <;> cases xs <;> simp_all
theorem tru_of {K : PySem.W.Frag} {H : Hp} {ι : List Addr} {h : Hh} (S : Sim K H ι h) {w : W} {v : V} {b : Bool} (r : Rv K H ι w v) (e : truB h w = some b) : TruV K v H b := by
  cases w with
  | non => cases r; cases e; exact rfl
  | bl c => cases r; cases e; exact rfl
  | int i => cases r; cases e; exact rfl
  | str s =>
    cases r
    unfold truB at e
    dsimp only at e
    split at e
    · rename_i hz
      cases e
      exact ⟨by rw [sz_eq]; exact hz, rfl⟩
    · cases e
  | tup ws =>
    obtain ⟨a, xs, rfl, t, r⟩ := r
    cases e
    exact .inr (.inl ⟨xs, t.sq, by rw [r.emp]⟩)
  | rls ws =>
    obtain ⟨a, xs, rfl, t, r⟩ := r
    cases e
    exact .inl ⟨xs, t.sq, by rw [r.emp]⟩
  | cl C => cases e
  | loc n =>
    obtain ⟨a, ei, rfl⟩ := r
    unfold truB at e
    dsimp only at e
    split at e
    · rename_i e0
      cases e
      obtain ⟨xs, q, r⟩ := S.lst e0 ei
      exact .inl ⟨xs, .of q, by rw [r.emp]⟩
    · rename_i e0
      cases e
      obtain ⟨ys, q, r⟩ := S.dct e0 ei
      exact .inr (.inr ⟨ys, q, by rw [r.emp]⟩)
    · cases e

section
variable {X : Cx}
theorem x_ix : IxR X (rL X.K ixW) := by
  intro value slice pins s σ H x y v u Q I rx ry hq hs
  obtain ⟨ι, h, wx, wy, S, ax, ay, hw⟩ := hq
  refine ix_seq (X := X) value slice pins s σ H x y v u Q I rx ry ?_ hs
  unfold ixW at hw
  split at hw
  · split at hw
    · rename_i e
      cases ay
      obtain ⟨a, xs, rfl, t, r⟩ := ax
      obtain ⟨z, ez, rz⟩ := r.atI e
      exact .inr (.inl ⟨a, xs, _, z, rfl, rfl, t.sq, ez, hw _ _ _ S .refl rz⟩)
    · exact hw.elim
  · split at hw
    · rename_i e
      cases ay
      obtain ⟨a, xs, rfl, t, r⟩ := ax
      obtain ⟨z, ez, rz⟩ := r.atI e
      exact .inl ⟨a, xs, _, z, rfl, rfl, t.sq, ez, hw _ _ _ S .refl rz⟩
    · exact hw.elim
  · split at hw
    · rename_i hz
      split at hw
      · rename_i e
        cases ax
        cases ay
        exact .inr (.inr ⟨_, _, _, rfl, rfl, by rw [sz_eq]; exact hz, e, hw _ _ _ S .refl rfl⟩)
      · exact hw.elim
    · exact hw.elim
  · split at hw
    · rename_i e0
      split at hw
      · rename_i e
        cases ay
        obtain ⟨a, ei, rfl⟩ := ax
        obtain ⟨xs, q, r⟩ := S.lst e0 ei
        obtain ⟨z, ez, rz⟩ := r.atI e
        exact .inl ⟨a, xs, _, z, rfl, rfl, .of q, ez, hw _ _ _ S .refl rz⟩
      · exact hw.elim
    · exact hw.elim
  · exact hw.elim
def rSlW (K : PySem.W.Frag) : V → Option Int → Option Int → Hp → VK → Prop := fun x lo hi H Q => ∃ ι h wx, Sim K H ι h ∧ Rv K H ι wx x ∧ wpR (slW wx lo hi h) (fun w h' => Goes K ι H Q w h') (fun _ _ => False)
theorem x_sl : SlR X (rSlW X.K) := by
  intro pins s σ H x v vl vu lo hi sl Q I rx hsl pl pu hq
  obtain ⟨ι, h, wx, S, ax, hw⟩ := hq
  unfold slW at hw
  split at hw
  · obtain ⟨a, xs, rfl, t, r⟩ := ax
    refine sl_tupA (X := X) pins s σ H _ v vl vu _ _ sl Q I rx hsl pl pu ⟨a, xs, rfl, t.sq, fun hall => ?_, fun _ p hp => ?_⟩
    · refine hw _ _ _ S .refl ⟨a, xs, rfl, t, ?_⟩
      have rc := r.cut lo hi
      have e : cutV xs lo hi = xs := by
        unfold cutV
        rw [hall.1, hall.2]
        simp
      rw [e] at rc
      exact rc
    · exact fin_tup hw S (r.cut lo hi) (Nat.le_trans (cutV_length xs lo hi) t.1) hp
  · split at hw
    · rename_i hz
      cases ax
      exact sl_str (X := X) pins s σ H _ v vl vu _ _ sl Q I rx hsl pl pu ⟨_, rfl, by rw [sz_eq]; exact hz, hw _ _ _ S .refl rfl⟩
    · exact hw.elim
  · split at hw
    · rename_i e0
      obtain ⟨a, ei, rfl⟩ := ax
      obtain ⟨xs, q, r⟩ := S.lst e0 ei
      exact sl_list (X := X) pins s σ H _ v vl vu _ _ sl Q I rx hsl pl pu ⟨a, xs, rfl, .of q, fun p hp => fin_lst hw S (r.cut lo hi) hp⟩
    · exact hw.elim
  · exact hw.elim
end

/-! ### built-in functions -/
def lenB (h : Hh) : W → Option Nat
  | .str s => if s.length ≤ Sz then some s.length else none
  | .tup ws => some ws.length
  | .rls ws => some ws.length
  | .loc n => match h[n]? with
    | some (.lst ws) => some ws.length
    | some (.dct _ kvs) => some kvs.length
    | _ => none
  | _ => none
def lenW : List W → Hh → R W
  | [x], h => match lenB h x with
    | some n => .ok (.int n) h
    | none => .stk
  | _, _ => .stk
def blsW : List W → Option (List Bool)
  | [] => some []
  | .bl b :: r => match blsW r with
    | some bs => some (b :: bs)
    | none => none
  | _ => none
theorem blsW_ok : ∀ {ws : List W} {bs : List Bool}, blsW ws = some bs → ws = bs.map W.bl
  | [], _, e => by cases e; rfl
  | .bl b :: r, bs, e => by
    unfold blsW at e
    split at e
    · rename_i bs' e'
      cases e
      rw [blsW_ok e']
      rfl
    · cases e
  | .non :: _, _, e => by cases e
  | .int _ :: _, _, e => by cases e
  | .str _ :: _, _, e => by cases e
  | .tup _ :: _, _, e => by cases e
  | .rls _ :: _, _, e => by cases e
  | .loc _ :: _, _, e => by cases e
  | .cl _ :: _, _, e => by cases e
def allW : List W → Hh → R W
  | [.loc n], h => match h[n]? with
    | some (.lst ws) => match blsW ws with
      | some bs => .ok (.bl (bs.all id)) h
      | none => .stk
    | _ => .stk
  | _, _ => .stk
def anyW : List W → Hh → R W
  | [.loc n], h => match h[n]? with
    | some (.lst ws) => match blsW ws with
      | some bs => .ok (.bl (bs.any id)) h
      | none => .stk
    | _ => .stk
  | _, _ => .stk
def strsW : List W → Option (List Str)
  | [] => some []
  | .str b :: r => match strsW r with
    | some bs => some (b :: bs)
    | none => none
  | _ => none
theorem strsW_ok : ∀ {ws : List W} {bs : List Str}, strsW ws = some bs → ws = bs.map W.str
  | [], _, e => by cases e; rfl
  | .str b :: r, bs, e => by
    unfold strsW at e
    split at e
    · rename_i bs' e'
      cases e
      rw [strsW_ok e']
      rfl
    · cases e
  | .non :: _, _, e => by cases e
  | .int _ :: _, _, e => by cases e
  | .bl _ :: _, _, e => by cases e
  | .tup _ :: _, _, e => by cases e
  | .rls _ :: _, _, e => by cases e
  | .loc _ :: _, _, e => by cases e
  | .cl _ :: _, _, e => by cases e
theorem strsW_map (ss : List Str) : strsW (ss.map W.str) = some ss := by
  induction ss with
  | nil => rfl
  | cons s r ih =>
    show (match strsW (r.map W.str) with | some bs => some (s :: bs) | none => none) = _
    rw [ih]
theorem blsW_map (ss : List Bool) : blsW (ss.map W.bl) = some ss := by
  induction ss with
  | nil => rfl
  | cons s r ih =>
    show (match blsW (r.map W.bl) with | some bs => some (s :: bs) | none => none) = _
    rw [ih]
def kW : Key → W
  | .inl i => .int i
  | .inr s => .str s
def listW : List W → Hh → R W
  | [.tup ws], h => .ok (.loc h.length) (h ++ [.lst ws])
  | [.loc n], h => match h[n]? with
    | some (.lst ws) => .ok (.loc h.length) (h ++ [.lst ws])
    | some (.dct false kvs) => .ok (.loc h.length) (h ++ [.lst (kvs.map fun kv => kW kv.1)])
    | _ => .stk
  | _, _ => .stk
def tupleW : List W → Hh → R W
  | [.tup ws], h => .ok (.tup ws) h
  | [.str z], h => if z.length ≤ Sz then .ok (.tup (z.cps.toList.map fun c => .str ⟨#[c]⟩)) h else .stk
  | [.loc n], h => match h[n]? with
    | some (.lst ws) => if ws.length ≤ Sz then .ok (.tup ws) h else .stk
    | some (.dct false kvs) => if kvs.length ≤ Sz then .ok (.tup (kvs.map fun kv => kW kv.1)) h else .stk
    | _ => .stk
  | _, _ => .stk
def strW : List W → Hh → R W
  | [.int i], h => if i.natAbs < 10 ^ 100 then .ok (.str (toString i)) h else .stk
  | [.str z], h => .ok (.str z) h
  | _, _ => .stk
def minW : List W → Hh → R W
  | [.int i, .int j], h => .ok (.int (if j < i then j else i)) h
  | _, _ => .stk
def maxW : List W → Hh → R W
  | [.int i, .int j], h => .ok (.int (if j > i then j else i)) h
  | _, _ => .stk
theorem Rkv.keys {K : PySem.W.Frag} {H : Hp} {ι : List Addr} : ∀ {kvs : List (Key × W)} {ys : List (Key × V)}, Rkv K H ι kvs ys → Rvs K H ι (kvs.map fun kv => kW kv.1) (ys.map fun kv => kV kv.1)
  | [], _, r => by rw [show _ = [] from r]; exact rfl
  | (k, w) :: _, _, ⟨x, r, e1, a, t⟩ => by
    rw [e1]
    refine ⟨kV k, _, rfl, ?_, Rkv.keys t⟩
    cases k <;> rfl
theorem log2_lt {i : Int} (h : i.natAbs < 10 ^ 100) : i.natAbs.log2 < 1920 := by
  by_cases h0 : i.natAbs = 0
  · rw [h0]; decide
  · rw [Nat.log2_lt h0]
    exact Nat.lt_trans h (by decide +kernel)
section
variable {X : Cx}
theorem c_len : CallR X (.builtin "len") (rLs X.K lenW) := by
  intro pins s σ H xs us Q I r hq
  obtain ⟨ι, h, ws, S, ar, hw⟩ := hq
  unfold lenW at hw
  split at hw
  · rename_i w
    obtain ⟨x, r1, rfl, ax, e⟩ := ar
    rw [show r1 = [] from e] at r
    split at hw
    · rename_i n en
      have q := hw (.int n) _ _ S .refl rfl
      unfold lenB at en
      split at en
      · split at en
        · rename_i hz
          cases en
          cases ax
          exact call_len pins s σ H _ us Q I r ⟨_, _, rfl, ⟨by rw [sz_eq]; exact hz, rfl⟩, q⟩
        · cases en
      · cases en
        obtain ⟨a, ys, rfl, t, ra⟩ := ax
        exact call_len pins s σ H _ us Q I r ⟨_, _, rfl, .inr ⟨ys, t.sq, ra.len.symm⟩, q⟩
      · cases en
        obtain ⟨a, ys, rfl, t, ra⟩ := ax
        exact call_len pins s σ H _ us Q I r ⟨_, _, rfl, .inl ⟨ys, t.sq, ra.len.symm⟩, q⟩
      · obtain ⟨a, ei, rfl⟩ := ax
        split at en
        · rename_i e0
          cases en
          obtain ⟨ys, qs, ra⟩ := S.lst e0 ei
          exact call_len pins s σ H _ us Q I r ⟨_, _, rfl, .inl ⟨ys, .of qs, ra.len.symm⟩, q⟩
        · rename_i e0
          cases en
          obtain ⟨ys, qs, ra⟩ := S.dctR e0 ei
          obtain ⟨u, rfl, ru⟩ := vals1 r
          cases ru
          have el := ra.len
          exact d_len I qs fun t s' I' => ⟨.int ys.length, H, I', ⟨t, rfl⟩, by rw [el]; exact q⟩
        · cases en
      · cases en
    · exact hw.elim
  · exact hw.elim
theorem c_all (hc : X.calm = true) : CallR X (.builtin "all") (rLs X.K allW) := by
  intro pins s σ H xs us Q I r hq
  obtain ⟨ι, h, ws, S, ar, hw⟩ := hq
  unfold allW at hw
  split at hw
  · obtain ⟨x, r1, rfl, ⟨a, ei, rfl⟩, e⟩ := ar
    rw [show r1 = [] from e] at r
    split at hw
    · rename_i e0
      split at hw
      · rename_i bs eb
        obtain ⟨ys, q, ra⟩ := S.lst e0 ei
        rw [blsW_ok eb] at ra
        rw [ra.bls] at q
        exact cr_all hc pins s σ H _ us Q I r ⟨a, bs, rfl, .of q, hw _ _ _ S .refl rfl⟩
      · exact hw.elim
    · exact hw.elim
  · exact hw.elim
theorem c_any (hc : X.calm = true) : CallR X (.builtin "any") (rLs X.K anyW) := by
  intro pins s σ H xs us Q I r hq
  obtain ⟨ι, h, ws, S, ar, hw⟩ := hq
  unfold anyW at hw
  split at hw
  · obtain ⟨x, r1, rfl, ⟨a, ei, rfl⟩, e⟩ := ar
    rw [show r1 = [] from e] at r
    split at hw
    · rename_i e0
      split at hw
      · rename_i bs eb
        obtain ⟨ys, q, ra⟩ := S.lst e0 ei
        rw [blsW_ok eb] at ra
        rw [ra.bls] at q
        exact cr_any hc pins s σ H _ us Q I r ⟨a, bs, rfl, .of q, hw _ _ _ S .refl rfl⟩
      · exact hw.elim
    · exact hw.elim
  · exact hw.elim
theorem c_list (hc : X.calm = true) : CallR X (.type "list") (rLs X.K listW) := by
  intro pins s σ H xs us Q I r hq
  obtain ⟨ι, h, ws, S, ar, hw⟩ := hq
  unfold listW at hw
  split at hw
  · obtain ⟨x, r1, rfl, ⟨a, ys, rfl, t, ra⟩, e⟩ := ar
    rw [show r1 = [] from e] at r
    exact call_list_of pins s σ H _ us Q I r ⟨a, ys, rfl, .inr t.sq, fun p hp => fin_lst hw S ra hp⟩
  · obtain ⟨x, r1, rfl, ⟨a, ei, rfl⟩, e⟩ := ar
    rw [show r1 = [] from e] at r
    split at hw
    · rename_i e0
      obtain ⟨ys, q, ra⟩ := S.lst e0 ei
      exact call_list_of pins s σ H _ us Q I r ⟨a, ys, rfl, .inl (.of q), fun p hp => fin_lst hw S ra hp⟩
    · rename_i e0
      obtain ⟨ys, q, ra⟩ := S.dct e0 ei
      exact call_list_dK hc pins s σ H _ us Q I r ⟨a, ys, rfl, q, fun p hp => fin_lst hw S ra.keys hp⟩
    · exact hw.elim
  · exact hw.elim
theorem vals_signs : ∀ (l : List Nat) (acc : List Value), acc.length = l.length → (∀ (j : Nat) (v : Value), acc[j]? = some v → ∃ c u, l[j]? = some c ∧ v = .str ⟨#[c]⟩ u) → Vals (l.map fun c => V.str ⟨#[c]⟩) acc
  | [], [], _, _ => .nil
  | [], _ :: _, e, _ => by cases e
  | _ :: _, [], e, _ => by cases e
  | c :: l, v :: acc, e, k => by
    obtain ⟨c', u, e1, rfl⟩ := k 0 v rfl
    cases e1
    exact .cons ⟨u, rfl⟩ (vals_signs l acc (by simpa using e) fun j v h => k (j + 1) v (by simpa using h))
theorem rvs_signs {K : PySem.W.Frag} {H : Hp} {ι : List Addr} : ∀ l : List Nat, Rvs K H ι (l.map fun c => W.str ⟨#[c]⟩) (l.map fun c => V.str ⟨#[c]⟩)
  | [] => rfl
  | _ :: l => ⟨_, _, rfl, rfl, rvs_signs l⟩
theorem c_tuple (hc : X.calm = true) : CallR X (.type "tuple") (rLs X.K tupleW) := by
  intro pins s σ H xs us Q I r hq
  obtain ⟨ι, h, ws, S, ar, hw⟩ := hq
  unfold tupleW at hw
  split at hw
  · obtain ⟨x, r1, rfl, ⟨a, ys, rfl, t, ra⟩, e⟩ := ar
    rw [show r1 = [] from e] at r
    exact call_tuple_of pins s σ H _ us Q I r ⟨a, ys, rfl, .inr ⟨t.sq, hw _ _ _ S .refl ⟨a, ys, rfl, t, ra⟩⟩⟩
  · split at hw
    · rename_i z hz
      obtain ⟨x, r1, rfl, ex, e⟩ := ar
      rw [show r1 = [] from e] at r
      cases (show x = V.str z from ex)
      obtain ⟨u, rfl, rx⟩ := vals1 r
      obtain ⟨t, rfl⟩ := rx
      have hz' : z.cps.size ≤ sizeLine := by rw [sz_eq]; exact hz
      refine PySem.call_tuple_str (I.ok.hd hc) z t (fun h' tk acc kp ia => ?_) hz'
      have I1 : Inv X pins σ H { s with heap := h', toks := tk } := I.kept (t' := tk) kp
      have hz2 : (z.cps.toList.map fun c => V.str ⟨#[c]⟩).length ≤ sizeLine := by rw [List.length_map, Array.length_toList]; exact hz'
      have rv : Vals (z.cps.toList.map fun c => V.str ⟨#[c]⟩) acc.toList := vals_signs _ _ (by rw [Array.length_toList, Array.length_toList]; exact ia.1) fun j v hj => by
        obtain ⟨c, u, e1, e2⟩ := ia.2 j v (by simpa using hj)
        exact ⟨c, u, by simpa using e1, e2⟩
      have I2 : Inv X pins σ (upd H h'.objs.size (.tup (z.cps.toList.map fun c => V.str ⟨#[c]⟩))) { s with heap := h'.push { cls := .type "tuple", data := .seq acc }, toks := tk } :=
        I1.laid (t' := tk) (fun b o e => Heap.get?_push_of_some _ e) (Nat.le_refl _) (show ObjOk X.prog X.w _ _ _ (.tup _) from ⟨hz2, acc.toList, rv, by
          rw [Array.toArray_toList]
          exact IsTup.new h' acc⟩)
      exact ⟨.ref h'.objs.size, _, I2, rfl, fin_tup hw S (rvs_signs _) hz2 (I1.hok.fresh (Nat.le_refl _))⟩
    · exact hw.elim
  · obtain ⟨x, r1, rfl, ⟨a, ei, rfl⟩, e⟩ := ar
    rw [show r1 = [] from e] at r
    split at hw
    · rename_i e0
      split at hw
      · rename_i hz
        obtain ⟨ys, q, ra⟩ := S.lst e0 ei
        exact call_tuple_of pins s σ H _ us Q I r ⟨a, ys, rfl, .inl ⟨.of q, fun p hp => fin_tup hw S ra (by rw [ra.len, sz_eq]; exact hz) hp⟩⟩
      · exact hw.elim
    · rename_i e0
      split at hw
      · rename_i hz
        obtain ⟨ys, q, ra⟩ := S.dct e0 ei
        exact call_tupleD hc pins s σ H _ us Q I r ⟨a, ys, rfl, .inl q, fun p hp => fin_tup hw S ra.keys (by rw [ra.keys.len, sz_eq, List.length_map]; exact hz) hp⟩
      · exact hw.elim
    · exact hw.elim
  · exact hw.elim
theorem c_str : CallR X (.type "str") (rLs X.K strW) := by
  intro pins s σ H xs us Q I r hq
  obtain ⟨ι, h, ws, S, ar, hw⟩ := hq
  unfold strW at hw
  split at hw
  · split at hw
    · rename_i hz
      obtain ⟨x, r1, rfl, ax, e⟩ := ar
      rw [show r1 = [] from e] at r
      cases ax
      exact call_str_int pins s σ H _ us Q I r ⟨_, rfl, log2_lt hz, hw _ _ _ S .refl rfl⟩
    · exact hw.elim
  · obtain ⟨x, r1, rfl, ax, e⟩ := ar
    rw [show r1 = [] from e] at r
    cases ax
    exact SkE.call_str_str pins s σ H _ us Q I r ⟨_, rfl, hw _ _ _ S .refl rfl⟩
  · exact hw.elim
theorem c_min (hc : X.calm = true) : CallR X (.builtin "min") (rLs X.K minW) := by
  intro pins s σ H xs us Q I r hq
  obtain ⟨ι, h, ws, S, ar, hw⟩ := hq
  unfold minW at hw
  split at hw
  · obtain ⟨x, r1, rfl, ax, y, r2, rfl, ay, e⟩ := ar
    rw [show r2 = [] from e] at r
    cases ax
    cases ay
    exact call_min2 hc pins s σ H _ us Q I r ⟨_, _, rfl, hw _ _ _ S .refl rfl⟩
  · exact hw.elim
theorem c_max (hc : X.calm = true) : CallR X (.builtin "max") (rLs X.K maxW) := by
  intro pins s σ H xs us Q I r hq
  obtain ⟨ι, h, ws, S, ar, hw⟩ := hq
  unfold maxW at hw
  split at hw
  · obtain ⟨x, r1, rfl, ax, y, r2, rfl, ay, e⟩ := ar
    rw [show r2 = [] from e] at r
    cases ax
    cases ay
    exact call_max2 hc pins s σ H _ us Q I r ⟨_, _, rfl, hw _ _ _ S .refl rfl⟩
  · exact hw.elim
end
end NB

set_option Elab.async false
set_option linter.all false
set_option maxRecDepth 100000
set_option maxHeartbeats 4000000
/-! NbD: contracts of defs over data values; calls. -/
namespace NB
open PySem PySem.Spec L2
open PyProof.Rows hiding St

/-- what is known of running reprs, where it is asked for -/
def Gd (g : Bool) (A : Around) : Prop := g = true → A.guards = some []
theorem Gd.deeper {g : Bool} {A : Around} (x : Gd g A) (env : Env) : Gd g (A.deeper env) := x
theorem Gd.make {g : Bool} {A : Around} (x : Gd g A) (C : Addr) (us : List Value) (kw : List (Str × Value)) : Gd g (A.under (.builtin "type.__call__" ⟨.ref C :: us, kw⟩)) := fun e => by
  have h := x e
  first
    | exact h
    | simp [Around.under, Code.guards, Code.isGuard, pushGuards, h, guardIds]
/-- a def keeps its promise (FnOk, with Gd; what leaves it: CX) -/
structure FnG (g : Bool) (P : Program) (w : World) (K : PySem.W.Frag) (mg : Str → Option Value) (base : Heap) (k : Nat) (f : Addr) (fd : FuncData) (ps : List Str) (sp : Sp) : Prop where
  len : ∀ vs H Q E, sp vs H Q E → vs.length = ps.length
  go : ∀ (A : Around) (outer : List Env) (s : Shared) (H : Hp) (args : Args) (us : List Value) (vs : List V) (Q : VK) (E : XK), Gd g A → Room k A → Env0 P w K mg base A outer s H → BindsTo s fd args (ps.zip us) → Vals vs us →
    sp vs H Q E → codeAny (model P w) A (.call (.ref f) args) (CR (CX P w) outer P w H s Q E) s
theorem FnG.plain {P : Program} {w : World} {K : PySem.W.Frag} {mg : Str → Option Value} {base : Heap} {k : Nat} {f : Addr} {fd : FuncData} {ps : List Str} {sp : Sp} (F : FnG false P w K mg base k f fd ps sp) : FnOk P w K mg base (CX P w) k f fd ps sp :=
  ⟨F.len, fun A o s H a us vs Q E hr e b v q => F.go A o s H a us vs Q E (fun z => nomatch z) hr e b v q⟩
theorem FnG.mono {g : Bool} {P : Program} {w : World} {K : PySem.W.Frag} {mg : Str → Option Value} {base : Heap} {j k : Nat} {f : Addr} {fd : FuncData} {ps : List Str} {sp : Sp} (F : FnG g P w K mg base j f fd ps sp) (h : j ≤ k) : FnG g P w K mg base k f fd ps sp :=
  ⟨F.len, fun A o s H a us vs Q E hg hr e b v q => F.go A o s H a us vs Q E hg (hr.mono h) e b v q⟩
/-- a def by its body -/
theorem FnG.of {g : Bool} {P : Program} {w : World} {K : PySem.W.Frag} {mg : Str → Option Value} {base : Heap} {k : Nat} {f : Addr} {fd : FuncData} {x qual : Str} {params : Arguments} {body : List Stmt} {scope : Scope} {dvs : List V} {kws : List (Str × V)} {N ps : List Str} {sp : Sp}
    (F : FunD K x qual params body scope dvs kws f fd) (S : FnScope N ps scope) (len : ∀ vs H Q E, sp vs H Q E → vs.length = ps.length)
    (hbody : ∀ (cdv : Value) (A : Around) (outer : List Env) (s : Shared) (H : Hp) (vs : List V) (Q : VK) (E : XK), Gd g A → Room k (A.deeper (envOfC qual scope s.heap.objs.size f cdv)) → sp vs H Q E →
      ∃ t, PSs (cxOf (CX P w) P w K mg base N qual scope f cdv A outer s H E) body t ∧ t { nx := fun _ H' => Q .non H', rt := Q } (start N vs) H) : FnG g P w K mg base (k + 1) f fd ps sp := by
  obtain ⟨oc, od, dV, kV, doc, pm, an, cdv, ct, osl, rfl, lk, hcd, _, _⟩ := F.ex
  refine ⟨len, fun A outer s H args us vs Q E hg hr e0 hb r hsp => ?_⟩
  have old : ∀ b o, base.get? b = some o → s.heap.get? b = some o := fun b o e => (e0.bs b o e).1
  have KX := e0.mod.kin.keeps old
  refine codeAny_call_function hr.depth (KX _ _ lk) rfl S.co S.gen rfl (PySem.W.codeRec_of KX hcd) (hb _ _ _ _ ?_)
  refine wpAny_newFunctionEnv_cells S.kind (fun y hy => ?_) fun env he s1 x => ?_
  · have hy1 : y.1 ∈ ps := (List.of_mem_zip (a := y.1) (b := y.2) hy).1
    rcases S.par y.1 hy1 with q | q
    · exact .inl q
    · exact .inr ⟨q, PySem.W.cellsFrom_some _ _ _ (.inl q)⟩
  · subst he
    refine ⟨(e0.mod.nolimit.keeps old).keeps x.toInCall.keep, codeAny_func ?_⟩
    obtain ⟨t, ht, hq⟩ := hbody cdv A outer s H vs Q E hg (hr.deeper _) hsp
    have I := inv_start (CX := CX P w) (E := E) S hr.hd e0 (len _ _ _ _ hsp) r x
    refine wpAny_mono (ht.run [] s1 (start N vs) H _ I hq) (fun fl s' hs => ?_) fun _ _ hs => hs
    cases fl with
    | ret u =>
      obtain ⟨v, σ', H', J, rv, q⟩ := hs
      exact ⟨v, H', J.os, J.bare, J.base, J.hok, rv, q⟩
    | next =>
      obtain ⟨σ', H', J, q⟩ := hs
      exact ⟨.non, H', J.os, J.bare, J.base, J.hok, rfl, q⟩
    | brk => exact hs.choose_spec.choose_spec.2.elim
    | cont => exact hs.choose_spec.choose_spec.2.elim

/-! ### contracts from functions -/
section
variable (K : PySem.W.Frag)
/-- an exception of an own class with fields -/
def ExcR (H : Hp) (ι : List Addr) (x : Exn) (cls : Value) (d : Option Addr) : Prop := cls = .ref (He.ga K x.cls) ∧ ∃ dd gs, d = some dd ∧ H dd = some (.xd gs) ∧ Rkv K H ι x.fs gs
/-- the promise of a function on data values of n parameters -/
def spL (n : Nat) (f : List W → Hh → R W) : Sp := fun vs H Q E => vs.length = n ∧ ∃ ι h ws, Sim K H ι h ∧ Rvs K H ι ws vs ∧ wpR (f ws h) (fun w h' => Goes K ι H Q w h')
  (fun x h' => ∀ H' ι' cls d, Sim K H' ι' h' → Ext ι H ι' H' → ExcR K H' ι' x cls d → E cls d H')
/-- a wish of ours as the layer's -/
def wOf (E : Wish) : WX := fun cls d σ H => ∃ x s h ι, Sim K H ι h ∧ Sl K H ι s σ ∧ ExcR K H ι x cls d ∧ E x s h ι H σ
end
/-- a context whose exceptions are wished for by E -/
def TakesL (X : Cx) (E : Wish) : Prop := Takes X (wOf X.K E)

section
variable {g : Bool} {X : Cx} {k : Nat} {f C : Addr} {fd : FuncData} {ps : List Str} {sp : Sp} {dvs : List V} {ds : List Value} {WW : WX} {x m : Str} {p pos apos : Pos} {e o : Expr} {es : List Expr} {ta : TE} {t : TA}
/-- the callee's exceptions land in the wish at the caller's slots -/
def eAt (WW : WX) (σ : St) : XK := fun cls d H' => WW cls d σ H'
theorem runG {pins : List (Addr × Obj)} {σ : St} {H : Hp} {s : Shared} {Q : VK} {us : List Value} {vs : List V} (F : FnG g X.prog X.w X.K X.mg X.base k f fd ps sp) (hg : Gd g X.A) (hr : Room k X.A) (hb : Binds X.K fd ps ds) (hd : Vals dvs ds)
    (tk : Takes X WW) (I : Inv X pins σ H s) (r : Vals vs us) (h : sp (vs ++ dvs) H Q (eAt WW σ)) : wpAny (model X.prog X.w) X.A (call (.ref f) us) (EP X pins σ Q) X.xe s := by
  have r2 : Vals (vs ++ dvs) (us ++ ds) := r.append hd
  have hl : (us ++ ds).length = ps.length := r2.length.symm.trans (F.len _ _ _ _ h)
  refine wpAny_call (codeAny_mono (F.go X.A X.stack s H ⟨us, []⟩ (us ++ ds) (vs ++ dvs) Q (eAt WW σ) hg hr I.env0 (hb s us I.kIn hl) r2 h) fun r s' hq => ?_)
  match r, hq with
  | .error e, hq => exact tk e s' (XE.of_call I (fun _ _ _ z => z) hq)
  | .ok (.ret u), hq => exact I.after hq
/-- f(e, ..) -/
theorem callG (F : FnG g X.prog X.w X.K X.mg X.base k f fd ps sp) (hg' : Gd g X.A) (hr : Room k X.A) (hg : Gl X x) (hm : X.mg x = some (.ref f)) (hk : PySem.W.keepIn X.K (.ref f) = true) (hb : Binds X.K fd ps ds) (hd : Vals dvs ds) (tk : Takes X WW)
    (ha : PA X (e :: es) t) (hdb : (x == ("__debug__" : Str)) = false) (he : starEach (e :: es) X.env = (false, eval e X.env) :: starEach es X.env) (hpl : (backTo pos (starEach es X.env)).any (·.1) = false) :
    PE X (.Call (.Name x p) (e :: es) [] pos) (fun σ H Q => t σ H fun vs H1 => sp (vs ++ dvs) H1 Q (eAt WW σ)) :=
  ⟨fun pins s σ H Q I h => wpAny_Call_Name_kw (ld_glob I hg hm (PySem.W.callWith_K (h₀ := X.base) I.ok.mod.kin hk (thn (ha.run pos pins s σ H _ I h) fun us s1 ⟨vs, H1, I1, r, q⟩ => ⟨I1.kIn, runG F hg' hr hb hd tk I1 r q⟩) he hpl) hdb)⟩
theorem callG0 (F : FnG g X.prog X.w X.K X.mg X.base k f fd ps sp) (hg' : Gd g X.A) (hr : Room k X.A) (hg : Gl X x) (hm : X.mg x = some (.ref f)) (hk : PySem.W.keepIn X.K (.ref f) = true) (hb : Binds X.K fd ps ds) (hd : Vals dvs ds) (tk : Takes X WW)
    (hdb : (x == ("__debug__" : Str)) = false) : PE X (.Call (.Name x p) [] [] pos) (fun σ H Q => sp dvs H Q (eAt WW σ)) :=
  ⟨fun pins s σ H Q I h => wpAny_Call_Name_kw (ld_glob I hg hm (PySem.W.callWith_K0 I.kIn hk (runG (us := []) F hg' hr hb hd tk I .nil h)) hdb)⟩
/-- o.m(e, ..) of an own class -/
theorem methG {pl : Sem Bool} (he : PE X o ta) (c : Cls X.K C) (hm : Meth X.K C m f) (F : FnG g X.prog X.w X.K X.mg X.base k f fd ps sp) (hg : Gd g X.A) (hr : Room k X.A) (hb : Binds X.K fd ps ds) (hd : Vals dvs ds) (tk : Takes X WW) (ha : PA X (e :: es) t)
    (hst : starEach (e :: es) X.env = (false, eval e X.env) :: starEach es X.env) (hpl : (backTo pos (starEach es X.env)).any (·.1) = false)
    (ht : eval (.Call (.Attribute o m apos) (e :: es) [] pos) X.env = (do
      let ov ← eval o X.env
      standAt apos.atName
      let (f, first) ← holding [ov] (getMethod ov m pl)
      callWith pos f first (backTo pos (starEach (e :: es) X.env)) (backToKw pos (keywordEach [] X.env)))) :
    PE X (.Call (.Attribute o m apos) (e :: es) [] pos) (fun σ H Q => ta σ H fun x H1 => ∃ a dx fs, x = .ref a ∧ H1 a = some (.ins C dx fs) ∧ fs.lookup m = none ∧ t σ H1 fun vs H2 => sp (x :: (vs ++ dvs)) H2 Q (eAt WW σ)) := by
  refine ⟨fun pins s σ H Q I h => ?_⟩
  refine PySem.W.methodCall_KW (pl := pl) (thn (he.run pins s σ H _ I h) fun u s1 ⟨x, H1, I1, rx, a, dx, fs, ex, ea, l, q⟩ => ?_) ht
  subst ex
  have eu : u = Value.ref a := rx
  subst eu
  exact getmeth_ok I1 ea c hm l (PySem.W.callWith_K (first := [.ref a]) (h₀ := X.base) I.ok.mod.kin hm.kp (thn (ha.run pos pins s1 σ H1 _ I1 q) fun us s2 ⟨vs, H2, I2, r, q2⟩ => ⟨I2.kIn, runG (us := .ref a :: us) (vs := .ref a :: vs) F hg hr hb hd tk I2 (.cons rfl r) q2⟩) hst hpl)
theorem methG0 {pl : Sem Bool} (he : PE X o ta) (c : Cls X.K C) (hm : Meth X.K C m f) (F : FnG g X.prog X.w X.K X.mg X.base k f fd ps sp) (hg : Gd g X.A) (hr : Room k X.A) (hb : Binds X.K fd ps ds) (hd : Vals dvs ds) (tk : Takes X WW)
    (ht : eval (.Call (.Attribute o m apos) [] [] pos) X.env = (do
      let ov ← eval o X.env
      standAt apos.atName
      let (f, first) ← holding [ov] (getMethod ov m pl)
      callWith pos f first (backTo pos (starEach [] X.env)) (backToKw pos (keywordEach [] X.env)))) :
    PE X (.Call (.Attribute o m apos) [] [] pos) (fun σ H Q => ta σ H fun x H1 => ∃ a dx fs, x = .ref a ∧ H1 a = some (.ins C dx fs) ∧ fs.lookup m = none ∧ sp (x :: dvs) H1 Q (eAt WW σ)) := by
  refine ⟨fun pins s σ H Q I h => ?_⟩
  refine PySem.W.methodCall_KW (pl := pl) (thn (he.run pins s σ H _ I h) fun u s1 ⟨x, H1, I1, rx, a, dx, fs, ex, ea, l, q⟩ => ?_) ht
  subst ex
  have eu : u = Value.ref a := rx
  subst eu
  exact getmeth_ok I1 ea c hm l (PySem.W.callWith_K0 (first := [.ref a]) I1.kIn hm.kp (runG (us := [.ref a]) (vs := [.ref a]) F hg hr hb hd tk I1 (.cons rfl .nil) q))
/-- C(e, ..) -/
theorem runMk {pins : List (Addr × Obj)} {σ : St} {H : Hp} {s : Shared} {Q : VK} {us : List Value} {vs : List V} (M : Mk X.K C f) (F : FnG g X.prog X.w X.K X.mg X.base k f fd ps sp) (hg : Gd g X.A) (hr : Room (k + 1) X.A) (hb : Binds X.K fd ps ds) (hd : Vals dvs ds)
    (tk : Takes X WW) (I : Inv X pins σ H s) (r : Vals vs us)
    (h : ∀ x dx, H x = none → H dx = none → dx ≠ x → sp (.ref x :: (vs ++ dvs)) (upd (upd H dx (.own x)) x (.ins C dx [])) (fun v H2 => v = .non ∧ Q (.ref x) H2) (eAt WW σ)) :
    wpAny (model X.prog X.w) X.A (call (.ref C) us) (EP X pins σ Q) X.xe s := by
  have ne : s.heap.objs.size ≠ s.heap.objs.size + 1 := by omega
  have hq := h (s.heap.objs.size + 1) s.heap.objs.size (I.hok.fresh (by omega)) (I.hok.fresh (by omega)) ne
  have I2 := Inv.made (C := C) I
  have r2 : Vals (V.ref (s.heap.objs.size + 1) :: (vs ++ dvs)) (Value.ref (s.heap.objs.size + 1) :: (us ++ ds)) := .cons rfl (r.append hd)
  have hl : (Value.ref (s.heap.objs.size + 1) :: us ++ ds).length = ps.length := r2.length.symm.trans (F.len _ _ _ _ hq)
  refine wpAny_call (make_map (f := f) I.kIn M.makes M.init (beq_iff_eq.mp M.fn) (codeAny_mono (F.go _ X.stack _ _ ⟨Value.ref (s.heap.objs.size + 1) :: us, []⟩ _ _ _ _ (hg.make C us []) (hr.make C us [])
    (I2.env0.make C us []) (hb _ (Value.ref (s.heap.objs.size + 1) :: us) I2.kIn hl) r2 hq) fun r s' hq' => ?_))
  match r, hq' with
  | .error e, hq' => exact tk e s' (XE.of_call I2 (fun _ _ _ z => z) hq')
  | .ok (.ret u), hq' =>
    obtain ⟨v, H', I3, rv, ev, q3⟩ := I2.after hq'
    subst ev
    exact ⟨rv, ⟨V.ref (s.heap.objs.size + 1), H', I3, rfl, q3⟩⟩
theorem mkG (M : Mk X.K C f) (F : FnG g X.prog X.w X.K X.mg X.base k f fd ps sp) (hg' : Gd g X.A) (hr : Room (k + 1) X.A) (hg : Gl X x) (hm : X.mg x = some (.ref C)) (hb : Binds X.K fd ps ds) (hd : Vals dvs ds) (tk : Takes X WW)
    (ha : PA X (e :: es) t) (hdb : (x == ("__debug__" : Str)) = false) (he : starEach (e :: es) X.env = (false, eval e X.env) :: starEach es X.env) (hpl : (backTo pos (starEach es X.env)).any (·.1) = false) :
    PE X (.Call (.Name x p) (e :: es) [] pos) (fun σ H Q => t σ H fun vs H1 => ∀ x dx, H1 x = none → H1 dx = none → dx ≠ x →
      sp (.ref x :: (vs ++ dvs)) (upd (upd H1 dx (.own x)) x (.ins C dx [])) (fun v H2 => v = .non ∧ Q (.ref x) H2) (eAt WW σ)) :=
  ⟨fun pins s σ H Q I h => wpAny_Call_Name_kw (ld_glob I hg hm (PySem.W.callWith_K (h₀ := X.base) I.ok.mod.kin M.kp (thn (ha.run pos pins s σ H _ I h) fun us s1 ⟨vs, H1, I1, r, q⟩ => ⟨I1.kIn, runMk M F hg' hr hb hd tk I1 r q⟩) he hpl) hdb)⟩
theorem mkG0 (M : Mk X.K C f) (F : FnG g X.prog X.w X.K X.mg X.base k f fd ps sp) (hg' : Gd g X.A) (hr : Room (k + 1) X.A) (hg : Gl X x) (hm : X.mg x = some (.ref C)) (hb : Binds X.K fd ps ds) (hd : Vals dvs ds) (tk : Takes X WW)
    (hdb : (x == ("__debug__" : Str)) = false) : PE X (.Call (.Name x p) [] [] pos) (fun σ H Q => ∀ x dx, H x = none → H dx = none → dx ≠ x →
      sp (.ref x :: dvs) (upd (upd H dx (.own x)) x (.ins C dx [])) (fun v H2 => v = .non ∧ Q (.ref x) H2) (eAt WW σ)) :=
  ⟨fun pins s σ H Q I h => wpAny_Call_Name_kw (ld_glob I hg hm (PySem.W.callWith_K0 I.kIn M.kp (runMk (us := []) (vs := []) M F hg' hr hb hd tk I .nil h)) hdb)⟩
end
end NB

set_option Elab.async false
set_option linter.all false
set_option maxRecDepth 100000
set_option maxHeartbeats 4000000
/-! NbE: expressions as functions on slots and heap, one rule for each form. -/
namespace NB
open PySem PySem.Spec L2
open PyProof.Rows hiding St

abbrev FE := Sg → Hh → R W
abbrev FT := Sg → Hh → R Bool
abbrev FA := Sg → Hh → R (List W)
abbrev FS := Sg → Hh → R Fl
/-- a step of the machine's own that raises nothing -/
def R.sure {α : Type} : R α → R α
  | .ok a h => .ok a h
  | _ => .stk
@[simp] theorem R.sure_ok {α : Type} (a : α) (h : Hh) : (R.ok a h).sure = .ok a h := rfl
@[simp] theorem R.sure_stk {α : Type} : (R.stk : R α).sure = .stk := rfl
theorem wpR_sure {α : Type} {r : R α} {P : α → Hh → Prop} {E E' : Exn → Hh → Prop} (h : wpR r.sure P E) : wpR r P E' := by
  cases r <;> first | exact h | exact h.elim
def bC (w : W) : FE := fun _ h => .ok w h
def bV (i : Nat) : FE := fun s h => match s[i]? with
  | some (some w) => .ok w h
  | _ => .stk
def bOp (f : W → W → Hh → R W) (a b : FE) : FE := fun s h => (a s h).bind fun x h => (b s h).bind fun y h => (f x y h).sure
def bChain (f f' : W → W → Hh → R W) (a b c : FE) : FE := fun s h => (a s h).bind fun x h => (b s h).bind fun y h => ((f x y h).sure).bind fun z h => match z with
  | .bl true => (c s h).bind fun u h => (f' y u h).sure
  | .bl false => .ok (.bl false) h
  | _ => .stk
/-- truth -/
def bT (a : FE) : FT := fun s h => (a s h).bind fun x h => match truB h x with
  | some b => .ok b h
  | none => .stk
/-- a comparison's truth -/
def bTc (a : FE) : FT := fun s h => (a s h).bind fun x h => match x with
  | .bl b => .ok b h
  | _ => .stk
def bAnd (a b : FT) : FT := fun s h => (a s h).bind fun x h => if x = true then b s h else .ok false h
def bOr (a b : FT) : FT := fun s h => (a s h).bind fun x h => if x = true then .ok true h else b s h
def bNot (a : FT) : FT := fun s h => (a s h).bind fun x h => .ok (!x) h
def bAndV (a b : FE) : FE := fun s h => (a s h).bind fun x h => match truB h x with
  | some true => b s h
  | some false => .ok x h
  | none => .stk
def bOrV (a b : FE) : FE := fun s h => (a s h).bind fun x h => match truB h x with
  | some true => .ok x h
  | some false => b s h
  | none => .stk
def bNotV (a : FE) : FE := fun s h => (a s h).bind fun x h => match truB h x with
  | some b => .ok (.bl (!b)) h
  | none => .stk
def bIf (c : FT) (a b : FE) : FE := fun s h => (c s h).bind fun x h => if x = true then a s h else b s h
def bNil : FA := fun _ h => .ok [] h
def bCons (a : FE) (b : FA) : FA := fun s h => (a s h).bind fun x h => (b s h).bind fun xs h => .ok (x :: xs) h
def bTup (a : FA) : FE := fun s h => (a s h).bind fun xs h => if xs.length ≤ Sz then .ok (.tup xs) h else .stk
def bLst (a : FA) : FE := fun s h => (a s h).bind fun xs h => if xs.length ≤ Sz then .ok (.loc h.length) (h ++ [.lst xs]) else .stk
def bCall (f : List W → Hh → R W) (a : FA) : FE := fun s h => (a s h).bind fun xs h => f xs h
def bCallS (f : List W → Hh → R W) (a : FA) : FE := fun s h => (a s h).bind fun xs h => (f xs h).sure
def bMeth (f : W → List W → Hh → R W) (o : FE) (a : FA) : FE := fun s h => (o s h).bind fun x h => (a s h).bind fun xs h => (f x xs h).sure
abbrev FO := Sg → Hh → R (Option Int)
def bO0 : FO := fun _ h => .ok none h
def bO1 (a : FE) : FO := fun s h => (a s h).bind fun x h => match x with
  | .int i => .ok (some i) h
  | _ => .stk
def bSl (a : FE) (lo hi : FO) : FE := fun s h => (a s h).bind fun x h => (lo s h).bind fun l h => (hi s h).bind fun u h => (slW x l u h).sure
def fldW (cs : List Str) (f : Str) (x : W) (h : Hh) : R W := match x with
  | .loc n => match h[n]? with
    | some (.ins C fs) => if C ∈ cs then match fs.lookup f with
      | some w => .ok w h
      | none => .stk else .stk
    | _ => .stk
  | _ => .stk
def bFld (cs : List Str) (f : Str) (a : FE) : FE := fun s h => (a s h).bind fun x h => fldW cs f x h
theorem Rkv.lookup {K : PySem.W.Frag} {H : Hp} {ι : List Addr} {f : Str} {w : W} : ∀ {ws : List (Str × W)} {xs : List (Str × V)}, Rkv K H ι ws xs → ws.lookup f = some w → ∃ x, xs.lookup f = some x ∧ Rv K H ι w x
  | [], _, _, e => by cases e
  | (k, u) :: ws, xs, ⟨x, r, e1, a, t⟩, e => by
    subst e1
    by_cases hk : f = k
    · subst hk
      rw [List.lookup_cons_self] at e ⊢
      cases e
      exact ⟨x, rfl, a⟩
    · have hk' : (f == k) = false := by simpa using hk
      rw [List.lookup_cons, hk'] at e ⊢
      exact Rkv.lookup t e

section
variable {K : PySem.W.Frag} {E : Wish} {H : Hp} {ι : List Addr} {s : Sg} {h : Hh} {σ : St} {α : Type} {P : α → Hh → Prop} {Ex : Exn → Hh → Prop}
/-- what flies lands in the wish -/
def Lands (K : PySem.W.Frag) (E : Wish) (Ex : Exn → Hh → Prop) (s : Sg) (σ : St) (ι : List Addr) (H : Hp) : Prop := ∀ x h', Ex x h' → ∀ H' ι', Sim K H' ι' h' → Ext ι H ι' H' → E x s h' ι' H' σ
theorem Lands.mono {ι' : List Addr} {H' : Hp} (l : Lands K E Ex s σ ι H) (e : Ext ι H ι' H') : Lands K E Ex s σ ι' H' := fun x h' q H'' ι'' S X => l x h' q H'' ι'' S (e.trans X)
theorem lands0 : Lands K E (fun x h' => ∀ H' ι', Sim K H' ι' h' → Ext ι H ι' H' → E x s h' ι' H' σ) s σ ι H := fun x h' q => q
theorem lands_mono {ι' : List Addr} {H' : Hp} (e : Ext ι H ι' H') : Lands K E (fun x h' => ∀ H' ι', Sim K H' ι' h' → Ext ι H ι' H' → E x s h' ι' H' σ) s σ ι' H' := Lands.mono lands0 e
theorem eB {f : FE} {g : W → Hh → R α} (S : Sim K H ι h) (L : Sl K H ι s σ) (hw : wpR ((f s h).bind g) P Ex) (hx : Lands K E Ex s σ ι H) {Q : VK}
    (hQ : ∀ v H1 ι1 h1 w, Sim K H1 ι1 h1 → Ext ι H ι1 H1 → Rv K H1 ι1 w v → wpR (g w h1) P Ex → Q v H1) : lE K E f σ H Q :=
  ⟨ι, s, h, S, L, wpR_mono (wpR_bind hw) (fun w h1 q v H1 ι1 S1 X1 r1 => hQ v H1 ι1 h1 w S1 X1 r1 q) fun x h1 q H1 ι1 S1 X1 => hx x h1 q H1 ι1 S1 X1⟩
theorem tB {f : FT} {g : Bool → Hh → R α} (S : Sim K H ι h) (L : Sl K H ι s σ) (hw : wpR ((f s h).bind g) P Ex) (hx : Lands K E Ex s σ ι H) {Q : Bool → Hp → Prop}
    (hQ : ∀ b H1 ι1 h1, Sim K H1 ι1 h1 → Ext ι H ι1 H1 → wpR (g b h1) P Ex → Q b H1) : lT K E f σ H Q :=
  ⟨ι, s, h, S, L, wpR_mono (wpR_bind hw) (fun w h1 q H1 ι1 S1 X1 => hQ w H1 ι1 h1 S1 X1 q) fun x h1 q H1 ι1 S1 X1 => hx x h1 q H1 ι1 S1 X1⟩
theorem aB {f : FA} {g : List W → Hh → R α} (S : Sim K H ι h) (L : Sl K H ι s σ) (hw : wpR ((f s h).bind g) P Ex) (hx : Lands K E Ex s σ ι H) {Q : List V → Hp → Prop}
    (hQ : ∀ vs H1 ι1 h1 ws, Sim K H1 ι1 h1 → Ext ι H ι1 H1 → Rvs K H1 ι1 ws vs → wpR (g ws h1) P Ex → Q vs H1) : lA K E f σ H Q :=
  ⟨ι, s, h, S, L, wpR_mono (wpR_bind hw) (fun w h1 q v H1 ι1 S1 X1 r1 => hQ v H1 ι1 h1 w S1 X1 r1 q) fun x h1 q H1 ι1 S1 X1 => hx x h1 q H1 ι1 S1 X1⟩
theorem eLast {f : FE} (S : Sim K H ι h) (L : Sl K H ι s σ) (hw : wpR (f s h) (fun w h' => Goes K ι H Q w h') Ex) (hx : Lands K E Ex s σ ι H) : lE K E f σ H Q :=
  ⟨ι, s, h, S, L, wpR_mono hw (fun w h1 q => q) fun x h1 q => hx x h1 q⟩
theorem tLast {f : FT} {Q : Bool → Hp → Prop} (S : Sim K H ι h) (L : Sl K H ι s σ) (hw : wpR (f s h) (fun b h' => ∀ H' ι', Sim K H' ι' h' → Ext ι H ι' H' → Q b H') Ex) (hx : Lands K E Ex s σ ι H) : lT K E f σ H Q :=
  ⟨ι, s, h, S, L, wpR_mono hw (fun w h1 q => q) fun x h1 q => hx x h1 q⟩
theorem Goes.mono {ι1 : List Addr} {H1 : Hp} {Q : VK} {w : W} {h' : Hh} (g : Goes K ι H Q w h') (e : Ext ι H ι1 H1) : Goes K ι1 H1 Q w h' := fun v H' ι' S X r => g v H' ι' S (e.trans X) r
theorem wp_goes {ι1 : List Addr} {H1 : Hp} {Q : VK} {r : R W} (e : Ext ι H ι1 H1) (hw : wpR r (fun w h' => Goes K ι H Q w h') Ex) : wpR r (fun w h' => Goes K ι1 H1 Q w h') Ex := wpR_mono hw (fun w h' g => g.mono e) fun _ _ q => q
end

section
variable {X : Cx} {E : Wish} {a b c e o : Expr} {es : List Expr} {fa fb fc : FE} {ta tb : FT} {aa : FA} {pos p : Pos}
theorem x_c {v : V} {w : W} (he : PE X e (tC v)) (r : ∀ H ι, Rv X.K H ι w v) : PE X e (lE X.K E (bC w)) := PE.imp he fun σ H Q ⟨ι, s, h, S, L, hw⟩ => hw v H ι S .refl (r H ι)
theorem x_int {i j pos} : PE X (.Constant (.int i) j pos) (lE X.K E (bC (.int i))) := x_c pe_int fun _ _ => rfl
theorem x_bl {b j pos} : PE X (.Constant (.bool b) j pos) (lE X.K E (bC (.bl b))) := x_c pe_bl fun _ _ => rfl
theorem x_non {j pos} : PE X (.Constant .none j pos) (lE X.K E (bC .non)) := x_c pe_non fun _ _ => rfl
theorem x_str {z j pos} : PE X (.Constant (.str z) j pos) (lE X.K E (bC (.str z))) := x_c pe_str fun _ _ => rfl
theorem x_var {i : Nat} {x : Str} (hN : X.N[i]? = some x) (hv : Vis X.env.scope x) (hd : (x == ("__debug__" : Str)) = false := by decide) (hcd : (x == ("__classdict__" : Str)) = false := by decide) : PE X (.Name x pos) (lE X.K E (bV i)) :=
  PE.imp (pe_var hN hv hd hcd) fun σ H Q ⟨ι, s, h, S, L, hw⟩ => by
    unfold bV at hw
    split at hw
    · rename_i w e
      obtain ⟨v, e1, r⟩ := L.2 i w e
      exact ⟨v, e1, hw v H ι S .refl r⟩
    · exact hw.elim
theorem x_op {op : Operator} {f : W → W → Hh → R W} (ho : OpR X (binaryOp op) (rL X.K f)) (ha : PE X a (lE X.K E fa)) (hb : PE X b (lE X.K E fb)) : PE X (.BinOp a op b pos) (lE X.K E (bOp f fa fb)) :=
  PE.imp (pe_op ho ha hb) fun σ H Q ⟨ι, s, h, S, L, hw⟩ => eB S L hw lands0 fun x H1 ι1 h1 w1 S1 X1 r1 hw1 => eB S1 (L.mono X1) hw1 (lands_mono X1) fun y H2 ι2 h2 w2 S2 X2 r2 hw2 =>
    ⟨ι2, h2, w1, w2, S2, r1.mono X2, r2, wp_goes (X1.trans X2) (wpR_sure hw2)⟩
theorem x_cmp {op : CmpOp} {f : W → W → Hh → R W} (ho : OpR X (compareOp op) (rL X.K f)) (ha : PE X a (lE X.K E fa)) (hb : PE X b (lE X.K E fb)) (hm : behindInMarks op b = false := by with_unfolding_all rfl) : PE X (.Compare a [op] [b] pos) (lE X.K E (bOp f fa fb)) :=
  PE.imp (pe_cmpR ho ha hb hm) fun σ H Q ⟨ι, s, h, S, L, hw⟩ => eB S L hw lands0 fun x H1 ι1 h1 w1 S1 X1 r1 hw1 => eB S1 (L.mono X1) hw1 (lands_mono X1) fun y H2 ι2 h2 w2 S2 X2 r2 hw2 =>
    ⟨ι2, h2, w1, w2, S2, r1.mono X2, r2, wp_goes (X1.trans X2) (wpR_sure hw2)⟩
theorem to_test {t : TE} {f : FE} (h : ∀ σ H Q, lE X.K E f σ H Q → t σ H Q) : ∀ σ H (Q : Bool → Hp → Prop), lT X.K E (bTc f) σ H Q → tTest t σ H Q := fun σ H Q ⟨ι, s, hh, S, L, hw⟩ => h _ _ _ (eB S L hw lands0 fun x H1 ι1 h1 w1 S1 X1 r1 hw1 => by
  cases w1 with
  | bl b => exact ⟨b, r1, hw1 H1 ι1 S1 X1⟩
  | _ => exact hw1.elim)
theorem y_cmp {op : CmpOp} {f : W → W → Hh → R W} (ho : OpR X (compareOp op) (rL X.K f)) (ha : PE X a (lE X.K E fa)) (hb : PE X b (lE X.K E fb)) (hm : behindInMarks op b = false := by with_unfolding_all rfl) : PT X (.Compare a [op] [b] pos) (lT X.K E (bTc (bOp f fa fb))) :=
  PT.imp (pt_cmpR ho ha hb hm) (to_test fun σ H Q ⟨ι, s, h, S, L, hw⟩ => eB S L hw lands0 fun x H1 ι1 h1 w1 S1 X1 r1 hw1 => eB S1 (L.mono X1) hw1 (lands_mono X1) fun y H2 ι2 h2 w2 S2 X2 r2 hw2 =>
    ⟨ι2, h2, w1, w2, S2, r1.mono X2, r2, wp_goes (X1.trans X2) (wpR_sure hw2)⟩)
theorem chain_of {f f' : W → W → Hh → R W} : ∀ σ H Q, lE X.K E (bChain f f' fa fb fc) σ H Q → tChain (rL X.K f) (rL X.K f') (lE X.K E fa) (lE X.K E fb) (lE X.K E fc) σ H Q := fun σ H Q ⟨ι, s, h, S, L, hw⟩ =>
  eB S L hw lands0 fun x H1 ι1 h1 w1 S1 X1 r1 hw1 => eB S1 (L.mono X1) hw1 (lands_mono X1) fun y H2 ι2 h2 w2 S2 X2 r2 hw2 =>
    ⟨ι2, h2, w1, w2, S2, r1.mono X2, r2, wpR_mono (wpR_sure (wpR_bind hw2)) (fun z h3 hw3 v H3 ι3 S3 X3 r3 => by
      have X13 := (X1.trans X2).trans X3
      cases z with
      | bl k =>
        refine ⟨k, r3, ?_⟩
        cases k with
        | true => exact eB S3 (L.mono X13) hw3 (lands_mono X13) fun u H4 ι4 h4 w4 S4 X4 r4 hw4 => ⟨ι4, h4, w2, w4, S4, (r2.mono X3).mono X4, r4, wp_goes (X13.trans X4) (wpR_sure hw4)⟩
        | false => exact hw3 _ _ _ S3 X13 rfl
      | _ => exact hw3.elim) (fun _ _ q => q)⟩
theorem x_chain {op op' : CmpOp} {f f' : W → W → Hh → R W} (ho : OpR X (compareOp op) (rL X.K f)) (ho' : OpR X (compareOp op') (rL X.K f')) (ha : PE X a (lE X.K E fa)) (hb : PE X b (lE X.K E fb)) (hc : PE X c (lE X.K E fc)) (hm : lastMarks [op, op'] [b, c] = false := by with_unfolding_all rfl) :
    PE X (.Compare a [op, op'] [b, c] pos) (lE X.K E (bChain f f' fa fb fc)) := PE.imp (pe_chain ho ho' ha hb hc hm) chain_of
theorem y_chain {op op' : CmpOp} {f f' : W → W → Hh → R W} (ho : OpR X (compareOp op) (rL X.K f)) (ho' : OpR X (compareOp op') (rL X.K f')) (ha : PE X a (lE X.K E fa)) (hb : PE X b (lE X.K E fb)) (hc : PE X c (lE X.K E fc)) (hm : lastMarks [op, op'] [b, c] = false := by with_unfolding_all rfl) :
    PT X (.Compare a [op, op'] [b, c] pos) (lT X.K E (bTc (bChain f f' fa fb fc))) := PT.imp (pt_chain ho ho' ha hb hc hm) (to_test chain_of)
theorem y_tru (ha : PE X a (lE X.K E fa)) (he : ∀ whole, isTrue a X.env whole = (do let v ← whole; standAt a.pos; holding [v] (truthy v)) := by intro _; rfl) : PT X a (lT X.K E (bT fa)) :=
  PT.imp (pt_truth ha he) fun σ H Q ⟨ι, s, h, S, L, hw⟩ => eB S L hw lands0 fun x H1 ι1 h1 w1 S1 X1 r1 hw1 => by
    split at hw1
    · rename_i b e
      exact ⟨b, tru_of S1 r1 e, hw1 H1 ι1 S1 X1⟩
    · exact hw1.elim
theorem y_not (ha : PT X a (lT X.K E ta)) : PT X (.UnaryOp .Not a pos) (lT X.K E (bNot ta)) :=
  PT.imp (pt_not ha) fun σ H Q ⟨ι, s, h, S, L, hw⟩ => tB S L hw lands0 fun x H1 ι1 h1 S1 X1 hw1 => hw1 H1 ι1 S1 X1
theorem w_and1 (ha : PT X a (lT X.K E ta)) : PW X (.BoolOp .And [a] pos) (lT X.K E ta) := pw_and1 ha
theorem w_or1 (ha : PT X a (lT X.K E ta)) : PW X (.BoolOp .Or [a] pos) (lT X.K E ta) := pw_or1 ha
theorem w_and {rest : List Expr} (ha : PT X a (lT X.K E ta)) (hb : PW X (.BoolOp .And (b :: rest) pos) (lT X.K E tb)) : PW X (.BoolOp .And (a :: b :: rest) pos) (lT X.K E (bAnd ta tb)) :=
  PW.imp (pw_and ha hb) fun σ H Q ⟨ι, s, h, S, L, hw⟩ => tB S L hw lands0 fun x H1 ι1 h1 S1 X1 hw1 => by
    cases x with
    | true => exact tLast S1 (L.mono X1) (wpR_mono hw1 (fun b h' q H' ι' S' X' => q H' ι' S' (X1.trans X')) fun _ _ q => q) (lands_mono X1)
    | false => exact hw1 H1 ι1 S1 X1
theorem w_or {rest : List Expr} (ha : PT X a (lT X.K E ta)) (hb : PW X (.BoolOp .Or (b :: rest) pos) (lT X.K E tb)) : PW X (.BoolOp .Or (a :: b :: rest) pos) (lT X.K E (bOr ta tb)) :=
  PW.imp (pw_or ha hb) fun σ H Q ⟨ι, s, h, S, L, hw⟩ => tB S L hw lands0 fun x H1 ι1 h1 S1 X1 hw1 => by
    cases x with
    | true => exact hw1 H1 ι1 S1 X1
    | false => exact tLast S1 (L.mono X1) (wpR_mono hw1 (fun b h' q H' ι' S' X' => q H' ι' S' (X1.trans X')) fun _ _ q => q) (lands_mono X1)
theorem x_one {op} (ha : PE X a (lE X.K E fa)) : PE X (.BoolOp op [a] pos) (lE X.K E fa) := pe_one ha
theorem x_and {rest : List Expr} (ha : PE X a (lE X.K E fa)) (hb : PE X (.BoolOp .And (b :: rest) pos) (lE X.K E fb)) : PE X (.BoolOp .And (a :: b :: rest) pos) (lE X.K E (bAndV fa fb)) :=
  PE.imp (pe_andT ha hb) fun σ H Q ⟨ι, s, h, S, L, hw⟩ => eB S L hw lands0 fun x H1 ι1 h1 w1 S1 X1 r1 hw1 => by
    split at hw1
    · rename_i e
      exact ⟨true, tru_of S1 r1 e, eLast S1 (L.mono X1) (wp_goes X1 hw1) (lands_mono X1)⟩
    · rename_i e
      exact ⟨false, tru_of S1 r1 e, hw1 x H1 ι1 S1 X1 r1⟩
    · exact hw1.elim
theorem x_or {rest : List Expr} (ha : PE X a (lE X.K E fa)) (hb : PE X (.BoolOp .Or (b :: rest) pos) (lE X.K E fb)) : PE X (.BoolOp .Or (a :: b :: rest) pos) (lE X.K E (bOrV fa fb)) :=
  PE.imp (pe_orT ha hb) fun σ H Q ⟨ι, s, h, S, L, hw⟩ => eB S L hw lands0 fun x H1 ι1 h1 w1 S1 X1 r1 hw1 => by
    split at hw1
    · rename_i e
      exact ⟨true, tru_of S1 r1 e, hw1 x H1 ι1 S1 X1 r1⟩
    · rename_i e
      exact ⟨false, tru_of S1 r1 e, eLast S1 (L.mono X1) (wp_goes X1 hw1) (lands_mono X1)⟩
    · exact hw1.elim
theorem x_not (ha : PE X a (lE X.K E fa)) : PE X (.UnaryOp .Not a pos) (lE X.K E (bNotV fa)) :=
  PE.imp (pe_notT ha) fun σ H Q ⟨ι, s, h, S, L, hw⟩ => eB S L hw lands0 fun x H1 ι1 h1 w1 S1 X1 r1 hw1 => by
    split at hw1
    · rename_i b e
      exact ⟨b, tru_of S1 r1 e, hw1 _ H1 ι1 S1 X1 rfl⟩
    · exact hw1.elim
theorem x_if (hc : PT X c (lT X.K E ta)) (ha : PE X a (lE X.K E fa)) (hb : PE X b (lE X.K E fb)) : PE X (.IfExp c a b pos) (lE X.K E (bIf ta fa fb)) :=
  PE.imp (pe_ifExp hc ha hb) fun σ H Q ⟨ι, s, h, S, L, hw⟩ => tB S L hw lands0 fun x H1 ι1 h1 S1 X1 hw1 => by
    cases x with
    | true => exact eLast S1 (L.mono X1) (wp_goes X1 hw1) (lands_mono X1)
    | false => exact eLast S1 (L.mono X1) (wp_goes X1 hw1) (lands_mono X1)
theorem a_nil : PA X [] (lA X.K E bNil) := PA.imp pa_nil fun σ H Q ⟨ι, s, h, S, L, hw⟩ => hw [] H ι S .refl rfl
theorem a_cons (ha : PE X e (lE X.K E fa)) (hr : PA X es (lA X.K E aa)) (hs : starEach (e :: es) X.env = (false, eval e X.env) :: starEach es X.env := by rfl) : PA X (e :: es) (lA X.K E (bCons fa aa)) :=
  PA.imp (pa_cons ha hr hs) fun σ H Q ⟨ι, s, h, S, L, hw⟩ => eB S L hw lands0 fun x H1 ι1 h1 w1 S1 X1 r1 hw1 => aB S1 (L.mono X1) hw1 (lands_mono X1) fun xs H2 ι2 h2 ws S2 X2 r2 hw2 =>
    hw2 (x :: xs) H2 ι2 S2 (X1.trans X2) ⟨x, xs, rfl, r1.mono X2, r2⟩
theorem x_tup {x1} (h : PA X es (lA X.K E aa)) : PE X (.Tuple es x1 pos) (lE X.K E (bTup aa)) :=
  PE.imp (pe_tup h) fun σ H Q ⟨ι, s, h, S, L, hw⟩ => aB S L hw lands0 fun xs H1 ι1 h1 ws S1 X1 r1 hw1 => by
    split at hw1
    · rename_i hz
      have hz' : xs.length ≤ sizeLine := by rw [r1.len, sz_eq]; exact hz
      exact ⟨hz', fun p hp => fin_tup (Goes.mono hw1 X1) S1 r1 hz' hp⟩
    · exact hw1.elim
theorem x_lst (h : PA X es (lA X.K E aa)) : PE X (.List es pos) (lE X.K E (bLst aa)) :=
  PE.imp (pe_lst h) fun σ H Q ⟨ι, s, h, S, L, hw⟩ => aB S L hw lands0 fun xs H1 ι1 h1 ws S1 X1 r1 hw1 => by
    split at hw1
    · rename_i hz
      exact ⟨by rw [r1.len, sz_eq]; exact hz, fun p hp => fin_lst (Goes.mono hw1 X1) S1 r1 hp⟩
    · exact hw1.elim
theorem cb_of {f : List W → Hh → R W} : ∀ σ H Q, lE X.K E (bCallS f aa) σ H Q → tCB (rLs X.K f) (lA X.K E aa) σ H Q := fun σ H Q ⟨ι, s, h, S, L, hw⟩ =>
  aB S L hw lands0 fun xs H1 ι1 h1 ws S1 X1 r1 hw1 => ⟨ι1, h1, ws, S1, r1, wp_goes X1 (wpR_sure hw1)⟩
theorem x_cb {x : Str} {id : String} {f : List W → Hh → R W} (hc : CallR X (.builtin id) (rLs X.K f)) (hg : Gl X x) (hm : X.mg x = none) (hv : bootBuiltins x = some (.builtin id)) (ha : PA X (e :: es) (lA X.K E aa)) (hn : x ≠ "__name__" := by decide) (hdb : (x == ("__debug__" : Str)) = false := by decide)
    (he : starEach (e :: es) X.env = (false, eval e X.env) :: starEach es X.env := by rfl) (hpl : (backTo pos (starEach es X.env)).any (·.1) = false := by rfl) : PE X (.Call (.Name x p) (e :: es) [] pos) (lE X.K E (bCallS f aa)) := PE.imp (pe_callB hc hg hm hv ha hn hdb he hpl) cb_of
theorem x_ct {x : Str} {T : String} {f : List W → Hh → R W} (hc : CallR X (.type T) (rLs X.K f)) (hg : Gl X x) (hm : X.mg x = none) (hv : bootBuiltins x = some (.type T)) (ha : PA X (e :: es) (lA X.K E aa)) (hn : x ≠ "__name__" := by decide) (hdb : (x == ("__debug__" : Str)) = false := by decide)
    (he : starEach (e :: es) X.env = (false, eval e X.env) :: starEach es X.env := by rfl) (hpl : (backTo pos (starEach es X.env)).any (·.1) = false := by rfl) : PE X (.Call (.Name x p) (e :: es) [] pos) (lE X.K E (bCallS f aa)) := PE.imp (pe_callTy hc hg hm hv ha hn hdb he hpl) cb_of
theorem x_ixx (ha : PE X a (lE X.K E fa)) (hb : PE X b (lE X.K E fb)) (hs : PlainIx b) : PE X (.Subscript a b pos) (lE X.K E (bOp ixW fa fb)) :=
  PE.imp (pe_ix x_ix ha hb hs) fun σ H Q ⟨ι, s, h, S, L, hw⟩ => eB S L hw lands0 fun x H1 ι1 h1 w1 S1 X1 r1 hw1 => eB S1 (L.mono X1) hw1 (lands_mono X1) fun y H2 ι2 h2 w2 S2 X2 r2 hw2 =>
    ⟨ι2, h2, w1, w2, S2, r1.mono X2, r2, wp_goes (X1.trans X2) (wpR_sure hw2)⟩
def lO (K : PySem.W.Frag) (E : Wish) (f : FO) : TO := fun σ H Q => ∃ ι s h, Sim K H ι h ∧ Sl K H ι s σ ∧ wpR (f s h)
  (fun b h' => ∀ H' ι', Sim K H' ι' h' → Ext ι H ι' H' → Q b H') (fun x h' => ∀ H' ι', Sim K H' ι' h' → Ext ι H ι' H' → E x s h' ι' H' σ)
theorem PO.imp {X : Cx} {e : Option Expr} {t t' : TO} (h : PO X e t) (i : ∀ σ H Q, t' σ H Q → t σ H Q) : PO X e t' := ⟨fun p s σ H Q I q => h.run p s σ H Q I (i σ H Q q)⟩
theorem o_none : PO X none (lO X.K E bO0) := PO.imp po_none fun σ H Q ⟨ι, s, h, S, L, hw⟩ => hw H ι S .refl
theorem o_some (ha : PE X a (lE X.K E fa)) : PO X (some a) (lO X.K E (bO1 fa)) := PO.imp (po_some ha) fun σ H Q ⟨ι, s, h, S, L, hw⟩ => eB S L hw lands0 fun x H1 ι1 h1 w1 S1 X1 r1 hw1 => by
  cases w1 with
  | int i => exact ⟨i, r1, hw1 H1 ι1 S1 X1⟩
  | _ => exact hw1.elim
theorem oB {K : PySem.W.Frag} {E : Wish} {H : Hp} {ι : List Addr} {s : Sg} {h : Hh} {σ : St} {α : Type} {P : α → Hh → Prop} {Ex : Exn → Hh → Prop} {f : FO} {g : Option Int → Hh → R α} (S : Sim K H ι h) (L : Sl K H ι s σ) (hw : wpR ((f s h).bind g) P Ex) (hx : Lands K E Ex s σ ι H) {Q : Option Int → Hp → Prop}
    (hQ : ∀ b H1 ι1 h1, Sim K H1 ι1 h1 → Ext ι H ι1 H1 → wpR (g b h1) P Ex → Q b H1) : lO K E f σ H Q :=
  ⟨ι, s, h, S, L, wpR_mono (wpR_bind hw) (fun w h1 q H1 ι1 S1 X1 => hQ w H1 ι1 h1 S1 X1 q) fun x h1 q H1 ι1 S1 X1 => hx x h1 q H1 ι1 S1 X1⟩
theorem x_slc {lo hi : Option Expr} {fl fu : FO} {p2 : Pos} (ha : PE X a (lE X.K E fa)) (hl : PO X lo (lO X.K E fl)) (hu : PO X hi (lO X.K E fu)) : PE X (.Subscript a (.Slice lo hi none p2) pos) (lE X.K E (bSl fa fl fu)) :=
  PE.imp (pe_slice x_sl ha hl hu) fun σ H Q ⟨ι, s, h, S, L, hw⟩ => eB S L hw lands0 fun x H1 ι1 h1 w1 S1 X1 r1 hw1 => oB S1 (L.mono X1) hw1 (lands_mono X1) fun l H2 ι2 h2 S2 X2 hw2 => oB S2 (L.mono (X1.trans X2)) hw2 (lands_mono (X1.trans X2)) fun u H3 ι3 h3 S3 X3 hw3 =>
    ⟨ι3, h3, w1, S3, (r1.mono X2).mono X3, wp_goes ((X1.trans X2).trans X3) (wpR_sure hw3)⟩
theorem x_fld {cs : List Str} {f : Str} (he : PE X a (lE X.K E fa)) (hk : ∀ C, C ∈ cs → Cls X.K (He.ga X.K C) ∧ NoAttr X.K (He.ga X.K C) f) (hb : attributeBase a f X.env (eval a X.env) = eval a X.env := by rfl) : PE X (.Attribute a f pos) (lE X.K E (bFld cs f fa)) :=
  PE.imp (pe_fld he hb) fun σ H Q ⟨ι, s, h, S, L, hw⟩ => eB S L hw lands0 fun x H1 ι1 h1 w1 S1 X1 r1 hw1 => by
    unfold fldW at hw1
    split at hw1
    · obtain ⟨p, ei, rfl⟩ := r1
      split at hw1
      · rename_i C fs e0
        split at hw1
        · rename_i hc
          split at hw1
          · rename_i w el
            obtain ⟨p', e1, dx, gs, q, r⟩ := S1.ob _ _ e0
            rw [ei] at e1
            cases e1
            obtain ⟨v, e2, r2⟩ := r.lookup el
            exact ⟨p, _, dx, gs, v, rfl, q, (hk C hc).1, (hk C hc).2, e2, hw1 v H1 ι1 S1 X1 r2⟩
          · exact hw1.elim
        · exact hw1.elim
      · exact hw1.elim
    · exact hw1.elim
end
end NB

set_option Elab.async false
set_option linter.all false
set_option maxRecDepth 100000
set_option maxHeartbeats 4000000
/-! NbF: statements, targets, loops, comprehensions as functions on slots and heap. -/
namespace NB
open PySem PySem.Spec L2
open PyProof.Rows hiding St

/-- an expression ahead of the rest of a statement -/
def R.st {α : Type} (r : R α) (s : Sg) (k : α → Hh → R Fl) : R Fl := match r with
  | .ok a h => k a h
  | .exn x h => .ok (.ex x s) h
  | .stk => .stk
@[simp] theorem R.st_ok {α : Type} (a : α) (h : Hh) (s : Sg) (k : α → Hh → R Fl) : (R.ok a h).st s k = k a h := rfl
@[simp] theorem R.st_exn {α : Type} (x : Exn) (h : Hh) (s : Sg) (k : α → Hh → R Fl) : (R.exn x h : R α).st s k = .ok (.ex x s) h := rfl
@[simp] theorem R.st_stk {α : Type} (s : Sg) (k : α → Hh → R Fl) : (R.stk : R α).st s k = .stk := rfl
def sPass : FS := fun s h => .ok (.nx s) h
def sBreak : FS := fun s h => .ok (.bk s) h
def sCont : FS := fun s h => .ok (.ct s) h
def sNever : FS := fun _ _ => .stk
def sSeq (f g : FS) : FS := fun s h => (f s h).bind fun fl h => match fl with
  | .nx s => g s h
  | fl => .ok fl h
def sExp (e : FE) : FS := fun s h => (e s h).st s fun _ h => .ok (.nx s) h
def sRet (e : FE) : FS := fun s h => (e s h).st s fun w h => .ok (.rt w) h
def sRetN : FS := fun _ h => .ok (.rt .non) h
def sIf (c : FT) (f g : FS) : FS := fun s h => (c s h).st s fun b h => if b = true then f s h else g s h
def sSet (i : Nat) (e : FE) : FS := fun s h => (e s h).st s fun w h => .ok (.nx (s.set i (some w))) h
def sPar (i j : Nat) (a : FA) : FS := fun s h => (a s h).st s fun ws h => match ws with
  | [x, y] => .ok (.nx ((s.set i (some x)).set j (some y))) h
  | _ => .stk
/-- names as targets -/
inductive Tg where
  | nm (i : Nat) | tp (ts : List Tg)
mutual
def Tg.go (h : Hh) : Tg → W → Sg → Option Sg
  | .nm i, w, s => some (s.set i (some w))
  | .tp ts, .tup ws, s => if ws.length = ts.length then Tg.gos h ts ws s else none
  | _, _, _ => none
def Tg.gos (h : Hh) : List Tg → List W → Sg → Option Sg
  | [], [], s => some s
  | t :: ts, w :: ws, s => match Tg.go h t w s with
    | some s => Tg.gos h ts ws s
    | none => none
  | _, _, _ => none
end
mutual
def Tg.tg (K : PySem.W.Frag) : Tg → TG
  | .nm i => gName i
  | .tp ts => gTup K ts.length (Tg.tgs K ts)
def Tg.tgs (K : PySem.W.Frag) : List Tg → TGs
  | [] => gNil
  | t :: ts => gCons (Tg.tg K t) (Tg.tgs K ts)
end
mutual
def Tg.slots : Tg → List Nat
  | .nm i => [i]
  | .tp ts => Tg.slotss ts
def Tg.slotss : List Tg → List Nat
  | [] => []
  | t :: ts => Tg.slots t ++ Tg.slotss ts
end
/-- store a value at names -/
def sTo (t : Tg) (e : FE) : FS := fun s h => (e s h).st s fun w h => match t.go h w s with
  | some s => .ok (.nx s) h
  | none => .stk
/-- what is walked -/
structure Src where
  items : List W
  ck : Hh → Prop
abbrev FI := Sg → Hh → R Src
open Classical in
noncomputable def forR (t : Tg) (b : FS) (ck : Hh → Prop) : List W → Sg → Hh → R Fl
  | [], s, h => if ck h then .ok (.nx s) h else .stk
  | w :: ws, s, h => if ck h then match t.go h w s with
    | some s => (b s h).bind fun fl h => match fl with
      | .nx s => forR t b ck ws s h
      | .ct s => forR t b ck ws s h
      | .bk s => .ok (.nx s) h
      | fl => .ok fl h
    | none => .stk else .stk
noncomputable def sFor (it : FI) (t : Tg) (b : FS) : FS := fun s h => (it s h).st s fun sr h => forR t b sr.ck sr.items s h
def whR (c : FT) (b : FS) : Nat → Sg → Hh → R Fl
  | 0, _, _ => .stk
  | n + 1, s, h => (c s h).st s fun k h => if k = true then (b s h).bind fun fl h => match fl with
    | .nx s => whR c b n s h
    | .ct s => whR c b n s h
    | .bk s => .ok (.nx s) h
    | fl => .ok fl h else .ok (.nx s) h
def sWhile (n : Nat) (c : FT) (b : FS) : FS := fun s h => whR c b n s h
def wipeG (s : Sg) : List Nat → Sg
  | [] => s
  | v :: vs => (wipeG s vs).set v none
open Classical in
noncomputable def lcR (t : Tg) (c : FT) (e : FE) (ck : Hh → Prop) (s : Sg) : List W → List W → Hh → R (List W)
  | acc, [], h => if ck h then .ok acc h else .stk
  | acc, w :: ws, h => if ck h then match t.go h w s with
    | some s2 => (c s2 h).sure.bind fun b h => if b = true then (e s2 h).sure.bind fun y h => if acc.length < Sz then lcR t c e ck s (acc ++ [y]) ws h else .stk else lcR t c e ck s acc ws h
    | none => .stk else .stk
def lcEnd (ws : List W) (h : Hh) : R W := .ok (.loc h.length) (h ++ [.lst ws])
noncomputable def bLc (it : FI) (t : Tg) (c : FT) (e : FE) (vs : List Nat) : FE := fun s h => (it s h).bind fun sr h => (lcR t c e sr.ck (wipeG s vs) [] sr.items h).bind lcEnd
def bYes : FT := fun _ h => .ok true h

section
variable {K : PySem.W.Frag} {E : Wish} {H H' : Hp} {ι ι' : List Addr} {s : Sg} {h : Hh} {σ : St} {α : Type} {D : Ends}
/-- what is wanted behind a statement that began here -/
def FlP (K : PySem.W.Frag) (E : Wish) (D : Ends) (ι : List Addr) (H : Hp) (fl : Fl) (h' : Hh) : Prop := ∀ H' ι', Sim K H' ι' h' → Ext ι H ι' H' → lF K E D fl h' ι' H'
def NoE (_ : Exn) (_ : Hh) : Prop := False
theorem FlP.mono {fl : Fl} {h' : Hh} (p : FlP K E D ι H fl h') (e : Ext ι H ι' H') : FlP K E D ι' H' fl h' := fun H'' ι'' S X => p H'' ι'' S (e.trans X)
theorem wp_fl {r : R Fl} (e : Ext ι H ι' H') (hw : wpR r (FlP K E D ι H) NoE) : wpR r (FlP K E D ι' H') NoE := wpR_mono hw (fun _ _ p => p.mono e) fun _ _ q => q
theorem sL {f : FS} (S : Sim K H ι h) (L : Sl K H ι s σ) (hw : wpR (f s h) (FlP K E D ι H) NoE) : lS K E f D σ H := ⟨ι, s, h, S, L, wpR_mono hw (fun _ _ p => p) fun _ _ q => q⟩
theorem st_split {r : R α} {k : α → Hh → R Fl} (hw : wpR (r.st s k) (FlP K E D ι H) NoE) : wpR r (fun a h' => wpR (k a h') (FlP K E D ι H) NoE) (fun x h' => FlP K E D ι H (.ex x s) h') := by
  cases r <;> exact hw
theorem seB {f : FE} {k : W → Hh → R Fl} (S : Sim K H ι h) (L : Sl K H ι s σ) (hw : wpR ((f s h).st s k) (FlP K E D ι H) NoE) {Q : VK}
    (hQ : ∀ v H1 ι1 h1 w, Sim K H1 ι1 h1 → Ext ι H ι1 H1 → Rv K H1 ι1 w v → wpR (k w h1) (FlP K E D ι H) NoE → Q v H1) : lE K E f σ H Q :=
  ⟨ι, s, h, S, L, wpR_mono (st_split hw) (fun w h1 q v H1 ι1 S1 X1 r1 => hQ v H1 ι1 h1 w S1 X1 r1 q) fun x h1 q H1 ι1 S1 X1 => q H1 ι1 S1 X1 σ (L.mono X1)⟩
theorem stB {f : FT} {k : Bool → Hh → R Fl} (S : Sim K H ι h) (L : Sl K H ι s σ) (hw : wpR ((f s h).st s k) (FlP K E D ι H) NoE) {Q : Bool → Hp → Prop}
    (hQ : ∀ b H1 ι1 h1, Sim K H1 ι1 h1 → Ext ι H ι1 H1 → wpR (k b h1) (FlP K E D ι H) NoE → Q b H1) : lT K E f σ H Q :=
  ⟨ι, s, h, S, L, wpR_mono (st_split hw) (fun w h1 q H1 ι1 S1 X1 => hQ w H1 ι1 h1 S1 X1 q) fun x h1 q H1 ι1 S1 X1 => q H1 ι1 S1 X1 σ (L.mono X1)⟩
theorem saB {f : FA} {k : List W → Hh → R Fl} (S : Sim K H ι h) (L : Sl K H ι s σ) (hw : wpR ((f s h).st s k) (FlP K E D ι H) NoE) {Q : List V → Hp → Prop}
    (hQ : ∀ vs H1 ι1 h1 ws, Sim K H1 ι1 h1 → Ext ι H ι1 H1 → Rvs K H1 ι1 ws vs → wpR (k ws h1) (FlP K E D ι H) NoE → Q vs H1) : lA K E f σ H Q :=
  ⟨ι, s, h, S, L, wpR_mono (st_split hw) (fun w h1 q v H1 ι1 S1 X1 r1 => hQ v H1 ι1 h1 w S1 X1 r1 q) fun x h1 q H1 ι1 S1 X1 => q H1 ι1 S1 X1 σ (L.mono X1)⟩
theorem Sl.set {w : W} {v : V} (L : Sl K H ι s σ) (r : Rv K H ι w v) (i : Nat) : Sl K H ι (s.set i (some w)) (σ.set i (some v)) := by
  refine ⟨by rw [List.length_set, List.length_set, L.1], fun j u e => ?_⟩
  by_cases hj : i = j
  · subst hj
    have hlt := (List.getElem?_eq_some_iff.mp e).1
    rw [List.length_set] at hlt
    rw [List.getElem?_set_self hlt] at e
    cases e
    exact ⟨v, List.getElem?_set_self (by rw [L.1]; exact hlt), r⟩
  · rw [List.getElem?_set_ne hj] at e
    obtain ⟨x, e1, r1⟩ := L.2 j u e
    exact ⟨x, by rw [List.getElem?_set_ne hj]; exact e1, r1⟩
end
section
variable {X : Cx} {E : Wish} {a b c e : Expr} {fe : FE} {ft : FT} {fa : FA} {f g : FS} {st : Stmt} {rest sa sb : List Stmt} {pos : Pos}
theorem s_pass : PS X (.Pass pos) (lS X.K E sPass) := PS.imp ps_pass fun D σ H ⟨ι, s, h, S, L, hw⟩ => hw H ι S .refl σ L
theorem s_break : PS X (.Break pos) (lS X.K E sBreak) := PS.imp ps_break fun D σ H ⟨ι, s, h, S, L, hw⟩ => hw H ι S .refl σ L
theorem s_cont : PS X (.Continue pos) (lS X.K E sCont) := PS.imp ps_continue fun D σ H ⟨ι, s, h, S, L, hw⟩ => hw H ι S .refl σ L
theorem s_never : PS X st (lS X.K E sNever) := PS.imp ps_never fun D σ H ⟨ι, s, h, S, L, hw⟩ => hw.elim
theorem ss_nil : PSs X [] (lS X.K E sPass) := PSs.imp pss_nil fun D σ H ⟨ι, s, h, S, L, hw⟩ => hw H ι S .refl σ L
theorem ss_one (h : PS X st (lS X.K E f)) : PSs X [st] (lS X.K E f) := pss_one h
theorem seq_of : ∀ D σ H, lS X.K E (sSeq f g) D σ H → tSeq (lS X.K E f) (lS X.K E g) D σ H := fun D σ H ⟨ι, s, h, S, L, hw⟩ =>
  ⟨ι, s, h, S, L, wpR_mono (wpR_bind hw) (fun fl h1 q H1 ι1 S1 X1 => by
    cases fl with
    | nx s1 => exact fun σ1 L1 => sL S1 L1 (wp_fl X1 q)
    | rt w => exact q H1 ι1 S1 X1
    | bk w => exact q H1 ι1 S1 X1
    | ct w => exact q H1 ι1 S1 X1
    | ex x s1 => exact q H1 ι1 S1 X1) fun _ _ q => q⟩
theorem ss_cons (h1 : PS X st (lS X.K E f)) (h2 : PSs X rest (lS X.K E g)) : PSs X (st :: rest) (lS X.K E (sSeq f g)) := PSs.imp (pss_cons h1 h2) seq_of
theorem s_exp (he : PE X e (lE X.K E fe)) (hs : swapsWith e none pos.line X.env = pure false := by rfl) : PS X (.Expr e pos) (lS X.K E (sExp fe)) :=
  PS.imp (ps_expr he hs) fun D σ H ⟨ι, s, h, S, L, hw⟩ => seB S L hw fun v H1 ι1 h1 w S1 X1 r1 q => q H1 ι1 S1 X1 σ (L.mono X1)
theorem s_ret (he : PE X e (lE X.K E fe)) : PS X (.Return (some e) pos) (lS X.K E (sRet fe)) :=
  PS.imp (ps_ret he) fun D σ H ⟨ι, s, h, S, L, hw⟩ => seB S L hw fun v H1 ι1 h1 w S1 X1 r1 q => q H1 ι1 S1 X1 v r1
theorem s_retN : PS X (.Return none pos) (lS X.K E sRetN) := PS.imp ps_retN fun D σ H ⟨ι, s, h, S, L, hw⟩ => hw H ι S .refl .non rfl
theorem s_if (hc : PT X c (lT X.K E ft)) (ha : PSs X sa (lS X.K E f)) (hb : PSs X sb (lS X.K E g)) : PS X (.If c sa sb pos) (lS X.K E (sIf ft f g)) :=
  PS.imp (ps_if hc ha hb) fun D σ H ⟨ι, s, h, S, L, hw⟩ => stB S L hw fun b H1 ι1 h1 S1 X1 q => by
    cases b with
    | true => exact sL S1 (L.mono X1) (wp_fl X1 q)
    | false => exact sL S1 (L.mono X1) (wp_fl X1 q)
theorem s_set {i : Nat} {x : Str} {pos' : Pos} (hN : X.N.Nodup) (hi : X.N[i]? = some x) (hx : Loc X.env.scope x) (he : PE X e (lE X.K E fe)) (hs : swapsWith e (some (.Name x pos')) pos.line X.env = pure false := by rfl) (hf : X.fn x = true ∨ X.env.scope.names.lookup x = some .local := by first | exact .inl rfl | exact .inr rfl | assumption) :
    PS X (.Assign [.Name x pos'] e pos) (lS X.K E (sSet i fe)) :=
  PS.imp (ps_set hN hi hx he hs hf) fun D σ H ⟨ι, s, h, S, L, hw⟩ => seB S L hw fun v H1 ι1 h1 w S1 X1 r1 q => q H1 ι1 S1 X1 _ ((L.mono X1).set r1 i)
theorem s_par {i j : Nat} {x y : Str} {px py pt : Pos} {kt k2 pt2} (hc : X.calm = true) (hN : X.N.Nodup) (hi : X.N[i]? = some x) (hj : X.N[j]? = some y) (hij : i ≠ j)
    (hx : X.env.scope.names.lookup x = some .local) (hy : X.env.scope.names.lookup y = some .local) (ha : PA X [a, b] (lA X.K E fa))
    (hw : swappedStores [.Tuple [.Name x px, .Name y py] kt pt] (.Tuple [a, b] k2 pt2) X.env = pure (some [x, y]) := by rfl)
    (hs : swapsWithSole [.Tuple [.Name x px, .Name y py] kt pt] (.Tuple [a, b] k2 pt2) pos.line X.env = pure false := by rfl) :
    PS X (.Assign [.Tuple [.Name x px, .Name y py] kt pt] (.Tuple [a, b] k2 pt2) pos) (lS X.K E (sPar i j fa)) :=
  PS.imp (ps_par hc hN hi hj hij hx hy ha hw hs) fun D σ H ⟨ι, s, h, S, L, hw⟩ => saB S L hw fun vs H1 ι1 h1 ws S1 X1 r1 q => by
    split at q
    · obtain ⟨v, r, rfl, rv, u, r', rfl, ru, e⟩ := r1
      rw [show r' = [] from e]
      exact ⟨v, u, rfl, q H1 ι1 S1 X1 _ (((L.mono X1).set rv i).set ru j)⟩
    · exact q.elim
end

/-! ### targets -/
section
variable {K : PySem.W.Frag} {H : Hp} {ι : List Addr} {h : Hh}
theorem wipe_get (σ : St) : ∀ (vs : List Nat) (j : Nat), (wipe σ vs)[j]? = if j ∈ vs ∧ j < σ.length then some none else σ[j]?
  | [], j => by simp [wipe]
  | v :: vs, j => by
    show ((wipe σ vs).set v none)[j]? = _
    by_cases hv : v = j
    · subst hv
      by_cases hl : v < σ.length
      · rw [List.getElem?_set_self (by rw [wipe_length]; exact hl), if_pos ⟨List.mem_cons_self, hl⟩]
      · rw [List.getElem?_eq_none (by rw [List.length_set, wipe_length]; omega), if_neg (fun z => hl z.2), List.getElem?_eq_none (by omega)]
    · rw [List.getElem?_set_ne hv, wipe_get σ vs j]
      by_cases hm : j ∈ vs ∧ j < σ.length
      · rw [if_pos hm, if_pos ⟨List.mem_cons_of_mem _ hm.1, hm.2⟩]
      · rw [if_neg hm, if_neg (fun z => hm ⟨(List.mem_cons.mp z.1).resolve_left (fun q => hv q.symm), z.2⟩)]
theorem wipe_ext {σ σ' : St} {vs : List Nat} (hl : σ'.length = σ.length) (he : ∀ j, j ∉ vs → σ'[j]? = σ[j]?) : wipe σ' vs = wipe σ vs := by
  refine List.ext_getElem? fun j => ?_
  rw [wipe_get, wipe_get, hl]
  by_cases hm : j ∈ vs
  · by_cases hj : j < σ.length
    · rw [if_pos ⟨hm, hj⟩, if_pos ⟨hm, hj⟩]
    · rw [if_neg (fun z => hj z.2), if_neg (fun z => hj z.2), List.getElem?_eq_none (by omega), List.getElem?_eq_none (by omega)]
  · rw [if_neg (fun z => hm z.1), if_neg (fun z => hm z.1), he j hm]
theorem wipe_wipe (σ : St) (vs : List Nat) : wipe (wipe σ vs) vs = wipe σ vs := wipe_ext (wipe_length σ vs) fun j hj => by rw [wipe_get, if_neg (fun z => hj z.1)]
theorem Sl.none {s : Sg} {σ : St} (L : Sl K H ι s σ) (i : Nat) : Sl K H ι (s.set i none) (σ.set i none) := by
  refine ⟨by rw [List.length_set, List.length_set, L.1], fun j u e => ?_⟩
  by_cases hj : i = j
  · subst hj
    have hlt := (List.getElem?_eq_some_iff.mp e).1
    rw [List.length_set] at hlt
    rw [List.getElem?_set_self hlt] at e
    cases e
  · rw [List.getElem?_set_ne hj] at e
    obtain ⟨x, e1, r1⟩ := L.2 j u e
    exact ⟨x, by rw [List.getElem?_set_ne hj]; exact e1, r1⟩
theorem Sl.wipe {s : Sg} {σ : St} (L : Sl K H ι s σ) : ∀ vs, Sl K H ι (wipeG s vs) (L2.wipe σ vs)
  | [] => L
  | v :: vs => (Sl.wipe L vs).none v
mutual
theorem Tg.ok {vs : List Nat} : ∀ {t : Tg} {w : W} {v : V} {s s' : Sg} {σ : St} {Q : St → Hp → Prop}, (∀ i ∈ t.slots, i ∈ vs) → Sl K H ι s σ → Rv K H ι w v → t.go h w s = some s' → (∀ σ', Sl K H ι s' σ' → σ'.length = σ.length → (∀ j, j ∉ vs → σ'[j]? = σ[j]?) → Q σ' H) → t.tg K v σ H Q
  | .nm i, w, v, s, s', σ, Q, hv, L, r, e, hQ => by
    cases (show some (s.set i (some w)) = some s' from by unfold Tg.go at e; exact e)
    exact hQ _ (L.set r i) (List.length_set) fun j hj => List.getElem?_set_ne fun z => hj (by rw [← z]; exact hv i (by show i ∈ [i]; simp))
  | .tp ts, w, v, s, s', σ, Q, hv, L, r, e, hQ => by
    cases w with
    | tup ws =>
      unfold Tg.go at e
      split at e
      · rename_i hl
        obtain ⟨p, xs, rfl, t, r⟩ := r
        exact ⟨p, xs, rfl, t.sq, by rw [r.len]; exact hl, Tg.oks (ts := ts) hv L r e hQ⟩
      · cases e
    | _ => cases (show none = some s' from by unfold Tg.go at e; exact e)
theorem Tg.oks {vs : List Nat} : ∀ {ts : List Tg} {ws : List W} {xs : List V} {s s' : Sg} {σ : St} {Q : St → Hp → Prop}, (∀ i ∈ Tg.slotss ts, i ∈ vs) → Sl K H ι s σ → Rvs K H ι ws xs → Tg.gos h ts ws s = some s' → (∀ σ', Sl K H ι s' σ' → σ'.length = σ.length → (∀ j, j ∉ vs → σ'[j]? = σ[j]?) → Q σ' H) → Tg.tgs K ts xs σ H Q
  | [], [], xs, s, s', σ, Q, hv, L, r, e, hQ => by
    cases (show some s = some s' from by unfold Tg.gos at e; exact e)
    exact ⟨r, hQ σ L rfl fun _ _ => rfl⟩
  | t :: ts, w :: ws, xs, s, s', σ, Q, hv, L, ⟨x, r, e1, ax, ar⟩, e, hQ => by
    unfold Tg.gos at e
    split at e
    · rename_i s1 e2
      have hv1 : ∀ i ∈ t.slots, i ∈ vs := fun i hi => hv i (by show i ∈ t.slots ++ Tg.slotss ts; exact List.mem_append_left _ hi)
      have hv2 : ∀ i ∈ Tg.slotss ts, i ∈ vs := fun i hi => hv i (by show i ∈ t.slots ++ Tg.slotss ts; exact List.mem_append_right _ hi)
      exact ⟨x, r, e1, Tg.ok (t := t) hv1 L ax e2 fun σ1 L1 l1 q1 => Tg.oks (ts := ts) hv2 L1 ar e fun σ2 L2 l2 q2 => hQ σ2 L2 (l2.trans l1) fun j hj => (q2 j hj).trans (q1 j hj)⟩
    · cases e
  | [], _ :: _, xs, s, s', σ, Q, hv, L, r, e, hQ => by cases (show none = some s' from by unfold Tg.gos at e; exact e)
  | _ :: _, [], xs, s, s', σ, Q, hv, L, r, e, hQ => by cases (show none = some s' from by unfold Tg.gos at e; exact e)
end
end
section
variable {X : Cx} {E : Wish} {tg e : Expr} {fe : FE} {pos : Pos} {t : Tg}
theorem s_to (he : PE X e (lE X.K E fe)) (hg : PG X tg (t.tg X.K)) (hs : swapsWithSole [tg] e pos.line X.env = pure false := by rfl) (hw : swappedStores [tg] e X.env = pure none := by rfl)
    (h1 : (assignEach [tg] X.env).map (·.2) = [assign tg X.env] := by rfl) : PS X (.Assign [tg] e pos) (lS X.K E (sTo t fe)) :=
  PS.imp (ps_asg he hg hs hw h1) fun D σ H ⟨ι, s, h, S, L, hw⟩ => seB S L hw fun v H1 ι1 h1 w S1 X1 r1 q => by
    split at q
    · rename_i s' e
      exact Tg.ok (vs := t.slots) (fun _ z => z) (L.mono X1) r1 e fun σ' L' _ _ => q H1 ι1 S1 X1 _ L'
    · exact q.elim
end

/-! ### what is walked -/
section
variable (K : PySem.W.Frag) (E : Wish)
/-- J walks sr, from here on -/
def Wk (J : It) (ι0 : List Addr) (H0 : Hp) (sr : Src) : Prop := ∀ ι H h, Sim K H ι h → Ext ι0 H0 ι H → sr.ck h → ∀ i, i ≤ sr.items.length →
  (sr.items[i]? = none → J.stop i H) ∧ (∀ w, sr.items[i]? = some w → J.go i H ∧ ∀ x H', J.yld i H x H' → Sim K H' ι h ∧ Ext ι H ι H' ∧ Rv K H' ι w x)
def lI (f : FI) : TI := fun σ H Rr => ∃ ι s h, Sim K H ι h ∧ Sl K H ι s σ ∧ wpR (f s h)
  (fun sr h' => ∀ J H' ι', Sim K H' ι' h' → Ext ι H ι' H' → Wk K J ι' H' sr → Rr J H') (fun x h' => ∀ H' ι', Sim K H' ι' h' → Ext ι H ι' H' → E x s h' ι' H' σ)
end
theorem PI.imp {X : Cx} {tg e : Expr} {t t' : TI} (h : PI X tg e t) (i : ∀ σ H Q, t' σ H Q → t σ H Q) : PI X tg e t' := ⟨fun p s σ H Q I q => h.run p s σ H Q I (i σ H Q q)⟩
section
variable {K : PySem.W.Frag} {E : Wish} {H : Hp} {ι : List Addr} {s : Sg} {h : Hh} {σ : St} {α : Type} {P : α → Hh → Prop} {Ex : Exn → Hh → Prop} {D : Ends}
theorem iB {f : FI} {g : Src → Hh → R α} (S : Sim K H ι h) (L : Sl K H ι s σ) (hw : wpR ((f s h).bind g) P Ex) (hx : Lands K E Ex s σ ι H) {Q : It → Hp → Prop}
    (hQ : ∀ J H1 ι1 h1 sr, Sim K H1 ι1 h1 → Ext ι H ι1 H1 → Wk K J ι1 H1 sr → wpR (g sr h1) P Ex → Q J H1) : lI K E f σ H Q :=
  ⟨ι, s, h, S, L, wpR_mono (wpR_bind hw) (fun w h1 q J H1 ι1 S1 X1 r1 => hQ J H1 ι1 h1 w S1 X1 r1 q) fun x h1 q H1 ι1 S1 X1 => hx x h1 q H1 ι1 S1 X1⟩
theorem siB {f : FI} {k : Src → Hh → R Fl} (S : Sim K H ι h) (L : Sl K H ι s σ) (hw : wpR ((f s h).st s k) (FlP K E D ι H) NoE) {Q : It → Hp → Prop}
    (hQ : ∀ J H1 ι1 h1 sr, Sim K H1 ι1 h1 → Ext ι H ι1 H1 → Wk K J ι1 H1 sr → wpR (k sr h1) (FlP K E D ι H) NoE → Q J H1) : lI K E f σ H Q :=
  ⟨ι, s, h, S, L, wpR_mono (st_split hw) (fun w h1 q J H1 ι1 S1 X1 r1 => hQ J H1 ι1 h1 w S1 X1 r1 q) fun x h1 q H1 ι1 S1 X1 => q H1 ι1 S1 X1 σ (L.mono X1)⟩
end
section
variable {X : Cx} {E : Wish} {tg iter c e : Expr} {fi : FI} {ft : FT} {fe : FE} {fb : FS} {body : List Stmt} {pos : Pos} {t : Tg}
theorem loop_flow {fl : Fl} {h' : Hh} {D : Ends} {N : St → Hp → Prop} {ι : List Addr} {H : Hp} {ι' : List Addr} {H' : Hp} {again : Sg → R Fl}
    (q : wpR (match fl with | .nx s => again s | .ct s => again s | .bk s => .ok (.nx s) h' | fl => .ok fl h') (FlP X.K E D ι H) NoE) (S' : Sim X.K H' ι' h') (X' : Ext ι H ι' H')
    (hN : ∀ s σ', Sl X.K H' ι' s σ' → wpR (again s) (FlP X.K E D ι H) NoE → N σ' H') : lF X.K E { D with nx := N, ct := N, bk := D.nx } fl h' ι' H' := by
  cases fl with
  | nx s => exact fun σ' L' => hN s σ' L' q
  | ct s => exact fun σ' L' => hN s σ' L' q
  | bk s => exact q H' ι' S' X'
  | rt w => exact q H' ι' S' X'
  | ex x s => exact q H' ι' S' X'
theorem s_while {n : Nat} (hp : PassesOwn (model X.prog X.w) X.A X.env X.xe) (hc : PT X c (lT X.K E ft)) (hb : PSs X body (lS X.K E fb)) : PS X (.While c body [] pos) (lS X.K E (sWhile n ft fb)) :=
  PS.imp (ps_while hp hc hb) fun D σ H ⟨ι, s, h, S, L, hw⟩ => by
    refine ⟨fun m σ1 H1 => ∃ ι1 s1 h1, Sim X.K H1 ι1 h1 ∧ Sl X.K H1 ι1 s1 σ1 ∧ wpR (whR ft fb m s1 h1) (FlP X.K E D ι1 H1) NoE, ⟨n, ι, s, h, S, L, hw⟩, ?_⟩
    rintro m σ1 H1 ⟨ι1, s1, h1, S1, L1, w1⟩
    cases m with
    | zero => exact w1.elim
    | succ m =>
      refine stB S1 L1 w1 fun k H2 ι2 h2 S2 X2 q => ?_
      cases k with
      | false => exact q H2 ι2 S2 X2 σ1 (L1.mono X2)
      | true =>
        refine ⟨fun σ' H' => ∃ ι3 s3 h3, Sim X.K H' ι3 h3 ∧ Sl X.K H' ι3 s3 σ' ∧ wpR (whR ft fb m s3 h3) (FlP X.K E D ι3 H') NoE, fun σ' H' z => ⟨m, Nat.lt_succ_self m, z⟩, ?_⟩
        exact sL S2 (L1.mono X2) (wpR_mono (wpR_bind (wp_fl X2 q)) (fun fl h' q' H' ι' S' X' => loop_flow (again := fun s => whR ft fb m s h') q' S' X' fun s3 σ' L' a => ⟨ι', s3, h', S', L', wp_fl X' a⟩) fun _ _ q => q)
theorem s_for (hp : PassesOwn (model X.prog X.w) X.A X.env X.xe) (hc : X.calm = true) (hi : PI X tg iter (lI X.K E fi)) (hg : PG X tg (t.tg X.K)) (hb : PSs X body (lS X.K E fb))
    (hs : ∀ x, foldedSetIterable iter X.env x = pure x := by intro _; rfl) : PS X (.For tg iter body [] pos) (lS X.K E (sFor fi t fb)) :=
  PS.imp (ps_for hp hc hi hg hb hs) fun D σ H ⟨ι, s, h, S, L, hw⟩ => siB S L hw fun J H1 ι1 h1 sr S1 X1 wk q1 => by
    refine ⟨fun i m σ2 H2 => i ≤ sr.items.length ∧ ∃ ι2 s2 h2, Sim X.K H2 ι2 h2 ∧ Sl X.K H2 ι2 s2 σ2 ∧ Ext ι1 H1 ι2 H2 ∧ m = (sr.items.drop i).length ∧ wpR (forR t fb sr.ck (sr.items.drop i) s2 h2) (FlP X.K E D ι2 H2) NoE, ⟨_, Nat.zero_le _, ι1, s, h1, S1, L.mono X1, .refl, rfl, wp_fl X1 q1⟩, ?_⟩
    rintro i m σ2 H2 ⟨hle, ι2, s2, h2, S2, L2, X2, rfl, w2⟩
    cases e : sr.items.drop i with
    | nil =>
      rw [e] at w2
      unfold forR at w2
      split at w2
      · rename_i hck
        have e0 : sr.items[i]? = none := List.getElem?_eq_none (by have := congrArg List.length e; simp only [List.length_drop, List.length_nil] at this; omega)
        exact .inl ⟨((wk ι2 H2 h2 S2 X2 hck i hle).1 e0), w2 H2 ι2 S2 .refl σ2 L2⟩
      · exact w2.elim
    | cons w ws =>
      rw [e] at w2
      have e0 : sr.items[i]? = some w := by
        have := congrArg (fun l => l[0]?) e
        simpa using this
      have e1 : sr.items.drop (i + 1) = ws := by
        have := congrArg (fun l => l.drop 1) e
        simpa [List.drop_drop, Nat.add_comm] using this
      unfold forR at w2
      split at w2
      · rename_i hck
        obtain ⟨go, hy⟩ := (wk ι2 H2 h2 S2 X2 hck i hle).2 w e0
        refine .inr ⟨go, fun σ' H' => ∃ ι3 s3 h3, Sim X.K H' ι3 h3 ∧ Sl X.K H' ι3 s3 σ' ∧ Ext ι1 H1 ι3 H' ∧ wpR (forR t fb sr.ck (sr.items.drop (i + 1)) s3 h3) (FlP X.K E D ι3 H') NoE, fun σ' H' ⟨ι3, s3, h3, a1, a2, a3, a4⟩ => ⟨_, by rw [e1]; exact Nat.lt_succ_self _, (List.getElem?_eq_some_iff.mp e0).1, ι3, s3, h3, a1, a2, a3, rfl, a4⟩, fun x H3 y => ?_⟩
        obtain ⟨S3, X3, r3⟩ := hy x H3 y
        split at w2
        · rename_i s4 e4
          refine Tg.ok (vs := t.slots) (fun _ z => z) (L2.mono X3) r3 e4 fun σ4 L4 _ _ => ?_
          exact sL S3 L4 (wpR_mono (wpR_bind (wp_fl X3 w2)) (fun fl h' q' H' ι' S' X' => loop_flow (again := fun s => forR t fb sr.ck ws s h') q' S' X' fun s5 σ' L' a => ⟨ι', s5, h', S', L', (X2.trans X3).trans X', by rw [e1]; exact wp_fl X' a⟩) fun _ _ q => q)
        · exact w2.elim
      · exact w2.elim
end
end NB

set_option Elab.async false
set_option linter.all false
set_option maxRecDepth 100000
set_option maxHeartbeats 4000000
/-! NbG: list comprehensions; what can be walked. -/
namespace NB
open PySem PySem.Spec L2
open PyProof.Rows hiding St

/-- inside a comprehension nothing is raised -/
def NoW : Wish := fun _ _ _ _ _ _ => False
/-- tuples and locked lists are kept -/
structure TL (H H' : Hp) : Prop where
  tp : ∀ a xs, H a = some (.tup xs) → H' a = some (.tup xs)
  fl : ∀ a o xs, H a = some (.frz o (.lst xs)) → H' a = some (.frz o (.lst xs))
theorem TK.tl {H H' : Hp} (e : TK H H') : TL H H' := ⟨e.tp, fun a o xs q => e.fz a o _ q⟩
section
variable {K : PySem.W.Frag} {H H' H1 : Hp} {ι ι1 : List Addr} {h : Hh} {d : Addr} {o : HO}
mutual
theorem Rv.tk (e : TL H H') : ∀ {w : W} {v : V}, Rv K H ι w v → Rv K H' ι w v
  | .non, _, r => r
  | .bl _, _, r => r
  | .int _, _, r => r
  | .str _, _, r => r
  | .tup _, _, ⟨a, xs, e1, t, r⟩ => ⟨a, xs, e1, ⟨t.1, t.2.imp (e.tp a xs) id⟩, Rvs.tk e r⟩
  | .rls _, _, ⟨a, xs, e1, t, r⟩ => ⟨a, xs, e1, t.imp (fun ⟨o, q⟩ => ⟨o, e.fl a o xs q⟩) id, Rvs.tk e r⟩
  | .loc _, _, r => r
  | .cl _, _, r => r
theorem Rvs.tk (e : TL H H') : ∀ {ws : List W} {xs : List V}, Rvs K H ι ws xs → Rvs K H' ι ws xs
  | [], _, r => r
  | _ :: _, _, ⟨x, r, e1, q, t⟩ => ⟨x, r, e1, Rv.tk e q, Rvs.tk e t⟩
end
theorem Rkv.tk {κ : Type} (e : TL H H') : ∀ {ws : List (κ × W)} {xs : List (κ × V)}, Rkv K H ι ws xs → Rkv K H' ι ws xs
  | [], _, r => r
  | _ :: _, _, ⟨x, r, e1, q, t⟩ => ⟨x, r, e1, Rv.tk e q, Rkv.tk e t⟩
theorem ObR.tk {ob : Ob} {a : Addr} (x : ObR K H ι ob a) (e : TL H H') (k : H' a = H a) : ObR K H' ι ob a := by
  cases ob with
  | lst ws => obtain ⟨xs, q, r⟩ := x; exact ⟨xs, k.trans q, r.tk e⟩
  | dct lk kvs =>
    cases lk with
    | false => obtain ⟨ys, q, r⟩ := x; exact ⟨ys, k.trans q, r.tk e⟩
    | true => obtain ⟨ys, od, q, r⟩ := x; exact ⟨ys, od, k.trans q, r.tk e⟩
  | ins C fs => obtain ⟨dx, gs, q, r⟩ := x; exact ⟨dx, gs, k.trans q, r.tk e⟩
/-- a thing that is none of ours is changed -/
theorem Sim.out (S : Sim K H ι h) (hd : d ∉ ι) (mu : Mut (H d)) : Sim K (upd H d o) ι h := ⟨S.len, S.dj, fun i ob e => by
  obtain ⟨a, e1, x⟩ := S.ob i ob e
  exact ⟨a, e1, x.tk (tk_mut mu).tl (upd_ne fun z => hd (by rw [← z]; exact List.mem_of_getElem? e1))⟩⟩
theorem Ext.out (e : Ext ι1 H1 ι H) (hn : H1 d = none) (mu : Mut (H d)) : Ext ι1 H1 ι (upd H d o) :=
  ⟨e.pre, e.tk.trans (tk_mut mu), fun b u q n => by rw [upd_ne (ne_of_none q hn)]; exact e.fr b u q n, e.nw⟩
theorem Ext.fresh (e : Ext ι1 H1 ι H) (hn : H d = none) (hd : d ∉ ι) : H1 d = none ∧ d ∉ ι1 := by
  have h1 : d ∉ ι1 := fun m => by
    obtain ⟨n, hl, q⟩ := List.getElem_of_mem m
    exact hd (List.mem_of_getElem? (e.pre n d (by rw [List.getElem?_eq_getElem hl, q])))
  refine ⟨?_, h1⟩
  cases q : H1 d with
  | none => rfl
  | some o =>
    have z := e.fr d o q h1
    rw [hn] at z
    cases z
theorem Ext.adopt (e : Ext ι1 H1 ι H) (hn : H1 d = none) : Ext ι1 H1 (ι ++ [d]) H := ⟨fun n a q => pre_app n a (e.pre n a q), e.tk, e.fr, fun b m n => by
  rcases List.mem_append.mp m with m | m
  · exact e.nw b m n
  · rw [List.mem_singleton.mp m]
    exact hn⟩
/-- it is not ours and stays so, and stays as it is -/
theorem Ext.apart (e : Ext ι1 H1 ι H) (hq : H1 d = some o) (hd : d ∉ ι1) : H d = some o ∧ d ∉ ι := ⟨e.fr d o hq hd, fun m => by
  have z := e.nw d m hd
  rw [hq] at z
  cases z⟩
end
theorem wpR_sb {α β : Type} {r : R α} {k : α → Hh → R β} {P : β → Hh → Prop} {E E' : Exn → Hh → Prop} (h : wpR (r.sure.bind k) P E) : wpR r (fun a h => wpR (k a h) P E) E' := by
  cases r <;> first | exact h | exact h.elim
section
variable {X : Cx} {E : Wish} {tg iter e : Expr} {fi : FI} {ft : FT} {fe : FE} {pos : Pos} {t : Tg} {ifs : List Expr}
theorem t_yes : PTs X [] (lT X.K NoW bYes) := by
  have p : PTs X [] tYes := pts_nil
  exact ⟨fun pins s σ H Q I ⟨ι, _, h, S, _, hw⟩ => p.run pins s σ H Q I (hw H ι S .refl)⟩
theorem t_one {c : Expr} (h : PT X c (lT X.K NoW ft)) : PTs X [c] (lT X.K NoW ft) := pts_one h
theorem lc_of {vs : List Nat} (ht : ∀ i ∈ t.slots, i ∈ vs) : ∀ σ H Q, lE X.K E (bLc fi t ft fe vs) σ H Q → tLc (lI X.K E fi) (t.tg X.K) (lT X.K NoW ft) (lE X.K NoW fe) vs σ H Q := fun σ H Q ⟨ι, s, h, S, L, hw⟩ =>
  iB S L hw lands0 fun J H1 ι1 h1 sr S1 X1 wk q1 D hD => by
    have hD1 := S1.fresh hD
    have hD0 := X1.fresh hD hD1
    refine ⟨fun i m H2 => i ≤ sr.items.length ∧ ∃ ι2 h2 acc accV, Sim X.K H2 ι2 h2 ∧ Ext ι1 H1 ι2 H2 ∧ H2 D = some (.lst accV) ∧ D ∉ ι2 ∧ Rvs X.K H2 ι2 acc accV ∧ m = (sr.items.drop i).length ∧
      wpR (lcR t ft fe sr.ck (wipeG s vs) acc (sr.items.drop i) h2) (fun a h => wpR (lcEnd a h) (fun w h' => Goes X.K ι H Q w h') (fun x h' => ∀ H' ι', Sim X.K H' ι' h' → Ext ι H ι' H' → E x s h' ι' H' σ)) (fun x h' => ∀ H' ι', Sim X.K H' ι' h' → Ext ι H ι' H' → E x s h' ι' H' σ),
      ⟨_, Nat.zero_le _, ι1, h1, [], [], S1.new0 hD, ext_new hD, upd_same, hD1, rfl, rfl, wpR_bind q1⟩, ?_⟩
    rintro i m H2 ⟨hle, ι2, h2, acc, accV, S2, X2, q2, hD2, r2, rfl, w2⟩
    cases e0 : sr.items.drop i with
    | nil =>
      rw [e0] at w2
      unfold lcR at w2
      split at w2
      · rename_i hck
        have e1 : sr.items[i]? = none := List.getElem?_eq_none (by have := congrArg List.length e0; simp only [List.length_drop, List.length_nil] at this; omega)
        refine .inl ⟨(wk ι2 H2 h2 S2 X2 hck i hle).1 e1, w2 _ _ _ (S2.adopt hD2 ⟨accV, q2, r2.wide pre_app⟩) ((X1.trans X2).adopt hD0.1) ⟨D, ?_, rfl⟩⟩
        exact at_push S2
      · exact w2.elim
    | cons w ws =>
      rw [e0] at w2
      have e1 : sr.items[i]? = some w := by
        have := congrArg (fun l => l[0]?) e0
        simpa using this
      have e2 : sr.items.drop (i + 1) = ws := by
        have := congrArg (fun l => l.drop 1) e0
        simpa [List.drop_drop, Nat.add_comm] using this
      unfold lcR at w2
      split at w2
      · rename_i hck
        obtain ⟨go, hy⟩ := (wk ι2 H2 h2 S2 X2 hck i hle).2 w e1
        refine .inr ⟨go, fun H' => ∃ ι2 h2 acc accV, Sim X.K H' ι2 h2 ∧ Ext ι1 H1 ι2 H' ∧ H' D = some (.lst accV) ∧ D ∉ ι2 ∧ Rvs X.K H' ι2 acc accV ∧
          wpR (lcR t ft fe sr.ck (wipeG s vs) acc (sr.items.drop (i + 1)) h2) (fun a h => wpR (lcEnd a h) (fun w h' => Goes X.K ι H Q w h') (fun x h' => ∀ H' ι', Sim X.K H' ι' h' → Ext ι H ι' H' → E x s h' ι' H' σ)) (fun x h' => ∀ H' ι', Sim X.K H' ι' h' → Ext ι H ι' H' → E x s h' ι' H' σ),
          fun H' ⟨ι3, h3, ac, av, a1, a2, a3, a4, a5, a6⟩ => ⟨_, by rw [e2]; exact Nat.lt_succ_self _, (List.getElem?_eq_some_iff.mp e1).1, ι3, h3, ac, av, a1, a2, a3, a4, a5, rfl, a6⟩, fun x H3 y => ?_⟩
        obtain ⟨S3, X3, r3⟩ := hy x H3 y
        have L3 := ((((L.mono X1).mono X2).mono X3).wipe vs)
        have a3 := X3.apart q2 hD2
        split at w2
        · rename_i s4 e4
          refine Tg.ok ht L3 r3 e4 fun σ4 L4 l4 k4 => ⟨(wipe_ext l4 k4).trans (wipe_wipe σ vs), ?_⟩
          refine ⟨ι2, s4, h2, S3, L4, wpR_mono (wpR_sb (E' := fun _ _ => False) w2) (fun b h5 w5 H5 ι5 S5 X5 => ?_) fun _ _ (z : False) => z.elim⟩
          have a5 := X5.apart a3.1 a3.2
          have r5 := (r2.mono X3).mono X5
          have X15 := (X2.trans X3).trans X5
          cases b with
          | false => exact ⟨ι5, h5, acc, accV, S5, X15, a5.1, a5.2, r5, by rw [e2]; exact w5⟩
          | true =>
            refine ⟨ι5, s4, h5, S5, L4.mono X5, wpR_mono (wpR_sb (E' := fun _ _ => False) w5) (fun u h6 w6 y6 H6 ι6 S6 X6 r6 => ?_) fun _ _ (z : False) => z.elim⟩
            have a6 := X6.apart a5.1 a5.2
            have r7 := r5.mono X6
            have mu : Mut (H6 D) := by rw [a6.1]; trivial
            split at w6
            · rename_i hz
              refine ⟨accV, a6.1, by rw [r7.len, sz_eq]; exact hz, ι6, h6, acc ++ [u], accV ++ [y6], S6.out a6.2 mu, (X15.trans X6).out hD mu, upd_same, a6.2, (r7.append (.one r6)).tk (tk_mut mu).tl, by rw [e2]; exact w6⟩
            · exact w6.elim
        · exact w2.elim
      · exact w2.elim
end
end NB

set_option Elab.async false
set_option linter.all false
set_option maxRecDepth 100000
set_option maxHeartbeats 4000000
/-! NbH: dicts, stores, methods of the built-in types, on data values. -/
namespace NB
open PySem PySem.Spec L2
open PyProof.Rows hiding St

/-! ### keyed rows -/
def keyW : W → Option Key
  | .int i => some (.inl i)
  | .str s => some (.inr s)
  | _ => none
theorem keyW_ok {K : PySem.W.Frag} {H : Hp} {ι : List Addr} {w : W} {v : V} {k : Key} (r : Rv K H ι w v) (e : keyW w = some k) : v = kV k := by
  cases w <;> cases e <;> exact r
def getK (k : Key) : List (Key × W) → Option W
  | [] => none
  | (j, w) :: r => if j = k then some w else getK k r
def putW (k : Key) (w : W) : List (Key × W) → List (Key × W)
  | [] => [(k, w)]
  | (j, u) :: r => if j = k then (j, w) :: r else (j, u) :: putW k w r
def dropW (k : Key) : List (Key × W) → List (Key × W)
  | [] => []
  | (j, u) :: r => if j = k then r else (j, u) :: dropW k r
/-- keys once each -/
def NdK (kvs : List (Key × W)) : Prop := (kvs.map (·.1)).Nodup
theorem any_no {k : Key} : ∀ {ys : List (Key × V)}, valV ys k = none → (ys.any fun kv => decide (kv.1 = k)) = false := by
  intro ys e
  rw [valV_any, e]
  rfl
section
variable {K : PySem.W.Frag} {H : Hp} {ι : List Addr}
theorem Rkv.val {k : Key} : ∀ {kvs : List (Key × W)} {ys : List (Key × V)}, Rkv K H ι kvs ys → (∀ w, getK k kvs = some w → ∃ v, valV ys k = some v ∧ Rv K H ι w v) ∧ (getK k kvs = none → valV ys k = none)
  | [], _, r => by
    rw [show _ = [] from r]
    exact ⟨fun w e => (by cases e), fun _ => rfl⟩
  | (j, u) :: kvs, _, ⟨x, r, e1, a, t⟩ => by
    subst e1
    unfold getK
    by_cases hj : j = k
    · rw [if_pos hj, valV_pos (p := (j, x)) hj]
      exact ⟨fun w e => (by cases e; exact ⟨x, rfl, a⟩), fun e => (by cases e)⟩
    · rw [if_neg hj, valV_neg (p := (j, x)) hj]
      exact Rkv.val t
theorem Rkv.snoc {k : Key} {w : W} {v : V} (rw' : Rv K H ι w v) : ∀ {kvs : List (Key × W)} {ys : List (Key × V)}, Rkv K H ι kvs ys → Rkv K H ι (kvs ++ [(k, w)]) (ys ++ [(k, v)])
  | [], _, r => by
    rw [show _ = [] from r]
    exact ⟨v, [], rfl, rw', rfl⟩
  | (j, u) :: kvs, _, ⟨x, r, e1, a, t⟩ => by
    subst e1
    exact ⟨x, _, rfl, a, Rkv.snoc rw' t⟩
theorem putW_new {k : Key} {w : W} : ∀ {kvs : List (Key × W)}, getK k kvs = none → putW k w kvs = kvs ++ [(k, w)]
  | [], _ => rfl
  | (j, u) :: kvs, e => by
    unfold getK at e
    unfold putW
    split at e
    · cases e
    · rename_i hj
      rw [if_neg hj, putW_new e]
      rfl
theorem Rkv.map_no {k : Key} {v : V} : ∀ {ys : List (Key × V)}, valV ys k = none → ys.map (fun kv => if kv.1 = k then (kv.1, v) else kv) = ys
  | [], _ => rfl
  | (j, x) :: ys, e => by
    by_cases hj : j = k
    · rw [valV_pos (p := (j, x)) hj] at e
      cases e
    · rw [valV_neg (p := (j, x)) hj] at e
      rw [List.map_cons, if_neg hj, Rkv.map_no e]
theorem getK_none {k : Key} : ∀ {kvs : List (Key × W)}, k ∉ kvs.map (·.1) → getK k kvs = none
  | [], _ => rfl
  | (j, u) :: kvs, e => by
    unfold getK
    rw [if_neg (fun z => e (by rw [z]; exact List.mem_cons_self)), getK_none (fun z => e (List.mem_cons_of_mem _ z))]
theorem getK_in {k : Key} : ∀ {kvs : List (Key × W)}, getK k kvs = none → k ∉ kvs.map (·.1)
  | [], _ => by simp
  | (j, u) :: kvs, e => by
    unfold getK at e
    split at e
    · cases e
    · rename_i hj
      intro m
      rcases List.mem_cons.mp m with m | m
      · exact hj m.symm
      · exact getK_in e m
theorem Rkv.put {k : Key} {w : W} {v : V} (rw' : Rv K H ι w v) : ∀ {kvs : List (Key × W)} {ys : List (Key × V)}, NdK kvs → Rkv K H ι kvs ys → Rkv K H ι (putW k w kvs) (putK ys k v)
  | [], _, _, r => by
    rw [show _ = [] from r]
    exact ⟨v, [], rfl, rw', rfl⟩
  | (j, u) :: kvs, _, nd, ⟨x, r, e1, a, t⟩ => by
    subst e1
    have nd2 : j ∉ kvs.map (·.1) ∧ NdK kvs := List.nodup_cons.mp nd
    unfold putW
    by_cases hj : j = k
    · subst hj
      rw [if_pos rfl]
      unfold putK
      have e2 : valV r j = none := (Rkv.val t).2 (getK_none nd2.1)
      rw [List.any_cons, decide_eq_true (rfl : j = j), Bool.true_or, if_pos rfl, List.map_cons, if_pos rfl, Rkv.map_no e2]
      exact ⟨v, r, rfl, rw', t⟩
    · rw [if_neg hj]
      have ih := Rkv.put rw' (k := k) nd2.2 t
      unfold putK at ih ⊢
      rw [List.any_cons, decide_eq_false (show ¬ j = k from hj), Bool.false_or]
      split at ih
      · rename_i c
        rw [if_pos c, List.map_cons, if_neg (show ¬ j = k from hj)]
        exact ⟨x, _, rfl, a, ih⟩
      · rename_i c
        rw [if_neg c, List.cons_append]
        exact ⟨x, _, rfl, a, ih⟩
theorem Rkv.drop {k : Key} : ∀ {kvs : List (Key × W)} {ys : List (Key × V)}, NdK kvs → Rkv K H ι kvs ys → Rkv K H ι (dropW k kvs) (dropK ys k)
  | [], _, _, r => by
    rw [show _ = [] from r]
    exact rfl
  | (j, u) :: kvs, _, nd, ⟨x, r, e1, a, t⟩ => by
    subst e1
    have nd2 : j ∉ kvs.map (·.1) ∧ NdK kvs := List.nodup_cons.mp nd
    have ih := Rkv.drop (k := k) nd2.2 t
    unfold dropW
    by_cases hj : j = k
    · subst hj
      rw [if_pos rfl]
      rw [show dropK ((j, x) :: r) j = dropK r j from by unfold dropK; rw [List.filter_cons]; simp]
      have no : ∀ {kvs : List (Key × W)}, j ∉ kvs.map (·.1) → dropW j kvs = kvs := by
        intro kvs
        induction kvs with
        | nil => intro _; rfl
        | cons p q ih =>
          intro e
          obtain ⟨p1, p2⟩ := p
          unfold dropW
          rw [if_neg (fun z => e (by rw [z]; exact List.mem_cons_self)), ih (fun z => e (List.mem_cons_of_mem _ z))]
      rw [no nd2.1] at ih
      exact ih
    · rw [if_neg hj]
      rw [show dropK ((j, x) :: r) k = (j, x) :: dropK r k from by unfold dropK; rw [List.filter_cons]; simp [hj]]
      exact ⟨x, _, rfl, a, ih⟩
end
theorem NdK.put {k : Key} {w : W} : ∀ {kvs : List (Key × W)}, NdK kvs → NdK (putW k w kvs)
  | [], _ => by unfold putW NdK; simp
  | (j, u) :: kvs, nd => by
    have nd2 : j ∉ kvs.map (·.1) ∧ NdK kvs := List.nodup_cons.mp nd
    unfold putW
    by_cases hj : j = k
    · rw [if_pos hj]; exact nd
    · rw [if_neg hj]
      refine List.nodup_cons.mpr ⟨fun m => ?_, NdK.put nd2.2⟩
      have sub : ∀ {kvs : List (Key × W)}, j ∈ (putW k w kvs).map (·.1) → j ∈ kvs.map (·.1) := by
        intro kvs
        induction kvs with
        | nil =>
          intro e
          exact absurd (List.mem_singleton.mp e) hj
        | cons p q ih =>
          intro e
          obtain ⟨p1, p2⟩ := p
          unfold putW at e
          split at e
          · exact e
          · rcases List.mem_cons.mp e with e | e
            · rw [e]; exact List.mem_cons_self
            · exact List.mem_cons_of_mem _ (ih e)
      exact nd2.1 (sub m)

/-! ### values at a key; stores -/
open Classical in
noncomputable def ixG (x y : W) (h : Hh) : R W := match x with
  | .loc n => match h[n]? with
    | some (.dct _ kvs) => match keyW y with
      | some k => match getK k kvs with
        | some w => .ok w h
        | none => .stk
      | none => .stk
    | _ => ixW x y h
  | _ => ixW x y h
noncomputable def inG (x y : W) (h : Hh) : R W := match y with
  | .loc n => match h[n]? with
    | some (.dct _ kvs) => match keyW x with
      | some k => .ok (.bl (getK k kvs).isSome) h
      | none => .stk
    | _ => inW x y h
  | _ => inW x y h
noncomputable def ninG (x y : W) (h : Hh) : R W := match y with
  | .loc n => match h[n]? with
    | some (.dct _ kvs) => match keyW x with
      | some k => .ok (.bl (!(getK k kvs).isSome)) h
      | none => .stk
    | _ => ninW x y h
  | _ => ninW x y h
open Classical in
/-- o[i] = v -/
noncomputable def setG (o i v : W) (h : Hh) : R Unit := match o with
  | .loc n => match h[n]? with
    | some (.lst ws) => match i with
      | .int j => match ixN ws.length j with
        | some k => .ok () (h.set n (.lst (ws.set k v)))
        | none => .stk
      | _ => .stk
    | some (.dct false kvs) => match keyW i with
      | some k => if kvs.length < Sz ∧ NdK kvs then .ok () (h.set n (.dct false (putW k v kvs))) else .stk
      | none => .stk
    | _ => .stk
  | _ => .stk
section
variable {X : Cx}
theorem ix_dct (hu : X.A.units + 1 < cLine) : IxR X (fun x y H Q => ∃ a v, x = .ref a ∧ DGet H a y (some v) ∧ Q v H) := by
  intro value slice pins s σ H x y v u Q I rx ry ⟨a, r, ex, g, q⟩ hs
  subst ex
  obtain rfl : v = Value.ref a := rx
  have hT := dict_typeIs I g
  unfold subscriptTail
  refine wpAny_bind ?_
  rw [getitemInPython_of_ne hT.not_modules]
  refine wpAny_bind (wpAny_specialOf hT PySem.F.slot_dict_getitem.lookup ?_)
  have out : wpAny (model X.prog X.w) X.A (subscripted slice false (.ref a) u) (fun t s1 => wpAny (model X.prog X.w) X.A (letTemporaryGo value (.ref a) t >>= fun _ => pure t) (EP X pins σ Q) X.xe s1) X.xe s := by
    rw [hs]
    exact wpAny_operating (d_getItem hu I g ry fun w' s1 I1 rw' => wpAny_bind (wpAny_letTemporaryGo (wpAny_pure ⟨r, H, I1, rw', q⟩)))
  first
    | exact wpAny_pure (wpAny_bind out)
    | exact wpAny_bind (wpAny_pure (wpAny_bind out))
    | exact wpAny_bind out
theorem dget_of {H : Hp} {ι : List Addr} {h : Hh} (S : Sim X.K H ι h) {n : Nat} {lk : Bool} {kvs : List (Key × W)} {a : Addr} {y : V} {wy : W} {k : Key} (e : h[n]? = some (.dct lk kvs)) (ei : ι[n]? = some a) (ry : Rv X.K H ι wy y) (ek : keyW wy = some k) :
    (∀ w, getK k kvs = some w → ∃ v, DGet H a y (some v) ∧ Rv X.K H ι w v) ∧ (getK k kvs = none → DGet H a y none) := by
  obtain ⟨ys, q, r⟩ := S.dctR e ei
  have ey := keyW_ok ry ek
  refine ⟨fun w hw => ?_, fun hw => ?_⟩
  · obtain ⟨v, e1, r1⟩ := r.val.1 w hw
    exact ⟨v, .inl ⟨ys, k, q, ey, e1.symm⟩, r1⟩
  · exact .inl ⟨ys, k, q, ey, (r.val.2 hw).symm⟩
theorem x_ixG (hu : X.A.units + 1 < cLine) : IxR X (rL X.K ixG) := by
  intro value slice pins s σ H x y v u Q I rx ry hq hs
  obtain ⟨ι, h, wx, wy, S, ax, ay, hw⟩ := hq
  have old : wpR (ixW wx wy h) (fun w h' => Goes X.K ι H Q w h') (fun _ _ => False) → wpAny (model X.prog X.w) X.A (subscriptTail value slice v u) (EP X pins σ Q) X.xe s :=
    fun z => x_ix value slice pins s σ H x y v u Q I rx ry ⟨ι, h, wx, wy, S, ax, ay, z⟩ hs
  unfold ixG at hw
  split at hw
  · split at hw
    · rename_i e0
      split at hw
      · rename_i k ek
        split at hw
        · rename_i w ew
          obtain ⟨a, ei, rfl⟩ := ax
          obtain ⟨r, g, rr⟩ := (dget_of S e0 ei ay ek).1 w ew
          exact ix_dct hu value slice pins s σ H _ y v u Q I rx ry ⟨a, r, rfl, g, hw _ _ _ S .refl rr⟩ hs
        · exact hw.elim
      · exact hw.elim
    · exact old hw
  · exact old hw
theorem o_inG (hu : X.A.units + 1 < cLine) : OpR X (compareOp .In) (rL X.K inG) := by
  intro pins s σ H x y v u Q I rx ry hq
  obtain ⟨ι, h, wx, wy, S, ax, ay, hw⟩ := hq
  have old : wpR (inW wx wy h) (fun w h' => Goes X.K ι H Q w h') (fun _ _ => False) → _ := fun z => o_in pins s σ H x y v u Q I rx ry ⟨ι, h, wx, wy, S, ax, ay, z⟩
  unfold inG at hw
  split at hw
  · split at hw
    · rename_i e0
      split at hw
      · rename_i k ek
        obtain ⟨a, ei, rfl⟩ := ay
        obtain rfl : u = Value.ref a := ry
        have gg := dget_of S e0 ei ax ek
        cases ew : getK k _ with
        | some w =>
          obtain ⟨r, g, rr⟩ := gg.1 w ew
          rw [ew] at hw
          exact d_in hu I g rx fun s' I' => ⟨.bl true, H, I', rfl, hw _ _ _ S .refl rfl⟩
        | none =>
          rw [ew] at hw
          exact d_in hu I (gg.2 ew) rx fun s' I' => ⟨.bl false, H, I', rfl, hw _ _ _ S .refl rfl⟩
      · exact hw.elim
    · exact old hw
  · exact old hw
theorem o_ninG (hu : X.A.units + 1 < cLine) : OpR X (compareOp .NotIn) (rL X.K ninG) := by
  intro pins s σ H x y v u Q I rx ry hq
  obtain ⟨ι, h, wx, wy, S, ax, ay, hw⟩ := hq
  have old : wpR (ninW wx wy h) (fun w h' => Goes X.K ι H Q w h') (fun _ _ => False) → _ := fun z => o_nin pins s σ H x y v u Q I rx ry ⟨ι, h, wx, wy, S, ax, ay, z⟩
  unfold ninG at hw
  split at hw
  · split at hw
    · rename_i e0
      split at hw
      · rename_i k ek
        obtain ⟨a, ei, rfl⟩ := ay
        obtain rfl : u = Value.ref a := ry
        have gg := dget_of S e0 ei ax ek
        cases ew : getK k _ with
        | some w =>
          obtain ⟨r, g, rr⟩ := gg.1 w ew
          rw [ew] at hw
          exact d_notIn hu I g rx fun s' I' => ⟨.bl false, H, I', rfl, hw _ _ _ S .refl rfl⟩
        | none =>
          rw [ew] at hw
          exact d_notIn hu I (gg.2 ew) rx fun s' I' => ⟨.bl true, H, I', rfl, hw _ _ _ S .refl rfl⟩
      · exact hw.elim
    · exact old hw
  · exact old hw
def lSet (K : PySem.W.Frag) (f : W → W → W → Hh → R Unit) : TSet := fun o i v H Q => ∃ ι h wo wi wv, Sim K H ι h ∧ Rv K H ι wo o ∧ Rv K H ι wi i ∧ Rv K H ι wv v ∧ wpR (f wo wi wv h)
  (fun _ h' => ∀ H' ι', Sim K H' ι' h' → Ext ι H ι' H' → Q H') (fun _ _ => False)
theorem set_G (hu : X.A.units + 1 < cLine) : PSet X (lSet X.K setG) := by
  intro pins s σ H o i v ov iv u Q I ro ri rv hq
  obtain ⟨ι, h, wo, wi, wv, S, ao, ai, av, hw⟩ := hq
  unfold setG at hw
  split at hw
  · obtain ⟨p, ei, rfl⟩ := ao
    split at hw
    · rename_i e0
      split at hw
      · split at hw
        · rename_i k ek
          cases ai
          obtain ⟨xs, q, r⟩ := S.lst e0 ei
          have mu : Mut (H p) := by rw [q]; trivial
          have ex := ext_set (o := HO.lst (xs.set k v)) mu (List.mem_of_getElem? ei)
          exact set_list pins s σ H _ _ v ov iv u Q I ro ri rv ⟨p, xs, _, k, rfl, rfl, q, by rw [r.len]; exact ek, hw _ _ (S.set e0 ei ex ⟨_, upd_same, (r.set k av).mono ex⟩) ex⟩
        · exact hw.elim
      · exact hw.elim
    · rename_i e0
      split at hw
      · rename_i k ek
        split at hw
        · rename_i hz
          obtain ⟨ys, q, r⟩ := S.dct e0 ei
          have mu : Mut (H p) := by rw [q]; trivial
          have ex := ext_set (o := HO.dK (putK ys k v)) mu (List.mem_of_getElem? ei)
          refine set_dict hu pins s σ H _ i v ov iv u Q I ro ri rv ⟨p, _, rfl, .inl ⟨ys, k, q, keyW_ok ai ek, by rw [r.len, sz_eq]; exact hz.1, rfl⟩, hw _ _ (S.set e0 ei ex ⟨_, upd_same, ((r.put (k := k) av hz.2)).mono ex⟩) ex⟩
        · exact hw.elim
      · exact hw.elim
    · exact hw.elim
  · exact hw.elim
end
end NB

set_option Elab.async false
set_option linter.all false
set_option maxRecDepth 100000
set_option maxHeartbeats 4000000
/-! NbI: what is walked: lists, tuples, texts, ranges, dicts; walks over locked dicts. -/
namespace NB
open PySem PySem.Spec L2
open PyProof.Rows hiding St

/-! ### sources -/
def srcSeq (h : Hh) : W → Option Src
  | .tup ws => some ⟨ws, fun _ => True⟩
  | .rls ws => some ⟨ws, fun _ => True⟩
  | .loc n => match h[n]? with
    | some (.lst ws) => some ⟨ws, fun h => h[n]? = some (.lst ws)⟩
    | _ => none
  | _ => none
def iSeq (e : FE) : FI := fun s h => (e s h).bind fun x h => match srcSeq h x with
  | some sr => .ok sr h
  | none => .stk
def iText (e : FE) : FI := fun s h => (e s h).bind fun x h => match x with
  | .str z => .ok ⟨z.cps.toList.map fun c => .str ⟨#[c]⟩, fun _ => True⟩ h
  | _ => .stk
def rngW (lo : Int) (n : Nat) : List W := (List.range n).map fun (i : Nat) => W.int (lo + (i : Int))
def iRange1 (a : FA) : FI := fun s h => (a s h).bind fun ws h => match ws with
  | [.int j] => if -(2 ^ 62) ≤ j ∧ j < 2 ^ 62 then .ok ⟨rngW 0 j.toNat, fun _ => True⟩ h else .stk
  | _ => .stk
def iRange2 (a : FA) : FI := fun s h => (a s h).bind fun ws h => match ws with
  | [.int i, .int j] => if -(2 ^ 62) ≤ i ∧ i < 2 ^ 62 ∧ -(2 ^ 62) ≤ j ∧ j < 2 ^ 62 then .ok ⟨rngW i (j - i).toNat, fun _ => True⟩ h else .stk
  | _ => .stk
section
variable {K : PySem.W.Frag} {H : Hp} {ι : List Addr} {h : Hh}
theorem wk_lst {a : Addr} {n : Nat} {ws : List W} (ei : ι[n]? = some a) : Wk K (Itl K a) ι H ⟨ws, fun h => h[n]? = some (.lst ws)⟩ := fun ι' H' h' S X ck i _ => by
  obtain ⟨xs, q, r⟩ := S.lst ck (X.pre _ _ ei)
  refine ⟨fun e => ⟨xs, .of q, ?_⟩, fun w e => ?_⟩
  · rw [r.len]
    exact List.getElem?_eq_none_iff.mp e
  · obtain ⟨x, ex, rx⟩ := r.get e
    refine ⟨⟨xs, x, .of q, ex⟩, fun y H'' z => ?_⟩
    obtain ⟨rfl, z⟩ := z
    have := z xs (.of q)
    rw [ex] at this
    cases this
    exact ⟨S, .refl, rx⟩
theorem wk_rls {a : Addr} {xs : List V} {ws : List W} (t : Lp K H a xs) (r : Rvs K H ι ws xs) : Wk K (Itl K a) ι H ⟨ws, fun _ => True⟩ := fun ι' H' h' S X ck i _ => by
  have t' := t.mono X.tk
  have r' := r.mono X
  refine ⟨fun e => ⟨xs, t'.sq, ?_⟩, fun w e => ?_⟩
  · rw [r.len]
    exact List.getElem?_eq_none_iff.mp e
  · obtain ⟨x, ex, rx⟩ := r'.get e
    refine ⟨⟨xs, x, t'.sq, ex⟩, fun y H'' z => ?_⟩
    obtain ⟨rfl, z⟩ := z
    have := z xs t'.sq
    rw [ex] at this
    cases this
    exact ⟨S, .refl, rx⟩
theorem wk_tup {a : Addr} {xs : List V} {ws : List W} (t : Tp K H a xs) (r : Rvs K H ι ws xs) : Wk K (Itt K a) ι H ⟨ws, fun _ => True⟩ := fun ι' H' h' S X ck i _ => by
  have t' := t.mono X.tk
  have r' := r.mono X
  refine ⟨fun e => ⟨xs, t'.sq, ?_⟩, fun w e => ?_⟩
  · rw [r.len]
    exact List.getElem?_eq_none_iff.mp e
  · obtain ⟨x, ex, rx⟩ := r'.get e
    refine ⟨⟨xs, x, t'.sq, ex⟩, fun y H'' z => ?_⟩
    obtain ⟨rfl, z⟩ := z
    have := z xs t'.sq
    rw [ex] at this
    cases this
    exact ⟨S, .refl, rx⟩
theorem rng_get (lo : Int) (n i : Nat) : (rngW lo n)[i]? = if i < n then some (.int (lo + (i : Int))) else none := by
  unfold rngW
  by_cases hi : i < n
  · rw [if_pos hi, List.getElem?_map, List.getElem?_range hi]
    rfl
  · rw [if_neg hi]
    exact List.getElem?_eq_none (by rw [List.length_map, List.length_range]; omega)
theorem wk_rng {lo : Int} {n : Nat} : Wk K (Itr lo n) ι H ⟨rngW lo n, fun _ => True⟩ := fun ι' H' h' S X ck i _ => by
  refine ⟨fun e => ?_, fun w e => ?_⟩
  · have e' : (rngW lo n)[i]? = none := e
    rw [rng_get] at e'
    split at e'
    · cases e'
    · rename_i hi
      exact Nat.le_of_not_lt hi
  · have e' : (rngW lo n)[i]? = some w := e
    rw [rng_get] at e'
    split at e'
    · rename_i hi
      cases e'
      refine ⟨hi, fun y H'' z => ?_⟩
      obtain ⟨rfl, z⟩ := z
      exact ⟨S, .refl, z⟩
    · cases e'
theorem wk_str {z : Str} : Wk K (Its z) ι H ⟨z.cps.toList.map fun c => .str ⟨#[c]⟩, fun _ => True⟩ := fun ι' H' h' S X ck i _ => by
  refine ⟨fun e => ?_, fun w e => ?_⟩
  · have e' := List.getElem?_eq_none_iff.mp e
    rw [List.length_map, Array.length_toList] at e'
    exact e'
  · obtain ⟨c, e1, e2⟩ : ∃ c, z.cps.toList[i]? = some c ∧ W.str ⟨#[c]⟩ = w := Option.map_eq_some_iff.mp (by rw [← List.getElem?_map]; exact e)
    subst e2
    rw [Array.getElem?_toList] at e1
    refine ⟨(Array.getElem?_eq_some_iff.mp e1).1, fun y H'' q => ?_⟩
    obtain ⟨rfl, d, ed, ey⟩ := q
    rw [e1] at ed
    cases ed
    exact ⟨S, .refl, ey⟩
end
section
variable {X : Cx} {E : Wish} {tg a b e : Expr} {fe fa fb : FE} {aa : FA} {pos p : Pos}
/-- a list or a tuple is walked -/
theorem pi_sq {te : TE} (he : PE X e te) : PI X tg e (fun σ H Rr => te σ H fun x H1 => ∃ a xs, x = .ref a ∧ ((SqL X.K H1 a xs ∧ Rr (Itl X.K a) H1) ∨ (SqT X.K H1 a xs ∧ Rr (Itt X.K a) H1))) := by
  constructor
  intro pins s σ H Rr I0 hw
  refine thn (he.run pins s σ H _ I0 hw) fun v s2 ⟨x, H2, I2, rx, al, xs, ex, q⟩ => ?_
  subst ex
  cases rx
  have one : ∀ b ∈ [s2.heap.objs.size], FpOk X pins H2 b := fun b hb => by
    rw [List.mem_singleton.mp hb]
    exact I2.fpOk (Nat.le_refl _) (I2.hok.fresh (Nat.le_refl _))
  rcases q with ⟨hq, q⟩ | ⟨hq, q⟩
  · obtain ⟨its, rv, pl, hz⟩ := I2.list hq
    exact wpAny_pyIter_list pl.isList ⟨_, [s2.heap.objs.size], _, _, H2, rfl, I2.kept (t' := s2.toks) (fun c ob z => Heap.get?_push_of_some _ z), turn_list al _, ⟨_, Heap.get?_push_size _ rfl, rfl, rfl⟩, one, q⟩
  · obtain ⟨its, rv, pl, hz⟩ := I2.tuple hq
    exact wpAny_pyIter_tuple (items := its.toArray) pl ⟨_, [s2.heap.objs.size], _, _, H2, rfl, I2.kept (t' := s2.toks) (fun c ob z => Heap.get?_push_of_some _ z), turn_tuple al _, ⟨_, Heap.get?_push_size _ rfl, rfl, rfl⟩, one, q⟩
theorem i_seq (he : PE X e (lE X.K E fe)) : PI X tg e (lI X.K E (iSeq fe)) :=
  PI.imp (pi_sq he) fun σ H Q ⟨ι, s, h, S, L, hw⟩ => eB S L hw lands0 fun v H1 ι1 h1 w S1 X1 r1 hw1 => by
    unfold srcSeq at hw1
    cases w with
    | tup ws =>
      obtain ⟨al, xs, rfl, t, r⟩ := r1
      exact ⟨al, xs, rfl, .inr ⟨t.sq, hw1 _ H1 ι1 S1 X1 (wk_tup t r)⟩⟩
    | rls ws =>
      obtain ⟨al, xs, rfl, t, r⟩ := r1
      exact ⟨al, xs, rfl, .inl ⟨t.sq, hw1 _ H1 ι1 S1 X1 (wk_rls t r)⟩⟩
    | loc n =>
      dsimp only at hw1
      obtain ⟨al, ei, rfl⟩ := r1
      cases e0 : h1[n]? with
      | none => rw [e0] at hw1; exact hw1.elim
      | some ob =>
        rw [e0] at hw1
        cases ob with
        | lst ws =>
          obtain ⟨xs, q, r⟩ := S1.lst e0 ei
          exact ⟨al, xs, rfl, .inl ⟨.of q, hw1 _ H1 ι1 S1 X1 (wk_lst ei)⟩⟩
        | dct _ _ => exact hw1.elim
        | ins _ _ => exact hw1.elim
    | non => exact hw1.elim
    | bl _ => exact hw1.elim
    | int _ => exact hw1.elim
    | str _ => exact hw1.elim
    | cl _ => exact hw1.elim
theorem i_text (he : PE X e (lE X.K E fe)) : PI X tg e (lI X.K E (iText fe)) :=
  PI.imp (pi_str he) fun σ H Q ⟨ι, s, h, S, L, hw⟩ => eB S L hw lands0 fun v H1 ι1 h1 w S1 X1 r1 hw1 => by
    cases w with
    | str z => exact ⟨z, r1, hw1 _ H1 ι1 S1 X1 wk_str⟩
    | _ => exact hw1.elim
theorem i_range1 (hg : Gl X "range") (hm : X.mg "range" = none) (ha : PA X [a] (lA X.K E aa)) (hs : starEach [a] X.env = [(false, eval a X.env)] := by rfl) : PI X tg (.Call (.Name "range" p) [a] [] pos) (lI X.K E (iRange1 aa)) :=
  PI.imp (pi_range1 hg hm ha hs) fun σ H Q ⟨ι, s, h, S, L, hw⟩ => aB S L hw lands0 fun vs H1 ι1 h1 ws S1 X1 r1 hw1 => by
    split at hw1
    · split at hw1
      · rename_i hz
        exact ⟨_, r1.ints (ss := [_]), hz.1, hz.2, hw1 _ H1 ι1 S1 X1 wk_rng⟩
      · exact hw1.elim
    · exact hw1.elim
theorem i_range2 (hg : Gl X "range") (hm : X.mg "range" = none) (ha : PA X [a, b] (lA X.K E aa)) (hs : starEach [a, b] X.env = [(false, eval a X.env), (false, eval b X.env)] := by rfl) (hs2 : starEach [b] X.env = [(false, eval b X.env)] := by rfl) : PI X tg (.Call (.Name "range" p) [a, b] [] pos) (lI X.K E (iRange2 aa)) :=
  PI.imp (pi_range2 hg hm ha hs hs2) fun σ H Q ⟨ι, s, h, S, L, hw⟩ => aB S L hw lands0 fun vs H1 ι1 h1 ws S1 X1 r1 hw1 => by
    split at hw1
    · split at hw1
      · rename_i hz
        exact ⟨_, _, r1.ints (ss := [_, _]), hz, hw1 _ H1 ι1 S1 X1 wk_rng⟩
      · exact hw1.elim
    · exact hw1.elim
end

/-! ### dicts, locked while they are walked -/
def itKeys (kvs : List (Key × W)) : List W := kvs.map fun kv => kW kv.1
def itVals (kvs : List (Key × W)) : List W := kvs.map (·.2)
def itItems (kvs : List (Key × W)) : List W := kvs.map fun kv => .tup [kW kv.1, kv.2]
/-- the dict, locked by the caller -/
def iDct (mk : List (Key × W) → List W) (e : FE) : FI := fun s h => (e s h).bind fun x h => match x with
  | .loc n => match h[n]? with
    | some (.dct true kvs) => .ok ⟨mk kvs, fun h => h[n]? = some (.dct true kvs)⟩ h
    | _ => .stk
  | _ => .stk
section
variable {K : PySem.W.Frag} {H : Hp} {ι : List Addr} {h : Hh}
theorem Rkv.get {κ : Type} : ∀ {kvs : List (κ × W)} {ys : List (κ × V)} {i : Nat} {k : κ} {w : W}, Rkv K H ι kvs ys → kvs[i]? = some (k, w) → ∃ v, ys[i]? = some (k, v) ∧ Rv K H ι w v
  | [], _, _, _, _, _, e => by simp at e
  | (j, u) :: _, _, 0, _, _, ⟨x, r, e1, a, _⟩, e => by
    simp only [List.getElem?_cons_zero, Option.some.injEq] at e
    cases e
    subst e1
    exact ⟨x, rfl, a⟩
  | _ :: _, _, i + 1, _, _, ⟨x, r, e1, _, t⟩, e => by
    subst e1
    exact Rkv.get (i := i) t (by simpa using e)
theorem Sim.dctL (S : Sim K H ι h) {n : Nat} {kvs : List (Key × W)} {a : Addr} (e : h[n]? = some (.dct true kvs)) (ei : ι[n]? = some a) : ∃ ys od, H a = some (.frz od (.dK ys)) ∧ Rkv K H ι kvs ys := by
  obtain ⟨a', e1, ys, od, q, r⟩ := S.ob n _ e
  rw [ei] at e1
  cases e1
  exact ⟨ys, od, q, r⟩
/-- J walks the dict at a, locked as od with ys -/
theorem wk_keys {a : Addr} {n : Nat} {od : Obj} {ys : List (Key × V)} {kvs : List (Key × W)} (ei : ι[n]? = some a) (q : H a = some (.frz od (.dK ys))) : Wk K (Itk a od ys) ι H ⟨itKeys kvs, fun h => h[n]? = some (.dct true kvs)⟩ := fun ι' H' h' S X ck i _ => by
  obtain ⟨ys', od', q', r⟩ := S.dctL ck (X.pre _ _ ei)
  have q2 := X.tk.fz _ _ _ q
  rw [q2] at q'
  cases q'
  refine ⟨fun e => ⟨q2, ?_⟩, fun w e => ?_⟩
  · have e' := List.getElem?_eq_none_iff.mp e
    unfold itKeys at e'
    rw [List.length_map] at e'
    rw [r.len]
    exact e'
  · obtain ⟨⟨k, u⟩, e1, e2⟩ : ∃ p, kvs[i]? = some p ∧ kW p.1 = w := Option.map_eq_some_iff.mp (by rw [← List.getElem?_map]; exact e)
    obtain ⟨v, e3, rv⟩ := r.get e1
    subst e2
    refine ⟨⟨q2, (List.getElem?_eq_some_iff.mp e3).1⟩, fun y H'' z => ?_⟩
    obtain ⟨rfl, k', v', ek, ey⟩ := z
    rw [e3] at ek
    cases ek
    subst ey
    exact ⟨S, .refl, by cases k <;> rfl⟩
theorem wk_vals {a : Addr} {n : Nat} {od : Obj} {ys : List (Key × V)} {kvs : List (Key × W)} (ei : ι[n]? = some a) (q : H a = some (.frz od (.dK ys))) : Wk K (Itd a od ys) ι H ⟨itVals kvs, fun h => h[n]? = some (.dct true kvs)⟩ := fun ι' H' h' S X ck i _ => by
  obtain ⟨ys', od', q', r⟩ := S.dctL ck (X.pre _ _ ei)
  have q2 := X.tk.fz _ _ _ q
  rw [q2] at q'
  cases q'
  refine ⟨fun e => ⟨q2, ?_⟩, fun w e => ?_⟩
  · have e' := List.getElem?_eq_none_iff.mp e
    unfold itVals at e'
    rw [List.length_map] at e'
    rw [r.len]
    exact e'
  · obtain ⟨⟨k, u⟩, e1, e2⟩ : ∃ p, kvs[i]? = some p ∧ p.2 = w := Option.map_eq_some_iff.mp (by rw [← List.getElem?_map]; exact e)
    obtain ⟨v, e3, rv⟩ := r.get e1
    subst e2
    refine ⟨⟨q2, (List.getElem?_eq_some_iff.mp e3).1⟩, fun y H'' z => ?_⟩
    obtain ⟨rfl, k', ek⟩ := z
    rw [e3] at ek
    cases ek
    exact ⟨S, .refl, rv⟩
theorem wk_items {a : Addr} {n : Nat} {od : Obj} {ys : List (Key × V)} {kvs : List (Key × W)} (ei : ι[n]? = some a) (q : H a = some (.frz od (.dK ys))) : Wk K (Iti a od ys) ι H ⟨itItems kvs, fun h => h[n]? = some (.dct true kvs)⟩ := fun ι' H' h' S X ck i _ => by
  obtain ⟨ys', od', q', r⟩ := S.dctL ck (X.pre _ _ ei)
  have q2 := X.tk.fz _ _ _ q
  rw [q2] at q'
  cases q'
  refine ⟨fun e => ⟨q2, ?_⟩, fun w e => ?_⟩
  · have e' := List.getElem?_eq_none_iff.mp e
    unfold itItems at e'
    rw [List.length_map] at e'
    rw [r.len]
    exact e'
  · obtain ⟨⟨k, u⟩, e1, e2⟩ : ∃ p, kvs[i]? = some p ∧ W.tup [kW p.1, p.2] = w := Option.map_eq_some_iff.mp (by rw [← List.getElem?_map]; exact e)
    obtain ⟨v, e3, rv⟩ := r.get e1
    subst e2
    refine ⟨⟨q2, (List.getElem?_eq_some_iff.mp e3).1⟩, fun y H'' z => ?_⟩
    obtain ⟨T, k', v', ek, ey, hT, rfl⟩ := z
    rw [e3] at ek
    cases ek
    have ex := ext_new (ι := ι') (o := HO.tup [kV k, v]) hT
    exact ⟨S.new0 hT, ex, T, [kV k, v], ey, ⟨by show 2 ≤ sizeLine; decide, .inl upd_same⟩, kV k, [v], rfl, by cases k <;> rfl, v, [], rfl, rv.mono ex, rfl⟩
theorem ext_unlock {d : Addr} {od : Obj} {u : HO} {ι' : List Addr} {H' : Hp} (X : Ext ι (upd H d (.frz od u)) ι' H') (m : d ∈ ι) (mu : Mut (H d)) : Ext ι H ι' (upd H' d u) := by
  refine ⟨X.pre, ⟨fun a xs e => ?_, fun a o x e => ?_⟩, fun b o e n => ?_, fun b mb n => ?_⟩
  · have hn : a ≠ d := fun z => by rw [← z, e] at mu; exact mu
    rw [upd_ne hn]
    exact X.tk.tp a xs (by rw [upd_ne hn]; exact e)
  · have hn : a ≠ d := fun z => by rw [← z, e] at mu; exact mu
    rw [upd_ne hn]
    exact X.tk.fz a o x (by rw [upd_ne hn]; exact e)
  · have hn : b ≠ d := fun z => n (by rw [z]; exact m)
    rw [upd_ne hn]
    exact X.fr b o (by rw [upd_ne hn]; exact e) n
  · have hn : b ≠ d := fun z => n (by rw [z]; exact m)
    have z := X.nw b mb n
    rw [upd_ne hn] at z
    exact z
theorem tl_unlock {d : Addr} {od : Obj} {ys : List (Key × V)} (q : H d = some (.frz od (.dK ys))) {u : HO} : TL H (upd H d u) := ⟨fun a xs e => by
  rw [upd_ne (fun z => by rw [z, q] at e; cases e)]
  exact e, fun a o xs e => by
  rw [upd_ne (fun z => by rw [z, q] at e; cases e)]
  exact e⟩
theorem Sim.unlock {d : Addr} {od : Obj} {ys : List (Key × V)} {n : Nat} {kvs : List (Key × W)} (S : Sim K H ι h) (e : h[n]? = some (.dct true kvs)) (ei : ι[n]? = some d) (q : H d = some (.frz od (.dK ys))) : Sim K (upd H d (.dK ys)) ι (h.set n (.dct false kvs)) := by
  have hlt : n < h.length := (List.getElem?_eq_some_iff.mp e).1
  have tl := tl_unlock (u := HO.dK ys) q
  refine ⟨by rw [S.len, List.length_set], S.dj, fun i ob' e' => ?_⟩
  by_cases z : n = i
  · subst z
    rw [List.getElem?_set_self hlt] at e'
    cases e'
    obtain ⟨ys', od', q', r⟩ := S.dctL e ei
    rw [q] at q'
    cases q'
    exact ⟨d, ei, ys, upd_same, r.tk tl⟩
  · rw [List.getElem?_set_ne z] at e'
    obtain ⟨a, e1, x⟩ := S.ob i ob' e'
    exact ⟨a, e1, x.tk tl (upd_ne fun y => z (S.dj n i d ei (by rw [← y]; exact e1)))⟩
end
open Classical in
/-- f runs while the dict that e says is locked -/
noncomputable def sLock (e : FE) (f : FS) : FS := fun s h => match e s h with
  | .ok (.loc n) _ => match h[n]? with
    | some (.dct false kvs) => match f s (h.set n (.dct true kvs)) with
      | .ok (.ex _ _) _ => .stk
      | .ok fl h2 => if h2[n]? = some (.dct true kvs) then .ok fl (h2.set n (.dct false kvs)) else .stk
      | _ => .stk
    | _ => .stk
  | _ => .stk
open Classical in
noncomputable def bLock (e : FE) (f : FE) : FE := fun s h => match e s h with
  | .ok (.loc n) _ => match h[n]? with
    | some (.dct false kvs) => match f s (h.set n (.dct true kvs)) with
      | .ok w h2 => if h2[n]? = some (.dct true kvs) then .ok w (h2.set n (.dct false kvs)) else .stk
      | _ => .stk
    | _ => .stk
  | _ => .stk
section
variable {X : Cx} {E : Wish} {tg e d : Expr} {fe fd : FE} {f : FS} {st : Stmt} {pos apos cpos : Pos}
theorem i_keys (he : PE X e (lE X.K E fe)) : PI X tg e (lI X.K E (iDct itKeys fe)) :=
  PI.imp (pi_keys he) fun σ H Q ⟨ι, s, h, S, L, hw⟩ => eB S L hw lands0 fun v H1 ι1 h1 w S1 X1 r1 hw1 => by
    cases w with
    | loc n =>
      obtain ⟨al, ei, rfl⟩ := r1
      dsimp only at hw1
      split at hw1
      · rename_i e0
        obtain ⟨ys, od, q, r⟩ := S1.dctL e0 ei
        exact ⟨al, od, rfl, .inl ⟨ys, q, hw1 _ H1 ι1 S1 X1 (wk_keys ei q)⟩⟩
      · exact hw1.elim
    | _ => exact hw1.elim
theorem i_items {elts : List Expr} {kk : Nat} {tpos : Pos} (he : PE X e (lE X.K E fe)) (hbase : attributeBase e "items" X.env (eval e X.env) = eval e X.env := by rfl) (hline : (apos.endLine == cpos.line) = true := by rfl) :
    PI X (.Tuple elts kk tpos) (.Call (.Attribute e "items" apos) [] [] cpos) (lI X.K E (iDct itItems fe)) :=
  PI.imp (pi_items he hbase hline) fun σ H Q ⟨ι, s, h, S, L, hw⟩ => eB S L hw lands0 fun v H1 ι1 h1 w S1 X1 r1 hw1 => by
    cases w with
    | loc n =>
      obtain ⟨al, ei, rfl⟩ := r1
      dsimp only at hw1
      split at hw1
      · rename_i e0
        obtain ⟨ys, od, q, r⟩ := S1.dctL e0 ei
        exact ⟨al, od, ys, rfl, q, hw1 _ H1 ι1 S1 X1 (wk_items ei q)⟩
      · exact hw1.elim
    | _ => exact hw1.elim
/-- the value that names the lock is a slot's or a field's: read without a step -/
def Rd0 (K : PySem.W.Frag) (fd : FE) (f : FS) (E : Wish) : Prop := True
theorem s_lock (h : PS X st (lS X.K E f)) (hd : ∀ s h n h', fd s h = .ok (.loc n) h' → True) : PS X st (lS X.K E (sLock fd f)) :=
  PS.imp (ps_lock h) fun D σ H ⟨ι, s, h, S, L, hw⟩ => by
    unfold sLock at hw
    split at hw
    · rename_i n h' ed
      split at hw
      · rename_i kvs e0
        obtain ⟨a, ei, ys, q, r⟩ := S.ob n _ e0
        have mu : Mut (H a) := by rw [q]; trivial
        refine ⟨a, .dK ys, q, trivial, fun od => ?_⟩
        have ex := ext_set (o := HO.frz od (.dK ys)) mu (List.mem_of_getElem? ei)
        have S1 := S.set (ob := .dct true kvs) e0 ei ex ⟨ys, od, upd_same, r.mono ex⟩
        have key : ∀ {fl : Fl} {h2 : Hh}, h2[n]? = some (.dct true kvs) → (∀ H' ι', Sim X.K H' ι' (h2.set n (.dct false kvs)) → Ext ι H ι' H' → lF X.K E D fl (h2.set n (.dct false kvs)) ι' H') → ∀ H' ι', Sim X.K H' ι' h2 → Ext ι (upd H a (.frz od (.dK ys))) ι' H' →
            H' a = some (.frz od (.dK ys)) ∧ lF X.K E D fl (h2.set n (.dct false kvs)) ι' (upd H' a (.dK ys)) := fun {fl h2} e2 g H' ι' S' X' => by
          have q' := X'.tk.fz _ _ _ upd_same
          exact ⟨q', g _ _ (S'.unlock e2 (X'.pre _ _ ei) q') (ext_unlock X' (List.mem_of_getElem? ei) mu)⟩
        refine ⟨ι, s, _, S1, L.mono ex, ?_⟩
        cases ef : f s (h.set n (.dct true kvs)) with
        | stk => rw [ef] at hw; exact hw.elim
        | exn x h2 => rw [ef] at hw; exact hw.elim
        | ok fl h2 =>
          rw [ef] at hw
          cases fl with
          | ex x s2 => exact hw.elim
          | nx s2 =>
            dsimp only at hw
            split at hw
            · rename_i e2
              intro H' ι' S' X' σ' L'
              obtain ⟨k1, k2⟩ := key (fl := .nx s2) e2 hw H' ι' S' X'
              refine ⟨k1, k2 σ' ⟨L'.1, fun i w z => ?_⟩⟩
              obtain ⟨v, ev, rv⟩ := L'.2 i w z
              exact ⟨v, ev, rv.tk (tl_unlock k1)⟩
            · exact hw.elim
          | bk s2 =>
            dsimp only at hw
            split at hw
            · rename_i e2
              intro H' ι' S' X' σ' L'
              obtain ⟨k1, k2⟩ := key (fl := .bk s2) e2 hw H' ι' S' X'
              refine ⟨k1, k2 σ' ⟨L'.1, fun i w z => ?_⟩⟩
              obtain ⟨v, ev, rv⟩ := L'.2 i w z
              exact ⟨v, ev, rv.tk (tl_unlock k1)⟩
            · exact hw.elim
          | ct s2 =>
            dsimp only at hw
            split at hw
            · rename_i e2
              intro H' ι' S' X' σ' L'
              obtain ⟨k1, k2⟩ := key (fl := .ct s2) e2 hw H' ι' S' X'
              refine ⟨k1, k2 σ' ⟨L'.1, fun i w z => ?_⟩⟩
              obtain ⟨v, ev, rv⟩ := L'.2 i w z
              exact ⟨v, ev, rv.tk (tl_unlock k1)⟩
            · exact hw.elim
          | rt w =>
            dsimp only at hw
            split at hw
            · rename_i e2
              intro H' ι' S' X' v rv
              obtain ⟨k1, k2⟩ := key (fl := .rt w) e2 hw H' ι' S' X'
              exact ⟨k1, k2 v (rv.tk (tl_unlock k1))⟩
            · exact hw.elim
      · exact hw.elim
    · exact hw.elim
theorem x_lock (h : PE X e (lE X.K NoW fe)) : PE X e (lE X.K E (bLock fd fe)) :=
  PE.imp (pe_lock h) fun σ H Q ⟨ι, s, h, S, L, hw⟩ => by
    unfold bLock at hw
    split at hw
    · rename_i n h' ed
      split at hw
      · rename_i kvs e0
        obtain ⟨a, ei, ys, q, r⟩ := S.ob n _ e0
        have mu : Mut (H a) := by rw [q]; trivial
        refine ⟨a, .dK ys, q, trivial, fun od => ?_⟩
        have ex := ext_set (o := HO.frz od (.dK ys)) mu (List.mem_of_getElem? ei)
        have S1 := S.set (ob := .dct true kvs) e0 ei ex ⟨ys, od, upd_same, r.mono ex⟩
        refine ⟨ι, s, _, S1, L.mono ex, ?_⟩
        split at hw
        · rename_i w h2 ef
          rw [ef]
          split at hw
          · rename_i e2
            intro v H' ι' S' X' rv
            have q' := X'.tk.fz _ _ _ upd_same
            exact ⟨q', hw v _ _ (S'.unlock e2 (X'.pre _ _ ei) q') (ext_unlock X' (List.mem_of_getElem? ei) mu) (rv.tk (tl_unlock q'))⟩
          · exact hw.elim
        · exact hw.elim
      · exact hw.elim
    · exact hw.elim
end
end NB

set_option Elab.async false
set_option linter.all false
set_option maxRecDepth 100000
set_option maxHeartbeats 4000000
/-! NbJ: calls, comprehensions, stores, methods, isinstance as functions on slots and heap. -/
namespace NB
open PySem PySem.Spec L2
open PyProof.Rows hiding St

/-! ### calls -/
def bFn (n : Nat) (f : List W → Hh → R W) (ds : List W) (a : FA) : FE := fun s h => (a s h).bind fun xs h => if xs.length + ds.length = n then f (xs ++ ds) h else .stk
def bMe (C m : Str) (n : Nat) (f : List W → Hh → R W) (ds : List W) (o : FE) (a : FA) : FE := fun s h => (o s h).bind fun w h => match w with
  | .loc k => match h[k]? with
    | some (.ins D fs) => if D = C ∧ fs.lookup m = none then (a s h).bind fun xs h => if xs.length + ds.length + 1 = n then f (.loc k :: (xs ++ ds)) h else .stk else .stk
    | _ => .stk
  | _ => .stk
/-- C(..): a new instance, its __init__ -/
def mkEnd (m : Nat) (v : W) (h' : Hh) : R W := match v with
  | .non => .ok (.loc m) h'
  | _ => .stk
def bMk (C : Str) (n : Nat) (f : List W → Hh → R W) (ds : List W) (a : FA) : FE := fun s h => (a s h).bind fun xs h => if xs.length + ds.length + 1 = n then (f (.loc h.length :: (xs ++ ds)) (h ++ [.ins C []])).bind (mkEnd h.length) else .stk
theorem lookup_none {K : PySem.W.Frag} {H : Hp} {ι : List Addr} {f : Str} : ∀ {ws : List (Str × W)} {xs : List (Str × V)}, Rkv K H ι ws xs → ws.lookup f = none → xs.lookup f = none
  | [], _, r, _ => by rw [show _ = [] from r]; rfl
  | (k, u) :: ws, xs, ⟨x, r, e1, a, t⟩, e => by
    subst e1
    rw [List.lookup_cons] at e ⊢
    cases hk : f == k with
    | true => rw [hk] at e; cases e
    | false => rw [hk] at e; exact lookup_none t e
section
variable {g : Bool} {X : Cx} {E : Wish} {k n : Nat} {f C : Addr} {fd : FuncData} {ps : List Str} {F : List W → Hh → R W} {dvs : List V} {dws : List W} {ds : List Value} {x m cn : Str} {p pos apos : Pos} {e o : Expr} {es : List Expr} {fo : FE} {fa : FA}
theorem sp_of {K : PySem.W.Frag} {E : Wish} {H H1 : Hp} {ι ι1 : List Addr} {s : Sg} {h1 : Hh} {σ : St} {ws : List W} {vs : List V} {Q : VK} (S1 : Sim K H1 ι1 h1) (X1 : Ext ι H ι1 H1) (L : Sl K H ι s σ) (r : Rvs K H1 ι1 ws vs) (hn : ws.length = n)
    (hw : wpR (F ws h1) (fun w h' => Goes K ι H Q w h') (fun x h' => ∀ H' ι', Sim K H' ι' h' → Ext ι H ι' H' → E x s h' ι' H' σ)) : spL K n F vs H1 Q (eAt (wOf K E) σ) :=
  ⟨by rw [r.len]; exact hn, ι1, h1, ws, S1, r, wpR_mono hw (fun w h' q => q.mono X1) fun x h' q H' ι' cls d S' X' ex => ⟨x, s, h', ι', S', (L.mono X1).mono X', ex, q H' ι' S' (X1.trans X')⟩⟩
theorem x_call (G : FnG g X.prog X.w X.K X.mg X.base k f fd ps (spL X.K n F)) (hg' : Gd g X.A) (hr : Room k X.A) (hg : Gl X x) (hm : X.mg x = some (.ref f)) (hk : PySem.W.keepIn X.K (.ref f) = true) (hb : Binds X.K fd ps ds) (hd : Vals dvs ds) (hw : ∀ H ι, Rvs X.K H ι dws dvs) (tk : TakesL X E)
    (ha : PA X (e :: es) (lA X.K E fa)) (hdb : (x == ("__debug__" : Str)) = false := by decide) (he : starEach (e :: es) X.env = (false, eval e X.env) :: starEach es X.env := by rfl) (hpl : (backTo pos (starEach es X.env)).any (·.1) = false := by rfl) :
    PE X (.Call (.Name x p) (e :: es) [] pos) (lE X.K E (bFn n F dws fa)) :=
  PE.imp (callG G hg' hr hg hm hk hb hd tk ha hdb he hpl) fun σ H Q ⟨ι, s, h, S, L, hw'⟩ => aB S L hw' lands0 fun vs H1 ι1 h1 ws S1 X1 r1 hw1 => by
    split at hw1
    · rename_i hn
      exact sp_of S1 X1 L (r1.append (hw _ _)) (by rw [List.length_append]; exact hn) hw1
    · exact hw1.elim
theorem x_call0 (G : FnG g X.prog X.w X.K X.mg X.base k f fd ps (spL X.K n F)) (hg' : Gd g X.A) (hr : Room k X.A) (hg : Gl X x) (hm : X.mg x = some (.ref f)) (hk : PySem.W.keepIn X.K (.ref f) = true) (hb : Binds X.K fd ps ds) (hd : Vals dvs ds) (hw : ∀ H ι, Rvs X.K H ι dws dvs) (tk : TakesL X E)
    (hdb : (x == ("__debug__" : Str)) = false := by decide) : PE X (.Call (.Name x p) [] [] pos) (lE X.K E (bFn n F dws bNil)) :=
  PE.imp (callG0 G hg' hr hg hm hk hb hd tk hdb) fun σ H Q ⟨ι, s, h, S, L, hw'⟩ => by
    have hw1 : wpR (if 0 + dws.length = n then F dws h else .stk) _ _ := hw'
    split at hw1
    · rename_i hn
      exact sp_of S .refl L (hw _ _) (by rw [← hn, Nat.zero_add]) hw1
    · exact hw1.elim
theorem x_meth {pl : Sem Bool} (c : Cls X.K (He.ga X.K cn)) (hm : Meth X.K (He.ga X.K cn) m f) (G : FnG g X.prog X.w X.K X.mg X.base k f fd ps (spL X.K n F)) (hg' : Gd g X.A) (hr : Room k X.A) (hb : Binds X.K fd ps ds) (hd : Vals dvs ds) (hw : ∀ H ι, Rvs X.K H ι dws dvs) (tk : TakesL X E)
    (he : PE X o (lE X.K E fo)) (ha : PA X (e :: es) (lA X.K E fa))
    (hst : starEach (e :: es) X.env = (false, eval e X.env) :: starEach es X.env := by rfl) (hpl : (backTo pos (starEach es X.env)).any (·.1) = false := by rfl)
    (ht : eval (.Call (.Attribute o m apos) (e :: es) [] pos) X.env = (do
      let ov ← eval o X.env
      standAt apos.atName
      let (f, first) ← holding [ov] (getMethod ov m pl)
      callWith pos f first (backTo pos (starEach (e :: es) X.env)) (backToKw pos (keywordEach [] X.env))) := by rfl) :
    PE X (.Call (.Attribute o m apos) (e :: es) [] pos) (lE X.K E (bMe cn m n F dws fo fa)) :=
  PE.imp (methG he c hm G hg' hr hb hd tk ha hst hpl ht) fun σ H Q ⟨ι, s, h, S, L, hw'⟩ => eB S L hw' lands0 fun v H1 ι1 h1 w S1 X1 r1 hw1 => by
    cases w with
    | loc j =>
      obtain ⟨a, ei, rfl⟩ := r1
      dsimp only at hw1
      split at hw1
      · rename_i D fs e0
        split at hw1
        · rename_i hc
          obtain ⟨rfl, hl⟩ := hc
          obtain ⟨a', e1, dx, gs, q, r⟩ := S1.ob _ _ e0
          rw [ei] at e1
          cases e1
          refine ⟨a, dx, gs, rfl, q, lookup_none r hl, aB S1 (L.mono X1) hw1 (lands_mono X1) fun vs H2 ι2 h2 ws S2 X2 r2 hw2 => ?_⟩
          split at hw2
          · rename_i hn
            exact sp_of S2 (X1.trans X2) L (ws := .loc j :: (ws ++ dws)) ⟨.ref a, _, rfl, ⟨a, X2.pre _ _ ei, rfl⟩, r2.append (hw _ _)⟩ (by rw [List.length_cons, List.length_append]; exact hn) hw2
          · exact hw2.elim
        · exact hw1.elim
      · exact hw1.elim
    | _ => exact hw1.elim
theorem x_meth0 {pl : Sem Bool} (c : Cls X.K (He.ga X.K cn)) (hm : Meth X.K (He.ga X.K cn) m f) (G : FnG g X.prog X.w X.K X.mg X.base k f fd ps (spL X.K n F)) (hg' : Gd g X.A) (hr : Room k X.A) (hb : Binds X.K fd ps ds) (hd : Vals dvs ds) (hw : ∀ H ι, Rvs X.K H ι dws dvs) (tk : TakesL X E)
    (he : PE X o (lE X.K E fo))
    (ht : eval (.Call (.Attribute o m apos) [] [] pos) X.env = (do
      let ov ← eval o X.env
      standAt apos.atName
      let (f, first) ← holding [ov] (getMethod ov m pl)
      callWith pos f first (backTo pos (starEach [] X.env)) (backToKw pos (keywordEach [] X.env))) := by rfl) :
    PE X (.Call (.Attribute o m apos) [] [] pos) (lE X.K E (bMe cn m n F dws fo bNil)) :=
  PE.imp (methG0 he c hm G hg' hr hb hd tk ht) fun σ H Q ⟨ι, s, h, S, L, hw'⟩ => eB S L hw' lands0 fun v H1 ι1 h1 w S1 X1 r1 hw1 => by
    cases w with
    | loc j =>
      obtain ⟨a, ei, rfl⟩ := r1
      dsimp only at hw1
      split at hw1
      · rename_i D fs e0
        split at hw1
        · rename_i hc
          obtain ⟨rfl, hl⟩ := hc
          obtain ⟨a', e1, dx, gs, q, r⟩ := S1.ob _ _ e0
          rw [ei] at e1
          cases e1
          refine ⟨a, dx, gs, rfl, q, lookup_none r hl, ?_⟩
          have hw2 : wpR (if 0 + dws.length + 1 = n then F (.loc j :: dws) h1 else .stk) _ _ := hw1
          split at hw2
          · rename_i hn
            exact sp_of S1 X1 L (ws := .loc j :: dws) ⟨.ref a, _, rfl, ⟨a, ei, rfl⟩, hw _ _⟩ (by rw [List.length_cons, ← hn, Nat.zero_add]) hw2
          · exact hw2.elim
        · exact hw1.elim
      · exact hw1.elim
    | _ => exact hw1.elim
theorem mk_sp {K : PySem.W.Frag} {E : Wish} {H H1 : Hp} {ι ι1 : List Addr} {s : Sg} {h1 : Hh} {σ : St} {ws : List W} {vs : List V} {Q : VK} {a dx : Addr} (S1 : Sim K H1 ι1 h1) (X1 : Ext ι H ι1 H1) (L : Sl K H ι s σ) (r : Rvs K H1 ι1 ws vs) (hn : ws.length + 1 = n) (ha : H1 a = none) (hdx : H1 dx = none) (ne : dx ≠ a)
    (hw : wpR ((F (.loc h1.length :: ws) (h1 ++ [.ins cn []])).bind (mkEnd h1.length)) (fun w h' => Goes K ι H Q w h') (fun x h' => ∀ H' ι', Sim K H' ι' h' → Ext ι H ι' H' → E x s h' ι' H' σ)) :
    spL K n F (.ref a :: vs) (upd (upd H1 dx (.own a)) a (.ins (He.ga K cn) dx [])) (fun v H2 => v = .non ∧ Q (.ref a) H2) (eAt (wOf K E) σ) := by
  have S2 := S1.new0 (o := HO.own a) hdx
  have ha2 : upd H1 dx (.own a) a = none := by rw [upd_ne (Ne.symm ne)]; exact ha
  have X2 : Ext ι1 H1 ι1 (upd H1 dx (.own a)) := ext_new hdx
  have X3 : Ext ι1 (upd H1 dx (.own a)) (ι1 ++ [a]) (upd (upd H1 dx (.own a)) a (.ins (He.ga K cn) dx [])) := ext_push ha2
  have S3 := S2.push (ob := .ins cn []) ha2 ⟨dx, [], upd_same, rfl⟩
  have X13 := (X1.trans X2).trans X3
  refine ⟨by rw [List.length_cons, r.len]; exact hn, _, _, .loc h1.length :: ws, S3, ⟨.ref a, vs, rfl, ⟨a, at_push S1, rfl⟩, (r.mono X2).mono X3⟩, wpR_mono (wpR_bind hw) (fun w h' q v H' ι' S' X' rv => ?_) fun x h' q H' ι' cls d S' X' ex => ⟨x, s, h', ι', S', (L.mono X13).mono X', ex, q H' ι' S' (X13.trans X')⟩⟩
  cases w with
  | non => exact ⟨rv, q (.ref a) H' ι' S' (X13.trans X') ⟨a, X'.pre _ _ (at_push S1), rfl⟩⟩
  | _ => exact q.elim
theorem x_mk (M : Mk X.K (He.ga X.K cn) f) (G : FnG g X.prog X.w X.K X.mg X.base k f fd ps (spL X.K n F)) (hg' : Gd g X.A) (hr : Room (k + 1) X.A) (hg : Gl X x) (hm : X.mg x = some (.ref (He.ga X.K cn))) (hb : Binds X.K fd ps ds) (hd : Vals dvs ds) (hw : ∀ H ι, Rvs X.K H ι dws dvs) (tk : TakesL X E)
    (ha : PA X (e :: es) (lA X.K E fa)) (hdb : (x == ("__debug__" : Str)) = false := by decide) (he : starEach (e :: es) X.env = (false, eval e X.env) :: starEach es X.env := by rfl) (hpl : (backTo pos (starEach es X.env)).any (·.1) = false := by rfl) :
    PE X (.Call (.Name x p) (e :: es) [] pos) (lE X.K E (bMk cn n F dws fa)) :=
  PE.imp (mkG M G hg' hr hg hm hb hd tk ha hdb he hpl) fun σ H Q ⟨ι, s, h, S, L, hw'⟩ => aB S L hw' lands0 fun vs H1 ι1 h1 ws S1 X1 r1 hw1 => by
    split at hw1
    · rename_i hn
      exact fun a dx ha hdx ne => mk_sp S1 X1 L (r1.append (hw _ _)) (by rw [List.length_append]; exact hn) ha hdx ne hw1
    · exact hw1.elim
theorem x_mk0 (M : Mk X.K (He.ga X.K cn) f) (G : FnG g X.prog X.w X.K X.mg X.base k f fd ps (spL X.K n F)) (hg' : Gd g X.A) (hr : Room (k + 1) X.A) (hg : Gl X x) (hm : X.mg x = some (.ref (He.ga X.K cn))) (hb : Binds X.K fd ps ds) (hd : Vals dvs ds) (hw : ∀ H ι, Rvs X.K H ι dws dvs) (tk : TakesL X E)
    (hdb : (x == ("__debug__" : Str)) = false := by decide) : PE X (.Call (.Name x p) [] [] pos) (lE X.K E (bMk cn n F dws bNil)) :=
  PE.imp (mkG0 M G hg' hr hg hm hb hd tk hdb) fun σ H Q ⟨ι, s, h, S, L, hw'⟩ => by
    have hw1 : wpR (if 0 + dws.length + 1 = n then (F (.loc h.length :: dws) (h ++ [.ins cn []])).bind (mkEnd h.length) else .stk) _ _ := hw'
    split at hw1
    · rename_i hn
      exact fun a dx ha hdx ne => mk_sp S .refl L (hw _ _) (by rw [← hn, Nat.zero_add]) ha hdx ne hw1
    · exact hw1.elim
end

/-! ### comprehensions -/
section
variable {X : Cx} {E : Wish} {elt tg iter : Expr} {ifs : List Expr} {scope : Scope} {own : List (Str × Nat)} {pos spos py : Pos} {fi : FI} {t : Tg} {ft : FT} {fe : FE}
/-- judged inside the block of a comprehension -/
abbrev InBlk (X : Cx) (scope : Scope) (J : Cx → Prop) : Prop := ∀ (s : Shared) (H : Hp) (C : Addr) (cl : List (Str × Addr)) (fp : List Addr), J (X.blk s H scope (compEnvC scope cl C X.env) fp)
theorem x_lc (hc : X.calm = true) (hN : X.N.Nodup) (hi : PI X tg iter (lI X.K E fi)) (ok : BlkOk X.N X.env.scope scope own) (hs : ∀ i ∈ t.slots, i ∈ own.map (·.2))
    (hg : InBlk X scope fun Y => PG Y tg (t.tg X.K)) (ht : InBlk X scope fun Y => PTs Y ifs (lT X.K NoW ft)) (he : InBlk X scope fun Y => PE Y elt (lE X.K NoW fe)) (hf : ∀ x, foldedSetIterable iter X.env x = pure x := by intro _; rfl) :
    PE X (.ListComp elt [⟨tg, iter, ifs, 0⟩] scope pos) (lE X.K E (bLc fi t ft fe (own.map (·.2)))) := PE.imp (pe_lc hc hN hi ok hg ht he hf) (lc_of hs)
theorem s_setLc {i : Nat} {y : Str} (hc : X.calm = true) (hN : X.N.Nodup) (hy : X.N[i]? = some y) (hyl : X.env.scope.names.lookup y = some .local) (hi : PI X tg iter (lI X.K E fi)) (ok : BlkOk X.N X.env.scope scope own) (hs : ∀ i ∈ t.slots, i ∈ own.map (·.2))
    (hg : InBlk X scope fun Y => PG Y tg (t.tg X.K)) (ht : InBlk X scope fun Y => PTs Y ifs (lT X.K NoW ft)) (he : InBlk X scope fun Y => PE Y elt (lE X.K NoW fe))
    (hsw : swapsWith (.ListComp elt [⟨tg, iter, ifs, 0⟩] scope pos) (some (.Name y py)) spos.line X.env = pure true := by rfl) (hf : ∀ x, foldedSetIterable iter X.env x = pure x := by intro _; rfl) :
    PS X (.Assign [.Name y py] (.ListComp elt [⟨tg, iter, ifs, 0⟩] scope pos) spos) (lS X.K E (sSet i (bLc fi t ft fe (own.map (·.2))))) :=
  PS.imp (ps_setLc hc hN hy hyl hsw hi ok hg ht he hf) fun D σ H ⟨ι, s, h, S, L, hw⟩ => lc_of hs σ H _ (seB S L hw fun v H1 ι1 h1 w S1 X1 r1 q => q H1 ι1 S1 X1 _ ((L.mono X1).set r1 i))
end

/-! ### stores -/
noncomputable def sPut (o i e : FE) : FS := fun s h => (e s h).st s fun v h => (o s h).st s fun x h => (i s h).st s fun y h => match setG x y v h with
  | .ok _ h => .ok (.nx s) h
  | _ => .stk
/-- o[i] ahead of an augmented store -/
def getA (x y : W) (h : Hh) : R W := match x with
  | .loc n => match h[n]? with
    | some (.lst ws) => match y with
      | .int i => if 0 ≤ i then match ws[i.toNat]? with
        | some w => .ok w h
        | none => .stk else .stk
      | _ => .stk
    | some (.dct _ kvs) => match keyW y with
      | some k => match getK k kvs with
        | some w => .ok w h
        | none => .stk
      | none => .stk
    | _ => .stk
  | _ => .stk
/-- o[i] op= e -/
noncomputable def sAugI (f : W → W → Hh → R W) (o i e : FE) : FS := fun s h => (o s h).st s fun x h => (i s h).st s fun y h => match getA x y h with
  | .ok old h => (e s h).st s fun v h => match f old v h with
    | .ok z h => match setG x y z h with
      | .ok _ h => .ok (.nx s) h
      | _ => .stk
    | _ => .stk
  | _ => .stk
def putA (f : Str) (w : W) : List (Str × W) → List (Str × W)
  | [] => [(f, w)]
  | (g, u) :: r => if g = f then (g, w) :: r else (g, u) :: putA f w r
def sAtt (cs : List Str) (f : Str) (o e : FE) : FS := fun s h => (e s h).st s fun v h => (o s h).st s fun x h => match x with
  | .loc n => match h[n]? with
    | some (.ins C fs) => if C ∈ cs ∧ fs.length < 1000 ∧ (fs.map (·.1)).Nodup then .ok (.nx s) (h.set n (.ins C (putA f v fs))) else .stk
    | _ => .stk
  | _ => .stk
def subI (x y : W) (h : Hh) : R W := match x, y with
  | .int i, .int j => .ok (.int (i - j)) h
  | _, _ => .stk
def addI (x y : W) (h : Hh) : R W := match x, y with
  | .int i, .int j => .ok (.int (i + j)) h
  | _, _ => .stk
section
variable {X : Cx} {E : Wish} {o i e : Expr} {fo fi fe : FE} {pos tpos : Pos}
theorem s_put (hu : X.A.units + 1 < cLine) (he : PE X e (lE X.K E fe)) (ho : PE X o (lE X.K E fo)) (hi : PE X i (lE X.K E fi)) (hs : swapsWithSole [.Subscript o i tpos] e pos.line X.env = pure false := by rfl) (hw : swappedStores [.Subscript o i tpos] e X.env = pure none := by rfl)
    (h1 : (assignEach [.Subscript o i tpos] X.env).map (·.2) = [assign (.Subscript o i tpos) X.env] := by rfl)
    (ha : ∀ v, assign (.Subscript o i tpos) X.env v = (do
      let ov ← holding [v] (eval o X.env)
      let iv ← holding [v, ov] (eval i X.env)
      standAt tpos
      holding [v, ov, iv] (setItem ov iv v)
      release [v, ov, iv] []) := by intro _; rfl) : PS X (.Assign [.Subscript o i tpos] e pos) (lS X.K E (sPut fo fi fe)) :=
  PS.imp (ps_asg he (pg_sub ho hi (set_G hu) ha) hs hw h1) fun D σ H ⟨ι, s, h, S, L, hw⟩ => seB S L hw fun v H1 ι1 h1 w S1 X1 r1 q1 => seB S1 (L.mono X1) (wp_fl X1 q1) fun x H2 ι2 h2 wx S2 X2 r2 q2 => seB S2 ((L.mono X1).mono X2) (wp_fl X2 q2) fun y H3 ι3 h3 wy S3 X3 r3 q3 => by
    refine ⟨ι3, h3, wx, wy, w, S3, r2.mono X3, r3, (r1.mono X2).mono X3, ?_⟩
    cases eg : setG wx wy w h3 with
    | ok _ h4 =>
      rw [eg] at q3
      exact fun H' ι' S' X' => q3 H' ι' S' (X3.trans X') σ ((((L.mono X1).mono X2).mono X3).mono X')
    | exn _ _ => rw [eg] at q3; exact q3.elim
    | stk => rw [eg] at q3; exact q3.elim
theorem get_A (hu : X.A.units + 1 < cLine) : PGet X (rL X.K getA) := by
  intro pins s σ H o i ov iv Q I ro ri hq
  obtain ⟨ι, h, wx, wy, S, ax, ay, hw⟩ := hq
  unfold getA at hw
  split at hw
  · obtain ⟨a, ei, rfl⟩ := ax
    obtain rfl : ov = Value.ref a := ro
    split at hw
    · rename_i e0
      split at hw
      · split at hw
        · rename_i h0
          split at hw
          · rename_i w ew
            cases ay
            obtain ⟨t, rfl⟩ := ri
            obtain ⟨xs, q, r⟩ := S.lst e0 ei
            obtain ⟨its, rv, pl, hz⟩ := I.list (.of q)
            obtain ⟨z, ez, rz⟩ := r.get ew
            obtain ⟨u, eu, ru⟩ := rv.get ez
            have hl := (List.getElem?_eq_some_iff.mp ez).1
            have hn := line63
            exact PyProof.Rows.getItem_listL pl.isList h0 (by omega) eu ⟨z, H, I, ru, hw _ _ _ S .refl rz⟩
          · exact hw.elim
        · exact hw.elim
      · exact hw.elim
    · rename_i e0
      split at hw
      · rename_i k ek
        split at hw
        · rename_i w ew
          obtain ⟨r, g, rr⟩ := (dget_of S e0 ei ay ek).1 w ew
          exact d_getItem hu I g ri fun w' s' I' rw' => ⟨r, H, I', rw', hw _ _ _ S .refl rr⟩
        · exact hw.elim
      · exact hw.elim
    · exact hw.elim
  · exact hw.elim
theorem ip_addL : PIp X .Add (rL X.K addI) := by
  intro pins s σ H x y v u Q I r1 r2 hq
  obtain ⟨ι, h, wx, wy, S, ax, ay, hw⟩ := hq
  unfold addI at hw
  split at hw
  · exact ip_add pins s σ H x y v u Q I r1 r2 ⟨_, _, ax, ay, hw _ _ _ S .refl rfl⟩
  · exact hw.elim
theorem ip_subL : PIp X .Sub (rL X.K subI) := by
  intro pins s σ H x y v u Q I r1 r2 hq
  obtain ⟨ι, h, wx, wy, S, ax, ay, hw⟩ := hq
  unfold subI at hw
  split at hw
  · exact ip_sub pins s σ H x y v u Q I r1 r2 ⟨_, _, ax, ay, hw _ _ _ S .refl rfl⟩
  · exact hw.elim
theorem s_augi {op : Operator} {f : W → W → Hh → R W} (hu : X.A.units + 1 < cLine) (hp : PIp X op (rL X.K f)) (ho : PE X o (lE X.K E fo)) (hi : PE X i (lE X.K E fi)) (he : PE X e (lE X.K E fe))
    (ha : ∀ ov iv new, augStore i ov iv new = (do holding [new, ov, iv] (setItem ov iv new); release [new, ov, iv] []; pure .next) := by intros; rfl) : PS X (.AugAssign (.Subscript o i tpos) op e pos) (lS X.K E (sAugI f fo fi fe)) :=
  PS.imp (ps_augS ho hi (get_A hu) he hp (set_G hu) ha) fun D σ H ⟨ι, s, h, S, L, hw⟩ => seB S L hw fun x H1 ι1 h1 wx S1 X1 r1 q1 => seB S1 (L.mono X1) (wp_fl X1 q1) fun y H2 ι2 h2 wy S2 X2 r2 q2 => by
    have L2' := (L.mono X1).mono X2
    refine ⟨ι2, h2, wx, wy, S2, r1.mono X2, r2, ?_⟩
    cases eg : getA wx wy h2 with
    | exn _ _ => rw [eg] at q2; exact q2.elim
    | stk => rw [eg] at q2; exact q2.elim
    | ok old h3 =>
      rw [eg] at q2
      intro ov H3 ι3 S3 X3 r3
      refine seB S3 (L2'.mono X3) (wp_fl X3 (wp_fl X2 q2)) fun v H4 ι4 h4 wv S4 X4 r4 q4 => ?_
      refine ⟨ι4, h4, old, wv, S4, r3.mono X4, r4, ?_⟩
      cases ef : f old wv h4 with
      | exn _ _ => rw [ef] at q4; exact q4.elim
      | stk => rw [ef] at q4; exact q4.elim
      | ok z h5 =>
        rw [ef] at q4
        intro zv H5 ι5 S5 X5 r5
        refine ⟨ι5, h5, wx, wy, z, S5, (((r1.mono X2).mono X3).mono X4).mono X5, ((r2.mono X3).mono X4).mono X5, r5, ?_⟩
        dsimp only at q4
        cases es : setG wx wy z h5 with
        | exn _ _ => rw [es] at q4; exact q4.elim
        | stk => rw [es] at q4; exact q4.elim
        | ok _ h6 =>
          rw [es] at q4
          exact fun H6 ι6 S6 X6 => q4 H6 ι6 S6 ((X4.trans X5).trans X6) σ ((((L2'.mono X3).mono X4).mono X5).mono X6)
end
end NB

set_option Elab.async false
set_option linter.all false
set_option maxRecDepth 100000
set_option maxHeartbeats 4000000
/-! NbK: methods of lists, texts, dicts; isinstance; starred items; fields; texts put together. -/
namespace NB
open PySem PySem.Spec L2
open PyProof.Rows hiding St

/-! ### methods -/
def tyB (T : String) (h : Hh) : W → Bool
  | .str _ => T == "str"
  | .rls _ => T == "list"
  | .loc n => match h[n]? with
    | some (.lst _) => T == "list"
    | some (.dct false _) => T == "dict"
    | _ => false
  | _ => false
def bBm (T : String) (f : W → List W → Hh → R W) (o : FE) (a : FA) : FE := fun s h => (o s h).bind fun x h => if tyB T h x = true then (a s h).bind fun xs h => (f x xs h).sure else .stk
def rLm (K : PySem.W.Frag) (f : W → List W → Hh → R W) : V → List V → Hp → VK → Prop := fun x xs H Q => ∃ ι h w ws, Sim K H ι h ∧ Rv K H ι w x ∧ Rvs K H ι ws xs ∧ wpR (f w ws h)
  (fun w h' => ∀ v H' ι', Sim K H' ι' h' → Ext ι H ι' H' → Rv K H' ι' w v → Q v H') (fun _ _ => False)
theorem tyB_ok {K : PySem.W.Frag} {H : Hp} {ι : List Addr} {h : Hh} (S : Sim K H ι h) {T : String} {w : W} {v : V} (r : Rv K H ι w v) (e : tyB T h w = true) : tyV K T v H := by
  unfold tyB at e
  split at e
  · cases r
    exact (show T = "str" by simpa using e)
  · obtain ⟨a, xs, rfl, t, _⟩ := r
    exact .inl ⟨by simpa using e, xs, t.sq⟩
  · obtain ⟨a, ei, rfl⟩ := r
    split at e
    · rename_i e0
      obtain ⟨xs, q, _⟩ := S.lst e0 ei
      exact .inl ⟨by simpa using e, xs, .of q⟩
    · rename_i e0
      obtain ⟨ys, q, _⟩ := S.dct e0 ei
      exact .inr (.inr (.inl ⟨by simpa using e, .inl ⟨ys, q⟩⟩))
    · cases e
  · cases e
section
variable {X : Cx} {E : Wish} {o e : Expr} {es : List Expr} {fo : FE} {fa : FA} {T id : String} {name : Str} {apos cpos : Pos} {f : W → List W → Hh → R W}
theorem x_bm (pa : PlainAttrs T) (slot : Slot T name id) (hty : typeOf (.builtin id) = pure (.type "method_descriptor")) (hm : MtR X id (rLm X.K f)) (ho : PE X o (lE X.K E fo)) (ha : PA X (e :: es) (lA X.K E fa))
    (hbase : attributeBase o name X.env (eval o X.env) = eval o X.env := by rfl)
    (hfew : ((backTo cpos (starEach (e :: es) X.env)).all (fun x => !x.1) && (backToKw cpos (keywordEach [] X.env)).all (fun x => x.1.isSome)
      && decide ((e :: es).length + ([] : List Keyword).length + (if ([] : List Keyword).isEmpty then 0 else 1) < 30)) = true := by rfl)
    (hline : (apos.endLine == cpos.line) = true := by rfl) (hs : starEach (e :: es) X.env = (false, eval e X.env) :: starEach es X.env := by rfl) (hplain : (backTo cpos (starEach es X.env)).any (·.1) = false := by rfl) :
    PE X (.Call (.Attribute o name apos) (e :: es) [] cpos) (lE X.K E (bBm T f fo fa)) :=
  PE.imp (pe_bm pa slot hty hm ho ha hbase hfew hline hs hplain) fun σ H Q ⟨ι, s, h, S, L, hw⟩ => eB S L hw lands0 fun v H1 ι1 h1 w S1 X1 r1 hw1 => by
    split at hw1
    · rename_i ht
      exact ⟨tyB_ok S1 r1 ht, aB S1 (L.mono X1) hw1 (lands_mono X1) fun vs H2 ι2 h2 ws S2 X2 r2 hw2 => ⟨ι2, h2, w, ws, S2, r1.mono X2, r2, wp_goes (X1.trans X2) (wpR_sure hw2)⟩⟩
    · exact hw1.elim
theorem x_bm0 (pa : PlainAttrs T) (slot : Slot T name id) (hty : typeOf (.builtin id) = pure (.type "method_descriptor")) (hm : MtR X id (rLm X.K f)) (ho : PE X o (lE X.K E fo))
    (hbase : attributeBase o name X.env (eval o X.env) = eval o X.env := by rfl) (hline : (apos.endLine == cpos.line) = true := by rfl) : PE X (.Call (.Attribute o name apos) [] [] cpos) (lE X.K E (bBm T f fo bNil)) :=
  PE.imp (pe_bm0 pa slot hty hm ho hbase hline) fun σ H Q ⟨ι, s, h, S, L, hw⟩ => eB S L hw lands0 fun v H1 ι1 h1 w S1 X1 r1 hw1 => by
    split at hw1
    · rename_i ht
      exact ⟨tyB_ok S1 r1 ht, ι1, h1, w, [], S1, r1, rfl, wp_goes X1 (wpR_sure hw1)⟩
    · exact hw1.elim
end
def appW : W → List W → Hh → R W
  | .loc n, [y], h => match h[n]? with
    | some (.lst ws) => if ws.length < Sz then .ok .non (h.set n (.lst (ws ++ [y]))) else .stk
    | _ => .stk
  | _, _, _ => .stk
def extW : W → List W → Hh → R W
  | .loc n, [.loc m], h => match h[n]?, h[m]? with
    | some (.lst ws), some (.lst us) => if ws.length + us.length ≤ Sz then .ok .non (h.set n (.lst (ws ++ us))) else .stk
    | _, _ => .stk
  | _, _, _ => .stk
def popW : W → List W → Hh → R W
  | .loc n, [.int i], h => match h[n]? with
    | some (.lst ws) => if -(2 ^ 63) ≤ i ∧ i < 2 ^ 63 then match seqIndex? i ws.length with
      | some k => match ws[k]? with
        | some y => .ok y (h.set n (.lst (ws.eraseIdx k)))
        | none => .stk
      | none => .stk else .stk
    | _ => .stk
  | _, _, _ => .stk
def pop0W : W → List W → Hh → R W
  | .loc n, [], h => match h[n]? with
    | some (.lst ws) => match ws[ws.length - 1]? with
      | some y => .ok y (h.set n (.lst ws.dropLast))
      | none => .stk
    | _ => .stk
  | _, _, _ => .stk
def joinW : W → List W → Hh → R W
  | .str a, [x], h => match seqW h x with
    | some ws => match strsW ws with
      | some ys => if (ys.map (·.length)).sum + ys.length * a.length ≤ Sz then .ok (.str (Txt.join a ys)) h else .stk
      | none => .stk
    | none => .stk
  | _, _, _ => .stk
theorem Rvs.dropLast {K : PySem.W.Frag} {H : Hp} {ι : List Addr} : ∀ {ws : List W} {xs : List V}, Rvs K H ι ws xs → Rvs K H ι ws.dropLast xs.dropLast
  | [], _, r => by rw [show _ = [] from r]; exact rfl
  | [_], _, ⟨x, r, e1, a, t⟩ => by rw [e1, show r = [] from t]; exact rfl
  | _ :: _ :: _, _, ⟨x, r, e1, a, t⟩ => by
    have t2 := t
    obtain ⟨y, r', e2, b, t'⟩ := t2
    subst e1 e2
    exact ⟨x, _, rfl, a, Rvs.dropLast t⟩
section
variable {X : Cx}
theorem m_app : MtR X "list.append" (rLm X.K appW) := by
  intro pins s σ H x xs v us Q I rx rxs hq
  obtain ⟨ι, h, w, ws, S, a, as, hw⟩ := hq
  unfold appW at hw
  split at hw
  · split at hw
    · rename_i e0
      split at hw
      · rename_i hz
        obtain ⟨p, ei, rfl⟩ := a
        obtain ⟨y, r, rfl, ay, e⟩ := as
        rw [show r = [] from e] at rxs
        obtain ⟨zs, q, rz⟩ := S.lst e0 ei
        have mu : Mut (H p) := by rw [q]; trivial
        have ex := ext_set (o := HO.lst (zs ++ [y])) mu (List.mem_of_getElem? ei)
        exact mt_append pins s σ H _ _ v us Q I rx rxs ⟨p, zs, y, rfl, rfl, q, by rw [rz.len, sz_eq]; exact hz, hw _ _ _ (S.set (ob := .lst _) e0 ei ex ⟨_, upd_same, (rz.append (.one ay)).mono ex⟩) ex rfl⟩
      · exact hw.elim
    · exact hw.elim
  · exact hw.elim
theorem m_pop : MtR X "list.pop" (rLm X.K popW) := by
  intro pins s σ H x xs v us Q I rx rxs hq
  obtain ⟨ι, h, w, ws, S, a, as, hw⟩ := hq
  unfold popW at hw
  split at hw
  · split at hw
    · rename_i e0
      split at hw
      · rename_i hi
        split at hw
        · rename_i k ek
          split at hw
          · rename_i y ey
            obtain ⟨p, ei, rfl⟩ := a
            obtain ⟨z, r, rfl, rfl, e⟩ := as
            rw [show r = [] from e] at rxs
            obtain ⟨zs, q, rz⟩ := S.lst e0 ei
            obtain ⟨u, eu, ru⟩ := rz.get ey
            have mu : Mut (H p) := by rw [q]; trivial
            have ex := ext_set (o := HO.lst (zs.eraseIdx k)) mu (List.mem_of_getElem? ei)
            exact mt_popAt pins s σ H _ _ v us Q I rx rxs ⟨p, zs, _, k, u, rfl, rfl, q, hi.1, hi.2, by rw [rz.len]; exact ek, eu, hw _ _ _ (S.set (ob := .lst _) e0 ei ex ⟨_, upd_same, (rz.erase k).mono ex⟩) ex (ru.mono ex)⟩
          · exact hw.elim
        · exact hw.elim
      · exact hw.elim
    · exact hw.elim
  · exact hw.elim
theorem m_pop0 : MtR X "list.pop" (rLm X.K pop0W) := by
  intro pins s σ H x xs v us Q I rx rxs hq
  obtain ⟨ι, h, w, ws, S, a, as, hw⟩ := hq
  unfold pop0W at hw
  split at hw
  · split at hw
    · rename_i e0
      split at hw
      · rename_i y ey
        obtain ⟨p, ei, rfl⟩ := a
        obtain rfl : xs = [] := as
        obtain ⟨zs, q, rz⟩ := S.lst e0 ei
        obtain ⟨u, eu, ru⟩ := rz.get ey
        have mu : Mut (H p) := by rw [q]; trivial
        have ex := ext_set (o := HO.lst zs.dropLast) mu (List.mem_of_getElem? ei)
        exact mt_pop pins s σ H _ _ v us Q I rx rxs ⟨p, zs, u, rfl, rfl, q, by rw [rz.len]; exact eu, hw _ _ _ (S.set (ob := .lst _) e0 ei ex ⟨_, upd_same, rz.dropLast.mono ex⟩) ex (ru.mono ex)⟩
      · exact hw.elim
    · exact hw.elim
  · exact hw.elim
theorem m_ext : MtR X "list.extend" (rLm X.K extW) := by
  intro pins s σ H x xs v us Q I rx rxs hq
  obtain ⟨ι, h, w, ws, S, a, as, hw⟩ := hq
  unfold extW at hw
  split at hw
  · split at hw
    · rename_i e0 e1
      split at hw
      · rename_i hz
        obtain ⟨p, ei, rfl⟩ := a
        obtain ⟨y, r, rfl, ⟨b, ej, rfl⟩, e⟩ := as
        rw [show r = [] from e] at rxs
        obtain ⟨zs, q, rz⟩ := S.lst e0 ei
        obtain ⟨ys, q2, ry⟩ := S.lst e1 ej
        have mu : Mut (H p) := by rw [q]; trivial
        have ex := ext_set (o := HO.lst (zs ++ ys)) mu (List.mem_of_getElem? ei)
        exact mt_extend pins s σ H _ _ v us Q I rx rxs ⟨p, b, zs, ys, rfl, rfl, q, q2, by rw [rz.len, ry.len, sz_eq]; exact hz, hw _ _ _ (S.set (ob := .lst _) e0 ei ex ⟨_, upd_same, (rz.append ry).mono ex⟩) ex rfl⟩
      · exact hw.elim
    · exact hw.elim
  · exact hw.elim
theorem m_join : MtR X "str.join" (rLm X.K joinW) := by
  intro pins s σ H x xs v us Q I rx rxs hq
  obtain ⟨ι, h, w, ws, S, a, as, hw⟩ := hq
  unfold joinW at hw
  split at hw
  · split at hw
    · rename_i zs e0
      split at hw
      · rename_i ys e1
        split at hw
        · rename_i hz
          cases a
          obtain ⟨y, r, rfl, ay, e⟩ := as
          rw [show r = [] from e] at rxs
          obtain ⟨p, vs, rfl, hs, rv, _⟩ := seq_ok S ay e0
          rw [strsW_ok e1] at rv
          rw [rv.strs] at hs
          exact mt_join pins s σ H _ _ v us Q I rx rxs ⟨_, p, ys, rfl, rfl, hs, hz, hw _ _ _ S .refl rfl⟩
        · exact hw.elim
      · exact hw.elim
    · exact hw.elim
  · exact hw.elim
end

/-! ### dict.get, dict.pop, dict.setdefault -/
def bGet2 (o k d : FE) : FE := fun s h => (o s h).bind fun x h => if tyB "dict" h x = true then (k s h).bind fun y h => (d s h).bind fun z h => match x with
  | .loc n => match h[n]? with
    | some (.dct _ kvs) => match keyW y with
      | some j => .ok ((getK j kvs).getD z) h
      | none => .stk
    | _ => .stk
  | _ => .stk else .stk
theorem tyB_dct {K : PySem.W.Frag} {H : Hp} {ι : List Addr} {h : Hh} (S : Sim K H ι h) {w : W} {v : V} (r : Rv K H ι w v) (e : tyB "dict" h w = true) : ∃ n a ys, w = .loc n ∧ ι[n]? = some a ∧ v = .ref a ∧ H a = some (.dK ys) := by
  unfold tyB at e
  split at e
  · exact absurd e (by decide)
  · exact absurd e (by decide)
  · obtain ⟨a, ei, rfl⟩ := r
    split at e
    · exact absurd e (by decide)
    · rename_i e0
      obtain ⟨ys, q, _⟩ := S.dct e0 ei
      exact ⟨_, a, ys, rfl, ei, rfl, q⟩
    · cases e
  · cases e
theorem x_get2 {X : Cx} {E : Wish} {o e f : Expr} {fo fe ff : FE} {apos cpos : Pos} (hu : X.A.units + 1 < cLine) (ho : PE X o (lE X.K E fo)) (he : PE X e (lE X.K E fe)) (hf : PE X f (lE X.K E ff)) (m : M2 X o "get" apos e f cpos) :
    PE X (.Call (.Attribute o "get" apos) [e, f] [] cpos) (lE X.K E (bGet2 fo fe ff)) :=
  PE.imp (pe_dget2 hu ho he hf m) fun σ H Q ⟨ι, s, h, S, L, hw⟩ => eB S L hw lands0 fun v H1 ι1 h1 w S1 X1 r1 hw1 => by
    split at hw1
    · rename_i ht
      obtain ⟨n, a, ys, rfl, ei, rfl, q⟩ := tyB_dct S1 r1 ht
      refine ⟨a, rfl, .inl ⟨ys, .inl q⟩, eB S1 (L.mono X1) hw1 (lands_mono X1) fun y H2 ι2 h2 wy S2 X2 r2 hw2 => eB S2 ((L.mono X1).mono X2) hw2 (lands_mono (X1.trans X2)) fun z H3 ι3 h3 wz S3 X3 r3 hw3 => ?_⟩
      dsimp only at hw3
      split at hw3
      · rename_i e0
        split at hw3
        · rename_i j ej
          have gg := dget_of (X := X) S3 e0 ((X2.trans X3).pre _ _ ei) (r2.mono X3) ej
          cases eg : getK j _ with
          | some u =>
            obtain ⟨rr, g, r4⟩ := gg.1 u eg
            rw [eg] at hw3
            exact ⟨_, g, hw3 _ _ _ S3 ((X1.trans X2).trans X3) r4⟩
          | none =>
            rw [eg] at hw3
            exact ⟨_, gg.2 eg, hw3 _ _ _ S3 ((X1.trans X2).trans X3) r3⟩
        · exact hw3.elim
      · exact hw3.elim
    · exact hw1.elim

/-! ### isinstance of a built-in type -/
def isT (T : String) (h : Hh) : W → Option Bool
  | .non => some (T == "NoneType")
  | .str _ => some (T == "str")
  | .tup _ => some (T == "tuple")
  | .rls _ => some (T == "list")
  | .int _ => some (T == "int")
  | .bl _ => some (T == "int" || T == "bool")
  | .loc n => match h[n]? with
    | some (.lst _) => some (T == "list")
    | some (.dct false _) => some (T == "dict")
    | _ => none
  | .cl _ => none
def bIs (T : String) (a : FE) : FE := fun s h => (a s h).bind fun x h => match isT T h x with
  | some b => .ok (.bl b) h
  | none => .stk
/-- the built-in types asked for -/
abbrev TyIn (T : String) : Prop := T = "str" ∨ T = "tuple" ∨ T = "list" ∨ T = "dict" ∨ T = "int"
theorem isT_ok {K : PySem.W.Frag} {H : Hp} {ι : List Addr} {h : Hh} (S : Sim K H ι h) {T : String} (hT : TyIn T) {w : W} {v : V} {b : Bool} (r : Rv K H ι w v) (e : isT T h w = some b) : ∃ t, TyX K H v t ∧ PySem.W.kitOne K t (.type T) = some b := by
  unfold isT at e
  split at e
  · cases r
    cases e
    exact ⟨_, .base .non, by rcases hT with rfl | rfl | rfl | rfl | rfl <;> exact kit_ty (by decide)⟩
  · cases r
    cases e
    exact ⟨_, .base (.str _), by rcases hT with rfl | rfl | rfl | rfl | rfl <;> exact kit_ty (by decide)⟩
  · obtain ⟨a, xs, rfl, t, _⟩ := r
    cases e
    have kk : PySem.W.kitOne K (.type "tuple") (.type T) = some (T == "tuple") := by rcases hT with rfl | rfl | rfl | rfl | rfl <;> exact kit_ty (by decide)
    rcases t.2 with q | ⟨o, its, n, q, c, _⟩
    · exact ⟨_, .base (.tup q), kk⟩
    · exact ⟨_, .kTuple q c, kk⟩
  · obtain ⟨a, xs, rfl, t, _⟩ := r
    cases e
    have kk : PySem.W.kitOne K (.type "list") (.type T) = some (T == "list") := by rcases hT with rfl | rfl | rfl | rfl | rfl <;> exact kit_ty (by decide)
    rcases t with ⟨o, q⟩ | ⟨o, its, n, q, c, _⟩
    · exact ⟨_, .base (.frz q), kk⟩
    · exact ⟨_, .kList q c, kk⟩
  · cases r
    cases e
    exact ⟨_, .base (.int _), by rcases hT with rfl | rfl | rfl | rfl | rfl <;> exact kit_ty (by decide)⟩
  · cases r
    cases e
    exact ⟨_, .base (.bl _), by rcases hT with rfl | rfl | rfl | rfl | rfl <;> exact kit_ty (by decide)⟩
  · obtain ⟨a, ei, rfl⟩ := r
    split at e
    · rename_i e0
      cases e
      obtain ⟨xs, q, _⟩ := S.lst e0 ei
      exact ⟨_, .base (.lst q), by rcases hT with rfl | rfl | rfl | rfl | rfl <;> exact kit_ty (by decide)⟩
    · rename_i e0
      cases e
      obtain ⟨xs, q, _⟩ := S.dct e0 ei
      exact ⟨_, .base (.dK q), by rcases hT with rfl | rfl | rfl | rfl | rfl <;> exact kit_ty (by decide)⟩
    · cases e
  · cases e
section
variable {X : Cx} {E : Wish} {e c : Expr} {fe : FE} {T : String} {p q pos : Pos} {z : Str}
theorem boot_isinstance' : bootBuiltins ("isinstance" : Str) = some (.builtin "isinstance") := by first | rfl | decide +kernel | kernel_rfl
theorem x_isi (hT : TyIn T) (hg : Gl X "isinstance") (hm : X.mg "isinstance" = none) (hg2 : Gl X z) (hm2 : X.mg z = none) (hv : bootBuiltins z = some (.type T)) (he : PE X e (lE X.K E fe)) (hn : z ≠ "__name__" := by decide) (hd : (z == ("__debug__" : Str)) = false := by decide)
    (hs : starEach [e, .Name z q] X.env = (false, eval e X.env) :: starEach [.Name z q] X.env := by rfl) (hs2 : starEach [.Name z q] X.env = (false, eval (.Name z q) X.env) :: starEach [] X.env := by rfl) (hpl : (backTo pos (starEach [.Name z q] X.env)).any (·.1) = false := by rfl) :
    PE X (.Call (.Name "isinstance" p) [e, .Name z q] [] pos) (lE X.K E (bIs T fe)) :=
  PE.imp (pe_callB (pos := pos) (p := p) call_isi hg hm boot_isinstance' (pa_cons he (pa_cons (pe_bltn (v := .ty T) (pos := q) hg2 hm2 hv rfl hn hd) pa_nil hs2) hs) (by decide) (by decide) hs hpl) fun σ H Q ⟨ι, s, h, S, L, hw⟩ => eB S L hw lands0 fun v H1 ι1 h1 w S1 X1 r1 hw1 => by
    split at hw1
    · rename_i b eb
      obtain ⟨t, ty, kt⟩ := isT_ok S1 hT r1 eb
      exact ⟨v, .ty T, t, _, b, rfl, .ty T, ty, kt, hw1 _ _ _ S1 X1 rfl⟩
    · exact hw1.elim
end
end NB

set_option Elab.async false
set_option linter.all false
set_option maxRecDepth 100000
set_option maxHeartbeats 4000000
/-! NbL: a def as a function on data values: its body run from its parameters. -/
namespace NB
open PySem PySem.Spec L2
open PyProof.Rows hiding St

def startW (n : Nat) (ws : List W) : Sg := ws.map some ++ List.replicate (n - ws.length) none
def endW : R Fl → R W
  | .ok (.nx _) h => .ok .non h
  | .ok (.rt w) h => .ok w h
  | .ok (.ex x _) h => .exn x h
  | _ => .stk
/-- the body m of a def with n slots, as a function of the parameters -/
def runB (n : Nat) (m : FS) (ws : List W) (h : Hh) : R W := endW (m (startW n ws) h)
theorem start_sl {K : PySem.W.Frag} {H : Hp} {ι : List Addr} {N : List Str} {ws : List W} {vs : List V} (r : Rvs K H ι ws vs) : Sl K H ι (startW N.length ws) (L2.start N vs) := by
  have hl := r.len
  unfold startW L2.start
  refine ⟨by simp [hl], fun i w e => ?_⟩
  by_cases hi : i < ws.length
  · rw [List.getElem?_append_left (by rw [List.length_map]; exact hi), List.getElem?_map] at e
    obtain ⟨u, eu, e⟩ := Option.map_eq_some_iff.mp e
    cases e
    obtain ⟨v, ev, rv⟩ := r.get eu
    refine ⟨v, ?_, rv⟩
    rw [List.getElem?_append_left (by rw [List.length_map, hl]; exact hi), List.getElem?_map, ev]
    rfl
  · rw [List.getElem?_append_right (by rw [List.length_map]; omega), List.getElem?_replicate] at e
    split at e <;> cases e
/-- the wish of a def's body -/
def bW (K : PySem.W.Frag) (E : XK) : Wish := fun x _ _ ι H _ => ∀ cls d, ExcR K H ι x cls d → E cls d H
/-- a def by its body as a function -/
theorem FnG.fn {g : Bool} {P : Program} {w : World} {K : PySem.W.Frag} {mg : Str → Option Value} {base : Heap} {k : Nat} {f : Addr} {fd : FuncData} {x qual : Str} {st : Stmt} {dvs : List V} {kws : List (Str × V)} {N ps : List Str} {m : FS}
    (F : FunD K x qual (defArgs st) (defBody st) (defScope st) dvs kws f fd) (S : FnScope N ps (defScope st))
    (hb : ∀ (cdv : Value) (A : Around) (outer : List Env) (s : Shared) (H : Hp) (E : XK), Gd g A → Room k (A.deeper (envOfC qual (defScope st) s.heap.objs.size f cdv)) →
      PSs (cxOf (CX P w) P w K mg base N qual (defScope st) f cdv A outer s H E) (defBody st) (lS K (bW K E) m)) : FnG g P w K mg base (k + 1) f fd ps (spL K ps.length (runB N.length m)) := by
  refine FnG.of F S (fun vs H Q E h => h.1) fun cdv A outer s H vs Q E hg hr hsp => ⟨_, hb cdv A outer s H E hg hr, ?_⟩
  obtain ⟨hn, ι, h, ws, S', r, hw⟩ := hsp
  refine sL (s := startW N.length ws) S' (start_sl r) ?_
  unfold runB at hw
  cases em : m (startW N.length ws) h with
  | stk => rw [em] at hw; exact hw.elim
  | exn x h' => rw [em] at hw; exact hw.elim
  | ok fl h' =>
    rw [em] at hw
    cases fl with
    | nx s' => exact fun H' ι' S2 X2 σ' L' => hw .non H' ι' S2 X2 rfl
    | rt u => exact fun H' ι' S2 X2 v rv => hw v H' ι' S2 X2 rv
    | ex x s' => exact fun H' ι' S2 X2 σ' L' cls d er => hw H' ι' cls d S2 X2 er
    | bk s' => exact hw.elim
    | ct s' => exact hw.elim
section
variable {X : Cx}
theorem tk_body {P : Program} {w : World} {K : PySem.W.Frag} {mg : Str → Option Value} {base : Heap} {N : List Str} {qual : Str} {scope : Scope} {f : Addr} {cdv : Value} {A : Around} {outer : List Env} {s : Shared} {H : Hp} {E : XK} :
    TakesL (cxOf (CX P w) P w K mg base N qual scope f cdv A outer s H E) (bW K E) :=
  (takes_of rfl rfl rfl rfl).imp fun cls d σ H' ⟨x, s', h', ι', S', L', er, e⟩ => e cls d er
theorem ow_body {P : Program} {w : World} {K : PySem.W.Frag} {mg : Str → Option Value} {base : Heap} {N : List Str} {qual : Str} {scope : Scope} {f : Addr} {cdv : Value} {A : Around} {outer : List Env} {s : Shared} {H : Hp} {E : XK} :
    let X := cxOf (CX P w) P w K mg base N qual scope f cdv A outer s H E
    PassesOwn (model X.prog X.w) X.A X.env X.xe := passes_of rfl
/-- a block lets nothing out -/
theorem tk_blk : TakesL X NoW := takes0.imp fun cls d σ H ⟨x, s, h, ι, _, _, _, z⟩ => z.elim
end
end NB

set_option Elab.async false
set_option linter.all false
set_option maxRecDepth 100000
set_option maxHeartbeats 4000000
/-! NbM: more forms: signs, starred items, three names at once, fields, dicts made, texts put together. -/
namespace NB
open PySem PySem.Spec L2
open PyProof.Rows hiding St

def bNeg (a : FE) : FE := fun s h => (a s h).bind fun x h => match x with
  | .int i => .ok (.int (-i)) h
  | _ => .stk
def bStar (a : FE) (b : FA) : FA := fun s h => (a s h).bind fun x h => match seqW h x with
  | some ws => (b s h).bind fun us h => .ok (ws ++ us) h
  | none => .stk
def sPar3 (i j l : Nat) (a : FA) : FS := fun s h => (a s h).st s fun ws h => match ws with
  | [x, y, z] => .ok (.nx (((s.set i (some x)).set j (some y)).set l (some z))) h
  | _ => .stk
def conW (C f : Str) (w x : W) (h : Hh) : R W := match x with
  | .loc n => match h[n]? with
    | some (.ins D fs) => if D = C ∧ fs.lookup f = none then .ok w h else .stk
    | _ => .stk
  | _ => .stk
def bCon (C f : Str) (w : W) (a : FE) : FE := fun s h => (a s h).bind fun x h => conW C f w x h
def bDict0 : FE := fun _ h => .ok (.loc h.length) (h ++ [.dct false []])
def bFmt (a : FE) : FE := fun s h => (a s h).bind fun x h => match x with
  | .str z => if z.length ≤ Sz then .ok (.str z) h else .stk
  | .int i => if i.natAbs < 10 ^ 100 then .ok (.str (toString i)) h else .stk
  | _ => .stk
/-- texts one behind the other -/
def bJs : List FE → Str → FE
  | [], acc => fun _ h => .ok (.str acc) h
  | a :: as, acc => fun s h => (a s h).bind fun x h => match x with
    | .str y => if (acc ++ y).length ≤ Sz then bJs as (acc ++ y) s h else .stk
    | _ => .stk
def pairsW : List W → Option (List (Key × W))
  | [] => some []
  | .tup [a, b] :: r => match keyW a, pairsW r with
    | some k, some ps => some ((k, b) :: ps)
    | _, _ => none
  | _ => none
def mergeW (acc : List (Key × W)) : List (Key × W) → List (Key × W)
  | [] => acc
  | (k, w) :: r => mergeW (putW k w acc) r
def dictW : List W → Hh → R W
  | [.loc n], h => match h[n]? with
    | some (.dct _ kvs) => .ok (.loc h.length) (h ++ [.dct false kvs])
    | some (.lst ws) => match pairsW ws with
      | some ps => .ok (.loc h.length) (h ++ [.dct false (mergeW [] ps)])
      | none => .stk
    | _ => .stk
  | _, _ => .stk
theorem Rkv.putA {K : PySem.W.Frag} {H : Hp} {ι : List Addr} {f : Str} {w : W} {v : V} (a : Rv K H ι w v) : ∀ {ws : List (Str × W)} {xs : List (Str × V)}, Rkv K H ι ws xs → Rkv K H ι (putA f w ws) (putF f v xs)
  | [], _, r => by rw [show _ = [] from r]; exact ⟨v, [], rfl, a, rfl⟩
  | (g, u) :: ws, _, ⟨x, r, e1, b, t⟩ => by
    subst e1
    unfold NB.putA putF
    by_cases hg : g = f
    · rw [if_pos hg, if_pos hg]
      exact ⟨v, r, rfl, a, t⟩
    · rw [if_neg hg, if_neg hg]
      exact ⟨x, _, rfl, b, Rkv.putA a t⟩
theorem pairs_ok {K : PySem.W.Frag} {H : Hp} {ι : List Addr} : ∀ {ws : List W} {xs : List V} {ps : List (Key × W)}, Rvs K H ι ws xs → pairsW ws = some ps → ∃ (as : List Addr) (ys : List (Key × V)), xs = as.map V.ref ∧ Paired (fun p kv => SqT K H p [kV kv.1, kv.2]) as ys ∧ Rkv K H ι ps ys
  | [], _, _, r, e => by
    cases e
    exact ⟨[], [], r, .nil, rfl⟩
  | .tup [a, b] :: ws, _, ps, ⟨x, r, e1, ⟨p, zs, e2, t, z1, zr, e3, ra, z2, zr2, e4, rb, e5⟩, q⟩, e => by
    unfold pairsW at e
    split at e
    · rename_i k ps' e6 e7
      cases e
      obtain ⟨as, ys, f1, f2, f3⟩ := pairs_ok q e7
      subst e1 e2 e3 e4
      rw [show zr2 = [] from e5, keyW_ok ra e6] at t
      exact ⟨p :: as, (k, z2) :: ys, by rw [f1]; rfl, .cons t.sq f2, ⟨z2, ys, rfl, rb, f3⟩⟩
    · cases e
  | .tup [] :: _, _, _, _, e => by cases e
  | .tup [_] :: _, _, _, _, e => by cases e
  | .tup (_ :: _ :: _ :: _) :: _, _, _, _, e => by cases e
  | .non :: _, _, _, _, e => by cases e
  | .bl _ :: _, _, _, _, e => by cases e
  | .int _ :: _, _, _, _, e => by cases e
  | .str _ :: _, _, _, _, e => by cases e
  | .rls _ :: _, _, _, _, e => by cases e
  | .loc _ :: _, _, _, _, e => by cases e
  | .cl _ :: _, _, _, _, e => by cases e
theorem merge_ok {K : PySem.W.Frag} {H : Hp} {ι : List Addr} : ∀ {ps : List (Key × W)} {ys : List (Key × V)} {acc : List (Key × W)} {bs : List (Key × V)}, NdK acc → Rkv K H ι acc bs → Rkv K H ι ps ys → Rkv K H ι (mergeW acc ps) (mergeK bs ys)
  | [], _, acc, bs, nd, r, q => by rw [show _ = [] from q]; exact r
  | (k, w) :: ps, _, acc, bs, nd, r, ⟨x, t, e1, a, q⟩ => by
    subst e1
    show Rkv K H ι (mergeW (putW k w acc) ps) (mergeK (putK bs k x) t)
    exact merge_ok (nd.put (k := k) (w := w)) (r.put (k := k) a nd) q
section
variable {X : Cx} {E : Wish} {a b c e o : Expr} {es : List Expr} {fe fa fo : FE} {aa : FA} {pos p : Pos}
theorem x_neg (ha : PE X a (lE X.K E fa)) : PE X (.UnaryOp .USub a pos) (lE X.K E (bNeg fa)) :=
  PE.imp (pe_un un_neg ha) fun σ H Q ⟨ι, s, h, S, L, hw⟩ => eB S L hw lands0 fun v H1 ι1 h1 w S1 X1 r1 hw1 => by
    cases w with
    | int i => exact ⟨i, r1, hw1 _ _ _ S1 X1 rfl⟩
    | _ => exact hw1.elim
theorem x_ixg (hu : X.A.units + 1 < cLine) (ha : PE X a (lE X.K E fa)) (hb : PE X b (lE X.K E fe)) (hs : PlainIx b := by intro _ _; rfl) : PE X (.Subscript a b pos) (lE X.K E (bOp ixG fa fe)) :=
  PE.imp (pe_ix (x_ixG hu) ha hb hs) fun σ H Q ⟨ι, s, h, S, L, hw⟩ => eB S L hw lands0 fun x H1 ι1 h1 w1 S1 X1 r1 hw1 => eB S1 (L.mono X1) hw1 (lands_mono X1) fun y H2 ι2 h2 w2 S2 X2 r2 hw2 =>
    ⟨ι2, h2, w1, w2, S2, r1.mono X2, r2, wp_goes (X1.trans X2) (wpR_sure hw2)⟩
theorem a_star (he : PE X e (lE X.K E fe)) (hr : PA X es (lA X.K E aa)) (hs : starEach (.Starred e p :: es) X.env = (true, eval e X.env) :: starEach es X.env := by rfl) : PA X (.Starred e p :: es) (lA X.K E (bStar fe aa)) :=
  PA.imp (StX.pa_star he hr hs) fun σ H Q ⟨ι, s, h, S, L, hw⟩ => eB S L hw lands0 fun x H1 ι1 h1 w1 S1 X1 r1 hw1 => by
    split at hw1
    · rename_i ws ew
      obtain ⟨q, xs, rfl, hq, r, _⟩ := seq_ok S1 r1 ew
      exact ⟨q, xs, rfl, hq.symm, aB S1 (L.mono X1) hw1 (lands_mono X1) fun vs H2 ι2 h2 us S2 X2 r2 hw2 => hw2 _ _ _ S2 (X1.trans X2) ((r.mono X2).append r2)⟩
    · exact hw1.elim
theorem s_par3 {i j l : Nat} {x y z : Str} {px py pz pt : Pos} {kt k2 pt2} (hc : X.calm = true) (hN : X.N.Nodup) (hi : X.N[i]? = some x) (hj : X.N[j]? = some y) (hl : X.N[l]? = some z) (hij : i ≠ j) (hil : i ≠ l) (hjl : j ≠ l)
    (hx : X.env.scope.names.lookup x = some .local) (hy : X.env.scope.names.lookup y = some .local) (hz : X.env.scope.names.lookup z = some .local) (ha : PA X [a, b, c] (lA X.K E aa))
    (hw : swappedStores [.Tuple [.Name x px, .Name y py, .Name z pz] kt pt] (.Tuple [a, b, c] k2 pt2) X.env = pure (some [x, y, z]) := by rfl)
    (hs : swapsWithSole [.Tuple [.Name x px, .Name y py, .Name z pz] kt pt] (.Tuple [a, b, c] k2 pt2) pos.line X.env = pure false := by rfl) :
    PS X (.Assign [.Tuple [.Name x px, .Name y py, .Name z pz] kt pt] (.Tuple [a, b, c] k2 pt2) pos) (lS X.K E (sPar3 i j l aa)) :=
  PS.imp (ps_par3 hc hN hi hj hl hij hil hjl hx hy hz ha hw hs) fun D σ H ⟨ι, s, h, S, L, hw⟩ => saB S L hw fun vs H1 ι1 h1 ws S1 X1 r1 q => by
    split at q
    · obtain ⟨v, r, rfl, rv, u, r', rfl, ru, t, r'', rfl, rt, e⟩ := r1
      rw [show r'' = [] from e]
      exact ⟨v, u, t, rfl, q H1 ι1 S1 X1 _ ((((L.mono X1).set rv i).set ru j).set rt l)⟩
    · exact q.elim
theorem x_con {C f : Str} {w : W} {v : V} {u : Value} (he : PE X e (lE X.K E fe)) (hc : Cls X.K (He.ga X.K C)) (hk : Con X.K (He.ga X.K C) f v u) (hv : ∀ H ι, Rv X.K H ι w v) (hb : attributeBase e f X.env (eval e X.env) = eval e X.env := by rfl) :
    PE X (.Attribute e f pos) (lE X.K E (bCon C f w fe)) :=
  PE.imp (pe_con he hb) fun σ H Q ⟨ι, s, h, S, L, hw⟩ => eB S L hw lands0 fun x H1 ι1 h1 w1 S1 X1 r1 hw1 => by
    unfold conW at hw1
    split at hw1
    · obtain ⟨p, ei, rfl⟩ := r1
      split at hw1
      · rename_i D fs e0
        split at hw1
        · rename_i hd
          obtain ⟨rfl, hl⟩ := hd
          obtain ⟨p', e1, dx, gs, q, r⟩ := S1.ob _ _ e0
          rw [ei] at e1
          cases e1
          exact ⟨p, _, dx, gs, v, u, rfl, q, hc, hk, lookup_none r hl, hw1 v H1 ι1 S1 X1 (hv _ _)⟩
        · exact hw1.elim
      · exact hw1.elim
    · exact hw1.elim
theorem s_att {cs : List Str} {f : Str} {pos' : Pos} (hk : ∀ C, C ∈ cs → Cls X.K (He.ga X.K C) ∧ NoAttr X.K (He.ga X.K C) f) (ho : PE X o (lE X.K E fo)) (he : PE X e (lE X.K E fe)) (hs : swapsWith e (some (.Attribute o f pos')) pos.line X.env = pure false := by rfl) :
    PS X (.Assign [.Attribute o f pos'] e pos) (lS X.K E (sAtt cs f fo fe)) :=
  PS.imp (ps_fld ho he hs) fun D σ H ⟨ι, s, h, S, L, hw⟩ => seB S L hw fun v H1 ι1 h1 w S1 X1 r1 q1 => seB S1 (L.mono X1) (wp_fl X1 q1) fun x H2 ι2 h2 wx S2 X2 r2 q2 => by
    cases wx with
    | loc n =>
      obtain ⟨a, ei, rfl⟩ := r2
      dsimp only at q2
      split at q2
      · rename_i C fs e0
        split at q2
        · rename_i hc
          obtain ⟨a', e1, dx, gs, q, r⟩ := S2.ob _ _ e0
          rw [ei] at e1
          cases e1
          have mu : Mut (H2 a) := by rw [q]; trivial
          have ex := ext_set (o := HO.ins (He.ga X.K C) dx (putF f v gs)) mu (List.mem_of_getElem? ei)
          refine ⟨a, _, dx, gs, rfl, q, (hk C hc.1).1, (hk C hc.1).2, by rw [r.len]; exact hc.2.1, ?_⟩
          exact q2 _ _ (S2.set (ob := .ins C _) e0 ei ex ⟨dx, _, upd_same, (r.putA (r1.mono X2)).mono ex⟩) (X2.trans ex) σ (((L.mono X1).mono X2).mono ex)
        · exact q2.elim
      · exact q2.elim
    | _ => exact q2.elim
theorem x_dict0 : PE X (.Dict [] [] pos) (lE X.K E bDict0) := PE.imp pe_dnewK fun σ H Q ⟨ι, s, h, S, L, hw⟩ p hp => fin_dct hw S (ys := []) rfl hp
theorem c_dict (hc : X.calm = true) : CallR X (.type "dict") (rLs X.K dictW) := by
  intro pins s σ H xs us Q I r hq
  obtain ⟨ι, h, ws, S, ar, hw⟩ := hq
  unfold dictW at hw
  split at hw
  · obtain ⟨x, r1, rfl, ⟨a, ei, rfl⟩, e⟩ := ar
    rw [show r1 = [] from e] at r
    split at hw
    · rename_i e0
      obtain ⟨ys, q, ra⟩ := S.dctR e0 ei
      exact call_dictD pins s σ H _ us Q I r ⟨a, ys, rfl, q, fun p hp => fin_dct hw S ra hp⟩
    · rename_i e0
      split at hw
      · rename_i ps ep
        obtain ⟨ys, q, ra⟩ := S.lst e0 ei
        obtain ⟨as, kvs, rfl, f2, f3⟩ := pairs_ok ra ep
        exact call_dictP hc pins s σ H _ us Q I r ⟨a, as, kvs, rfl, .of q, f2, fun p hp => fin_dct hw S (merge_ok (acc := []) (bs := []) (List.nodup_nil) rfl f3) hp⟩
      · exact hw.elim
    · exact hw.elim
  · exact hw.elim
theorem x_fmt (ha : PE X a (lE X.K E fa)) : PE X (.FormattedValue a (-1) none pos) (lE X.K E (bFmt fa)) :=
  PE.imp (pe_fmt ha) fun σ H Q ⟨ι, s, h, S, L, hw⟩ => eB S L hw lands0 fun x H1 ι1 h1 w1 S1 X1 r1 hw1 => by
    split at hw1
    · split at hw1
      · rename_i hz
        exact .inl ⟨_, r1, by rw [sz_eq]; exact hz, hw1 _ _ _ S1 X1 rfl⟩
      · exact hw1.elim
    · split at hw1
      · rename_i hz
        exact .inr ⟨_, r1, log2_lt hz, hw1 _ _ _ S1 X1 rfl⟩
      · exact hw1.elim
    · exact hw1.elim
/-- the parts of a text -/
inductive LJ (X : Cx) (E : Wish) : List Expr → List FE → Prop where
  | nil : LJ X E [] []
  | cons {e : Expr} {f : FE} {es : List Expr} {fs : List FE} (h : PE X e (lE X.K E f)) (r : LJ X E es fs) : LJ X E (e :: es) (f :: fs)
theorem LJ.pj {es : List Expr} {fs : List FE} (h : LJ X E es fs) : PJ X es (fs.map (lE X.K E)) := by
  induction h with
  | nil => exact .nil
  | cons h r ih => exact .cons h ih
theorem js_of {σ : St} {H0 : Hp} {ι0 : List Addr} {s : Sg} {Q : VK} {Ex : Exn → Hh → Prop} : ∀ {fs : List FE} {acc : Str} {H : Hp} {ι : List Addr} {h : Hh}, Sim X.K H ι h → Sl X.K H ι s σ → Ext ι0 H0 ι H → Lands X.K E Ex s σ ι0 H0 → wpR (bJs fs acc s h) (fun w h' => Goes X.K ι0 H0 Q w h') Ex → tJs (fs.map (lE X.K E)) acc σ H fun out H1 => Q (.str out) H1
  | [], acc, H, ι, h, S, L, e, l, hw => hw _ _ _ S e rfl
  | f :: fs, acc, H, ι, h, S, L, e, l, hw => eB S L hw (l.mono e) fun x H1 ι1 h1 w1 S1 X1 r1 hw1 => by
    split at hw1
    · split at hw1
      · rename_i hz
        exact ⟨_, r1, by rw [sz_eq]; exact hz, js_of (fs := fs) S1 (L.mono X1) (e.trans X1) l hw1⟩
      · exact hw1.elim
    · exact hw1.elim
theorem x_joined {v1 v2 : Expr} {rest : List Expr} {fs : List FE} (h : LJ X E (v1 :: v2 :: rest) fs) : PE X (.JoinedStr (v1 :: v2 :: rest) pos) (lE X.K E (bJs fs Str.empty)) :=
  PE.imp (pe_joined h.pj) fun σ H Q ⟨ι, s, h, S, L, hw⟩ => js_of S L .refl lands0 hw
end
end NB

set_option Elab.async false
set_option linter.all false
set_option maxRecDepth 100000
set_option maxHeartbeats 8000000
/-! NbS: len(set(xs)) of texts, as many as there be. -/
namespace NB
open PySem PySem.Spec L2
open PyProof.Rows hiding St

/-- each text once, in the order met -/
def uqS (acc : List Str) : List Str → List Str
  | [] => acc
  | x :: r => uqS (if x ∈ acc then acc else acc ++ [x]) r
theorem uqS_len : ∀ (l acc : List Str), (uqS acc l).length ≤ acc.length + l.length
  | [], acc => Nat.le_refl _
  | x :: r, acc => by
    show (uqS (if x ∈ acc then acc else acc ++ [x]) r).length ≤ _
    refine Nat.le_trans (uqS_len r _) ?_
    split
    · simp only [List.length_cons]; omega
    · simp only [List.length_cons, List.length_append, List.length_nil]; omega
/-- the set at S holds the texts of acc -/
abbrev HoldS (P : Program) (w : World) (hp : Heap) (S : Addr) (acc : List Str) : Prop := hp.SetOf (PySem.strKind P w) S (fun y => decide (y ∈ acc)) acc.length
theorem HoldS.at {P : Program} {w : World} {hp hp' : Heap} {S : Addr} {acc : List Str} (x : HoldS P w hp S acc) (k : ∀ o, hp.get? S = some o → hp'.get? S = some o) : HoldS P w hp' S acc := by
  obtain ⟨o, es, ep, t, ho, q⟩ := x
  exact ⟨o, es, ep, t, k o ho, q⟩
abbrev emptySet (led : Bool) : Obj := { cls := .type "set", dict := none, data := .set #[] 0 (.fresh 0 0 led) }
section
variable {P : Program} {w : World} {A : Around} {R : Result → Shared → Prop} {it : Addr} {fp wr : List Addr} {G : Array GenState → Array GenState → Prop} {n : Nat} {Pv : Nat → Value → Prop} {St0 : Nat → Shared → Prop}
/-- the loop that puts the items into the set -/
theorem set_fill (WK : WalksS P w A.in1 it fp wr G n Pv St0) (S : Addr) (apart : S ∉ fp) (xs : List Str) (len : xs.length = n) (few : n + 1 < scanBound) (val : ∀ i v, Pv i v → ∃ x t, xs[i]? = some x ∧ v = .str x t) :
    ∀ (todo i : Nat) (s : Shared) (acc : List Str), todo + i = n → acc.length ≤ i → St0 i s → HoldS P w s.heap S acc → (∀ s', Moved (S :: wr) G s s' → HoldS P w s'.heap S (uqS acc (xs.drop i)) → R (.ok (.ret .none)) s') →
      codeAny (model P w) A (.builtin "set.update.loop" ⟨[.ref S, .ref it], []⟩) R s
  | 0, i, s, acc, hi, ha, st, hs, fin => by
    obtain rfl : i = n := by omega
    have notS : S ∉ wr := fun z => apart (WK.sub _ z)
    refine codeAny_builtin PyProof.Rows.F.entry_set_update_loop ?_
    rw [Around.under_plainId PyProof.Rows.F.plain_set_update_loop _]
    show wpAny (model P w) A.in1 (do let x ← pyNext (.ref it); _) _ _ s
    refine wpAny_bind (WK.done s _ _ st fun s1 mv => ?_)
    have e0 : xs.drop i = [] := List.drop_eq_nil_of_le (by omega)
    rw [e0] at fin
    exact wpAny_pure (fin s1 (mv.mono fun b z => List.mem_cons_of_mem _ z) (hs.at fun o e => mv.heap S o notS e))
  | todo + 1, i, s, acc, hi, ha, st, hs, fin => by
    have notS : S ∉ wr := fun z => apart (WK.sub _ z)
    have lt : i < n := by omega
    refine codeAny_builtin PyProof.Rows.F.entry_set_update_loop ?_
    rw [Around.under_plainId PyProof.Rows.F.plain_set_update_loop _]
    show wpAny (model P w) A.in1 (do let x ← pyNext (.ref it); _) _ _ s
    refine wpAny_bind (WK.item i s _ _ lt st fun v s1 pv st1 mv => ?_)
    obtain ⟨x, t, ex, rfl⟩ := val i v pv
    have hs1 : HoldS P w s1.heap S acc := hs.at fun o e => mv.heap S o notS e
    show wpAny (model P w) A.in1 (holding [Value.str x t] (setAdd S (.str x t)) >>= fun _ => _) _ _ s1
    refine wpAny_bind (wpAny_holding ?_)
    unfold setAdd
    refine wpAny_holding (wpAny_bind ((PySem.strKind P w).pyHash (k := x) (strKind_is _ _ _ _) ?_))
    refine wpAny_setAddHashed_of (knd := PySem.strKind P w) (s := { s1 with toks := s1.toks + 1 }) (strKind_is _ _ _ _) rfl hs1 (by omega) fun hp' same hs2 => ?_
    have e1 : xs.drop i = x :: xs.drop (i + 1) := by
      obtain ⟨hl, e⟩ := List.getElem?_eq_some_iff.mp ex
      rw [List.drop_eq_getElem_cons hl, e]
    have hs3 : HoldS P w hp' S (if x ∈ acc then acc else acc ++ [x]) := by
      refine SetOf_congr hs2 (fun y => ?_) ?_
      · by_cases hx : x ∈ acc
        · rw [if_pos hx]
          by_cases hy : y = x
          · subst hy; simp [hx]
          · simp [hy]
        · rw [if_neg hx]
          simp [List.mem_append]
      · by_cases hx : x ∈ acc
        · rw [if_pos hx, if_pos (by simpa using hx)]
        · rw [if_neg hx, if_neg (by simpa using hx), List.length_append]
          rfl
    have ha3 : (if x ∈ acc then acc else acc ++ [x]).length ≤ i + 1 := by
      split
      · omega
      · rw [List.length_append, List.length_singleton]; omega
    rw [e1] at fin
    refine wpAny_pure ⟨plainId_quiet PyProof.Rows.F.plain_set_update_loop _, set_fill WK S apart xs len few val todo (i + 1) _ _ (by omega) ha3 (WK.frame _ s1 _ _ st1 (Nat.le_succ _) fun b hb o e => ?_) hs3 fun s2 mv2 hs4 => ?_⟩
    · exact (same.2 b fun z => apart (z ▸ hb)).trans e
    · refine fin s2 (Moved.trans WK.gtrans ((mv.mono fun b z => List.mem_cons_of_mem _ z).then_heap (Nat.le_succ _) fun b o hb e => ?_) mv2) hs4
      exact (same.2 b fun z => hb (z ▸ List.mem_cons_self)).trans e
end
/-- set.__init__ of a list or a tuple, up to its loop -/
theorem init_walk {P : Program} {w : World} {A : Around} {T : String} {S l : Addr} {hp : Heap} {gens : Array GenState} {dr : _} {tk : Nat} {os : _} {R : Fin → Shared → Prop} {E0 : Value → Shared → Prop} {led : Bool} {od : Option Addr} {items : Array Value} {n0 : Nat} {osl : Array (Option Value)}
    (hT : Shared.TypeIs ⟨hp, gens, dr, tk, os⟩ (.ref S) "set") (hS : hp.get? S = some { cls := .type "set", dict := none, data := .set #[] 0 (.fresh 0 0 led) }) (hl : hp.get? l = some { cls := .type T, dict := od, data := .seq items n0, slots := osl })
    (f1 : isSubtype (.type T) (.type "set") = pure false) (f2 : isSubtype (.type T) (.type "frozenset") = pure false) (n1 : (Value.type T == Value.type "dict") = false)
    (hK : wpAny (model P w) A (pyIter (.ref l)) (fun it s1 => wpAny (model P w) A (runValue (.builtin "set.update.loop" ⟨[.ref S, it], []⟩)) (fun _ s2 => wpAny (model P w) A (ret Value.none) R E0 s2) E0 s1) E0 ⟨hp, gens, dr, tk, os⟩) :
    wpAny (model P w) A (Builtin.«set.__init__» ⟨[.ref S, .ref l], []⟩) R E0 ⟨hp, gens, dr, tk, os⟩ := by
  have c5 := PySem.F.called_set.sub
  unfold Builtin.«set.__init__» noKeywords Builtin.Frozenset.updateFrom
  generalize hPI : pyIter = PI at hK ⊢
  wp_walk
  exact wpAny_mono hK (fun it s1 q => wpAny_bind (wpAny_mono q (fun _ s2 z => wpAny_pure z) fun _ _ z => z)) fun _ _ q => q
theorem strs_items {us : List Value} {xs : List Str} (h : StrsAre us xs) : ∀ (i : Nat) (v : Value), us[i]? = some v → ∃ x t, xs[i]? = some x ∧ v = .str x t := by
  induction h with
  | nil => intro i v e; simp at e
  | cons n t hr ih =>
    intro i v e
    cases i with
    | zero => simp at e; exact ⟨n, t, rfl, e.symm⟩
    | succ i => simpa using ih i v (by simpa using e)
section
variable {P : Program} {w : World} {A : Around} {E : Value → Shared → Prop} {s : Shared}
set_option maxHeartbeats 8000000 in
/-- set(v), v a list or a tuple of texts: what is new -/
theorem set_of_texts {T : String} {l : Addr} {items : Array Value} {xs : List Str} {Q : Value → Shared → Prop} (cold : A.handled = none) (few : xs.length + 1 < scanBound) (hi : StrsAre items.toList xs)
    (hl : (T = "list" ∧ s.heap.IsList l items) ∨ (T = "tuple" ∧ s.heap.IsTuple l items))
    (hQ : ∀ (hp' : Heap) (tk : Nat), HoldS P w hp' s.heap.objs.size (uqS [] xs) → (∀ b o, b < s.heap.objs.size → s.heap.get? b = some o → hp'.get? b = some o) → Q (.ref s.heap.objs.size) { s with heap := hp', toks := tk }) :
    wpAny (model P w) A (call (.type "set") [.ref l]) Q E s := by
  have packQ := And.intro hQ (And.intro few (And.intro hi hl))
  clear hQ few hi hl
  obtain ⟨c1, c2, c3⟩ := PySem.F.called_set.mro
  have c4 := PySem.F.called_set.made
  have c5 := PySem.F.called_set.sub
  have c6 := PySem.F.called_set.notType
  have c7 := PySem.F.called_set.canCreate
  have c8 := PySem.F.typeCall_set_1 (.ref l)
  refine wpAny_call (codeAny_of_tree ?_)
  show wpAny _ _ (callAny (.type "set") _) _ _ _
  refine wpAny_pure ⟨Code.quiet_builtin _ (by decide +kernel), codeAny_builtin PySem.F.entry_type_call ?_⟩
  rw [Around.under_plain (weight_type_call_type "set" [.ref l] []) rfl]
  repeat (any_goals (first | assumption | wp_step))
  refine codeAny_mono (code_set_new_1 (.ref l) (E := E) (Q₁ := fun ob s1 => ∃ led : Bool, ob = .ref s.heap.objs.size ∧ s1 = { s with heap := s.heap.push (emptySet led) }) fun led => ⟨led, rfl, rfl⟩) fun r s1 hr => ?_
  match r, hr with
  | .error _, hr => exact hr
  | .ok (.ret ob), hr =>
    obtain ⟨led, rfl, rfl⟩ := hr
    have at0 : (s.heap.push (emptySet led)).get? s.heap.objs.size = some (emptySet led) := Heap.get?_push_size _ rfl
    have ty0 : Shared.TypeIs { s with heap := s.heap.push (emptySet led) } (.ref s.heap.objs.size) "set" := ⟨_, at0, rfl⟩
    have c9 := PySem.F.called_set.init.lookup
    have c10 := PySem.F.called_set.init.bind (.ref s.heap.objs.size)
    repeat (any_goals (first | assumption | wp_step))
    refine codeAny_mono (codeAny_call_builtin (R := wants (fun r s2 => r = .none ∧ ∃ hp' tk, s2 = { s with heap := hp', toks := tk } ∧ HoldS P w hp' s.heap.objs.size (uqS [] xs) ∧ (∀ b o, b < s.heap.objs.size → s.heap.get? b = some o → hp'.get? b = some o)) E)
      PySem.F.called_set.init.plain PySem.F.entry_set_init (check_set_init_1 ty0 ?_)) fun r2 s2 hr2 => ?_
    · obtain ⟨hQ, few, hi, hl⟩ := packQ
      have sz : xs.length = items.size := by rw [← StrsAre.len_eq hi, Array.length_toList]
      have val : ∀ (i : Nat) (v : Value), items[i]? = some v → ∃ x t, xs[i]? = some x ∧ v = .str x t := fun i v e => strs_items hi i v (by rw [Array.getElem?_toList]; exact e)
      have cold3 : A.in1.in1.in1.handled = none := by simp [cold]
      have hold0 : ∀ o, HoldS P w ((s.heap.push (emptySet led)).push o) s.heap.objs.size [] := fun o =>
        PyProof.Rows.SetOf_congr ((PyProof.Rows.setObjOf_fresh (knd := PySem.strKind P w) led).setOf (Heap.get?_push_of_some o at0) (by unfold scanBound; omega)) (fun y => by simp) rfl
      have last : ∀ (s3 : Shared) (o : Obj) (wr : List Addr), (∀ b, b ∈ wr → s.heap.objs.size ≤ b) → Moved (s.heap.objs.size :: wr) (fun a b => b = a) { s with heap := (s.heap.push (emptySet led)).push o } s3 → HoldS P w s3.heap s.heap.objs.size (uqS [] (xs.drop 0)) →
          ∃ hp' tk, s3 = { s with heap := hp', toks := tk } ∧ HoldS P w hp' s.heap.objs.size (uqS [] xs) ∧ (∀ b o, b < s.heap.objs.size → s.heap.get? b = some o → hp'.get? b = some o) := fun s3 o wr above mv h3 => by
        obtain ⟨hp', g', d', tk', os'⟩ := s3
        obtain rfl : g' = s.gens := mv.gens
        obtain rfl : d' = s.drawn := mv.drawn
        obtain rfl : os' = s.os := mv.os
        refine ⟨hp', tk', rfl, h3, fun b ob lt e => mv.heap b ob (fun z => ?_) (Heap.get?_push_of_some _ (Heap.get?_push_of_some _ e))⟩
        rcases List.mem_cons.mp z with z | z
        · exact absurd lt (by rw [z]; exact Nat.lt_irrefl _)
        · exact absurd (Nat.lt_of_lt_of_le lt (above b z)) (Nat.lt_irrefl _)
      have sized : (s.heap.push (emptySet led)).objs.size = s.heap.objs.size + 1 := Heap.size_push ..
      have n1 : (Value.type "list" == Value.type "dict") = false := by decide
      have n2 : (Value.type "tuple" == Value.type "dict") = false := by decide
      have f1 := PySem.F.sub_list_set
      have f2 := PySem.F.sub_list_frozenset
      have f3 := PySem.F.sub_tuple_set
      have f4 := PySem.F.sub_tuple_frozenset
      rcases hl with ⟨_, hl⟩ | ⟨_, hl⟩
      · have below : l < s.heap.objs.size := by obtain ⟨_, e, _⟩ := hl; exact Heap.lt_size e
        have ap1 : l ≠ (s.heap.push (emptySet led)).objs.size := by rw [sized]; exact Nat.ne_of_lt (Nat.lt_succ_of_lt below)
        have ap2 : s.heap.objs.size ∉ [(s.heap.push (emptySet led)).objs.size, l] := fun z => by
          rw [sized] at z
          rcases List.mem_cons.mp z with z | z
          · exact Nat.ne_of_lt (Nat.lt_succ_self _) z
          · exact Nat.ne_of_gt below (List.mem_singleton.mp z)
        have hl1 : (s.heap.push (emptySet led)).IsList l items := hl.push _
        obtain ⟨ol, e1, e2, n0, e3⟩ := id hl1
        obtain ⟨oc, od, odt, osl⟩ := ol
        simp only at e2 e3
        subst e2 e3
        refine init_walk ty0 at0 e1 f1 f2 n1 ?_
        refine wpAny_pyIter_list hl1 (wpAny_runValue ?_)
        refine set_fill ((Walks.list cold3 _ l ap1 items).toS) s.heap.objs.size ap2 xs sz (by omega) val items.size 0 _ [] (by omega) (Nat.le_refl _) ⟨⟨_, Heap.get?_push_size _ rfl, rfl, rfl⟩, hl1.push _⟩ (hold0 _) fun s3 mv h3 => ?_
        obtain ⟨hp', tk, rfl, g1, g2⟩ := last s3 _ _ (fun b z => by rw [List.mem_singleton.mp z, sized]; exact Nat.le_succ _) mv h3
        show wpAny _ _ (ret Value.none) _ _ _
        exact wpAny_pure ⟨rfl, hp', tk, rfl, g1, g2⟩
      · have below : l < s.heap.objs.size := by obtain ⟨_, e, _⟩ := hl; exact Heap.lt_size e
        have ap1 : l ≠ (s.heap.push (emptySet led)).objs.size := by rw [sized]; exact Nat.ne_of_lt (Nat.lt_succ_of_lt below)
        have ap2 : s.heap.objs.size ∉ [(s.heap.push (emptySet led)).objs.size, l] := fun z => by
          rw [sized] at z
          rcases List.mem_cons.mp z with z | z
          · exact Nat.ne_of_lt (Nat.lt_succ_self _) z
          · exact Nat.ne_of_gt below (List.mem_singleton.mp z)
        have hl1 : (s.heap.push (emptySet led)).IsTuple l items := hl.push _
        obtain ⟨ol, e1, e2, n0, e3⟩ := id hl1
        obtain ⟨oc, od, odt, osl⟩ := ol
        simp only at e2 e3
        subst e2 e3
        refine init_walk ty0 at0 e1 f3 f4 n2 ?_
        refine wpAny_pyIter_tuple hl1 (wpAny_runValue ?_)
        refine set_fill ((Walks.tuple cold3 _ l ap1 items).toS) s.heap.objs.size ap2 xs sz (by omega) val items.size 0 _ [] (by omega) (Nat.le_refl _) ⟨⟨_, Heap.get?_push_size _ rfl, rfl, rfl⟩, hl1.push _⟩ (hold0 _) fun s3 mv h3 => ?_
        obtain ⟨hp', tk, rfl, g1, g2⟩ := last s3 _ _ (fun b z => by rw [List.mem_singleton.mp z, sized]; exact Nat.le_succ _) mv h3
        show wpAny _ _ (ret Value.none) _ _ _
        exact wpAny_pure ⟨rfl, hp', tk, rfl, g1, g2⟩
    · match r2, hr2 with
      | .error _, hr2 => exact hr2
      | .ok (.ret r), hr2 =>
        obtain ⟨rfl, hp', tk, rfl, g1, g2⟩ := hr2
        obtain ⟨hQ, _, _, _⟩ := packQ
        have pack := And.intro hQ (And.intro g1 g2)
        clear hQ g1 g2
        repeat (any_goals (first | assumption | wp_step))
        exact pack.1 _ _ pack.2.1 pack.2.2
end
def lsW (x : W) (h : Hh) : R W := match seqW h x with
  | some ws => match strsW ws with
    | some ys => if ys.length ≤ 4000 then .ok (.int ((uqS [] ys).length : Nat)) h else .stk
    | none => .stk
  | none => .stk
def bLenSet (a : FE) : FE := fun s h => (a s h).bind fun x h => lsW x h
theorem lsW_no (x : W) (h : Hh) (e : Exn) (h' : Hh) : lsW x h ≠ .exn e h' := by
  unfold lsW
  repeat' split
  all_goals exact fun z => nomatch z
theorem x_lenset {X : Cx} {E : Wish} {a : Expr} {fa : FE} {p p2 q pos : Pos} (hc : X.calm = true) (hg : Gl X "len") (hm : X.mg "len" = none) (hg2 : Gl X "set") (hm2 : X.mg "set" = none) (ha : PE X a (lE X.K E fa))
    (na : starEach [a] X.env = (false, eval a X.env) :: starEach [] X.env := by rfl) : PE X (.Call (.Name "len" p) [.Call (.Name "set" p2) [a] [] q] [] pos) (lE X.K E (bLenSet fa)) := by
  constructor
  intro pins s0 σ H Q I ⟨ι, s, h, S, L, hw⟩
  refine Call_ (ld_blt I hg hm boot_len (PyProof.Rows.callWith_builtin1 (PyProof.Rows.args_cons (Call_ (ld_blt I hg2 hm2 boot_set ?_)) rfl) rfl rfl))
  refine PyProof.Rows.callWith_type1 (PyProof.Rows.args_cons (thn (ha.run pins s0 σ H (fun v H1 => ∃ ι1 h1 w, Sim X.K H1 ι1 h1 ∧ Ext ι H ι1 H1 ∧ Rv X.K H1 ι1 w v ∧ wpR (lsW w h1) (fun w h' => Goes X.K ι H Q w h') (fun _ _ => False)) I ?_) fun v s1 hv => PyProof.Rows.args_nil ?_) na) na rfl
  · refine eB S L hw lands0 fun v H1 ι1 h1 w S1 X1 r1 hw1 => ⟨ι1, h1, w, S1, X1, r1, ?_⟩
    cases e : lsW w h1 with
    | ok u h2 => rw [e] at hw1; exact hw1
    | stk => rw [e] at hw1; exact hw1.elim
    | exn x h2 => exact absurd e (lsW_no w h1 x h2)
  · obtain ⟨x, H1, I1, rx, ι1, h1, w, S1, X1, r1, hw1⟩ := hv
    unfold lsW at hw1
    split at hw1
    · rename_i ws ew
      split at hw1
      · rename_i ys ey
        split at hw1
        · rename_i few
          obtain ⟨l, xs, rfl, hq, rr, _⟩ := seq_ok S1 r1 ew
          rw [strsW_ok ey] at rr
          rw [rr.strs] at hq
          cases rx
          have goal : ∀ (hp' : Heap) (tk : Nat), HoldS X.prog X.w hp' s1.heap.objs.size (uqS [] ys) → (∀ b o, b < s1.heap.objs.size → s1.heap.get? b = some o → hp'.get? b = some o) →
              wpAny (model X.prog X.w) X.A (spliced (backTo pos (starEach [] X.env))) (fun vs s3 => wpAny (model X.prog X.w) X.A (call (.builtin "len") (Value.ref s1.heap.objs.size :: vs)) (EP X pins σ Q) X.xe s3) X.xe { s1 with heap := hp', toks := tk } := fun hp' tk hS hk => by
            refine PyProof.Rows.args_nil ?_
            obtain ⟨o, es, ep, t, ho, hex, hd, _, _, _, hf, hn⟩ := hS
            have I2 : Inv X pins σ H1 { s1 with heap := hp', toks := tk } := I1.kept fun b ob e => hk b ob (Heap.lt_size e) e
            have hl := uqS_len ys []
            refine call_len_set ho hex hd hf (by rw [hn]; simp at hl; omega) ⟨.int ((uqS [] ys).length : Nat), H1, I2.tok _, ⟨_, by rw [hn]⟩, hw1 _ _ _ S1 X1 rfl⟩
          rcases hq with hq | hq
          · obtain ⟨its, r, pl, hz⟩ := I1.list hq
            exact set_of_texts (T := "list") (I1.ok.hd hc) (by unfold scanBound; omega) (by simpa using strsAre_of r) (.inl ⟨rfl, pl.isList⟩) fun hp' tk hS hk => goal hp' tk hS hk
          · obtain ⟨its, r, pl, hz⟩ := I1.tuple hq
            exact set_of_texts (T := "tuple") (items := its.toArray) (I1.ok.hd hc) (by unfold scanBound; omega) (by simpa using strsAre_of r) (.inr ⟨rfl, pl⟩) fun hp' tk hS hk => goal hp' tk hS hk
        · exact hw1.elim
      · exact hw1.elim
    · exact hw1.elim
end NB

set_option Elab.async false
set_option linter.all false
set_option maxRecDepth 100000
set_option maxHeartbeats 8000000
/-! NbZ: zip(a, b, strict=True) of two lists or tuples of one length, walked. -/
namespace NB
open PySem PySem.Spec L2
open PyProof.Rows hiding St
open PySem.Builtin

/-- a strict zip of two iterators (f: what field 0 holds) -/
abbrev ZipX (hp : Heap) (az tI tO : Addr) (f : Value) : Prop := hp.get? az = some { cls := .type "zip", dict := none, data := .fields #[f, .bool false, .bool true, .ref tI, .ref tO], slots := #[] }
section
variable {P : Program} {w : World} {A : Around} {E0 : Value → Shared → Prop} {s : Shared} {az tI tO j1 j2 : Addr} {fp1 fp2 : List Addr} {n1 n2 i : Nat} {Pv1 Pv2 : Nat → Value → Prop} {St1 St2 : Nat → Heap → Prop} {b1 b2 : Value}
theorem noe_item {it : Addr} {fp : List Addr} {n : Nat} {Pv : Nat → Value → Prop} {St0 : Nat → Heap → Prop} {Q : Option Value → Shared → Prop} (D : Draws P w A it fp n Pv St0) (lt : i < n) (st : St0 i s.heap)
    (hQ : ∀ x hp' tk, Pv i x → St0 (i + 1) hp' → Heap.SameBut it s.heap hp' → Q (some x) { s with heap := hp', toks := tk }) : wpAny (model P w) A (SmallTypes.nextOrEnd (.ref it)) Q E0 s := by
  unfold SmallTypes.nextOrEnd
  exact wpAny_bind (wpAny_attempt (D.item i _ _ _ lt st fun x hp' tk hx st' same => wpAny_pure (hQ x hp' tk hx st' same)))
theorem noe_end {it : Addr} {fp : List Addr} {n : Nat} {Pv : Nat → Value → Prop} {St0 : Nat → Heap → Prop} {Q : Option Value → Shared → Prop} (D : Draws P w A it fp n Pv St0) (st : St0 n s.heap)
    (hQ : ∀ hp', Heap.ExtBut it s.heap hp' → Q none { s with heap := hp' }) : wpAny (model P w) A (SmallTypes.nextOrEnd (.ref it)) Q E0 s := by
  unfold SmallTypes.nextOrEnd
  refine wpAny_bind (wpAny_attempt (D.done s _ _ st fun hp' e ext he => ?_))
  obtain ⟨o, ho, hc⟩ := he
  exact wpAny_bind (wpAny_isInstance (T := "StopIteration") (b := true) ⟨o, ho, hc⟩ isSubtype_stop (wpAny_pure (hQ _ ext)))
theorem zx_item {Q : Value → Shared → Prop} (S : ZipSep2 az tI tO j1 j2 fp1 fp2) (D1 : Draws P w A j1 fp1 n1 Pv1 St1) (D2 : Draws P w A j2 fp2 n2 Pv2 St2)
    (z0 : ZipX s.heap az tI tO .none) (g1 : IsTupOf2 s.heap tI (.ref j1) (.ref j2)) (g2 : IsTupOf2 s.heap tO b1 b2) (st1 : St1 i s.heap) (st2 : St2 i s.heap) (lt1 : i < n1) (lt2 : i < n2)
    (hQ : ∀ x1 x2 hp' tk, Pv1 i x1 → Pv2 i x2 → ZipX hp' az tI tO (rawInt s.heap.objs.size) → IsTupOf2 hp' tO x1 x2 → St1 (i + 1) hp' → St2 (i + 1) hp' → IsTupOf2 hp' s.heap.objs.size x1 x2 → hp'.objs.size = s.heap.objs.size + 1 →
      (∀ c o, c ≠ az → c ≠ tO → c ≠ j1 → c ≠ j2 → s.heap.get? c = some o → hp'.get? c = some o) → Q (.ref s.heap.objs.size) { s with heap := hp', toks := tk }) :
    wpAny (model P w) A («zip.__next__» ⟨[.ref az], []⟩) (fun fin s' => ∃ v, fin = .done (.ret v) ∧ Q v s') E0 s := by
  obtain ⟨hp, ge, dr, tk0, os⟩ := s
  show wpAny _ _ (field (.ref az) 2 >>= _) _ _ _
  refine wpAny_bind (wpAny_field z0 rfl (x := .bool true) rfl ?_)
  show wpAny _ _ (field (.ref az) 3 >>= _) _ _ _
  refine wpAny_bind (wpAny_field z0 rfl (x := .ref tI) rfl (wpAny_bind (wpAny_seqItems g1 rfl ?_)))
  show wpAny _ _ (SmallTypes.ownedTupleIsFree (.ref az) >>= _) _ _ _
  unfold SmallTypes.ownedTupleIsFree
  refine wpAny_bind (wpAny_bind (wpAny_field z0 rfl (x := .none) rfl (wpAny_pure ?_)))
  simp only [if_true]
  refine wpAny_bind (wpAny_rule (wpAny_bind (wpAny_field z0 rfl (x := .ref tO) rfl (wpAny_bind (wpAny_setField_rec z0 (by simp) fun e0 z1 s0 => ?_)))))
  replace z1 : ZipX e0 az tI tO .ellipsis := z1
  replace s0 : Heap.SameBut az hp e0 := s0
  refine wpAny_bind ?_
  simp only [List.zipIdx_cons, List.zipIdx_nil, List.forIn_cons, List.forIn_nil]
  refine wpAny_bind (wpAny_bind (wpAny_onRaise ?_))
  show wpAny _ _ (SmallTypes.nextOrEnd (.ref j1)) _ _ ⟨e0, ge, dr, tk0, os⟩
  refine noe_item D1 lt1 (D1.over st1 s0 S.zf1) fun x1 p1 t1 y1 u1 m1 => ?_
  replace m1 : Heap.SameBut j1 e0 p1 := m1
  have k1 : IsTupOf2 p1 tO b1 b2 := m1.extBut _ _ S.Ti1 (s0.extBut _ _ S.TOz g2)
  refine wpAny_bind (wpAny_seqItems (s := ⟨p1, ge, dr, t1, os⟩) k1 rfl ?_)
  refine wpAny_bind (updateSeq_IsTupOf2 (s := ⟨p1, ge, dr, t1, os⟩) k1 fun e1 k1' s1 => ?_)
  replace k1' : IsTupOf2 e1 tO x1 b2 := k1'
  replace s1 : Heap.SameBut tO p1 e1 := s1
  refine wpAny_bind (wpAny_letGo (wpAny_pure (wpAny_bind (wpAny_bind (wpAny_onRaise ?_)))))
  show wpAny _ _ (SmallTypes.nextOrEnd (.ref j2)) _ _ ⟨e1, ge, dr, t1, os⟩
  refine noe_item D2 lt2 (D2.over (D2.over (D2.over st2 s0 S.zf2) m1 S.sep1_2) s1 S.Tf2) fun x2 p2 t2 y2 u2 m2 => ?_
  replace m2 : Heap.SameBut j2 e1 p2 := m2
  have k2 : IsTupOf2 p2 tO x1 b2 := m2.extBut _ _ S.Ti2 k1'
  refine wpAny_bind (wpAny_seqItems (s := ⟨p2, ge, dr, t2, os⟩) k2 rfl ?_)
  refine wpAny_bind (updateSeq_IsTupOf2 (s := ⟨p2, ge, dr, t2, os⟩) k2 fun e2 k2' s2 => ?_)
  replace k2' : IsTupOf2 e2 tO x1 x2 := k2'
  replace s2 : Heap.SameBut tO p2 e2 := s2
  refine wpAny_bind (wpAny_letGo (wpAny_pure (wpAny_pure (wpAny_bind (wpAny_seqItems (s := ⟨e2, ge, dr, t2, os⟩) k2' rfl (wpAny_bind (wpAny_newTuple ?_)))))))
  have sz : e2.objs.size = hp.objs.size := by rw [s2.1, m2.1, s1.1, m1.1, s0.1]
  have zz : ZipX e2 az tI tO .ellipsis := s2.extBut _ _ S.TOz.symm (m2.extBut _ _ S.zi2 (s1.extBut _ _ S.TOz.symm (m1.extBut _ _ S.zi1 z1)))
  have old : ∀ c o, c ≠ az → c ≠ tO → c ≠ j1 → c ≠ j2 → hp.get? c = some o → e2.get? c = some o := fun c o q0 q1 q2 q3 e =>
    s2.extBut _ _ q1 (m2.extBut _ _ q3 (s1.extBut _ _ q1 (m1.extBut _ _ q2 (s0.extBut _ _ q0 e))))
  have v1 : St1 (i + 1) e2 := D1.over (D1.over (D1.over u1 s1 S.Tf1) m2 S.sep2_1) s2 S.Tf1
  have v2 : St2 (i + 1) e2 := D2.over u2 s2 S.Tf2
  have zlt : az < e2.objs.size := Heap.lt_size zz
  show wpAny _ _ (SmallTypes.ownedTupleHandOut (.ref az) (.ref e2.objs.size) >>= _) _ _ ⟨e2.push { cls := .type "tuple", data := .seq #[x1, x2] }, ge, dr, t2, os⟩
  unfold SmallTypes.ownedTupleHandOut
  have z2 : ZipX (e2.push { cls := .type "tuple", data := .seq #[x1, x2] }) az tI tO .ellipsis := Heap.get?_push_of_some _ zz
  refine wpAny_bind (wpAny_bind (wpAny_setField_rec z2 (by simp) fun e3 z3 s3 => ?_))
  replace z3 : ZipX e3 az tI tO (rawInt e2.objs.size) := z3
  replace s3 : Heap.SameBut az (e2.push { cls := .type "tuple", data := .seq #[x1, x2] }) e3 := s3
  refine wpAny_setField_rec z3 (by simp) fun e4 z4 s4 => ?_
  replace z4 : ZipX e4 az tI tO (rawInt e2.objs.size) := z4
  replace s4 : Heap.SameBut az e3 e4 := s4
  have up : ∀ c o, c ≠ az → e2.get? c = some o → e4.get? c = some o := fun c o q e => s4.extBut _ _ q (s3.extBut _ _ q (Heap.get?_push_of_some _ e))
  have kT : IsTupOf2 e4 e2.objs.size x1 x2 := s4.extBut _ _ (Nat.ne_of_gt zlt) (s3.extBut _ _ (Nat.ne_of_gt zlt) (Heap.get?_push_size _ rfl))
  have sz4 : e4.objs.size = e2.objs.size + 1 := by rw [s4.1, s3.1, Heap.size_push]
  rw [sz] at z4 kT sz4
  refine wpAny_pure ⟨_, rfl, ?_⟩
  show Q (.ref e2.objs.size) ⟨e4, ge, dr, t2, os⟩
  rw [sz]
  exact hQ x1 x2 e4 t2 y1 y2 z4 (up _ _ S.TOz k2') (D1.frame _ _ _ v1 fun b hb o e => up b o (fun q => S.zf1 (q ▸ hb)) e) (D2.frame _ _ _ v2 fun b hb o e => up b o (fun q => S.zf2 (q ▸ hb)) e) kT sz4 fun c o q0 q1 q2 q3 e => up c o q0 (old c o q0 q1 q2 q3 e)
theorem zx_end {Q : Fin → Shared → Prop} (cold : A.handled = none) (S : ZipSep2 az tI tO j1 j2 fp1 fp2) (D1 : Draws P w A j1 fp1 n1 Pv1 St1) (D2 : Draws P w A j2 fp2 n2 Pv2 St2)
    (z0 : ZipX s.heap az tI tO .none) (g1 : IsTupOf2 s.heap tI (.ref j1) (.ref j2)) (g2 : IsTupOf2 s.heap tO b1 b2) (st1 : St1 n1 s.heap) (st2 : St2 n2 s.heap)
    (hE : ∀ hp' tk e, (∀ c o, c ≠ az → c ≠ tO → c ≠ j1 → c ≠ j2 → s.heap.get? c = some o → hp'.get? c = some o) → (∃ o, hp'.get? e = some o ∧ o.cls = .type "StopIteration") → E0 (.ref e) { s with heap := hp', toks := tk }) :
    wpAny (model P w) A («zip.__next__» ⟨[.ref az], []⟩) Q E0 s := by
  obtain ⟨hp, ge, dr, tk0, os⟩ := s
  show wpAny _ _ (field (.ref az) 2 >>= _) _ _ _
  refine wpAny_bind (wpAny_field z0 rfl (x := .bool true) rfl ?_)
  show wpAny _ _ (field (.ref az) 3 >>= _) _ _ _
  refine wpAny_bind (wpAny_field z0 rfl (x := .ref tI) rfl (wpAny_bind (wpAny_seqItems g1 rfl ?_)))
  show wpAny _ _ (SmallTypes.ownedTupleIsFree (.ref az) >>= _) _ _ _
  unfold SmallTypes.ownedTupleIsFree
  refine wpAny_bind (wpAny_bind (wpAny_field z0 rfl (x := .none) rfl (wpAny_pure ?_)))
  simp only [if_true]
  refine wpAny_bind (wpAny_rule (wpAny_bind (wpAny_field z0 rfl (x := .ref tO) rfl (wpAny_bind (wpAny_setField_rec z0 (by simp) fun e0 z1 s0 => ?_)))))
  replace z1 : ZipX e0 az tI tO .ellipsis := z1
  replace s0 : Heap.SameBut az hp e0 := s0
  refine wpAny_bind ?_
  simp only [List.zipIdx_cons, List.zipIdx_nil, List.forIn_cons, List.forIn_nil]
  refine wpAny_bind (wpAny_bind (wpAny_onRaise ?_))
  show wpAny _ _ (SmallTypes.nextOrEnd (.ref j1)) _ _ ⟨e0, ge, dr, tk0, os⟩
  refine noe_end D1 (D1.over st1 s0 S.zf1) fun q1 x1 => ?_
  replace x1 : Heap.ExtBut j1 e0 q1 := x1
  have z2 : ZipX q1 az tI tO .ellipsis := x1 _ _ S.zi1 z1
  refine wpAny_bind (wpAny_setField_rec (s := ⟨q1, ge, dr, tk0, os⟩) z2 (by simp) fun e1 z3 s1 => ?_)
  replace s1 : Heap.SameBut az q1 e1 := s1
  have z3' : ZipX e1 az tI tO .none := z3
  have k2 : IsTupOf2 e1 tI (.ref j1) (.ref j2) := s1.extBut _ _ S.TIz (x1 _ _ S.TIi1 (s0.extBut _ _ S.TIz g1))
  refine wpAny_bind ?_
  show wpAny (model P w) A (do
    if (0 : Nat) > 0 then
      rule "zip.__next__.shorter"; raiseError "ValueError" s!"zip() argument {0 + 1} is shorter than {if 0 == 1 then "argument 1" else s!"arguments 1-{0}"}"
    for (it, j) in ([Value.ref j1, Value.ref j2].drop 1).zipIdx 1 do
      if (← SmallTypes.nextOrEnd it).isSome then
        rule "zip.__next__.longer"; raiseError "ValueError" s!"zip() argument {j + 1} is longer than {if j == 1 then "argument 1" else s!"arguments 1-{j}"}"
    rule "zip.__next__.all-ended"; SmallTypes.stopIteration) _ _ _
  rw [if_neg (by decide)]
  refine wpAny_bind ?_
  simp only [List.drop_succ_cons, List.drop_zero, List.zipIdx_cons, List.zipIdx_nil, List.forIn_cons, List.forIn_nil]
  refine wpAny_bind (wpAny_bind (noe_end (s := ⟨e1, ge, dr, tk0, os⟩) D2 (D2.over (D2.frame _ _ _ (D2.over st2 s0 S.zf2) fun b hb o e => x1 b o (fun z => S.sep1_2 (z ▸ hb)) e) s1 S.zf2) fun q2 x2 => ?_))
  replace x2 : Heap.ExtBut j2 e1 q2 := x2
  simp only [Option.isSome_none, Bool.false_eq_true, if_false]
  refine wpAny_pure (wpAny_pure (wpAny_bind (wpAny_rule ?_)))
  unfold SmallTypes.stopIteration
  refine wpAny_bind (wpAny_bind ?_)
  simp only [newExc, newTuple]
  refine wpAny_newObj_type ?_ (by size_fits)
  refine wpAny_bind (m := firstArgMember _ _) (wpAny_of_eq (a := Value.none) (by first | rfl | (simp only [firstArgMember] <;> rfl)) ?_)
  refine wpAny_newObj_type ?_ (by size_fits)
  simp only [raiseNew]
  refine wpAny_bind (wpAny_handled ?_)
  rw [cold]
  refine wpAny_bind (wpAny_pure (wpAny_throw ?_))
  exact hE _ _ _ (fun c o q0 q1 q2 q3 e => Heap.get?_push_of_some _ (Heap.get?_push_of_some _ (x2 _ _ q3 (s1.extBut _ _ q0 (x1 _ _ q2 (s0.extBut _ _ q0 e)))))) ⟨_, Heap.get?_push_size _ rfl, rfl⟩
theorem pn_item {Q : Option Value → Shared → Prop} (S : ZipSep2 az tI tO j1 j2 fp1 fp2) (D1 : Draws P w A.in1 j1 fp1 n1 Pv1 St1) (D2 : Draws P w A.in1 j2 fp2 n2 Pv2 St2)
    (z0 : ZipX s.heap az tI tO .none) (g1 : IsTupOf2 s.heap tI (.ref j1) (.ref j2)) (g2 : IsTupOf2 s.heap tO b1 b2) (st1 : St1 i s.heap) (st2 : St2 i s.heap) (lt1 : i < n1) (lt2 : i < n2)
    (hQ : ∀ x1 x2 hp' tk, Pv1 i x1 → Pv2 i x2 → ZipX hp' az tI tO (rawInt s.heap.objs.size) → IsTupOf2 hp' tO x1 x2 → St1 (i + 1) hp' → St2 (i + 1) hp' → IsTupOf2 hp' s.heap.objs.size x1 x2 → hp'.objs.size = s.heap.objs.size + 1 →
      (∀ c o, c ≠ az → c ≠ tO → c ≠ j1 → c ≠ j2 → s.heap.get? c = some o → hp'.get? c = some o) → Q (some (.ref s.heap.objs.size)) { s with heap := hp', toks := tk }) :
    wpAny (model P w) A (pyNext (.ref az)) Q E0 s := by
  have ty : s.TypeIs (.ref az) "zip" := ⟨_, z0, rfl⟩
  unfold pyNext
  exact wpAny_bind (wpAny_attempt (wpAny_callSpecial?_slot (name := Str.ofString "__next__") ty PySem.F.slot_zip_next (wpAny_call_entry PySem.F.slot_zip_next ty PySem.F.entry_zip_next
    (zx_item S D1 D2 z0 g1 g2 st1 st2 lt1 lt2 fun x1 x2 hp' tk a b c d e f g h k => wpAny_pure (hQ x1 x2 hp' tk a b c d e f g h k)) (PySem.F.args_zip_next_1 _))))
theorem pn_end {Q : Option Value → Shared → Prop} (cold : A.handled = none) (S : ZipSep2 az tI tO j1 j2 fp1 fp2) (D1 : Draws P w A.in1 j1 fp1 n1 Pv1 St1) (D2 : Draws P w A.in1 j2 fp2 n2 Pv2 St2)
    (z0 : ZipX s.heap az tI tO .none) (g1 : IsTupOf2 s.heap tI (.ref j1) (.ref j2)) (g2 : IsTupOf2 s.heap tO b1 b2) (st1 : St1 n1 s.heap) (st2 : St2 n2 s.heap)
    (hQ : ∀ hp' tk, (∀ c o, c ≠ az → c ≠ tO → c ≠ j1 → c ≠ j2 → s.heap.get? c = some o → hp'.get? c = some o) → Q none { s with heap := hp', toks := tk }) : wpAny (model P w) A (pyNext (.ref az)) Q E0 s := by
  have ty : s.TypeIs (.ref az) "zip" := ⟨_, z0, rfl⟩
  unfold pyNext
  refine wpAny_bind (wpAny_attempt (wpAny_callSpecial?_slot (name := Str.ofString "__next__") ty PySem.F.slot_zip_next (wpAny_call_entry PySem.F.slot_zip_next ty PySem.F.entry_zip_next
    (zx_end (by simpa using cold) S D1 D2 z0 g1 g2 st1 st2 fun hp' tk e old he => ?_) (PySem.F.args_zip_next_1 _))))
  obtain ⟨o, ho, hc⟩ := he
  exact wpAny_bind (wpAny_isInstance (T := "StopIteration") (b := true) ⟨o, ho, hc⟩ isSubtype_stop (wpAny_pure (hQ _ _ old)))
theorem zx_go {elts : List Expr} {x1} {pos : Pos} {T : Addr} {Q : Unit → Shared → Prop} (z0 : ZipX s.heap az tI tO (rawInt T)) (hQ : ∀ hp', ZipX hp' az tI tO .none → Heap.SameBut az s.heap hp' → Q () { s with heap := hp' }) :
    wpAny (model P w) A (letOwnedTupleGo (.Tuple elts x1 pos) (.ref az) (.ref T)) Q E0 s := by
  unfold letOwnedTupleGo
  refine wpAny_bind (wpAny_load z0 ?_)
  show wpAny _ _ (if (["enumerate", "zip", "dict_itemiterator", "dict_reverseitemiterator", "odict_iterator", "itertools.zip_longest", "itertools.pairwise"].contains "zip" && (#[rawInt T, .bool false, .bool true, .ref tI, .ref tO] : Array Value)[0]? == some (rawInt T)) = true then _ else _) Q E0 s
  rw [if_pos (by simp)]
  refine wpAny_bind (wpAny_rule ?_)
  show wpAny _ _ (setField (.ref az) 0 .none) Q E0 s
  exact wpAny_setField_rec z0 (by simp) fun hp' a b => hQ hp' a b
theorem zx_self {f : Value} {Q : Value → Shared → Prop} (z0 : ZipX s.heap az tI tO f) (q : Q (.ref az) s) : wpAny (model P w) A (pyIter (.ref az)) Q E0 s := by
  have ty : s.TypeIs (.ref az) "zip" := ⟨_, z0, rfl⟩
  refine wpAny_pyIter_slot ty PySem.F.slot_zip_iter (wpAny_call_entry PySem.F.slot_zip_iter ty PySem.F.entry_zip_iter ?_ (PySem.F.args_zip_iter_1 _))
  show wpAny _ _ (ret (.ref az)) _ _ s
  exact wpAny_pure ⟨_, rfl, "zip", _, ty, PySem.F.slot_zip_next.lookup, q⟩
theorem tc_strict (a b c : Value) : checkTypeCall "zip" ⟨[a, b], [(Str.ofString "strict", c)]⟩ = pure () := by kernel_rfl
theorem nc_strict (a b c : Value) : checkBuiltinCall "zip.__new__" ⟨[.type "zip", a, b], [(Str.ofString "strict", c)]⟩ = pure () := by kernel_rfl
theorem ai_strict (ob a b c : Value) : argsOk "object.__init__" ⟨[ob, a, b], [(Str.ofString "strict", c)]⟩ := by unfold argsOk; kernel_rfl
abbrev zxO (hp : Heap) (o1 o2 : Obj) : Heap := (gzT2 hp o1 o2).push { cls := .type "tuple", data := .seq #[.none, .none] }
abbrev zxZ (hp : Heap) (o1 o2 : Obj) : Heap := (zxO hp o1 o2).push { cls := .type "zip", data := .fields #[.none, .bool false, .bool true, .ref ((hp.push o1).push o2).objs.size, .ref (gzT2 hp o1 o2).objs.size] }
theorem zx_new {v1 v2 : Value} {o1 o2 : Obj} {H1 H2 : Heap → Prop} (B1 : Begins v1 o1 H1) (B2 : Begins v2 o2 H2) :
    Meets (Builtin.«zip.__new__» ⟨[.type "zip", v1, v2], [(Str.ofString "strict", .bool true)]⟩) (fun _ R s => (H1 s.heap ∧ H2 s.heap) ∧ R (.ok (.ret (.ref (zxO s.heap o1 o2).objs.size))) { s with heap := zxZ s.heap o1 o2 }) :=
  .of_wp fun P w A R s ⟨⟨h1, h2⟩, hr⟩ => by
    obtain ⟨hp, ge, dr, tk, os⟩ := s
    have hsub := sub_zip
    have it1 : ∀ {A' : Around} {E : Value → Shared → Prop} {Q : Value → Shared → Prop}, Q (.ref hp.objs.size) ⟨hp.push o1, ge, dr, tk, os⟩ → wpAny (model P w) A' (pyIter v1) Q E ⟨hp, ge, dr, tk, os⟩ := fun q => B1.iter P w _ _ ⟨hp, ge, dr, tk, os⟩ _ h1 q
    have it2 : ∀ {A' : Around} {E : Value → Shared → Prop} {Q : Value → Shared → Prop}, Q (.ref (hp.push o1).objs.size) ⟨(hp.push o1).push o2, ge, dr, tk, os⟩ → wpAny (model P w) A' (pyIter v2) Q E ⟨hp.push o1, ge, dr, tk, os⟩ :=
      fun q => B2.iter P w _ _ ⟨hp.push o1, ge, dr, tk, os⟩ _ (B2.keeps _ _ h2 fun b o e => Heap.get?_push_of_some _ e) q
    have e1 : (Str.ofString "strict" != ("strict" : Str)) = false := by decide +kernel
    wp_walk using it1, it2
    exact ⟨_, rfl, hr⟩
theorem zx_call {v1 v2 : Value} {o1 o2 : Obj} {H1 H2 : Heap → Prop} {Q : Value → Shared → Prop} (B1 : Begins v1 o1 H1) (B2 : Begins v2 o2 H2) (h1 : H1 s.heap) (h2 : H2 s.heap)
    (hQ : ∀ hp', ZipX hp' (s.heap.objs.size + 4) (s.heap.objs.size + 2) (s.heap.objs.size + 3) .none → IsTupOf2 hp' (s.heap.objs.size + 2) (.ref s.heap.objs.size) (.ref (s.heap.objs.size + 1)) →
      IsTupOf2 hp' (s.heap.objs.size + 3) .none .none → hp'.get? s.heap.objs.size = some o1 → hp'.get? (s.heap.objs.size + 1) = some o2 → (∀ c o, s.heap.get? c = some o → hp'.get? c = some o) → Q (.ref (s.heap.objs.size + 4)) { s with heap := hp' }) :
    wpAny (model P w) A (call (.type "zip") [v1, v2] [(Str.ofString "strict", .bool true)]) Q E0 s := by
  refine callType_newKw PySem.F.called_zip (by decide) (tc_strict _ _ _) (nc_strict _ _ _) (fun ob => ai_strict ob _ _ _) PySem.F.entry_zip_new (zx_new B1 B2) ⟨⟨h1, h2⟩, ?_⟩
  have d1 : (s.heap.push o1).objs.size = s.heap.objs.size + 1 := Heap.size_push ..
  have d2 : ((s.heap.push o1).push o2).objs.size = s.heap.objs.size + 2 := (Heap.size_push ..).trans (by rw [d1])
  have d3 : (gzT2 s.heap o1 o2).objs.size = s.heap.objs.size + 3 := (Heap.size_push ..).trans (by rw [d2])
  have d4 : (zxO s.heap o1 o2).objs.size = s.heap.objs.size + 4 := (Heap.size_push ..).trans (by rw [d3])
  have f1 : (zxZ s.heap o1 o2).get? (zxO s.heap o1 o2).objs.size = some { cls := .type "zip", data := .fields #[.none, .bool false, .bool true, .ref ((s.heap.push o1).push o2).objs.size, .ref (gzT2 s.heap o1 o2).objs.size] } := Heap.get?_push_size _ rfl
  have f2 : (zxZ s.heap o1 o2).get? (gzT2 s.heap o1 o2).objs.size = some { cls := .type "tuple", data := .seq #[.none, .none] } := Heap.get?_push_of_some _ (Heap.get?_push_size _ rfl)
  have f3 : (zxZ s.heap o1 o2).get? ((s.heap.push o1).push o2).objs.size = some { cls := .type "tuple", data := .seq #[.ref s.heap.objs.size, .ref (s.heap.push o1).objs.size] } := Heap.get?_push_of_some _ (Heap.get?_push_of_some _ (Heap.get?_push_size _ rfl))
  have f4 : (zxZ s.heap o1 o2).get? s.heap.objs.size = some o1 := Heap.get?_push_of_some _ (Heap.get?_push_of_some _ (Heap.get?_push_of_some _ (Heap.get?_push_of_some _ (Heap.get?_push_size _ B1.free))))
  have f5 : (zxZ s.heap o1 o2).get? (s.heap.push o1).objs.size = some o2 := Heap.get?_push_of_some _ (Heap.get?_push_of_some _ (Heap.get?_push_of_some _ (Heap.get?_push_size _ B2.free)))
  rw [d4, d3, d2] at f1
  rw [d3] at f2
  rw [d2, d1] at f3
  rw [d1] at f5
  show _ ∧ _
  rw [d4]
  exact ⟨⟨_, f1, rfl⟩, hQ _ f1 f3 f2 f4 f5 fun c o e => Heap.get?_push_of_some _ (Heap.get?_push_of_some _ (Heap.get?_push_of_some _ (Heap.get?_push_of_some _ (Heap.get?_push_of_some _ e))))⟩
end
/-! ### the walk over a tuple and a list (either way round not needed) -/
/-- the tuple at a and the list at b, of one length -/
def Itx (K : PySem.W.Frag) (a b : Addr) : It :=
  ⟨fun i H => ∃ (xs ys : List V) (x y : V), SqT K H a xs ∧ SqL K H b ys ∧ xs[i]? = some x ∧ ys[i]? = some y,
    fun i H v H' => ∃ T x y, v = .ref T ∧ H T = none ∧ H' = upd H T (.tup [x, y]) ∧ (∀ xs, SqT K H a xs → xs[i]? = some x) ∧ ∀ ys, SqL K H b ys → ys[i]? = some y,
    fun i H => ∃ xs ys : List V, SqT K H a xs ∧ SqL K H b ys ∧ xs.length = i ∧ ys.length = i⟩
theorem turn_zx {P : Program} {w : World} {K : PySem.W.Frag} {elts : List Expr} {kk : Nat} {tpos : Pos} {a b az tI tO j1 j2 : Addr} (D : ZipSep2 az tI tO j1 j2 [j1, a] [j2, b]) (na : a ≠ j1) (nb : b ≠ j2) :
    Turn P w K (.Tuple elts kk tpos) (Itx K a b) [az, tI, tO, j1, j2] az (fun i hp => ZipX hp az tI tO .none ∧ IsTupOf2 hp tI (.ref j1) (.ref j2) ∧ (∃ x y, IsTupOf2 hp tO x y) ∧ hp.IsTupleIter j1 a i ∧ hp.IsListIter j2 b i) where
  mem := List.mem_cons_self
  obj := fun i hp st c hc => by
    obtain ⟨q0, q1, ⟨x, y, q2⟩, ⟨o1, e1, _, d1⟩, ⟨o2, e2, _, d2⟩⟩ := st
    simp only [List.mem_cons, List.not_mem_nil, or_false] at hc
    rcases hc with z | z | z | z | z <;> subst z
    · exact ⟨_, q0, fun v z => nomatch z⟩
    · exact ⟨_, q1, fun v z => nomatch z⟩
    · exact ⟨_, q2, fun v z => nomatch z⟩
    · exact ⟨o1, e1, fun v z => by rw [d1] at z; cases z⟩
    · exact ⟨o2, e2, fun v z => by rw [d2] at z; cases z⟩
  keep := fun i hp hp' st k => by
    obtain ⟨q0, q1, ⟨x, y, q2⟩, q3, q4⟩ := st
    exact ⟨k az (by simp) _ q0, k tI (by simp) _ q1, ⟨x, y, k tO (by simp) _ q2⟩, q3.at fun o e => k j1 (by simp) o e, q4.at fun o e => k j2 (by simp) o e⟩
  item := by
    intro X hP hw hK hc i pins s σ H E I hf st hg
    subst hP hw hK
    obtain ⟨q0, q1, ⟨x0, y0, q2⟩, q3, q4⟩ := st
    obtain ⟨xs, ys, x, y, ta, lb, ex, ey⟩ := hg
    obtain ⟨is1, r1, p1, _⟩ := I.tuple ta
    obtain ⟨is2, r2, p2, _⟩ := I.list lb
    obtain ⟨u1, eu1, ru1⟩ := r1.get ex
    obtain ⟨u2, eu2, ru2⟩ := r2.get ey
    have cold := I.ok.hd hc
    have zl : az < s.heap.objs.size := Heap.lt_size q0
    have lt1 : i < is1.toArray.size := by have := (List.getElem?_eq_some_iff.mp eu1).1; simpa using this
    have lt2 : i < is2.toArray.size := by have := (List.getElem?_eq_some_iff.mp eu2).1; simpa using this
    refine pn_item (P := X.prog) (w := X.w) D (Draws.tuple (by simpa using cold) j1 a na is1.toArray) (Draws.list (by simpa using cold) j2 b nb is2.toArray) q0 q1 q2 ⟨q3, p1⟩ ⟨q4, p2.isList⟩ lt1 lt2 fun v1 v2 hp1 tk y1 y2 z1 g2' s1 s2 gT sz old => ?_
    have ev1 : v1 = u1 := by
      have : is1.toArray[i]? = some v1 := y1
      simpa [eu1] using this.symm
    have ev2 : v2 = u2 := by
      have : is2.toArray[i]? = some v2 := y2
      simpa [eu2] using this.symm
    subst ev1 ev2
    refine ⟨_, rfl, zx_go (s := { s with heap := hp1, toks := tk }) z1 fun hp2 z2 same => ?_⟩
    have gT2 : hp2.get? s.heap.objs.size = some { cls := .type "tuple", data := .seq #[v1, v2] } := (same.2 _ (Nat.ne_of_gt zl)).trans gT
    have fresh : ObjOk X.prog X.w (upd H s.heap.objs.size (.tup [x, y])) hp2 s.heap.objs.size (.tup [x, y]) := ⟨by show 2 ≤ sizeLine; decide, [v1, v2], .cons ru1 (.cons ru2 .nil), ⟨_, gT2, rfl, _, rfl⟩⟩
    have I1 : Inv X pins σ (upd H s.heap.objs.size (.tup [x, y])) { s with heap := hp2, toks := tk } :=
      I.turnedNew (t' := tk) (ch := [az, tI, tO, j1, j2]) (fun c o hb e => (same.2 c fun z => hb (by simp [z])).trans (old c o (fun z => hb (by simp [z])) (fun z => hb (by simp [z])) (fun z => hb (by simp [z])) (fun z => hb (by simp [z])) e)) hf (Nat.le_refl _) fresh
    have tie : tI < s.heap.objs.size := Heap.lt_size q1
    refine ⟨.ref s.heap.objs.size, _, I1, rfl, ⟨_, x, y, rfl, I.hok.fresh (Nat.le_refl _), rfl, fun l hl => by rw [I.tuple_inj hl ta]; exact ex, fun l hl => by rw [I.list_inj hl lb]; exact ey⟩,
      ⟨z2, (same.2 _ D.TIz).trans (old _ _ D.TIz D.TITO D.TIi1 D.TIi2 q1), ⟨v1, v2, (same.2 _ D.TOz).trans g2'⟩, s1.1.at fun o e => (same.2 _ D.zi1.symm).trans e, s2.1.at fun o e => (same.2 _ D.zi2.symm).trans e⟩, fun c hcm => ?_⟩
    have below : c < s.heap.objs.size := by
      have hcm' := hcm
      simp only [List.mem_cons, List.not_mem_nil, or_false] at hcm'
      rcases hcm' with z | z | z | z | z <;> subst z
      · exact zl
      · exact tie
      · exact Heap.lt_size q2
      · obtain ⟨_, e1, _⟩ := q3; exact Heap.lt_size e1
      · obtain ⟨_, e2, _⟩ := q4; exact Heap.lt_size e2
    rw [upd_ne (Nat.ne_of_lt below)]
    exact (hf c hcm).1
  done := by
    intro X hP hw hK hc i pins s σ H E I hf st hg
    subst hP hw hK
    obtain ⟨q0, q1, ⟨x0, y0, q2⟩, q3, q4⟩ := st
    obtain ⟨xs, ys, ta, lb, e1, e2⟩ := hg
    obtain ⟨is1, r1, p1, _⟩ := I.tuple ta
    obtain ⟨is2, r2, p2, _⟩ := I.list lb
    have cold := I.ok.hd hc
    have l1 : is1.toArray.size = i := by rw [List.size_toArray, ← r1.length, e1]
    have l2 : is2.toArray.size = i := by rw [List.size_toArray, ← r2.length, e2]
    refine pn_end (P := X.prog) (w := X.w) cold D (Draws.tuple (by simpa using cold) j1 a na is1.toArray) (Draws.list (by simpa using cold) j2 b nb is2.toArray) q0 q1 q2 ⟨by rw [l1]; exact q3, p1⟩ ⟨by rw [l2]; exact q4, p2.isList⟩ fun hp1 tk old => ?_
    exact ⟨rfl, I.turnedL (t' := tk) (ch := [az, tI, tO, j1, j2]) (fun c o hb e => old c o (fun z => hb (by simp [z])) (fun z => hb (by simp [z])) (fun z => hb (by simp [z])) (fun z => hb (by simp [z])) e) hf⟩
  self := fun A i s Q E st q => zx_self st.1 q
end NB

set_option Elab.async false
set_option linter.all false
set_option maxRecDepth 100000
set_option maxHeartbeats 8000000
/-! NbY: for .. in zip(t, l, strict=True), in enumerate(..). -/
namespace NB
open PySem PySem.Spec L2
open PyProof.Rows hiding St

theorem cw_tyKw {M : Model} {A : Around} {E0 : Value → Shared → Prop} {s : Shared} {pos : Pos} {T : String} {args : List (Bool × Sem Value)} {kw : List (Option Str × Sem Value)} {Q : Value → Shared → Prop} (plain : args.any (·.1) = false) (named : kw.any (·.1.isNone) = false)
    (run : wpAny M A (evalArgs (.type T) true args kw) (fun a s1 => wpAny M A (call (.type T) a.pos a.kw) Q E0 s1) E0 s) : wpAny M A (callWith pos (.type T) [] args kw) Q E0 s := by
  unfold callWith
  refine wpAny_bind (wpAny_holding (wpAny_mono run (fun a s1 q => wpAny_bind (wpAny_standAt ?_)) fun _ _ z => z))
  rw [plain, named]
  refine wpAny_bind (wpAny_pure (wpAny_bind (wpAny_mono q (fun r s2 z => wpAny_bind (wpAny_holding (wpAny_point (wpAny_pure z)))) fun _ _ z => z)))
/-- the walk of a strict zip: a tuple and a list of one length -/
def iZipX (a b : FE) : FI := fun s h => (a s h).bind fun x h => (b s h).bind fun y h => match x with
  | .tup ws => match y with
    | .loc n => match h[n]? with
      | some (.lst us) => if ws.length = us.length then .ok ⟨(ws.zip us).map fun p => .tup [p.1, p.2], fun h => h[n]? = some (.lst us)⟩ h else .stk
      | _ => .stk
    | _ => .stk
  | _ => .stk
theorem wk_zx {K : PySem.W.Frag} {H : Hp} {ι : List Addr} {a b : Addr} {n : Nat} {ws us : List W} {xs : List V} (t : Tp K H a xs) (r : Rvs K H ι ws xs) (ei : ι[n]? = some b) (hl : ws.length = us.length) :
    Wk K (Itx K a b) ι H ⟨(ws.zip us).map fun p => .tup [p.1, p.2], fun h => h[n]? = some (.lst us)⟩ := fun ι' H' h' S X ck i hi => by
  have t' := t.mono X.tk
  have r' := r.mono X
  obtain ⟨ys, q, ry⟩ := S.lst ck (X.pre _ _ ei)
  refine ⟨fun e => ?_, fun w e => ?_⟩
  · have e' := List.getElem?_eq_none_iff.mp e
    rw [List.length_map, List.length_zip, hl, Nat.min_self] at e'
    have hi' : i ≤ ((ws.zip us).map fun p => W.tup [p.1, p.2]).length := hi
    rw [List.length_map, List.length_zip, hl, Nat.min_self] at hi'
    exact ⟨xs, ys, t'.sq, .of q, by rw [r.len, hl]; omega, by rw [ry.len]; omega⟩
  · obtain ⟨⟨u, v⟩, e1, e2⟩ : ∃ p, (ws.zip us)[i]? = some p ∧ W.tup [p.1, p.2] = w := Option.map_eq_some_iff.mp (by rw [← List.getElem?_map]; exact e)
    subst e2
    obtain ⟨f1, f2⟩ := List.getElem?_zip_eq_some.mp e1
    obtain ⟨x, ex, rx⟩ := r'.get f1
    obtain ⟨y, ey, ry'⟩ := ry.get f2
    refine ⟨⟨xs, ys, x, y, t'.sq, .of q, ex, ey⟩, fun z H'' hz => ?_⟩
    obtain ⟨T, x', y', rfl, hT, rfl, g1, g2⟩ := hz
    have h1 := g1 xs t'.sq
    have h2 := g2 ys (.of q)
    rw [ex] at h1
    rw [ey] at h2
    cases h1
    cases h2
    have ex2 := ext_new (ι := ι') (o := HO.tup [x, y]) hT
    exact ⟨S.new0 hT, ex2, T, [x, y], rfl, ⟨by show 2 ≤ sizeLine; decide, .inl upd_same⟩, x, [y], rfl, rx.mono ex2, y, [], rfl, ry'.mono ex2, rfl⟩
section
variable {X : Cx} {E : Wish} {a b : Expr} {fa fb : FE} {elts : List Expr} {kk j : Nat} {tpos p pos kpos cpos : Pos}
theorem i_zipx (hc : X.calm = true) (hg : Gl X "zip") (hm : X.mg "zip" = none) (ha : PE X a (lE X.K E fa)) (hb : PE X b (lE X.K E fb))
    (hs : backTo pos (starEach [a, b] X.env) = (false, eval a X.env) :: backTo pos (starEach [b] X.env) := by rfl) (hs1 : starEach [a, b] X.env = (false, eval a X.env) :: starEach [b] X.env := by rfl) (hs2 : starEach [b] X.env = (false, eval b X.env) :: starEach [] X.env := by rfl)
    (hpl : (backTo pos (starEach [a, b] X.env)).any (·.1) = false := by rfl)
    (hall : (backToKw pos (keywordEach [⟨some "strict", .Constant (.bool true) j cpos, kpos⟩] X.env)).all (·.1.isSome) = true := by rfl) (hnone : (backToKw pos (keywordEach [⟨some "strict", .Constant (.bool true) j cpos, kpos⟩] X.env)).any (·.1.isNone) = false := by rfl)
    (hks : (backToKw pos (keywordEach [⟨some "strict", .Constant (.bool true) j cpos, kpos⟩] X.env)).filterMap (·.1) = [Str.ofString "strict"] := by rfl) :
    PI X (.Tuple elts kk tpos) (.Call (.Name "zip" p) [a, b] [⟨some "strict", .Constant (.bool true) j cpos, kpos⟩] pos) (lI X.K E (iZipX fa fb)) := by
  constructor
  intro pins s0 σ H Rr I ⟨ι, s, h, S, L, hw⟩
  refine wpAny_Call_Name_kw (ld_blt I hg hm PyProof.Rows.boot_zip (cw_tyKw hpl hnone ?_))
  rw [hs]
  refine PyProof.Rows.evalArgs_kwB hall ?_
  rw [← hs]
  have hA : PA X [a, b] (lA X.K E (bCons fa (bCons fb bNil))) := a_cons ha (a_cons hb a_nil hs2) hs1
  refine thn (hA.run pos pins s0 σ H (fun vs H1 => ∃ (aa bb : Addr) (n : Nat) (ws us : List W) (xs : List V) (ι1 : List Addr) (h1 : Hh), vs = [.ref aa, .ref bb] ∧ Sim X.K H1 ι1 h1 ∧ Ext ι H ι1 H1 ∧ Tp X.K H1 aa xs ∧ Rvs X.K H1 ι1 ws xs ∧ ι1[n]? = some bb ∧ h1[n]? = some (Ob.lst us) ∧ ws.length = us.length ∧
    (∀ J, Wk X.K J ι1 H1 ⟨(ws.zip us).map fun p => .tup [p.1, p.2], fun h => h[n]? = some (Ob.lst us)⟩ → Rr J H1)) I ?_) fun us s1 ⟨vs, H1, I1, rv, q⟩ => ?_
  · unfold iZipX at hw
    refine ⟨ι, s, h, S, L, ?_⟩
    unfold bCons bNil
    cases ea : fa s h with
    | stk => rw [ea] at hw; exact hw.elim
    | exn x h' => rw [ea] at hw; exact hw
    | ok w1 h1 =>
      rw [ea] at hw
      simp only [R.bind_ok] at hw ⊢
      cases eb : fb s h1 with
      | stk => rw [eb] at hw; exact hw.elim
      | exn x h' => rw [eb] at hw; exact hw
      | ok w2 h2 =>
        rw [eb] at hw
        simp only [R.bind_ok] at hw ⊢
        intro vs H1 ι1 S1 X1 r1
        obtain ⟨v1, t1, rfl, ra, v2, t2, rfl, rb, e⟩ := r1
        rw [show t2 = [] from e]
        split at hw
        · split at hw
          · split at hw
            · rename_i e0
              split at hw
              · rename_i hl
                obtain ⟨aa, xs, rfl, t, rr⟩ := ra
                obtain ⟨bb, ei, rfl⟩ := rb
                exact ⟨aa, bb, _, _, _, xs, ι1, h2, rfl, S1, X1, t, rr, ei, e0, hl, fun J wk => hw J H1 ι1 S1 X1 wk⟩
              · exact hw.elim
            · exact hw.elim
          · exact hw.elim
        · exact hw.elim
  · obtain ⟨aa, bb, n, ws, us', xs, ι1, h1, rfl, S1, X1, t, rr, ei, e0, hl, fin⟩ := q
    have hK : PK X [⟨some "strict", .Constant (.bool true) j cpos, kpos⟩] (tCons (tC (.bl true)) tNil) := pk_cons pe_bl pk_nil
    refine thn (hK.run pos pins s1 σ H1 (fun zs H2 => zs = [.bl true] ∧ H2 = H1) I1 ⟨rfl, rfl⟩) fun kvs s2 ⟨zs, H2, I2, rz, ez, eH⟩ => ?_
    subst ez eH
    rw [hks]
    obtain ⟨k1, rfl, ek⟩ := vals1 rz
    obtain rfl : k1 = Value.bool true := ek
    obtain ⟨u1, u2, rfl, ru1, ru2⟩ := vals2 rv
    obtain rfl : u1 = Value.ref aa := ru1
    obtain rfl : u2 = Value.ref bb := ru2
    obtain ⟨ys, q, ry⟩ := S1.lst e0 ei
    obtain ⟨is1, r1, p1, _⟩ := I2.tuple t.sq
    obtain ⟨is2, r2, p2, _⟩ := I2.list (.of q)
    have la : aa < s2.heap.objs.size := by obtain ⟨_, e, _⟩ := p1; exact Heap.lt_size e
    have lb : bb < s2.heap.objs.size := by obtain ⟨_, _, e, _⟩ := p2; exact Heap.lt_size e
    show wpAny (model X.prog X.w) X.A (call (.type "zip") [.ref aa, .ref bb] [(Str.ofString "strict", .bool true)]) _ X.xe s2
    refine zx_call (begins_tuple aa is1.toArray) (begins_list bb is2.toArray) p1 p2.isList fun hp' z0 g1 g2 e1 e2 old => ?_
    have I3 : Inv X pins σ H2 { s2 with heap := hp' } := I2.kept (t' := s2.toks) old
    have D : ZipSep2 (s2.heap.objs.size + 4) (s2.heap.objs.size + 2) (s2.heap.objs.size + 3) s2.heap.objs.size (s2.heap.objs.size + 1) [s2.heap.objs.size, aa] [s2.heap.objs.size + 1, bb] :=
      zip_sep2 (fun b hb => by rw [List.mem_singleton.mp hb]; exact la) (fun b hb => by rw [List.mem_singleton.mp hb]; exact lb)
    refine zx_self z0 ⟨_, [s2.heap.objs.size + 4, s2.heap.objs.size + 2, s2.heap.objs.size + 3, s2.heap.objs.size, s2.heap.objs.size + 1], _, _, H2, rfl, I3, turn_zx D (Nat.ne_of_lt la) (Nat.ne_of_lt (Nat.lt_succ_of_lt lb)), ⟨z0, g1, ⟨_, _, g2⟩, ⟨_, e1, rfl, rfl⟩, ⟨_, e2, rfl, rfl⟩⟩, fun c hcm => ?_, fin _ (wk_zx t rr ei hl)⟩
    have above : s2.heap.objs.size ≤ c := by
      simp only [List.mem_cons, List.not_mem_nil, or_false] at hcm
      rcases hcm with z | z | z | z | z <;> rw [z] <;> first | exact Nat.le_refl _ | exact Nat.le_add_right _ _
    exact I2.fpOk above (I2.hok.fresh above)
end
end NB

set_option Elab.async false
set_option linter.all false
set_option maxRecDepth 100000
set_option maxHeartbeats 8000000
/-! NbX: for .. in enumerate(a list or a tuple). -/
namespace NB
open PySem PySem.Spec L2
open PyProof.Rows hiding St
open PySem.Builtin

section
variable {P : Program} {w : World} {A : Around} {E0 : Value → Shared → Prop} {s : Shared}
theorem en_new {v1 : Value} {o1 : Obj} {H1 : Heap → Prop} (B1 : Begins v1 o1 H1) :
    Meets (Builtin.«enumerate.__new__» ⟨[.type "enumerate", v1], []⟩) (fun _ R s => H1 s.heap ∧ R (.ok (.ret (.ref (s.heap.push o1).objs.size))) { s with heap := (s.heap.push o1).push { cls := .type "enumerate", data := .fields #[.none, .bool false, .ref s.heap.objs.size, rawInt 0, .none, .none] } }) :=
  .of_wp fun P w A R s ⟨h1, hr⟩ => by
    obtain ⟨hp, ge, dr, tk, os⟩ := s
    have hsub := sub_enumerate
    have it1 : ∀ {A' : Around} {E : Value → Shared → Prop} {Q : Value → Shared → Prop}, Q (.ref hp.objs.size) ⟨hp.push o1, ge, dr, tk, os⟩ → wpAny (model P w) A' (pyIter v1) Q E ⟨hp, ge, dr, tk, os⟩ := fun q => B1.iter P w _ _ ⟨hp, ge, dr, tk, os⟩ _ h1 q
    wp_walk using it1
    refine wpAny_stack_any fun stk => wpAny_pure ?_
    split
    · rename_i cc _ _ _ _ _
      cases (cc == Value.type "enumerate") <;> (wp_walk using it1; exact ⟨_, rfl, hr⟩)
    · wp_walk using it1
      exact ⟨_, rfl, hr⟩
theorem en_call {v1 : Value} {o1 : Obj} {H1 : Heap → Prop} {Q : Value → Shared → Prop} (B1 : Begins v1 o1 H1) (h1 : H1 s.heap)
    (hQ : ∀ hp', IsEnum hp' (s.heap.objs.size + 1) s.heap.objs.size 0 .none → hp'.get? s.heap.objs.size = some o1 → (∀ b o, s.heap.get? b = some o → hp'.get? b = some o) → Q (.ref (s.heap.objs.size + 1)) { s with heap := hp' }) :
    wpAny (model P w) A (call (.type "enumerate") [v1]) Q E0 s := by
  refine callType_new PySem.F.called_enumerate (by decide) (PySem.F.typeCall_enumerate_1 _) (PySem.F.newCall_enumerate_1 _) (fun ob => PySem.F.args_object_init_2 ob _) PySem.F.entry_enumerate_new (en_new B1) ⟨h1, ?_⟩
  have d1 : (s.heap.push o1).objs.size = s.heap.objs.size + 1 := Heap.size_push ..
  have f1 : ((s.heap.push o1).push { cls := .type "enumerate", data := .fields #[.none, .bool false, .ref s.heap.objs.size, rawInt 0, .none, .none] }).get? (s.heap.push o1).objs.size = some { cls := .type "enumerate", data := .fields #[.none, .bool false, .ref s.heap.objs.size, rawInt 0, .none, .none] } := Heap.get?_push_size _ rfl
  rw [d1] at f1
  show _ ∧ _
  rw [d1]
  exact ⟨⟨_, f1, rfl⟩, hQ _ f1 (Heap.get?_push_of_some _ (Heap.get?_push_size _ B1.free)) fun b o e => Heap.get?_push_of_some _ (Heap.get?_push_of_some _ e)⟩
end
/-- a list (false) or a tuple (true) at a -/
def SqK (K : PySem.W.Frag) (k : Bool) (H : Hp) (a : Addr) (xs : List V) : Prop := if k = true then SqT K H a xs else SqL K H a xs
def AtK (k : Bool) (hp : Heap) (a : Addr) (its : Array Value) : Prop := if k = true then hp.IsTuple a its else hp.IsList a its
def ItK (k : Bool) (hp : Heap) (it a : Addr) (i : Nat) : Prop := if k = true then hp.IsTupleIter it a i else hp.IsListIter it a i
theorem sqk {X : Cx} {pins : List (Addr × Obj)} {σ : L2.St} {H : Hp} {s : Shared} {k : Bool} {a : Addr} {xs : List V} (I : Inv X pins σ H s) (q : SqK X.K k H a xs) : ∃ its : List Value, Vals xs its ∧ AtK k s.heap a its.toArray := by
  cases k with
  | true => obtain ⟨its, r, p, _⟩ := I.tuple q; exact ⟨its, r, p⟩
  | false => obtain ⟨its, r, p, _⟩ := I.list q; exact ⟨its, r, p.isList⟩
theorem sqk_inj {X : Cx} {pins : List (Addr × Obj)} {σ : L2.St} {H : Hp} {s : Shared} {k : Bool} {a : Addr} {xs ys : List V} (I : Inv X pins σ H s) (q : SqK X.K k H a xs) (q' : SqK X.K k H a ys) : xs = ys := by
  cases k with
  | true => exact I.tuple_inj q q'
  | false => exact I.list_inj q q'
theorem itk_draws {P : Program} {w : World} {A : Around} (cold : A.handled = none) (k : Bool) (it a : Addr) (ne : a ≠ it) (items : Array Value) : Draws P w A it [it, a] items.size (fun i v => items[i]? = some v) (fun i hp => ItK k hp it a i ∧ AtK k hp a items) := by
  cases k with
  | true => exact Draws.tuple cold it a ne items
  | false => exact Draws.list cold it a ne items
theorem itk_obj {k : Bool} {hp : Heap} {it a : Addr} {i : Nat} (x : ItK k hp it a i) : ∃ o, hp.get? it = some o ∧ ∀ v, o.data ≠ .cell v := by
  cases k with
  | true => obtain ⟨o, e, _, d⟩ := x; exact ⟨o, e, fun v z => by rw [d] at z; cases z⟩
  | false => obtain ⟨o, e, _, d⟩ := x; exact ⟨o, e, fun v z => by rw [d] at z; cases z⟩
theorem itk_at {k : Bool} {hp hp' : Heap} {it a : Addr} {i : Nat} (x : ItK k hp it a i) (h : ∀ o, hp.get? it = some o → hp'.get? it = some o) : ItK k hp' it a i := by
  cases k with
  | true => obtain ⟨o, e, c⟩ := x; exact ⟨o, h o e, c⟩
  | false => obtain ⟨o, e, c⟩ := x; exact ⟨o, h o e, c⟩
/-- its items with their numbers from c on, each pair a new tuple -/
def Itn (K : PySem.W.Frag) (k : Bool) (c : Int) (a : Addr) : It :=
  ⟨fun i H => ∃ (xs : List V) (x : V), SqK K k H a xs ∧ xs[i]? = some x, fun i H v H' => ∃ T x, v = .ref T ∧ H T = none ∧ H' = upd H T (.tup [.int (c + (i : Int)), x]) ∧ ∀ xs, SqK K k H a xs → xs[i]? = some x, fun i H => ∃ xs : List V, SqK K k H a xs ∧ xs.length = i⟩
theorem turn_n {P : Program} {w : World} {K : PySem.W.Frag} {elts : List Expr} {kk : Nat} {tpos : Pos} {k : Bool} {c : Int} (a e it : Addr) (nea : a ≠ it) (nee : e ≠ it) (ned : e ≠ a) :
    Turn P w K (.Tuple elts kk tpos) (Itn K k c a) [e, it] e (fun i hp => (∃ old, IsEnum hp e it (c + (i : Int)) old) ∧ ItK k hp it a i) where
  mem := List.mem_cons_self
  obj := fun i hp st b hb => by
    obtain ⟨⟨old, q⟩, x⟩ := st
    simp only [List.mem_cons, List.not_mem_nil, or_false] at hb
    rcases hb with z | z <;> subst z
    · exact ⟨_, q, fun v z => nomatch z⟩
    · exact itk_obj x
  keep := fun i hp hp' st kp => by
    obtain ⟨⟨old, q⟩, x⟩ := st
    exact ⟨⟨old, kp e (by simp) _ q⟩, itk_at x fun o z => kp it (by simp) o z⟩
  item := by
    intro X hP hw hK hc i pins s σ H E I hf st hg
    subst hP hw hK
    obtain ⟨⟨old, q⟩, x⟩ := st
    obtain ⟨xs, y, sq, ey⟩ := hg
    obtain ⟨its, rv, p⟩ := sqk I sq
    obtain ⟨u, eu, ru⟩ := rv.get ey
    have cold := I.ok.hd hc
    have el : e < s.heap.objs.size := Heap.lt_size q
    have lt : i < its.toArray.size := by have := (List.getElem?_eq_some_iff.mp eu).1; simpa using this
    refine wpAny_pyNext_enum_itemC (itk_draws (by simpa using cold) k it a nea its.toArray) q ⟨x, p⟩ lt nee (by simp [nee, ned]) fun v hp1 tk y1 out s1 gT sz old' => ?_
    have ev : v = u := by
      have : its.toArray[i]? = some v := y1
      simpa [eu] using this.symm
    subst ev
    refine ⟨_, rfl, wpAny_letOwnedTupleGo_enum (s := { s with heap := hp1, toks := tk + 1 }) out fun hp2 z2 same => ?_⟩
    have gT2 : hp2.get? s.heap.objs.size = some { cls := .type "tuple", data := .seq #[.int (c + (i : Int)) tk, v] } := (same.2 _ (Nat.ne_of_gt el)).trans gT
    have fresh : ObjOk X.prog X.w (upd H s.heap.objs.size (.tup [.int (c + (i : Int)), y])) hp2 s.heap.objs.size (.tup [.int (c + (i : Int)), y]) := ⟨by show 2 ≤ sizeLine; decide, [.int (c + (i : Int)) tk, v], .cons ⟨_, rfl⟩ (.cons ru .nil), ⟨_, gT2, rfl, _, rfl⟩⟩
    have I1 : Inv X pins σ (upd H s.heap.objs.size (.tup [.int (c + (i : Int)), y])) { s with heap := hp2, toks := tk + 1 } :=
      I.turnedNew (t' := tk + 1) (ch := [e, it]) (fun b o hb z => (same.2 b fun g => hb (by simp [g])).trans (old' b o (fun g => hb (by simp [g])) (fun g => hb (by simp [g])) z)) hf (Nat.le_refl _) fresh
    refine ⟨.ref s.heap.objs.size, _, I1, rfl, ⟨_, y, rfl, I.hok.fresh (Nat.le_refl _), rfl, fun l hl => by rw [sqk_inj I hl sq]; exact ey⟩, ⟨⟨v, ?_⟩, itk_at s1.1 fun o z => (same.2 it nee.symm).trans z⟩, fun b hb => ?_⟩
    · have e1 : c + ((i + 1 : Nat) : Int) = c + (i : Int) + 1 := by omega
      rw [e1]
      exact z2
    · have below : b < s.heap.objs.size := by
        have hb' := hb
        simp only [List.mem_cons, List.not_mem_nil, or_false] at hb'
        rcases hb' with z | z <;> subst z
        · exact el
        · obtain ⟨o, z, _⟩ := itk_obj x; exact Heap.lt_size z
      rw [upd_ne (Nat.ne_of_lt below)]
      exact (hf b hb).1
  done := by
    intro X hP hw hK hc i pins s σ H E I hf st hg
    subst hP hw hK
    obtain ⟨⟨old, q⟩, x⟩ := st
    obtain ⟨xs, sq, el⟩ := hg
    obtain ⟨its, rv, p⟩ := sqk I sq
    have cold := I.ok.hd hc
    have l1 : its.toArray.size = i := by rw [List.size_toArray, ← rv.length, el]
    obtain ⟨f0, f1, f2, f3, f4, f5⟩ := hf it (by simp)
    exact wpAny_pyNext_enum_endD (itk_draws (by simpa using cold) k it a nea its.toArray) q ⟨by rw [l1]; exact x, p⟩ fun hp1 ext => ⟨rfl, I.turned (t' := s.toks) (fun b o hb z => ext b o hb z) f0 f1 f3 f4 f5⟩
  self := fun A i s Q E st q => let ⟨⟨_, z⟩, _⟩ := st; wpAny_pyIter_enum z q
def enumW (c : Int) : Nat → List W → List W
  | _, [] => []
  | i, w :: ws => .tup [.int (c + (i : Int)), w] :: enumW c (i + 1) ws
theorem enumW_len (c : Int) : ∀ (i : Nat) (ws : List W), (enumW c i ws).length = ws.length
  | _, [] => rfl
  | i, w :: ws => by unfold enumW; rw [List.length_cons, List.length_cons, enumW_len c (i + 1) ws]
theorem enumW_get (c : Int) : ∀ (i j : Nat) (ws : List W) (x : W), (enumW c i ws)[j]? = some x → ∃ w, ws[j]? = some w ∧ x = .tup [.int (c + ((i + j : Nat) : Int)), w]
  | _, _, [], x, e => by unfold enumW at e; simp at e
  | i, 0, w :: ws, x, e => by
    unfold enumW at e
    simp only [List.getElem?_cons_zero, Option.some.injEq] at e
    exact ⟨w, rfl, e.symm⟩
  | i, j + 1, w :: ws, x, e => by
    unfold enumW at e
    obtain ⟨u, e1, e2⟩ := enumW_get c (i + 1) j ws x (by simpa using e)
    exact ⟨u, by simpa using e1, by rw [e2]; simp; omega⟩
def iEnumS (a : FE) : FI := fun s h => (a s h).bind fun x h => match srcSeq h x with
  | some sr => .ok ⟨enumW 0 0 sr.items, sr.ck⟩ h
  | none => .stk
/-- what a list or a tuple is, here and later -/
theorem wk_en {K : PySem.W.Frag} {H : Hp} {ι : List Addr} {a : Addr} {k : Bool} {ws : List W} {ck : Hh → Prop} (st : ∀ ι' H' h', Sim K H' ι' h' → Ext ι H ι' H' → ck h' → ∃ xs, SqK K k H' a xs ∧ Rvs K H' ι' ws xs) : Wk K (Itn K k 0 a) ι H ⟨enumW 0 0 ws, ck⟩ := fun ι' H' h' S X c i hi => by
  obtain ⟨xs, sq, r⟩ := st ι' H' h' S X c
  refine ⟨fun e => ⟨xs, sq, ?_⟩, fun w e => ?_⟩
  · have e' := List.getElem?_eq_none_iff.mp e
    rw [enumW_len] at e'
    have hi' : i ≤ (enumW 0 0 ws).length := hi
    rw [enumW_len] at hi'
    rw [r.len]
    omega
  · obtain ⟨u, e1, rfl⟩ := enumW_get 0 0 i ws w e
    obtain ⟨x, ex, rx⟩ := r.get e1
    refine ⟨⟨xs, x, sq, ex⟩, fun z H'' hz => ?_⟩
    obtain ⟨T, y, rfl, hT, rfl, g⟩ := hz
    have h1 := g xs sq
    rw [ex] at h1
    cases h1
    have ex2 := ext_new (ι := ι') (o := HO.tup [.int (0 + (i : Int)), x]) hT
    refine ⟨S.new0 hT, ex2, T, [.int (0 + (i : Int)), x], rfl, ⟨by show 2 ≤ sizeLine; decide, .inl upd_same⟩, .int (0 + (i : Int)), [x], rfl, ?_, x, [], rfl, rx.mono ex2, rfl⟩
    show V.int (0 + (i : Int)) = V.int (0 + ((0 + i : Nat) : Int))
    congr 1
    omega
section
variable {X : Cx} {E : Wish} {a : Expr} {fa : FE} {elts : List Expr} {kk j : Nat} {tpos p pos : Pos}
theorem src_k {K : PySem.W.Frag} {H : Hp} {ι : List Addr} {h : Hh} (S : Sim K H ι h) {w : W} {v : V} {sr : Src} (r : Rv K H ι w v) (e : srcSeq h w = some sr) : ∃ al k, v = .ref al ∧ (∃ xs, SqK K k H al xs) ∧ ∀ ι' H' h', Sim K H' ι' h' → Ext ι H ι' H' → sr.ck h' → ∃ xs, SqK K k H' al xs ∧ Rvs K H' ι' sr.items xs := by
  unfold srcSeq at e
  split at e
  · cases e
    obtain ⟨al, xs, rfl, t, rr⟩ := r
    exact ⟨al, true, rfl, ⟨xs, t.sq⟩, fun ι' H' h' S' X _ => ⟨xs, (t.mono X.tk).sq, rr.mono X⟩⟩
  · cases e
    obtain ⟨al, xs, rfl, t, rr⟩ := r
    exact ⟨al, false, rfl, ⟨xs, t.sq⟩, fun ι' H' h' S' X _ => ⟨xs, (t.mono X.tk).sq, rr.mono X⟩⟩
  · split at e
    · rename_i e0
      cases e
      obtain ⟨al, ei, rfl⟩ := r
      obtain ⟨xs, q, rr⟩ := S.lst e0 ei
      exact ⟨al, false, rfl, ⟨xs, .of q⟩, fun ι' H' h' S' X ck => by
        obtain ⟨ys, q', rr'⟩ := S'.lst ck (X.pre _ _ ei)
        exact ⟨ys, .of q', rr'⟩⟩
    · cases e
  · cases e
theorem i_enum (hg : Gl X "enumerate") (hm : X.mg "enumerate" = none) (ha : PE X a (lE X.K E fa)) (hs : starEach [a] X.env = [(false, eval a X.env)] := by rfl) : PI X (.Tuple elts kk tpos) (.Call (.Name "enumerate" p) [a] [] pos) (lI X.K E (iEnumS fa)) := by
  constructor
  intro pins s0 σ H Rr I ⟨ι, s, h, S, L, hw⟩
  have hA : PA X [a] (lA X.K E (bCons fa bNil)) := a_cons ha a_nil hs
  refine Call_ (ld_blt I hg hm PyProof.Rows.boot_enumerate (PyProof.Rows.callWith_type1 (thn (hA.run pos pins s0 σ H (fun vs H1 => ∃ (al : Addr) (k : Bool) (ι1 : List Addr) (h1 : Hh) (sr : Src), vs = [.ref al] ∧ Sim X.K H1 ι1 h1 ∧ Ext ι H ι1 H1 ∧ (∃ xs, SqK X.K k H1 al xs) ∧
    (∀ ι' H' h', Sim X.K H' ι' h' → Ext ι1 H1 ι' H' → sr.ck h' → ∃ xs, SqK X.K k H' al xs ∧ Rvs X.K H' ι' sr.items xs) ∧ (∀ J, Wk X.K J ι1 H1 ⟨enumW 0 0 sr.items, sr.ck⟩ → Rr J H1)) I ?_) fun us s1 ⟨vs, H1, I1, rv, q⟩ => ?_) hs rfl))
  · unfold iEnumS at hw
    refine ⟨ι, s, h, S, L, ?_⟩
    unfold bCons bNil
    cases ea : fa s h with
    | stk => rw [ea] at hw; exact hw.elim
    | exn x h' => rw [ea] at hw; exact hw
    | ok w1 h1 =>
      rw [ea] at hw
      simp only [R.bind_ok] at hw ⊢
      intro vs H1 ι1 S1 X1 r1
      obtain ⟨v1, t1, rfl, ra, e⟩ := r1
      rw [show t1 = [] from e]
      split at hw
      · rename_i sr es
        obtain ⟨al, k, rfl, sq, st⟩ := src_k S1 ra es
        exact ⟨al, k, ι1, h1, sr, rfl, S1, X1, sq, st, fun J wk => hw J H1 ι1 S1 X1 wk⟩
      · exact hw.elim
  · obtain ⟨al, k, ι1, h1, sr, rfl, S1, X1, ⟨xs, sq⟩, st, fin⟩ := q
    obtain ⟨u1, rfl, ru1⟩ := vals1 rv
    obtain rfl : u1 = Value.ref al := ru1
    obtain ⟨its, r1, p1⟩ := sqk I1 sq
    have go : ∀ (o1 : Obj) (H1' : Heap → Prop), Begins (.ref al) o1 H1' → H1' s1.heap → al < s1.heap.objs.size → (∀ hp' : Heap, hp'.get? s1.heap.objs.size = some o1 → ItK k hp' s1.heap.objs.size al 0) →
        wpAny (model X.prog X.w) X.A (call (.type "enumerate") [.ref al]) (fun v s2 => wpAny (model X.prog X.w) X.A (pyIter v) (PIE X pins σ (.Tuple elts kk tpos) Rr) X.xe s2) X.xe s1 := fun o1 H1' B hB la it0 => by
      refine en_call B hB fun hp' z0 e1 old => ?_
      have I3 : Inv X pins σ H1 { s1 with heap := hp' } := I1.kept (t' := s1.toks) old
      refine wpAny_pyIter_enum z0 ⟨_, [s1.heap.objs.size + 1, s1.heap.objs.size], _, _, H1, rfl, I3, turn_n (k := k) (c := 0) al _ s1.heap.objs.size (Nat.ne_of_lt la) (Nat.succ_ne_self _) (Nat.ne_of_gt (Nat.lt_succ_of_lt la)), ⟨⟨_, z0⟩, it0 hp' e1⟩, fun c hcm => ?_, fin _ (wk_en st)⟩
      have above : s1.heap.objs.size ≤ c := by
        simp only [List.mem_cons, List.not_mem_nil, or_false] at hcm
        rcases hcm with z | z <;> rw [z] <;> first | exact Nat.le_refl _ | exact Nat.le_add_right _ _
      exact I1.fpOk above (I1.hok.fresh above)
    cases k with
    | true => exact go _ _ (begins_tuple al its.toArray) p1 (by obtain ⟨_, e, _⟩ := p1; exact Heap.lt_size e) fun hp' e1 => ⟨_, e1, rfl, rfl⟩
    | false => exact go _ _ (begins_list al its.toArray) p1 (by obtain ⟨_, e, _⟩ := p1; exact Heap.lt_size e) fun hp' e1 => ⟨_, e1, rfl, rfl⟩
end
end NB

set_option Elab.async false
set_option linter.all false
set_option maxRecDepth 100000
set_option maxHeartbeats 4000000
/-! NbV: dict comprehensions. -/
namespace NB
open PySem PySem.Spec L2
open PyProof.Rows hiding St

open Classical in
noncomputable def dcR (t : Tg) (c : FT) (k e : FE) (ck : Hh → Prop) (s : Sg) : List (Key × W) → List W → Hh → R (List (Key × W))
  | acc, [], h => if ck h then .ok acc h else .stk
  | acc, w :: ws, h => if ck h then match t.go h w s with
    | some s2 => (c s2 h).sure.bind fun b h => if b = true then (k s2 h).sure.bind fun x h => (e s2 h).sure.bind fun y h => match keyW x with
      | some kk => if acc.length < Sz then dcR t c k e ck s (putW kk y acc) ws h else .stk
      | none => .stk else dcR t c k e ck s acc ws h
    | none => .stk else .stk
def dcEnd (ws : List (Key × W)) (h : Hh) : R W := .ok (.loc h.length) (h ++ [.dct false ws])
noncomputable def bDc (it : FI) (t : Tg) (c : FT) (k e : FE) (vs : List Nat) : FE := fun s h => (it s h).bind fun sr h => (dcR t c k e sr.ck (wipeG s vs) [] sr.items h).bind dcEnd
section
variable {X : Cx} {E : Wish} {kx elt tg iter : Expr} {ifs : List Expr} {scope : Scope} {own : List (Str × Nat)} {pos : Pos} {fi : FI} {t : Tg} {ft : FT} {fk fe : FE}
theorem dc_of {vs : List Nat} (ht : ∀ i ∈ t.slots, i ∈ vs) : ∀ σ H Q, lE X.K E (bDc fi t ft fk fe vs) σ H Q → tDc (lI X.K E fi) (t.tg X.K) (lT X.K NoW ft) (lE X.K NoW fk) (lE X.K NoW fe) vs σ H Q := fun σ H Q ⟨ι, s, h, S, L, hw⟩ =>
  iB S L hw lands0 fun J H1 ι1 h1 sr S1 X1 wk q1 D hD => by
    have hD1 := S1.fresh hD
    have hD0 := X1.fresh hD hD1
    refine ⟨fun i m H2 => i ≤ sr.items.length ∧ ∃ ι2 h2 acc accV, Sim X.K H2 ι2 h2 ∧ Ext ι1 H1 ι2 H2 ∧ H2 D = some (.dK accV) ∧ D ∉ ι2 ∧ NdK acc ∧ Rkv X.K H2 ι2 acc accV ∧ m = (sr.items.drop i).length ∧
      wpR (dcR t ft fk fe sr.ck (wipeG s vs) acc (sr.items.drop i) h2) (fun a h => wpR (dcEnd a h) (fun w h' => Goes X.K ι H Q w h') (fun x h' => ∀ H' ι', Sim X.K H' ι' h' → Ext ι H ι' H' → E x s h' ι' H' σ)) (fun x h' => ∀ H' ι', Sim X.K H' ι' h' → Ext ι H ι' H' → E x s h' ι' H' σ),
      ⟨_, Nat.zero_le _, ι1, h1, [], [], S1.new0 hD, ext_new hD, upd_same, hD1, List.nodup_nil, rfl, rfl, wpR_bind q1⟩, ?_⟩
    rintro i m H2 ⟨hle, ι2, h2, acc, accV, S2, X2, q2, hD2, nd, r2, rfl, w2⟩
    cases e0 : sr.items.drop i with
    | nil =>
      rw [e0] at w2
      unfold dcR at w2
      split at w2
      · rename_i hck
        have e1 : sr.items[i]? = none := List.getElem?_eq_none (by have := congrArg List.length e0; simp only [List.length_drop, List.length_nil] at this; omega)
        refine .inl ⟨(wk ι2 H2 h2 S2 X2 hck i hle).1 e1, w2 _ _ _ (S2.adopt (ob := .dct false acc) hD2 ⟨accV, q2, r2.wide pre_app⟩) ((X1.trans X2).adopt hD0.1) ⟨D, ?_, rfl⟩⟩
        exact at_push S2
      · exact w2.elim
    | cons w ws =>
      rw [e0] at w2
      have e1 : sr.items[i]? = some w := by
        have := congrArg (fun l => l[0]?) e0
        simpa using this
      have e2 : sr.items.drop (i + 1) = ws := by
        have := congrArg (fun l => l.drop 1) e0
        simpa [List.drop_drop, Nat.add_comm] using this
      unfold dcR at w2
      split at w2
      · rename_i hck
        obtain ⟨go, hy⟩ := (wk ι2 H2 h2 S2 X2 hck i hle).2 w e1
        refine .inr ⟨go, fun H' => ∃ ι2 h2 acc accV, Sim X.K H' ι2 h2 ∧ Ext ι1 H1 ι2 H' ∧ H' D = some (.dK accV) ∧ D ∉ ι2 ∧ NdK acc ∧ Rkv X.K H' ι2 acc accV ∧
          wpR (dcR t ft fk fe sr.ck (wipeG s vs) acc (sr.items.drop (i + 1)) h2) (fun a h => wpR (dcEnd a h) (fun w h' => Goes X.K ι H Q w h') (fun x h' => ∀ H' ι', Sim X.K H' ι' h' → Ext ι H ι' H' → E x s h' ι' H' σ)) (fun x h' => ∀ H' ι', Sim X.K H' ι' h' → Ext ι H ι' H' → E x s h' ι' H' σ),
          fun H' ⟨ι3, h3, ac, av, a1, a2, a3, a4, a5, a6, a7⟩ => ⟨_, by rw [e2]; exact Nat.lt_succ_self _, (List.getElem?_eq_some_iff.mp e1).1, ι3, h3, ac, av, a1, a2, a3, a4, a5, a6, rfl, a7⟩, fun x H3 y => ?_⟩
        obtain ⟨S3, X3, r3⟩ := hy x H3 y
        have L3 := ((((L.mono X1).mono X2).mono X3).wipe vs)
        have a3 := X3.apart q2 hD2
        split at w2
        · rename_i s4 e4
          refine Tg.ok ht L3 r3 e4 fun σ4 L4 l4 k4 => ⟨(wipe_ext l4 k4).trans (wipe_wipe σ vs), ?_⟩
          refine ⟨ι2, s4, h2, S3, L4, wpR_mono (wpR_sb (E' := fun _ _ => False) w2) (fun b h5 w5 H5 ι5 S5 X5 => ?_) fun _ _ (z : False) => z.elim⟩
          have a5 := X5.apart a3.1 a3.2
          have r5 := (r2.mono X3).mono X5
          have X15 := (X2.trans X3).trans X5
          cases b with
          | false => exact ⟨ι5, h5, acc, accV, S5, X15, a5.1, a5.2, nd, r5, by rw [e2]; exact w5⟩
          | true =>
            refine ⟨ι5, s4, h5, S5, L4.mono X5, wpR_mono (wpR_sb (E' := fun _ _ => False) w5) (fun kw h6 w6 y6 H6 ι6 S6 X6 r6 => ?_) fun _ _ (z : False) => z.elim⟩
            refine ⟨ι6, s4, h6, S6, (L4.mono X5).mono X6, wpR_mono (wpR_sb (E' := fun _ _ => False) w6) (fun u h7 w7 z7 H7 ι7 S7 X7 r7 => ?_) fun _ _ (z : False) => z.elim⟩
            have a6 := X6.apart a5.1 a5.2
            have a7 := X7.apart a6.1 a6.2
            have r8 := (r5.mono X6).mono X7
            have mu : Mut (H7 D) := by rw [a7.1]; trivial
            split at w7
            · rename_i kk ek
              split at w7
              · rename_i hz
                refine ⟨accV, kk, keyW_ok r6 ek, a7.1, by rw [r8.len, sz_eq]; exact hz, ι7, h7, putW kk u acc, putK accV kk z7, S7.out a7.2 mu, ((X15.trans X6).trans X7).out hD mu, upd_same, a7.2, nd.put, (r8.put r7 nd).tk (tk_mut mu).tl, by rw [e2]; exact w7⟩
              · exact w7.elim
            · exact w7.elim
        · exact w2.elim
      · exact w2.elim
theorem x_dc (hc : X.calm = true) (hN : X.N.Nodup) (hi : PI X tg iter (lI X.K E fi)) (ok : BlkOk X.N X.env.scope scope own) (hs : ∀ i ∈ t.slots, i ∈ own.map (·.2))
    (hg : InBlk X scope fun Y => PG Y tg (t.tg X.K)) (ht : InBlk X scope fun Y => PTs Y ifs (lT X.K NoW ft)) (hk : InBlk X scope fun Y => PE Y kx (lE X.K NoW fk)) (he : InBlk X scope fun Y => PE Y elt (lE X.K NoW fe)) (hf : ∀ x, foldedSetIterable iter X.env x = pure x := by intro _; rfl) :
    PE X (.DictComp kx elt [⟨tg, iter, ifs, 0⟩] scope pos) (lE X.K E (bDc fi t ft fk fe (own.map (·.2)))) := PE.imp (pe_dc hc hN hi ok hg ht hk he hf) (dc_of hs)
end
end NB

set_option Elab.async false
set_option linter.all false
set_option maxRecDepth 100000
set_option maxHeartbeats 4000000
/-! NbT: sorted(..) of texts as a function. -/
namespace NB
open PySem PySem.Spec L2
open PyProof.Rows hiding St

def leS (a b : Str) : Bool := !decide (b.cps.toList < a.cps.toList)
def insS (x : Str) : List Str → List Str
  | [] => [x]
  | y :: r => if leS x y = true then x :: y :: r else y :: insS x r
def sortS : List Str → List Str
  | [] => []
  | x :: r => insS x (sortS r)
theorem ins_perm (x : Str) : ∀ l, (insS x l).Perm (x :: l)
  | [] => .refl _
  | y :: r => by
    unfold insS
    split
    · exact .refl _
    · exact ((ins_perm x r).cons y).trans (.swap x y r)
theorem sort_perm : ∀ l, (sortS l).Perm l
  | [] => .refl _
  | x :: r => (ins_perm x (sortS r)).trans ((sort_perm r).cons x)
theorem leS_trans {a b c : Str} (h1 : leS a b = true) (h2 : leS b c = true) : leS a c = true := by
  unfold leS at *
  simp only [Bool.not_eq_true', decide_eq_false_iff_not] at *
  exact fun z => (List.not_lt.mp h1 |> fun p => List.not_lt.mp h2 |> fun q => absurd z (List.not_lt.mpr (List.le_trans p q)))
theorem leS_total (a b : Str) : leS a b = true ∨ leS b a = true := by
  unfold leS
  simp only [Bool.not_eq_true', decide_eq_false_iff_not, List.not_lt]
  exact List.le_total _ _
theorem leS_anti {a b : Str} (h1 : leS a b = true) (h2 : leS b a = true) : a = b := by
  unfold leS at *
  simp only [Bool.not_eq_true', decide_eq_false_iff_not, List.not_lt] at *
  have e := List.le_antisymm h1 h2
  obtain ⟨⟨la⟩⟩ := a
  obtain ⟨⟨lb⟩⟩ := b
  simp only at e
  rw [e]
theorem ins_pw (x : Str) : ∀ {l : List Str}, l.Pairwise (fun a b => leS a b = true) → (insS x l).Pairwise (fun a b => leS a b = true)
  | [], _ => List.pairwise_singleton _ _
  | y :: r, h => by
    obtain ⟨h1, h2⟩ := List.pairwise_cons.mp h
    unfold insS
    split
    · rename_i hxy
      exact List.pairwise_cons.mpr ⟨fun z hz => by
        rcases List.mem_cons.mp hz with e | e
        · rw [e]; exact hxy
        · exact leS_trans hxy (h1 z e), h⟩
    · rename_i hxy
      refine List.pairwise_cons.mpr ⟨fun z hz => ?_, ins_pw x h2⟩
      rcases List.mem_cons.mp ((ins_perm x r).mem_iff.mp hz) with e | e
      · rw [e]; exact (leS_total x y).resolve_left hxy
      · exact h1 z e
theorem sort_pw : ∀ l, (sortS l).Pairwise (fun a b => leS a b = true)
  | [] => .nil
  | x :: r => ins_pw x (sort_pw r)
theorem rising_pw : ∀ (l : List Str) (p : Str), risingS p l = true → (p :: l).Pairwise (fun a b => leS a b = true)
  | [], p, _ => List.pairwise_singleton _ _
  | x :: r, p, h => by
    unfold risingS at h
    obtain ⟨h1, h2⟩ := Bool.and_eq_true_iff.mp h
    have hx : leS p x = true := by
      unfold leS
      rw [le_meets]
      exact h1
    have ih := rising_pw r x h2
    refine List.pairwise_cons.mpr ⟨fun z hz => ?_, ih⟩
    rcases List.mem_cons.mp hz with e | e
    · rw [e]; exact hx
    · exact leS_trans hx ((List.pairwise_cons.mp ih).1 z e)
theorem sorted_uniq {ys ks : List Str} (p : ys.Perm ks) (h : sortedS ys = true) : ys = sortS ks := by
  have h1 : ys.Pairwise (fun a b => leS a b = true) := by
    cases ys with
    | nil => exact .nil
    | cons x r => exact rising_pw r x h
  exact List.Perm.eq_of_pairwise (fun a b _ _ => leS_anti) h1 (sort_pw ks) (p.trans (sort_perm ks).symm)
def keyStrs : List (Key × W) → Option (List Str)
  | [] => some []
  | (.inr s, _) :: r => match keyStrs r with
    | some ss => some (s :: ss)
    | none => none
  | _ => none
theorem keyStrs_ok {K : PySem.W.Frag} {H : Hp} {ι : List Addr} : ∀ {kvs : List (Key × W)} {ys : List (Key × V)} {ks : List Str}, Rkv K H ι kvs ys → keyStrs kvs = some ks → ys.map (·.1) = ks.map Sum.inr
  | [], _, _, r, e => by
    cases e
    rw [show _ = [] from r]
    rfl
  | (.inr s, w) :: kvs, _, ks, ⟨x, r, e1, a, t⟩, e => by
    unfold keyStrs at e
    split at e
    · rename_i ss e2
      cases e
      subst e1
      rw [List.map_cons, List.map_cons, keyStrs_ok t e2]
    · cases e
  | (.inl _, _) :: _, _, _, _, e => by cases e
def sortedW : List W → Hh → R W
  | [.loc n], h => match h[n]? with
    | some (.dct _ kvs) => match keyStrs kvs with
      | some ks => if ks.length < 64 then .ok (.loc h.length) (h ++ [.lst ((sortS ks).map W.str)]) else .stk
      | none => .stk
    | some (.lst ws) => match strsW ws with
      | some ks => if ks.length < 64 then .ok (.loc h.length) (h ++ [.lst ((sortS ks).map W.str)]) else .stk
      | none => .stk
    | _ => .stk
  | _, _ => .stk
theorem c_sorted {X : Cx} (hc : X.calm = true) : CallR X (.builtin "sorted") (rLs X.K sortedW) := by
  intro pins s σ H xs us Q I r hq
  obtain ⟨ι, h, ws, S, ar, hw⟩ := hq
  unfold sortedW at hw
  split at hw
  · obtain ⟨x, r1, rfl, ⟨a, ei, rfl⟩, e⟩ := ar
    rw [show r1 = [] from e] at r
    split at hw
    · rename_i e0
      split at hw
      · rename_i ks ek
        split at hw
        · rename_i few
          obtain ⟨ys, q, ra⟩ := S.dctR e0 ei
          exact call_sortedD hc pins s σ H _ us Q I r ⟨a, ys, ks, rfl, q, keyStrs_ok ra ek, few, fun zs p hp1 hs hp => by rw [sorted_uniq hp1 hs]; exact fin_lst hw S (Rvs.ofStrs _) hp⟩
        · exact hw.elim
      · exact hw.elim
    · rename_i e0
      split at hw
      · rename_i ks ek
        split at hw
        · rename_i few
          obtain ⟨ys, q, ra⟩ := S.lst e0 ei
          rw [strsW_ok ek] at ra
          rw [ra.strs] at q
          exact cr_sortedS pins s σ H _ us Q I r ⟨a, ks, rfl, .of q, few, fun zs p hp1 hs hp => by rw [sorted_uniq hp1 hs]; exact fin_lst hw S (Rvs.ofStrs _) hp⟩
        · exact hw.elim
      · exact hw.elim
    · exact hw.elim
  · exact hw.elim
theorem boot_sorted' : bootBuiltins ("sorted" : Str) = some (.builtin "sorted") := by first | rfl | decide +kernel | kernel_rfl
end NB

set_option Elab.async false
set_option linter.all false
set_option maxRecDepth 100000
set_option maxHeartbeats 4000000
/-! NbU: try .. finally where nothing flies; repr of a text. -/
namespace NB
open PySem PySem.Spec L2
open PyProof.Rows hiding St

/-- the body falls through, then the last suite -/
def sTryF (f g : FS) : FS := fun s h => match f s h with
  | .ok (.nx s1) h1 => match g s1 h1 with
    | .ok (.nx s2) h2 => .ok (.nx s2) h2
    | _ => .stk
  | _ => .stk
section
variable {X : Cx} {E : Wish} {body fs : List Stmt} {f0 : Stmt} {fb ff : FS} {pos : Pos}
theorem s_tryF (hb : PSs X.nox body (lS X.K NoW fb)) (hf : PSs X.nox (f0 :: fs) (lS X.K NoW ff)) : PS X (.Try body [] [] (f0 :: fs) pos) (lS X.K E (sTryF fb ff)) := by
  constructor
  intro pins s0 σ H D I ⟨ι, s, h, S, L, hw⟩
  unfold sTryF at hw
  cases e1 : fb s h with
  | stk => rw [e1] at hw; exact hw.elim
  | exn x h1 => rw [e1] at hw; exact hw.elim
  | ok fl h1 =>
    rw [e1] at hw
    cases fl with
    | rt _ => exact hw.elim
    | bk _ => exact hw.elim
    | ct _ => exact hw.elim
    | ex _ _ => exact hw.elim
    | nx s1 =>
      dsimp only at hw
      cases e2 : ff s1 h1 with
      | stk => rw [e2] at hw; exact hw.elim
      | exn x h2 => rw [e2] at hw; exact hw.elim
      | ok fl2 h2 =>
        rw [e2] at hw
        cases fl2 with
        | rt _ => exact hw.elim
        | bk _ => exact hw.elim
        | ct _ => exact hw.elim
        | ex _ _ => exact hw.elim
        | nx s2 =>
          have after : ∀ σ1 H1 ι1, Sim X.K H1 ι1 h1 → Ext ι H ι1 H1 → Sl X.K H1 ι1 s1 σ1 → lS X.K NoW ff { nx := D.nx, rt := fun _ _ => False } σ1 H1 := fun σ1 H1 ι1 S1 X1 L1 =>
            ⟨ι1, s1, h1, S1, L1, by rw [e2]; exact fun H2 ι2 S2 X2 σ2 L2 => hw H2 ι2 S2 (X1.trans X2) σ2 L2⟩
          refine wpAny_Try_finally (wpAny_mono (hb.run pins s0 σ H { nx := fun σ1 H1 => lS X.K NoW ff { nx := D.nx, rt := fun _ _ => False } σ1 H1, rt := fun _ _ => False } (I.wish _)
            ⟨ι, s, h, S, L, by rw [e1]; exact fun H1 ι1 S1 X1 σ1 L1 => after σ1 H1 ι1 S1 X1 L1⟩) (fun f s3 q => ?_) fun _ _ z => False.elim z)
          have q' := q.unwish
          cases f with
          | ret u => obtain ⟨_, _, _, _, _, z⟩ := q'; exact z.elim
          | brk => obtain ⟨_, _, _, z⟩ := q'; exact z.elim
          | cont => obtain ⟨_, _, _, z⟩ := q'; exact z.elim
          | next =>
            obtain ⟨σ1, H1, I1, q1⟩ := q'
            refine wpAny_execs_nil (wpAny_mono (hf.run pins s3 σ1 H1 _ (I1.wish _) q1) (fun f s4 z => ?_) fun _ _ z => False.elim z)
            have z' := z.unwish
            cases f with
            | ret u => obtain ⟨_, _, _, _, _, z⟩ := z'; exact z.elim
            | brk => obtain ⟨_, _, _, z⟩ := z'; exact z.elim
            | cont => obtain ⟨_, _, _, z⟩ := z'; exact z.elim
            | next => exact z'
end
end NB

set_option Elab.async false
set_option linter.all false
set_option maxRecDepth 100000
set_option maxHeartbeats 4000000
/-! NbR: methods that take any number of arguments; repr of a text. -/
namespace NB
open PySem PySem.Spec L2
open PyProof.Rows hiding St

/-- the promise of def m(self, *v) -/
def spV (K : PySem.W.Frag) (f : List W → Hh → R W) : Sp := fun vs H Q E => ∃ ws rest, vs = ws ++ rest ∧ ws.length = 1 ∧ rest.length ≤ sizeLine ∧ ∀ p, H p = none → spL K 2 f (ws ++ [V.ref p]) (upd H p (.tup rest)) Q E
/-- def m(self, *v) by its body as a function -/
theorem FnV.fn {P : Program} {w : World} {K : PySem.W.Frag} {mg : Str → Option Value} {base : Heap} {k : Nat} {f : Addr} {fd : FuncData} {x qual : Str} {st : Stmt} {p1 pv : Str} {N : List Str} {m : FS}
    (F : FunD K x qual (defArgs st) (defBody st) (defScope st) [] [] f fd) (S : FnScope N [p1, pv] (defScope st))
    (hbind : ∀ (kV doc pm : Value) (an : Option Addr) (cdv ct : Value) (a : Value) (rest : List Value), bindArgs (PySem.W.fnOf x qual (defArgs st) (defBody st) (defScope st) .none kV doc pm an cdv ct) ⟨a :: rest, []⟩ = (newTuple rest >>= fun t => pure [(p1, a), (pv, t)]))
    (hb : ∀ (cdv : Value) (A : Around) (outer : List Env) (s : Shared) (H : Hp) (E : XK), Gd false A → Room k (A.deeper (envOfC qual (defScope st) s.heap.objs.size f cdv)) →
      PSs (cxOf (CX P w) P w K mg base N qual (defScope st) f cdv A outer s H E) (defBody st) (lS K (bW K E) m)) : FnR P w K mg base (CX P w) (k + 1) f (spV K (runB N.length m)) := by
  obtain ⟨oc, od, dV, kV, doc, pm, an, cdv, ct, osl, rfl, lk, hcd, hD, _⟩ := F.ex
  obtain rfl : dV = Value.none := by
    rcases hD with ⟨_, z⟩ | ⟨z, _⟩
    · exact z
    · exact absurd rfl z
  refine (StX.fn_star (sp := spL K 2 (runB N.length m)) (ps := [p1]) (pv := pv) lk hcd S StX.cxUp (fun us rest hl => ?_) fun A outer s H vs Q E hr hsp => ⟨_, hb cdv A outer s H E (fun z => nomatch z) hr, ?_⟩).imp fun vs H Q E z => z
  · match us, hl with
    | [a], _ => exact hbind _ _ _ _ _ _ a rest
  · obtain ⟨hn, ι, h, ws, S', r, hw⟩ := hsp
    refine sL (s := startW N.length ws) S' (start_sl r) ?_
    unfold runB at hw
    cases em : m (startW N.length ws) h with
    | stk => rw [em] at hw; exact hw.elim
    | exn x h' => rw [em] at hw; exact hw.elim
    | ok fl h' =>
      rw [em] at hw
      cases fl with
      | nx s' => exact fun H' ι' S2 X2 σ' L' => hw .non H' ι' S2 X2 rfl
      | rt u => exact fun H' ι' S2 X2 v rv => hw v H' ι' S2 X2 rv
      | ex x s' => exact fun H' ι' S2 X2 σ' L' cls d er => hw H' ι' cls d S2 X2 er
      | bk s' => exact hw.elim
      | ct s' => exact hw.elim
def bMeV (C m : Str) (f : List W → Hh → R W) (o : FE) (a : FA) : FE := fun s h => (o s h).bind fun w h => match w with
  | .loc k => match h[k]? with
    | some (.ins D fs) => if D = C ∧ fs.lookup m = none then (a s h).bind fun xs h => if xs.length ≤ Sz then f [.loc k, .tup xs] h else .stk else .stk
    | _ => .stk
  | _ => .stk
theorem x_methV {X : Cx} {E : Wish} {k : Nat} {f : Addr} {F : List W → Hh → R W} {m cn : Str} {pos apos : Pos} {e o : Expr} {es : List Expr} {fo : FE} {fa : FA} {pl : Sem Bool} (c : Cls X.K (He.ga X.K cn)) (hm : Meth X.K (He.ga X.K cn) m f) (G : FnR X.prog X.w X.K X.mg X.base (CX X.prog X.w) k f (spV X.K F)) (hr : Room k X.A) (tk : TakesL X E)
    (he : PE X o (lE X.K E fo)) (ha : PA X (e :: es) (lA X.K E fa))
    (hst : starEach (e :: es) X.env = (false, eval e X.env) :: starEach es X.env := by rfl) (hpl : (backTo pos (starEach es X.env)).any (·.1) = false := by rfl)
    (ht : eval (.Call (.Attribute o m apos) (e :: es) [] pos) X.env = (do
      let ov ← eval o X.env
      standAt apos.atName
      let (f, first) ← holding [ov] (getMethod ov m pl)
      callWith pos f first (backTo pos (starEach (e :: es) X.env)) (backToKw pos (keywordEach [] X.env))) := by rfl) :
    PE X (.Call (.Attribute o m apos) (e :: es) [] pos) (lE X.K E (bMeV cn m F fo fa)) := by
  constructor
  intro pins s0 σ H Q I ⟨ι, s, h, S, L, hw⟩
  refine PySem.W.methodCall_KW (pl := pl) (thn (he.run pins s0 σ H (fun v H1 => ∃ (j : Nat) (a : Addr) (ι1 : List Addr) (h1 : Hh) (fs : List (Str × W)), v = .ref a ∧ Sim X.K H1 ι1 h1 ∧ Ext ι H ι1 H1 ∧ ι1[j]? = some a ∧ h1[j]? = some (Ob.ins cn fs) ∧ fs.lookup m = none ∧
      wpR ((fa s h1).bind fun xs h => if xs.length ≤ Sz then F [.loc j, .tup xs] h else .stk) (fun w h' => Goes X.K ι H Q w h') (fun x h' => ∀ H' ι', Sim X.K H' ι' h' → Ext ι H ι' H' → E x s h' ι' H' σ)) I ?_) fun u s1 ⟨v, H1, I1, rv, j, a, ι1, h1, fs, ev, S1, X1, ei, e0, hl, hw1⟩ => ?_) ht
  · refine eB S L hw lands0 fun v H1 ι1 h1 w S1 X1 r1 hw1 => ?_
    cases w with
    | loc j =>
      obtain ⟨a, ei, rfl⟩ := r1
      dsimp only at hw1
      split at hw1
      · rename_i D fs e0
        split at hw1
        · rename_i hc
          obtain ⟨rfl, hl⟩ := hc
          exact ⟨j, a, ι1, h1, fs, rfl, S1, X1, ei, e0, hl, hw1⟩
        · exact hw1.elim
      · exact hw1.elim
    | _ => exact hw1.elim
  · subst ev
    obtain rfl : u = Value.ref a := rv
    obtain ⟨a', e1, dx, gs, q, r⟩ := S1.ob _ _ e0
    rw [ei] at e1
    cases e1
    refine getmeth_ok I1 q c hm (lookup_none r hl) (PySem.W.callWith_K (first := [.ref a]) (h₀ := X.base) I1.ok.mod.kin hm.kp (thn (ha.run pos pins s1 σ H1 (fun vs H2 => ∃ ι2 h2 ws, Sim X.K H2 ι2 h2 ∧ Ext ι1 H1 ι2 H2 ∧ Rvs X.K H2 ι2 ws vs ∧
      wpR (if ws.length ≤ Sz then F [.loc j, .tup ws] h2 else .stk) (fun w h' => Goes X.K ι H Q w h') (fun x h' => ∀ H' ι', Sim X.K H' ι' h' → Ext ι H ι' H' → E x s h' ι' H' σ)) I1 ?_) fun us s2 ⟨vs, H2, I2, rv2, ι2, h2, ws, S2, X2, r2, hw2⟩ => ⟨I2.kIn, ?_⟩) hst hpl)
    · exact aB S1 (L.mono X1) hw1 (lands_mono X1) fun vs H2 ι2 h2 ws S2 X2 r2 hw2 => ⟨ι2, h2, ws, S2, X2, r2, hw2⟩
    · split at hw2
      · rename_i hz
        have X12 := X1.trans X2
        have h5 : spV X.K F (V.ref a :: vs) H2 Q (eAt (wOf X.K E) σ) := ⟨[V.ref a], vs, rfl, rfl, by rw [r2.len, sz_eq]; exact hz, fun p hp => by
          have Xp := ext_new (ι := ι2) (o := HO.tup vs) hp
          exact sp_of (S2.new0 hp) (X12.trans Xp) L (ws := [.loc j, .tup ws]) ⟨.ref a, [.ref p], rfl, ⟨a, X2.pre _ _ ei, rfl⟩, .ref p, [], rfl, ⟨p, vs, rfl, ⟨by rw [r2.len, sz_eq]; exact hz, .inl upd_same⟩, r2.mono Xp⟩, rfl⟩ rfl hw2⟩
        refine wpAny_call (codeAny_mono (G X.A X.stack s2 H2 (Value.ref a :: us) (V.ref a :: vs) Q (eAt (wOf X.K E) σ) hr I2.env0 (.cons rfl rv2) h5) fun r s' hq => ?_)
        match r, hq with
        | .error e, hq => exact tk e s' (XE.of_call I2 (fun _ _ _ z => z) hq)
        | .ok (.ret u), hq => exact I2.after hq
      · exact hw2.elim
/-! ### repr of a text -/
def reprW : List W → Hh → R W
  | [.str z], h => if (reprText z).length ≤ Sz then .ok (.str (reprText z)) h else .stk
  | _, _ => .stk
theorem c_repr {X : Cx} (hc : X.calm = true) : CallR X (.builtin "repr") (rLs X.K reprW) := by
  intro pins s σ H xs us Q I r hq
  obtain ⟨ι, h, ws, S, ar, hw⟩ := hq
  unfold reprW at hw
  split at hw
  · split at hw
    · rename_i hz
      obtain ⟨x, r1, rfl, rfl, e⟩ := ar
      rw [show r1 = [] from e] at r
      obtain ⟨u, rfl, t, rfl⟩ := vals1 r
      exact PySem.P.repr_of_str ⟨.str _, H, I.tok _, ⟨_, rfl⟩, hw _ _ _ S .refl rfl⟩ (by rw [sz_eq]; exact hz)
    · exact hw.elim
  · exact hw.elim
end NB

set_option Elab.async false
set_option linter.all false
set_option maxRecDepth 100000
set_option maxHeartbeats 4000000
/-! NbQ: f-string parts with a width: {n:>2}, {s:<8}. -/
namespace NB
open PySem PySem.Spec L2
open PyProof.Rows hiding St
open PySem.Builtin PySem.Builtin.Str PySem.Builtin.Float

section
variable {P : Program} {w : World} {A : Around} {E0 : Value → Shared → Prop} {s : Shared}
/-- {n:spec}, n small -/
theorem ff_int {n : Int} {t : Tok} {sp : Str} {f : Float.FormatSpec} {Q : Value → Shared → Prop} (small : n.natAbs.log2 < 1920) (parsed : Float.parseFormatSpec sp.cps.toList "int" 62 = .ok f) (some1 : (sp.length == 0) = false)
    (plain : ((sp.cps.toList.drop 1).any (· ≥ 128) || (sp.cps.getD 0 0 ≥ 128 && !([60, 62, 61, 94] : List Nat).contains (sp.cps.getD 1 0))) = false) (good : intSpecGood sp f = true) (fit1 : sp.length ≤ sizeLine) (fit2 : (intSpecText f n).length ≤ sizeLine)
    (hQ : ∀ k, Q (.str (intSpecText f n) k) { s with toks := s.toks + 1 + 1 }) : wpAny (model P w) A (formatField (.int n t) sp) Q E0 s := by
  unfold intSpecGood at good
  simp only [Bool.and_eq_true] at good
  obtain ⟨⟨⟨⟨⟨⟨g1, g2⟩, g3⟩, g4⟩, g5⟩, g6⟩, g7⟩ := good
  have h1 := beq_iff_eq.mp g1
  have h2 := Option.isNone_iff_eq_none.mp g2
  have h3 : f.noNeg0 = false := by simpa using g3
  have h4 : f.alt = false := by simpa using g4
  have h5 : ¬ (f.width.getD 0 > 100000) := by simpa using g5
  have h6 := Option.isNone_iff_eq_none.mp g6
  have h7 := Option.isNone_iff_eq_none.mp g7
  show wpAny _ _ (holding [.int n t] (pyFormat (.int n t) sp)) Q E0 s
  unfold pyFormat
  refine wpAny_holding (wpAny_bind (wpAny_mkStr ?_ fit1))
  refine wpAny_bind (m := callSpecial? (.int n t) (Str.ofString "__format__") [.str sp s.toks]) (wpAny_callSpecial?_slot (name := Str.ofString "__format__") (typeIs_int _ n t) PySem.F.slot_int_format
    (wpAny_call_entry PySem.F.slot_int_format (typeIs_int _ n t) PySem.F.entry_int_format ?_ (PySem.F.args_int_format_2 _ _)))
  unfold Builtin.«int.__format__»
  simp only [selfAndOne, noKeywords, Int.intOfSelf, asInt?, asStr?, List.isEmpty_nil, if_true, pure_bind, bind_pure, bind_assoc, some1, plain, Bool.false_eq_true, if_false, show (Value.str sp s.toks == Value.none) = false from rfl]
  refine wpAny_bind (wpAny_typeNameOf (T := "str") (typeIs_str _ _ _) (by decide) fun _ => ?_)
  refine wpAny_bind (wpAny_typeNameOfCut_int ?_)
  simp only [parsed, h1]
  rw [if_pos (by decide)]
  show wpAny _ _ (if _ then _ else _) _ _ _
  rw [if_neg (by simp [h2])]
  show wpAny _ _ (if _ then _ else _) _ _ _
  rw [if_neg (by simp [h3])]
  show wpAny _ _ (if _ then _ else _) _ _ _
  rw [if_neg (by decide)]
  show wpAny _ _ (do let r ← Builtin.overDigitLimit? n; _) _ _ _
  rw [PyProof.Rows.overDigitLimit_small small]
  refine wpAny_bind (wpAny_pure ?_)
  show wpAny _ _ (if _ then _ else _) _ _ _
  rw [if_neg (by simpa using h5)]
  have done : ∀ x : Str, x = intSpecText f n → wpAny (model P w) A.in1 (retStr x) (fun fin s' => ∃ v, fin = .done (.ret v) ∧ wpAny (model P w) A (do
      if (← isInstance v (.type "str")) then return v
      rule "format.no-str"; raiseError "TypeError" s!"__format__ must return a str, not {← typeNameOf v}") Q E0 s') E0 { heap := s.heap, gens := s.gens, drawn := s.drawn, toks := s.toks + 1, os := s.os } := fun x e => by
    subst e
    unfold retStr
    exact wpAny_bind (wpAny_mkStr (wpAny_pure ⟨_, rfl, wpAny_bind (wpAny_isInstance (typeIs_str _ _ _) isSubtype_str_str (wpAny_pure (hQ _)))⟩) fit2)
  refine done _ ?_
  unfold intSpecText intField'
  conv => lhs; whnf
  simp only [h4, h6, h7, Bool.false_eq_true, if_false, show ((10 : Nat) == 10) = true by decide, if_true]
  rfl
theorem tn_str : typeName (.type "str") = pure "str" := by unfold typeName; rw [find?_eq_fast]; kernel_rfl
theorem tnc_str {m : Nat} {x : Str} {t : Tok} {Q : String → Shared → Prop} (q : Q "str" s) : wpAny (model P w) A (typeNameOfCut m (.str x t)) Q E0 s := by
  unfold typeNameOfCut shownTypeOf
  refine wpAny_bind (wpAny_bind (wpAny_typeOf (typeIs_str _ x t) ?_))
  rw [if_neg (by decide)]
  refine wpAny_pure ?_
  rw [show typeNameCut m (.type "str") = typeName (.type "str") from rfl, tn_str]
  exact wpAny_pure q
theorem ff_str {x : Str} {t : Tok} {sp : Str} {r : Option Str} {Q : Value → Shared → Prop} {f : Float.FormatSpec} (parsed : Float.parseFormatSpec sp.cps.toList "str" 60 = .ok f) (c1 : (f.type.isNone && sp.cps.back? == some 0) = false) (c2 : tooLong (f.width.getD 0) = false) (c3 : strField x f "str" = .ok r) (some1 : (sp.length == 0) = false)
    (plain : ((sp.cps.toList.drop 1).any (· ≥ 128) || (sp.cps.getD 0 0 ≥ 128 && !([60, 62, 61, 94] : List Nat).contains (sp.cps.getD 1 0))) = false) (fit1 : sp.length ≤ sizeLine) (fit2 : (r.getD x).length ≤ sizeLine)
    (hQ : ∀ k tk, Q (.str (r.getD x) k) { s with toks := tk }) : wpAny (model P w) A (formatField (.str x t) sp) Q E0 s := by
  have e : formatField (.str x t) sp = holding [.str x t] (pyFormat (.str x t) sp) := by
    unfold formatField
    simp only [some1, Bool.false_eq_true, if_false]
  rw [e]
  unfold pyFormat
  refine wpAny_holding (wpAny_bind (wpAny_mkStr ?_ fit1))
  refine wpAny_bind (m := callSpecial? (.str x t) (Str.ofString "__format__") [.str sp s.toks]) (wpAny_callSpecial?_slot (name := Str.ofString "__format__") (typeIs_str _ x t) PySem.F.slot_str_format
    (wpAny_call_entry PySem.F.slot_str_format (typeIs_str _ x t) PySem.F.entry_str_format ?_ (PySem.F.args_str_format_2 _ _)))
  have last : ∀ (k : Tok) (tk : Nat), wpAny (model P w) A (do
      if (← isInstance (Value.str (r.getD x) k) (.type "str")) then return Value.str (r.getD x) k
      rule "format.no-str"; raiseError "TypeError" s!"__format__ must return a str, not {← typeNameOf (Value.str (r.getD x) k)}") Q E0 { s with toks := tk } := fun k tk => wpAny_bind (wpAny_isInstance (typeIs_str _ _ _) isSubtype_str_str (wpAny_pure (hQ k tk)))
  unfold Builtin.«str.__format__»
  simp only [strOneArg, selfAndOne, noKeywords, textOf, asStr?, List.isEmpty_nil, if_true, pure_bind, bind_pure, bind_assoc, some1, plain, Bool.false_eq_true, if_false]
  refine wpAny_bind (tnc_str ?_)
  have run : ∀ z : Except String (Option (Option Str)), z = .ok (some r) → wpAny (model P w) A.in1 (match z with
      | .error msg => do
        rule "str.__format__.bad-spec"
        if sp.cps.any Str.isSurrogate && quotesTheSpec msg then raiseErrorStr "ValueError" (invalidSpecWords sp "str")
        raiseError "ValueError" msg
      | .ok none => unsupported "str.__format__:memory"
      | .ok (some none) => do rule "str.__format__.unchanged"; ret (.str x t)
      | .ok (some (some text)) => retStr text) (fun fin s' => ∃ v, fin = .done (.ret v) ∧ wpAny (model P w) A (do
        if (← isInstance v (.type "str")) then return v
        rule "format.no-str"; raiseError "TypeError" s!"__format__ must return a str, not {← typeNameOf v}") Q E0 s') E0 { heap := s.heap, gens := s.gens, drawn := s.drawn, toks := s.toks + 1, os := s.os } := fun z ez => by
    subst ez
    cases r with
    | none => exact wpAny_bind (wpAny_rule (wpAny_pure ⟨_, rfl, last t (s.toks + 1)⟩))
    | some y => exact wpAny_bind (wpAny_mkStr (wpAny_pure ⟨_, rfl, last (s.toks + 1) (s.toks + 1 + 1)⟩) fit2)
  refine run _ ?_
  simp only [parsed, Except.bind, bind, pure, Except.pure, c1, c2, c3, Bool.false_eq_true, if_false]
end
/-- {n:spec} of an int -/
def bFmtI (f : Float.FormatSpec) (a : FE) : FE := fun s h => (a s h).bind fun x h => match x with
  | .int i => if i.natAbs < 10 ^ 100 ∧ (intSpecText f i).length ≤ Sz then .ok (.str (intSpecText f i)) h else .stk
  | _ => .stk
/-- {s:spec} of a text -/
def bFmtT (f : Float.FormatSpec) (a : FE) : FE := fun s h => (a s h).bind fun x h => match x with
  | .str z => match strField z f "str" with
    | .ok r => if (r.getD z).length ≤ Sz then .ok (.str (r.getD z)) h else .stk
    | _ => .stk
  | _ => .stk
section
variable {X : Cx} {E : Wish} {a : Expr} {fa : FE} {sp : Str} {f : Float.FormatSpec} {j : Nat} {p1 p2 pos : Pos}
theorem x_fmtI (ha : PE X a (lE X.K E fa)) (parsed : Float.parseFormatSpec sp.cps.toList "int" 62 = .ok f) (some1 : (sp.length == 0) = false)
    (plain : ((sp.cps.toList.drop 1).any (· ≥ 128) || (sp.cps.getD 0 0 ≥ 128 && !([60, 62, 61, 94] : List Nat).contains (sp.cps.getD 1 0))) = false) (good : intSpecGood sp f = true) (fit1 : sp.length ≤ sizeLine) :
    PE X (.FormattedValue a (-1) (some (.JoinedStr [.Constant (.str sp) j p1] p2)) pos) (lE X.K E (bFmtI f fa)) := by
  constructor
  intro pins s0 σ H Q I ⟨ι, s, h, S, L, hw⟩
  have hK : PE X (.JoinedStr [.Constant (.str sp) j p1] p2) (tC (.str sp)) := pe_joined1 pe_str
  refine wpAny_FormattedValue_spec (thn (ha.run pins s0 σ H (fun v H1 => ∃ i : Int, v = .int i ∧ i.natAbs.log2 < 1920 ∧ (intSpecText f i).length ≤ sizeLine ∧ Q (.str (intSpecText f i)) H1) I ?_) fun v s1 ⟨x, H1, I1, rx, i, ex, sm, fit2, q⟩ => ?_)
  · refine eB S L hw lands0 fun v H1 ι1 h1 w S1 X1 r1 hw1 => ?_
    split at hw1
    · split at hw1
      · rename_i hz
        exact ⟨_, r1, log2_lt hz.1, by rw [sz_eq]; exact hz.2, hw1 _ _ _ S1 X1 rfl⟩
      · exact hw1.elim
    · exact hw1.elim
  · subst ex
    obtain ⟨t, rfl⟩ := rx
    refine thn (hK.run pins s1 σ H1 (fun y H2 => y = .str sp ∧ H2 = H1) I1 ⟨rfl, rfl⟩) fun r s2 ⟨y, H2, I2, ry, ey, eH⟩ => ?_
    subst ey eH
    obtain ⟨t2, rfl⟩ := ry
    exact ⟨sp, t2, rfl, ff_int sm parsed some1 plain good fit1 fit2 fun k => ⟨.str _, H2, I2.tok _, ⟨k, rfl⟩, q⟩⟩
theorem x_fmtT (ha : PE X a (lE X.K E fa)) (parsed : Float.parseFormatSpec sp.cps.toList "str" 60 = .ok f) (c1 : (f.type.isNone && sp.cps.back? == some 0) = false) (c2 : tooLong (f.width.getD 0) = false) (some1 : (sp.length == 0) = false)
    (plain : ((sp.cps.toList.drop 1).any (· ≥ 128) || (sp.cps.getD 0 0 ≥ 128 && !([60, 62, 61, 94] : List Nat).contains (sp.cps.getD 1 0))) = false) (fit1 : sp.length ≤ sizeLine) :
    PE X (.FormattedValue a (-1) (some (.JoinedStr [.Constant (.str sp) j p1] p2)) pos) (lE X.K E (bFmtT f fa)) := by
  constructor
  intro pins s0 σ H Q I ⟨ι, s, h, S, L, hw⟩
  have hK : PE X (.JoinedStr [.Constant (.str sp) j p1] p2) (tC (.str sp)) := pe_joined1 pe_str
  refine wpAny_FormattedValue_spec (thn (ha.run pins s0 σ H (fun v H1 => ∃ (z : Str) (r : Option Str), v = .str z ∧ strField z f "str" = .ok r ∧ (r.getD z).length ≤ sizeLine ∧ Q (.str (r.getD z)) H1) I ?_) fun v s1 ⟨x, H1, I1, rx, z, r, ex, c3, fit2, q⟩ => ?_)
  · refine eB S L hw lands0 fun v H1 ι1 h1 w S1 X1 r1 hw1 => ?_
    split at hw1
    · split at hw1
      · rename_i r er
        split at hw1
        · rename_i hz
          exact ⟨_, r, r1, er, by rw [sz_eq]; exact hz, hw1 _ _ _ S1 X1 rfl⟩
        · exact hw1.elim
      · exact hw1.elim
    · exact hw1.elim
  · subst ex
    obtain ⟨t, rfl⟩ := rx
    refine thn (hK.run pins s1 σ H1 (fun y H2 => y = .str sp ∧ H2 = H1) I1 ⟨rfl, rfl⟩) fun r' s2 ⟨y, H2, I2, ry, ey, eH⟩ => ?_
    subst ey eH
    obtain ⟨t2, rfl⟩ := ry
    exact ⟨sp, t2, rfl, ff_str parsed c1 c2 c3 some1 plain fit1 fit2 fun k tk => ⟨.str _, H2, I2.tok _, ⟨k, rfl⟩, q⟩⟩
end
/-- the specs met: >2, <8 -/
def spR2 : Float.FormatSpec := match Float.parseFormatSpec (Str.ofString ">2").cps.toList "int" 62 with
  | .ok f => f
  | .error _ => { align := 0 }
def spL8 : Float.FormatSpec := match Float.parseFormatSpec (Str.ofString "<8").cps.toList "str" 60 with
  | .ok f => f
  | .error _ => { align := 0 }
theorem x_fR2 {X : Cx} {E : Wish} {a : Expr} {fa : FE} {j : Nat} {p1 p2 pos : Pos} (ha : PE X a (lE X.K E fa)) : PE X (.FormattedValue a (-1) (some (.JoinedStr [.Constant (.str (Str.ofString ">2")) j p1] p2)) pos) (lE X.K E (bFmtI spR2 fa)) :=
  x_fmtI ha (by unfold spR2; kernel_rfl) (by decide +kernel) (by decide +kernel) (by decide +kernel) (by rw [sizeLine_eq]; decide +kernel)
theorem x_fL8 {X : Cx} {E : Wish} {a : Expr} {fa : FE} {j : Nat} {p1 p2 pos : Pos} (ha : PE X a (lE X.K E fa)) : PE X (.FormattedValue a (-1) (some (.JoinedStr [.Constant (.str (Str.ofString "<8")) j p1] p2)) pos) (lE X.K E (bFmtT spL8 fa)) :=
  x_fmtT ha (by unfold spL8; kernel_rfl) (by decide +kernel) (by decide +kernel) (by decide +kernel) (by decide +kernel) (by rw [sizeLine_eq]; decide +kernel)
end NB

set_option Elab.async false
set_option linter.all false
set_option maxRecDepth 100000
set_option maxHeartbeats 4000000
/-! NbI2: the next pair of a dict's items, drawn by another iterator. -/
namespace NB
open PySem PySem.Spec L2
open PyProof.Rows hiding St
open PySem.Builtin
open PySem.W (KdxIt kdx_alive)

section
variable {prog : Program} {w : World} {κ : Type} [DecidableEq κ] {knd : KeyKind prog w κ} {A : Around} {E : Value → Shared → Prop} {s : Shared}
theorem ni_free {it d : Addr} {i ep : Nat} {kvs : List (κ × Value)} {k : κ} {v ok ov : Value} {Q : Value → Shared → Prop} (zi : IsItemIter s.heap it d i kvs.length ep ok ov) (hm : s.heap.DictAt knd d kvs ep) (hx : kvs[i]? = some (k, v))
    (hQ : ∀ key hp', knd.is k key = true → IsItemIterOut hp' it d (i + 1) kvs.length ep key v s.heap.objs.size → hp'.get? s.heap.objs.size = some { cls := .type "tuple", data := .seq #[key, v] } → hp'.objs.size = s.heap.objs.size + 1 → (∀ b o, b ≠ it → s.heap.get? b = some o → hp'.get? b = some o) → Q (.ref s.heap.objs.size) { s with heap := hp' }) :
    wpAny (model prog w) A (SmallTypes.nextOf (.ref it)) Q E s := by
  obtain ⟨q0, ge, dr, tk, os⟩ := s
  obtain ⟨od, es, y1, y2, y3, y4, y5, y6⟩ := id hm
  have ty : Shared.TypeIs ⟨q0, ge, dr, tk, os⟩ (.ref it) "dict_itemiterator" := ⟨_, zi, rfl⟩
  unfold SmallTypes.nextOf
  refine wpAny_bind (wpAny_callSpecial?_slot (name := Str.ofString "__next__") ty PySem.F.slot_dict_itemiterator_next
    (wpAny_call_entry PySem.F.slot_dict_itemiterator_next ty PySem.F.entry_dict_itemiterator_next ?_ (PySem.F.args_dict_itemiterator_next_1 _)))
  refine wpAny_bind (wpAny_pure ?_)
  refine wpAny_bind ?_
  refine wpAny_bind ?_
  first | refine wpAny_bind (wpAny_typeNameOfWhole_itemiter ty (wpAny_pure ?_)) | refine wpAny_bind (wpAny_typeNameOf_itemiter ty (wpAny_pure ?_))
  refine wpAny_bind (wpAny_fieldsOf zi rfl ?_)
  have own : Builtin.Dict_items.ownsTuple "dict_itemiterator" = true := by decide
  simp only [own, if_true]
  show wpAny _ _ (if (Value.ref d == Value.none) = true then _ else _) _ _ _
  rw [if_neg (show ¬ ((Value.ref d == Value.none) = true) from Bool.false_ne_true)]
  refine wpAny_bind (wpAny_pure ?_)
  refine wpAny_bind (wpAny_dictEntries y1 y3 ?_)
  have len : es.size = kvs.length := by rw [← y5.length]; simp
  rw [if_neg (by rw [len]; simp)]
  refine wpAny_bind (wpAny_pure ?_)
  refine wpAny_bind (wpAny_dictEpoch y1 y3 ?_)
  rw [if_neg (by simp)]
  refine wpAny_pure ?_
  have lt1 : i < kvs.length := by
    rcases Nat.lt_or_ge i kvs.length with h | h
    · exact h
    · simp [List.getElem?_eq_none h] at hx
  have lt2 : i < es.size := by rw [len]; exact lt1
  obtain ⟨ke, va⟩ := y5.get? (e := es[i]) (by simp [lt2]) hx
  simp only [show ¬ ((i : Int) < 0) from by omega, if_false, Int.toNat_natCast, Array.getElem?_eq_getElem lt2]
  refine wpAny_bind ?_
  first | refine wpAny_bind (wpAny_typeNameOfWhole_itemiter ty (wpAny_pure ?_)) | refine wpAny_bind (wpAny_typeNameOf_itemiter ty (wpAny_pure ?_))
  refine wpAny_bind (wpAny_isOneOf_itemiter ty ?_)
  show wpAny _ _ (setField (.ref it) 3 (rawInt ((i : Int) + 1)) >>= _) _ _ ⟨q0, ge, dr, tk, os⟩
  refine wpAny_bind (wpAny_setField_rec zi (by simp) fun e1 z1 m1 => ?_)
  replace m1 : Heap.SameBut it q0 e1 := m1
  replace z1 : IsItemIter e1 it d (i + 1) kvs.length ep ok ov := by
    have e : ((i + 1 : Nat) : Int) = (i : Int) + 1 := by omega
    unfold IsItemIter; rw [e]; simpa [rawInt] using z1
  have ty1 : Shared.TypeIs ⟨e1, ge, dr, tk, os⟩ (.ref it) "dict_itemiterator" := ⟨_, z1, rfl⟩
  refine wpAny_bind (wpAny_holding ?_)
  refine wpAny_bind (wpAny_isOneOf_itemiter ty1 ?_)
  refine wpAny_bind (wpAny_isOneOf_itemiter ty1 ?_)
  show wpAny _ _ (Builtin.Dict_items.pairFromOwner (.ref it) 6 es[i].key es[i].val) _ _ ⟨e1, ge, dr, tk, os⟩
  unfold Builtin.Dict_items.pairFromOwner
  refine wpAny_bind (wpAny_newTuple ?_)
  have z2 : IsItemIter (e1.push { cls := .type "tuple", data := .seq #[es[i].key, es[i].val] }) it d (i + 1) kvs.length ep ok ov := Heap.get?_push_of_some _ z1
  generalize w2 : e1.push { cls := .type "tuple", data := .seq #[es[i].key, es[i].val] } = e2 at z2
  have n1 : e1.objs.size = q0.objs.size := m1.1
  have below : it < q0.objs.size := Heap.lt_size zi
  have tu : e2.get? q0.objs.size = some { cls := .type "tuple", data := .seq #[es[i].key, es[i].val] } := by rw [← w2, ← n1]; exact Heap.get?_push_size _ rfl
  have n2 : e2.objs.size = q0.objs.size + 1 := by rw [← w2, Heap.size_push, n1]
  have old2 : ∀ b o, b ≠ it → q0.get? b = some o → e2.get? b = some o := fun b o hb e => by rw [← w2]; exact Heap.get?_push_of_some _ (m1.extBut b o hb e)
  show wpAny _ _ (Builtin.Dict_items.ownedTupleIsFree (.ref it) >>= _) _ _ ⟨e2, ge, dr, tk, os⟩
  rw [n1]
  clear w2 z1 m1 ty1 n1 e1
  refine wpAny_bind ?_
  unfold Builtin.Dict_items.ownedTupleIsFree
  refine wpAny_bind (wpAny_field z2 rfl (x := .none) rfl (wpAny_pure ?_))
  simp only [if_true]
  refine wpAny_bind (wpAny_field z2 rfl (x := ok) rfl ?_)
  refine wpAny_bind (wpAny_field z2 rfl (x := ov) rfl ?_)
  refine wpAny_bind (wpAny_setField_rec z2 (by simp) fun e3 z3 m3 => ?_)
  replace m3 : Heap.SameBut it e2 e3 := m3
  replace z3 : IsItemIter e3 it d (i + 1) kvs.length ep es[i].key ov := z3
  refine wpAny_bind (wpAny_setField_rec z3 (by simp) fun e4 z4 m4 => ?_)
  replace m4 : Heap.SameBut it e3 e4 := m4
  replace z4 : IsItemIter e4 it d (i + 1) kvs.length ep es[i].key es[i].val := z4
  refine wpAny_bind (wpAny_setField_rec z4 (by simp) fun e5 z5 m5 => ?_)
  replace m5 : Heap.SameBut it e4 e5 := m5
  replace z5 : IsItemIterOut e5 it d (i + 1) kvs.length ep es[i].key es[i].val q0.objs.size := z5
  refine wpAny_bind (wpAny_setField_rec z5 (by simp) fun e6 z6 m6 => ?_)
  replace m6 : Heap.SameBut it e5 e6 := m6
  replace z6 : IsItemIterOut e6 it d (i + 1) kvs.length ep es[i].key es[i].val q0.objs.size := z6
  refine wpAny_bind (wpAny_letGo (wpAny_pure (wpAny_pure ⟨_, rfl, wpAny_pure (hQ es[i].key e6 ke (va ▸ z6) ?_ ?_ ?_)⟩)))
  · rw [← va]; exact m6.extBut _ _ (Nat.ne_of_gt below) (m5.extBut _ _ (Nat.ne_of_gt below) (m4.extBut _ _ (Nat.ne_of_gt below) (m3.extBut _ _ (Nat.ne_of_gt below) tu)))
  · show e6.objs.size = q0.objs.size + 1
    rw [m6.1, m5.1, m4.1, m3.1, n2]
  · exact fun b o hb e => m6.extBut b o hb (m5.extBut b o hb (m4.extBut b o hb (m3.extBut b o hb (old2 b o hb e))))
theorem li_any {a : Addr} {Q : Option Obj → Shared → Prop} (h : ∀ r, Q r s) : wpAny (model prog w) A (loadIfAlive a) Q E s := fun _ _ _ => h _
/-- the iterator that has handed a tuple out, whatever became of that -/
theorem ni_held {it d a : Addr} {f : Bool} {i ep : Nat} {kvs : List (κ × Value)} {k : κ} {v ok ov : Value} {Q : Value → Shared → Prop} (zi : KdxIt s.heap it d i kvs.length ep ok ov a f) (hm : s.heap.DictAt knd d kvs ep) (hx : kvs[i]? = some (k, v))
    (hQ : ∀ key hp', knd.is k key = true → (∃ ok' ov' a' f', KdxIt hp' it d (i + 1) kvs.length ep ok' ov' a' f') → hp'.get? s.heap.objs.size = some { cls := .type "tuple", data := .seq #[key, v] } → hp'.objs.size = s.heap.objs.size + 1 → (∀ b o, b ≠ it → s.heap.get? b = some o → hp'.get? b = some o) → Q (.ref s.heap.objs.size) { s with heap := hp' }) :
    wpAny (model prog w) A (SmallTypes.nextOf (.ref it)) Q E s := by
  obtain ⟨q0, ge, dr, tk, os⟩ := s
  obtain ⟨od, es, y1, y2, y3, y4, y5, y6⟩ := id hm
  have ty : Shared.TypeIs ⟨q0, ge, dr, tk, os⟩ (.ref it) "dict_itemiterator" := ⟨_, zi, rfl⟩
  unfold SmallTypes.nextOf
  refine wpAny_bind (wpAny_callSpecial?_slot (name := Str.ofString "__next__") ty PySem.F.slot_dict_itemiterator_next
    (wpAny_call_entry PySem.F.slot_dict_itemiterator_next ty PySem.F.entry_dict_itemiterator_next ?_ (PySem.F.args_dict_itemiterator_next_1 _)))
  refine wpAny_bind (wpAny_pure ?_)
  refine wpAny_bind ?_
  refine wpAny_bind ?_
  first | refine wpAny_bind (wpAny_typeNameOfWhole_itemiter ty (wpAny_pure ?_)) | refine wpAny_bind (wpAny_typeNameOf_itemiter ty (wpAny_pure ?_))
  refine wpAny_bind (wpAny_fieldsOf zi rfl ?_)
  have own : Builtin.Dict_items.ownsTuple "dict_itemiterator" = true := by decide
  simp only [own, if_true]
  show wpAny _ _ (if (Value.ref d == Value.none) = true then _ else _) _ _ _
  rw [if_neg (show ¬ ((Value.ref d == Value.none) = true) from Bool.false_ne_true)]
  refine wpAny_bind (wpAny_pure ?_)
  refine wpAny_bind (wpAny_dictEntries y1 y3 ?_)
  have len : es.size = kvs.length := by rw [← y5.length]; simp
  rw [if_neg (by rw [len]; simp)]
  refine wpAny_bind (wpAny_pure ?_)
  refine wpAny_bind (wpAny_dictEpoch y1 y3 ?_)
  rw [if_neg (by simp)]
  refine wpAny_pure ?_
  have lt1 : i < kvs.length := by
    rcases Nat.lt_or_ge i kvs.length with h | h
    · exact h
    · simp [List.getElem?_eq_none h] at hx
  have lt2 : i < es.size := by rw [len]; exact lt1
  obtain ⟨ke, va⟩ := y5.get? (e := es[i]) (by simp [lt2]) hx
  simp only [show ¬ ((i : Int) < 0) from by omega, if_false, Int.toNat_natCast, Array.getElem?_eq_getElem lt2]
  refine wpAny_bind ?_
  first | refine wpAny_bind (wpAny_typeNameOfWhole_itemiter ty (wpAny_pure ?_)) | refine wpAny_bind (wpAny_typeNameOf_itemiter ty (wpAny_pure ?_))
  refine wpAny_bind (wpAny_isOneOf_itemiter ty ?_)
  show wpAny _ _ (setField (.ref it) 3 (rawInt ((i : Int) + 1)) >>= _) _ _ ⟨q0, ge, dr, tk, os⟩
  refine wpAny_bind (wpAny_setField_rec zi (by simp) fun e1 z1 m1 => ?_)
  replace m1 : Heap.SameBut it q0 e1 := m1
  replace z1 : KdxIt e1 it d (i + 1) kvs.length ep ok ov a f := by
    have e : ((i + 1 : Nat) : Int) = (i : Int) + 1 := by omega
    unfold KdxIt; rw [e]; simpa [rawInt] using z1
  have ty1 : Shared.TypeIs ⟨e1, ge, dr, tk, os⟩ (.ref it) "dict_itemiterator" := ⟨_, z1, rfl⟩
  refine wpAny_bind (wpAny_holding ?_)
  refine wpAny_bind (wpAny_isOneOf_itemiter ty1 ?_)
  refine wpAny_bind (wpAny_isOneOf_itemiter ty1 ?_)
  show wpAny _ _ (Builtin.Dict_items.pairFromOwner (.ref it) 6 es[i].key es[i].val) _ _ ⟨e1, ge, dr, tk, os⟩
  unfold Builtin.Dict_items.pairFromOwner
  refine wpAny_bind (wpAny_newTuple ?_)
  have z2 : KdxIt (e1.push { cls := .type "tuple", data := .seq #[es[i].key, es[i].val] }) it d (i + 1) kvs.length ep ok ov a f := Heap.get?_push_of_some _ z1
  generalize w2 : e1.push { cls := .type "tuple", data := .seq #[es[i].key, es[i].val] } = e2 at z2
  have n1 : e1.objs.size = q0.objs.size := m1.1
  have below : it < q0.objs.size := Heap.lt_size zi
  have tu : e2.get? q0.objs.size = some { cls := .type "tuple", data := .seq #[es[i].key, es[i].val] } := by rw [← w2, ← n1]; exact Heap.get?_push_size _ rfl
  have n2 : e2.objs.size = q0.objs.size + 1 := by rw [← w2, Heap.size_push, n1]
  have old2 : ∀ b o, b ≠ it → q0.get? b = some o → e2.get? b = some o := fun b o hb e => by rw [← w2]; exact Heap.get?_push_of_some _ (m1.extBut b o hb e)
  show wpAny _ _ (Builtin.Dict_items.ownedTupleIsFree (.ref it) >>= _) _ _ ⟨e2, ge, dr, tk, os⟩
  rw [n1]
  clear w2 z1 m1 ty1 n1 e1
  refine wpAny_bind ?_
  unfold Builtin.Dict_items.ownedTupleIsFree
  refine wpAny_bind (wpAny_field z2 rfl (x := rawInt a) rfl ?_)
  show wpAny _ _ (loadIfAlive ((a : Int).toNat) >>= _) _ _ _
  rw [Int.toNat_natCast]
  refine wpAny_bind (li_any fun alive => ?_)
  cases alive with
  | none =>
    simp only [Option.isNone_none, if_true]
    refine wpAny_pure ?_
    simp only [if_true]
    refine wpAny_bind (wpAny_field z2 rfl (x := ok) rfl ?_)
    refine wpAny_bind (wpAny_field z2 rfl (x := ov) rfl ?_)
    refine wpAny_bind (wpAny_setField_rec z2 (by simp) fun e3 z3 m3 => ?_)
    replace m3 : Heap.SameBut it e2 e3 := m3
    replace z3 : KdxIt e3 it d (i + 1) kvs.length ep es[i].key ov a f := z3
    refine wpAny_bind (wpAny_setField_rec z3 (by simp) fun e4 z4 m4 => ?_)
    replace m4 : Heap.SameBut it e3 e4 := m4
    replace z4 : KdxIt e4 it d (i + 1) kvs.length ep es[i].key es[i].val a f := z4
    refine wpAny_bind (wpAny_setField_rec z4 (by simp) fun e5 z5 m5 => ?_)
    replace m5 : Heap.SameBut it e4 e5 := m5
    replace z5 : KdxIt e5 it d (i + 1) kvs.length ep es[i].key es[i].val q0.objs.size f := z5
    refine wpAny_bind (wpAny_setField_rec z5 (by simp) fun e6 z6 m6 => ?_)
    replace m6 : Heap.SameBut it e5 e6 := m6
    replace z6 : KdxIt e6 it d (i + 1) kvs.length ep es[i].key es[i].val q0.objs.size false := z6
    refine wpAny_bind (wpAny_letGo (wpAny_pure (wpAny_pure ⟨_, rfl, wpAny_pure (hQ es[i].key e6 ke ⟨_, _, _, _, z6⟩ ?_ ?_ ?_)⟩)))
    · rw [← va]; exact m6.extBut _ _ (Nat.ne_of_gt below) (m5.extBut _ _ (Nat.ne_of_gt below) (m4.extBut _ _ (Nat.ne_of_gt below) (m3.extBut _ _ (Nat.ne_of_gt below) tu)))
    · show e6.objs.size = q0.objs.size + 1
      rw [m6.1, m5.1, m4.1, m3.1, n2]
    · exact fun b o hb e => m6.extBut b o hb (m5.extBut b o hb (m4.extBut b o hb (m3.extBut b o hb (old2 b o hb e))))
  | some oa =>
    simp only [Option.isNone_some, Bool.false_eq_true, if_false]
    refine wpAny_bind (wpAny_field z2 rfl (x := .bool f) rfl ?_)
    have last : ∀ e3 : Heap, KdxIt e3 it d (i + 1) kvs.length ep ok ov a true → Heap.SameBut it e2 e3 → Q (.ref q0.objs.size) ⟨e3, ge, dr, tk, os⟩ := fun e3 z3 m3 =>
      hQ es[i].key e3 ke ⟨_, _, _, _, z3⟩ (by rw [← va]; exact m3.extBut _ _ (Nat.ne_of_gt below) tu) (by show e3.objs.size = q0.objs.size + 1; rw [m3.1, n2]) fun b o hb e => m3.extBut b o hb (old2 b o hb e)
    cases f with
    | true =>
      rw [if_neg (show ¬ ((Value.bool true != Value.bool true) = true) from Bool.false_ne_true)]
      refine wpAny_pure ?_
      simp only [Bool.false_eq_true, if_false]
      exact wpAny_pure (wpAny_pure ⟨_, rfl, wpAny_pure (last e2 z2 (Heap.SameBut.refl _ _))⟩)
    | false =>
      rw [if_pos (show (Value.bool false != Value.bool true) = true from rfl)]
      refine wpAny_bind (wpAny_setField_rec z2 (by simp) fun e3 z3 m3 => ?_)
      replace m3 : Heap.SameBut it e2 e3 := m3
      replace z3 : KdxIt e3 it d (i + 1) kvs.length ep ok ov a true := z3
      refine wpAny_pure ?_
      simp only [Bool.false_eq_true, if_false]
      exact wpAny_pure (wpAny_pure ⟨_, rfl, wpAny_pure (last e3 z3 m3)⟩)
theorem ni_fend {it d : Addr} {i ep : Nat} {kvs : List (κ × Value)} {ok ov : Value} {Q : Value → Shared → Prop} (cold : A.handled = none) (zi : IsItemIter s.heap it d i kvs.length ep ok ov) (hm : s.heap.DictAt knd d kvs ep) (hx : kvs[i]? = none)
    (hE : ∀ hp' e, Heap.ExtBut it s.heap hp' → (∃ o, hp'.get? e = some o ∧ o.cls = .type "StopIteration") → E (.ref e) { s with heap := hp' }) : wpAny (model prog w) A (SmallTypes.nextOf (.ref it)) Q E s := by
  obtain ⟨od, es, y1, y2, y3, y4, y5, y6⟩ := id hm
  have ty : s.TypeIs (.ref it) "dict_itemiterator" := ⟨_, zi, rfl⟩
  unfold SmallTypes.nextOf
  refine wpAny_bind (wpAny_callSpecial?_slot (name := Str.ofString "__next__") ty PySem.F.slot_dict_itemiterator_next
    (wpAny_call_entry PySem.F.slot_dict_itemiterator_next ty PySem.F.entry_dict_itemiterator_next ?_ (PySem.F.args_dict_itemiterator_next_1 _)))
  refine wpAny_bind (wpAny_pure ?_)
  refine wpAny_bind ?_
  refine wpAny_bind ?_
  first | refine wpAny_bind (wpAny_typeNameOfWhole_itemiter ty (wpAny_pure ?_)) | refine wpAny_bind (wpAny_typeNameOf_itemiter ty (wpAny_pure ?_))
  refine wpAny_bind (wpAny_fieldsOf zi rfl ?_)
  have own : Builtin.Dict_items.ownsTuple "dict_itemiterator" = true := by decide
  simp only [own, if_true]
  show wpAny _ _ (if (Value.ref d == Value.none) = true then _ else _) _ _ s
  rw [if_neg (show ¬ ((Value.ref d == Value.none) = true) from Bool.false_ne_true)]
  refine wpAny_bind (wpAny_pure ?_)
  refine wpAny_bind (wpAny_dictEntries y1 y3 ?_)
  have len : es.size = kvs.length := by rw [← y5.length]; simp
  rw [if_neg (by rw [len]; simp)]
  refine wpAny_bind (wpAny_pure ?_)
  refine wpAny_bind (wpAny_dictEpoch y1 y3 ?_)
  rw [if_neg (by simp)]
  refine wpAny_pure ?_
  have over : es.size ≤ i := by rw [len]; simpa using hx
  simp only [show ¬ ((i : Int) < 0) from by omega, if_false, Int.toNat_natCast, Array.getElem?_eq_none over]
  refine wpAny_bind ?_
  first | refine wpAny_bind (wpAny_typeNameOfWhole_itemiter ty (wpAny_pure ?_)) | refine wpAny_bind (wpAny_typeNameOf_itemiter ty (wpAny_pure ?_))
  show wpAny _ _ (setField (.ref it) 2 .none >>= _) _ _ s
  refine wpAny_bind (wpAny_setField zi rfl (by simp) ?_)
  show wpAny _ _ (newExc (.type "StopIteration") [] >>= _) _ _ _
  refine wpAny_bind ?_
  simp only [newExc, newTuple]
  refine wpAny_bind (wpAny_newObj_type ?_ (by size_fits))
  refine wpAny_bind (m := firstArgMember _ _) (wpAny_of_eq (a := Value.none) (by first | rfl | (simp only [firstArgMember]; rfl)) ?_)
  refine wpAny_newObj_type ?_ (by size_fits)
  simp only [raiseNew]
  refine wpAny_bind (wpAny_handled ?_)
  rw [show A.in1.handled = none from cold]
  refine wpAny_bind (wpAny_pure (wpAny_throw ?_))
  exact hE _ _ (((Heap.SameBut.update ..).extBut.push _).push _) ⟨_, Heap.get?_push_size _ rfl, rfl⟩
theorem ni_hend {it d a : Addr} {f : Bool} {i ep : Nat} {kvs : List (κ × Value)} {ok ov : Value} {Q : Value → Shared → Prop} (cold : A.handled = none) (zi : KdxIt s.heap it d i kvs.length ep ok ov a f) (hm : s.heap.DictAt knd d kvs ep) (hx : kvs[i]? = none)
    (hE : ∀ hp' e, Heap.ExtBut it s.heap hp' → (∃ o, hp'.get? e = some o ∧ o.cls = .type "StopIteration") → E (.ref e) { s with heap := hp' }) : wpAny (model prog w) A (SmallTypes.nextOf (.ref it)) Q E s := by
  obtain ⟨od, es, y1, y2, y3, y4, y5, y6⟩ := id hm
  have ty : s.TypeIs (.ref it) "dict_itemiterator" := ⟨_, zi, rfl⟩
  unfold SmallTypes.nextOf
  refine wpAny_bind (wpAny_callSpecial?_slot (name := Str.ofString "__next__") ty PySem.F.slot_dict_itemiterator_next
    (wpAny_call_entry PySem.F.slot_dict_itemiterator_next ty PySem.F.entry_dict_itemiterator_next ?_ (PySem.F.args_dict_itemiterator_next_1 _)))
  refine wpAny_bind (wpAny_pure ?_)
  refine wpAny_bind ?_
  refine wpAny_bind ?_
  first | refine wpAny_bind (wpAny_typeNameOfWhole_itemiter ty (wpAny_pure ?_)) | refine wpAny_bind (wpAny_typeNameOf_itemiter ty (wpAny_pure ?_))
  refine wpAny_bind (wpAny_fieldsOf zi rfl ?_)
  have own : Builtin.Dict_items.ownsTuple "dict_itemiterator" = true := by decide
  simp only [own, if_true]
  show wpAny _ _ (if (Value.ref d == Value.none) = true then _ else _) _ _ s
  rw [if_neg (show ¬ ((Value.ref d == Value.none) = true) from Bool.false_ne_true)]
  refine wpAny_bind (wpAny_pure ?_)
  refine wpAny_bind (wpAny_dictEntries y1 y3 ?_)
  have len : es.size = kvs.length := by rw [← y5.length]; simp
  rw [if_neg (by rw [len]; simp)]
  refine wpAny_bind (wpAny_pure ?_)
  refine wpAny_bind (wpAny_dictEpoch y1 y3 ?_)
  rw [if_neg (by simp)]
  refine wpAny_pure ?_
  have over : es.size ≤ i := by rw [len]; simpa using hx
  simp only [show ¬ ((i : Int) < 0) from by omega, if_false, Int.toNat_natCast, Array.getElem?_eq_none over]
  refine wpAny_bind ?_
  first | refine wpAny_bind (wpAny_typeNameOfWhole_itemiter ty (wpAny_pure ?_)) | refine wpAny_bind (wpAny_typeNameOf_itemiter ty (wpAny_pure ?_))
  show wpAny _ _ (setField (.ref it) 2 .none >>= _) _ _ s
  refine wpAny_bind (wpAny_setField zi rfl (by simp) ?_)
  show wpAny _ _ (newExc (.type "StopIteration") [] >>= _) _ _ _
  refine wpAny_bind ?_
  simp only [newExc, newTuple]
  refine wpAny_bind (wpAny_newObj_type ?_ (by size_fits))
  refine wpAny_bind (m := firstArgMember _ _) (wpAny_of_eq (a := Value.none) (by first | rfl | (simp only [firstArgMember]; rfl)) ?_)
  refine wpAny_newObj_type ?_ (by size_fits)
  simp only [raiseNew]
  refine wpAny_bind (wpAny_handled ?_)
  rw [show A.in1.handled = none from cold]
  refine wpAny_bind (wpAny_pure (wpAny_throw ?_))
  exact hE _ _ (((Heap.SameBut.update ..).extBut.push _).push _) ⟨_, Heap.get?_push_size _ rfl, rfl⟩
end
end NB

set_option Elab.async false
set_option linter.all false
set_option maxRecDepth 100000
set_option maxHeartbeats 4000000
/-! NbI3: for .. in enumerate(d.items()). -/
namespace NB
open PySem PySem.Spec L2
open PyProof.Rows hiding St
open PySem.Builtin
open PySem.W (KdxIt kdx_alive)

section
variable {P : Program} {w : World} {A : Around} {E0 : Value → Shared → Prop} {s : Shared}
/-- enumerate's step over a draw that may lay new things -/
theorem en_step {e it : Addr} {c : Int} {old : Value} {Pd : Value → Heap → Nat → Prop} {Q : Value → Shared → Prop} (z0 : IsEnum s.heap e it c old) (ne : e ≠ it)
    (draw : ∀ (Q1 : Value → Shared → Prop), (∀ x hp1 tk, Pd x hp1 tk → (∀ b o, b ≠ it → s.heap.get? b = some o → hp1.get? b = some o) → s.heap.objs.size ≤ hp1.objs.size → Q1 x { s with heap := hp1, toks := tk }) → wpAny (model P w) A (SmallTypes.nextOf (.ref it)) Q1 E0 s)
    (hQ : ∀ x hp1 tk hp2, Pd x hp1 tk → (∀ b o, b ≠ it → s.heap.get? b = some o → hp1.get? b = some o) → s.heap.objs.size ≤ hp1.objs.size → IsEnumOut hp2 e it (c + 1) x hp1.objs.size → hp2.get? hp1.objs.size = some { cls := .type "tuple", data := .seq #[.int c tk, x] } →
      (∀ b o, b ≠ e → hp1.get? b = some o → hp2.get? b = some o) → Q (.ref hp1.objs.size) { s with heap := hp2, toks := tk + 1 }) :
    wpAny (model P w) A (Builtin.«enumerate.__next__» ⟨[.ref e], []⟩) (fun fin s' => ∃ v, fin = .done (.ret v) ∧ Q v s') E0 s := by
  obtain ⟨hp, ge, dr, tk0, os⟩ := s
  show wpAny _ _ (field (.ref e) 2 >>= _) _ _ _
  refine wpAny_bind (wpAny_field z0 rfl (x := .ref it) rfl (wpAny_bind (draw _ fun x hp1 tk px keep grow => ?_)))
  have z1 : IsEnum hp1 e it c old := keep _ _ ne z0
  show wpAny _ _ (field (.ref e) 3 >>= _) _ _ ⟨hp1, ge, dr, tk, os⟩
  refine wpAny_bind (wpAny_field z1 rfl (x := rawInt c) rfl ?_)
  show wpAny _ _ (field (.ref e) 4 >>= _) _ _ ⟨hp1, ge, dr, tk, os⟩
  refine wpAny_bind (wpAny_field z1 rfl (x := .none) rfl ?_)
  show wpAny _ _ (mkInt c >>= _) _ _ ⟨hp1, ge, dr, tk, os⟩
  refine wpAny_bind (wpAny_mkInt ?_)
  show wpAny _ _ (setField (.ref e) 3 (rawInt (c + 1)) >>= _) _ _ ⟨hp1, ge, dr, tk + 1, os⟩
  refine wpAny_bind (wpAny_setField_rec z1 (by simp) fun q2 z2 s2 => ?_)
  replace s2 : Heap.SameBut e hp1 q2 := s2
  replace z2 : IsEnum q2 e it (c + 1) old := z2
  show wpAny _ _ (setField (.ref e) 4 .none >>= _) _ _ ⟨q2, ge, dr, tk + 1, os⟩
  refine wpAny_bind (wpAny_setField_rec z2 (by simp) fun q3 z3 s3 => ?_)
  replace s3 : Heap.SameBut e q2 q3 := s3
  replace z3 : IsEnum q3 e it (c + 1) old := z3
  show wpAny _ _ (newTuple [.int c tk, x] >>= _) _ _ ⟨q3, ge, dr, tk + 1, os⟩
  refine wpAny_bind (wpAny_newTuple ?_)
  have z4 : IsEnum (q3.push { cls := .type "tuple", data := .seq #[.int c tk, x] }) e it (c + 1) old := Heap.get?_push_of_some _ z3
  have sz : q3.objs.size = hp1.objs.size := by rw [s3.1, s2.1]
  have el : e < hp1.objs.size := Heap.lt_size z1
  have tu : (q3.push { cls := .type "tuple", data := .seq #[.int c tk, x] }).get? hp1.objs.size = some { cls := .type "tuple", data := .seq #[.int c tk, x] } := by rw [← sz]; exact Heap.get?_push_size _ rfl
  have kp : ∀ b o, b ≠ e → hp1.get? b = some o → (q3.push { cls := .type "tuple", data := .seq #[.int c tk, x] }).get? b = some o := fun b o hb g => Heap.get?_push_of_some _ (s3.extBut b o hb (s2.extBut b o hb g))
  generalize q3.push { cls := .type "tuple", data := .seq #[.int c tk, x] } = q4 at z4 tu kp
  show wpAny _ _ (SmallTypes.ownedTupleIsFree (.ref e) >>= _) _ _ ⟨q4, ge, dr, tk + 1, os⟩
  rw [sz]
  unfold SmallTypes.ownedTupleIsFree
  refine wpAny_bind (wpAny_bind (wpAny_field z4 rfl (x := .none) rfl (wpAny_pure ?_)))
  simp only [if_true]
  refine wpAny_bind (wpAny_rule (wpAny_bind (wpAny_field z4 rfl (x := old) rfl (wpAny_bind (wpAny_setField_rec z4 (by simp) fun q5 z5 s5 => ?_)))))
  replace s5 : Heap.SameBut e q4 q5 := s5
  replace z5 : IsEnum q5 e it (c + 1) x := z5
  show wpAny _ _ (SmallTypes.ownedTupleHandOut (.ref e) (.ref hp1.objs.size) >>= _) _ _ ⟨q5, ge, dr, tk + 1, os⟩
  unfold SmallTypes.ownedTupleHandOut
  refine wpAny_bind (wpAny_bind (wpAny_setField_rec z5 (by simp) fun q6 z6 s6 => ?_))
  replace s6 : Heap.SameBut e q5 q6 := s6
  replace z6 : IsEnumOut q6 e it (c + 1) x hp1.objs.size := z6
  refine wpAny_setField_rec z6 (by simp) fun q7 z7 s7 => ?_
  replace s7 : Heap.SameBut e q6 q7 := s7
  replace z7 : IsEnumOut q7 e it (c + 1) x hp1.objs.size := z7
  have far : ∀ b o, b ≠ e → q4.get? b = some o → q7.get? b = some o := fun b o hb g => s7.extBut b o hb (s6.extBut b o hb (s5.extBut b o hb g))
  exact wpAny_bind (wpAny_letGo (wpAny_pure ⟨_, rfl, hQ x hp1 tk q7 px keep grow z7 (far _ _ (Nat.ne_of_gt el) tu) fun b o hb g => far b o hb (kp b o hb g)⟩))
theorem en_next {e it : Addr} {c : Int} {old : Value} {Pd : Value → Heap → Nat → Prop} {Q : Option Value → Shared → Prop} (z0 : IsEnum s.heap e it c old) (ne : e ≠ it)
    (draw : ∀ (Q1 : Value → Shared → Prop) (E1 : Value → Shared → Prop), (∀ x hp1 tk, Pd x hp1 tk → (∀ b o, b ≠ it → s.heap.get? b = some o → hp1.get? b = some o) → s.heap.objs.size ≤ hp1.objs.size → Q1 x { s with heap := hp1, toks := tk }) → wpAny (model P w) A.in1 (SmallTypes.nextOf (.ref it)) Q1 E1 s)
    (hQ : ∀ x hp1 tk hp2, Pd x hp1 tk → (∀ b o, b ≠ it → s.heap.get? b = some o → hp1.get? b = some o) → s.heap.objs.size ≤ hp1.objs.size → IsEnumOut hp2 e it (c + 1) x hp1.objs.size → hp2.get? hp1.objs.size = some { cls := .type "tuple", data := .seq #[.int c tk, x] } →
      (∀ b o, b ≠ e → hp1.get? b = some o → hp2.get? b = some o) → Q (some (.ref hp1.objs.size)) { s with heap := hp2, toks := tk + 1 }) :
    wpAny (model P w) A (pyNext (.ref e)) Q E0 s := by
  have ty : s.TypeIs (.ref e) "enumerate" := ⟨_, z0, rfl⟩
  unfold pyNext
  exact wpAny_bind (wpAny_attempt (wpAny_callSpecial?_slot (name := Str.ofString "__next__") ty PySem.F.slot_enumerate_next (wpAny_call_entry PySem.F.slot_enumerate_next ty PySem.F.entry_enumerate_next
    (en_step z0 ne (fun Q1 h => draw Q1 _ h) fun x hp1 tk hp2 a b c d g k => wpAny_pure (hQ x hp1 tk hp2 a b c d g k)) (PySem.F.args_enumerate_next_1 _))))
theorem en_stop {e it : Addr} {c : Int} {old : Value} {Q : Option Value → Shared → Prop} (z0 : IsEnum s.heap e it c old)
    (draw : ∀ (Q1 : Value → Shared → Prop) (E1 : Value → Shared → Prop), (∀ hp' x, Heap.ExtBut it s.heap hp' → (∃ o, hp'.get? x = some o ∧ o.cls = .type "StopIteration") → E1 (.ref x) { s with heap := hp' }) → wpAny (model P w) A.in1 (SmallTypes.nextOf (.ref it)) Q1 E1 s)
    (hQ : ∀ hp', Heap.ExtBut it s.heap hp' → Q none { s with heap := hp' }) : wpAny (model P w) A (pyNext (.ref e)) Q E0 s := by
  have ty : s.TypeIs (.ref e) "enumerate" := ⟨_, z0, rfl⟩
  unfold pyNext
  refine wpAny_bind (wpAny_attempt (wpAny_callSpecial?_slot (name := Str.ofString "__next__") ty PySem.F.slot_enumerate_next (wpAny_call_entry PySem.F.slot_enumerate_next ty PySem.F.entry_enumerate_next ?_ (PySem.F.args_enumerate_next_1 _))))
  show wpAny _ _ (field (.ref e) 2 >>= _) _ _ _
  refine wpAny_bind (wpAny_field z0 rfl (x := .ref it) rfl (wpAny_bind (draw _ _ fun hp' x ext hx => ?_)))
  obtain ⟨o, ho, hc⟩ := hx
  exact wpAny_bind (wpAny_isInstance (T := "StopIteration") (b := true) ⟨o, ho, hc⟩ isSubtype_stop (wpAny_pure (hQ _ ext)))
end
/-- where an items iterator stands -/
def KiS (hp : Heap) (it d : Addr) (i n ep : Nat) : Prop := (∃ ok ov, IsItemIter hp it d i n ep ok ov) ∨ ∃ ok ov a f, KdxIt hp it d i n ep ok ov a f
theorem KiS.at {hp hp' : Heap} {it d : Addr} {i n ep : Nat} (x : KiS hp it d i n ep) (k : ∀ o, hp.get? it = some o → hp'.get? it = some o) : KiS hp' it d i n ep := x.imp (fun ⟨ok, ov, z⟩ => ⟨ok, ov, k _ z⟩) fun ⟨ok, ov, a, f, z⟩ => ⟨ok, ov, a, f, k _ z⟩
theorem KiS.obj {hp : Heap} {it d : Addr} {i n ep : Nat} (x : KiS hp it d i n ep) : ∃ o, hp.get? it = some o ∧ ∀ v, o.data ≠ .cell v := x.elim (fun ⟨ok, ov, z⟩ => ⟨_, z, fun v q => nomatch q⟩) fun ⟨ok, ov, a, f, z⟩ => ⟨_, z, fun v q => nomatch q⟩
section
variable {prog : Program} {w : World} {κ : Type} [DecidableEq κ] {knd : KeyKind prog w κ} {A : Around} {E : Value → Shared → Prop} {s : Shared}
theorem ki_next {it d : Addr} {i ep : Nat} {kvs : List (κ × Value)} {k : κ} {v : Value} {Q : Value → Shared → Prop} (z : KiS s.heap it d i kvs.length ep) (hm : s.heap.DictAt knd d kvs ep) (hx : kvs[i]? = some (k, v))
    (hQ : ∀ key hp', knd.is k key = true → KiS hp' it d (i + 1) kvs.length ep → hp'.get? s.heap.objs.size = some { cls := .type "tuple", data := .seq #[key, v] } → hp'.objs.size = s.heap.objs.size + 1 → (∀ b o, b ≠ it → s.heap.get? b = some o → hp'.get? b = some o) → Q (.ref s.heap.objs.size) { s with heap := hp' }) :
    wpAny (model prog w) A (SmallTypes.nextOf (.ref it)) Q E s := by
  rcases z with ⟨ok, ov, z⟩ | ⟨ok, ov, a, f, z⟩
  · exact ni_free z hm hx fun key hp' a b c d e => hQ key hp' a (.inr ⟨_, _, _, _, b⟩) c d e
  · exact ni_held z hm hx fun key hp' a b c d e => hQ key hp' a (.inr b) c d e
theorem ki_stop {it d : Addr} {i ep : Nat} {kvs : List (κ × Value)} {Q : Value → Shared → Prop} (cold : A.handled = none) (z : KiS s.heap it d i kvs.length ep) (hm : s.heap.DictAt knd d kvs ep) (hx : kvs[i]? = none)
    (hE : ∀ hp' e, Heap.ExtBut it s.heap hp' → (∃ o, hp'.get? e = some o ∧ o.cls = .type "StopIteration") → E (.ref e) { s with heap := hp' }) : wpAny (model prog w) A (SmallTypes.nextOf (.ref it)) Q E s := by
  rcases z with ⟨ok, ov, z⟩ | ⟨ok, ov, a, f, z⟩
  · exact ni_fend cold z hm hx hE
  · exact ni_hend cold z hm hx hE
end
/-- a locked dict's pairs with their numbers, pairs and numbered pairs new -/
def Ited (d : Addr) (o : Obj) (kvs : List (Key × V)) : It :=
  ⟨fun i H => H d = some (.frz o (.dK kvs)) ∧ i < kvs.length, fun i H x H' => ∃ T U k v, kvs[i]? = some (k, v) ∧ x = .ref U ∧ H T = none ∧ upd H T (.tup [kV k, v]) U = none ∧ H' = upd (upd H T (.tup [kV k, v])) U (.tup [.int (i : Int), .ref T]), fun i H => H d = some (.frz o (.dK kvs)) ∧ kvs.length ≤ i⟩
theorem turn_ed {P : Program} {w : World} {K : PySem.W.Frag} {elts : List Expr} {kk : Nat} {tpos : Pos} {d : Addr} {o : Obj} {es : Array DictEntry} {ep : Nat} {kvs : List (Key × V)} (e it : Addr) (nee : e ≠ it) (hod : o.data = .dict es ep) :
    Turn P w K (.Tuple elts kk tpos) (Ited d o kvs) [e, it] e (fun i hp => (∃ old, IsEnum hp e it (i : Int) old) ∧ KiS hp it d i kvs.length ep) where
  mem := List.mem_cons_self
  obj := fun i hp st b hb => by
    obtain ⟨⟨old, q⟩, x⟩ := st
    simp only [List.mem_cons, List.not_mem_nil, or_false] at hb
    rcases hb with z | z <;> subst z
    · exact ⟨_, q, fun v z => nomatch z⟩
    · exact x.obj
  keep := fun i hp hp' st kp => by
    obtain ⟨⟨old, q⟩, x⟩ := st
    exact ⟨⟨old, kp e (by simp) _ q⟩, x.at fun o z => kp it (by simp) o z⟩
  item := by
    intro X hP hw hK hc i pins s σ H E I hf st hg
    subst hP hw hK
    obtain ⟨⟨old, q⟩, x⟩ := st
    obtain ⟨hd, hi⟩ := hg
    obtain ⟨hs, hgd, hx, es', ep', vs, hdt, hsz, kv, hm⟩ := I.frzK hd
    obtain ⟨rfl, rfl⟩ := L2.dict_ep hod hdt
    obtain ⟨⟨k, v⟩, hkv⟩ : ∃ p, kvs[i]? = some p := ⟨kvs[i], List.getElem?_eq_getElem hi⟩
    obtain ⟨u, hu, ru⟩ := kv_get kv hkv
    have hl : kvs.length = vs.length := Paired.length kv
    rw [hl] at x
    have el : e < s.heap.objs.size := Heap.lt_size q
    have il : it < s.heap.objs.size := by obtain ⟨o', z, _⟩ := x.obj; exact Heap.lt_size z
    refine en_next (Pd := fun y hp1 tk => ∃ key, y = .ref s.heap.objs.size ∧ tk = s.toks ∧ (mixKind X.prog X.w).is k key = true ∧ KiS hp1 it d (i + 1) vs.length ep' ∧ hp1.get? s.heap.objs.size = some { cls := .type "tuple", data := .seq #[key, u] } ∧ hp1.objs.size = s.heap.objs.size + 1) q nee (fun Q1 E1 h => ki_next x hm hu fun key hp' a b c d f => h _ hp' s.toks ⟨key, rfl, rfl, a, b, c, d⟩ f (by rw [d]; exact Nat.le_succ _)) fun y hp1 tk hp2 py keep grow out gT far => ?_
    obtain ⟨key, rfl, rfl, hkey, x1, g1, z1⟩ := py
    have fr1 : ObjOk X.prog X.w (upd H s.heap.objs.size (.tup [kV k, v])) hp1 s.heap.objs.size (.tup [kV k, v]) := ⟨by show 2 ≤ sizeLine; decide, [key, u], .cons (relV_key (show keyIs k key = true from hkey)) (.cons ru .nil), ⟨_, g1, rfl, _, rfl⟩⟩
    have I1 : Inv X pins σ (upd H s.heap.objs.size (.tup [kV k, v])) { s with heap := hp1, toks := s.toks } :=
      I.turnedNew (ch := [it]) (fun b o hb z => keep b o (by simpa using hb) z) (fun b hb => hf b (by simp at hb; simp [hb])) (Nat.le_refl _) fr1
    refine ⟨_, rfl, wpAny_letOwnedTupleGo_enum (s := { s with heap := hp2, toks := s.toks + 1 }) out fun hp3 z3 same => ?_⟩
    have bel : ∀ b, b < s.heap.objs.size → b ≠ s.heap.objs.size := fun b h => Nat.ne_of_lt h
    have gT3 : hp3.get? hp1.objs.size = some { cls := .type "tuple", data := .seq #[.int (i : Int) s.toks, .ref s.heap.objs.size] } := (same.2 _ (Nat.ne_of_gt (Nat.lt_of_lt_of_le el grow))).trans gT
    have fr2 : ObjOk X.prog X.w (upd (upd H s.heap.objs.size (.tup [kV k, v])) hp1.objs.size (.tup [.int (i : Int), .ref s.heap.objs.size])) hp3 hp1.objs.size (.tup [.int (i : Int), .ref s.heap.objs.size]) := ⟨by show 2 ≤ sizeLine; decide, [.int (i : Int) s.toks, .ref s.heap.objs.size], .cons ⟨_, rfl⟩ (.cons rfl .nil), ⟨_, gT3, rfl, _, rfl⟩⟩
    have fe : ∀ b ∈ [e], FpOk X pins (upd H s.heap.objs.size (.tup [kV k, v])) b := fun b hb => by
      have hb' : b = e := by simpa using hb
      subst hb'
      obtain ⟨f0, f1⟩ := hf b (by simp)
      exact ⟨by rw [upd_ne (bel b el)]; exact f0, f1⟩
    have I2 : Inv X pins σ (upd (upd H s.heap.objs.size (.tup [kV k, v])) hp1.objs.size (.tup [.int (i : Int), .ref s.heap.objs.size])) { s with heap := hp3, toks := s.toks + 1 } :=
      I1.turnedNew (t' := s.toks + 1) (ch := [e]) (fun b o hb z => (same.2 b (by simpa using hb)).trans (far b o (by simpa using hb) z)) fe (Nat.le_refl _) fr2
    refine ⟨.ref hp1.objs.size, _, I2, rfl, ⟨_, _, k, v, hkv, rfl, I.hok.fresh (Nat.le_refl _), I1.hok.fresh (Nat.le_refl _), rfl⟩, ⟨⟨_, z3⟩, ?_⟩, fun b hb => ?_⟩
    · rw [hl]
      exact x1.at fun o z => (same.2 it nee.symm).trans (far it o nee.symm z)
    · have below : b < s.heap.objs.size := by
        have hb' := hb
        simp only [List.mem_cons, List.not_mem_nil, or_false] at hb'
        rcases hb' with z | z <;> subst z
        · exact el
        · exact il
      rw [upd_ne (Nat.ne_of_lt (Nat.lt_of_lt_of_le below grow)), upd_ne (bel b below)]
      exact (hf b hb).1
  done := by
    intro X hP hw hK hc i pins s σ H E I hf st hg
    subst hP hw hK
    obtain ⟨⟨old, q⟩, x⟩ := st
    obtain ⟨hd, hi⟩ := hg
    obtain ⟨hs, hgd, hx, es', ep', vs, hdt, hsz, kv, hm⟩ := I.frzK hd
    obtain ⟨rfl, rfl⟩ := L2.dict_ep hod hdt
    have hl : kvs.length = vs.length := Paired.length kv
    rw [hl] at x
    have cold := I.ok.hd hc
    obtain ⟨f0, f1, f2, f3, f4, f5⟩ := hf it (by simp)
    exact en_stop q (fun Q1 E1 h => ki_stop cold x hm (List.getElem?_eq_none (by omega)) h) fun hp' ext => ⟨rfl, I.turned (t' := s.toks) (fun b o hb z => ext b o hb z) f0 f1 f3 f4 f5⟩
  self := fun A i s Q E st q => let ⟨⟨_, z⟩, _⟩ := st; wpAny_pyIter_enum z q
theorem begins_items {v d : Addr} {es : Array DictEntry} {ep : Nat} : Begins (.ref v) { cls := .type "dict_itemiterator", data := .fields #[.none, .bool false, .ref d, .int 0 0, .int es.size 0, .int ep 0, .none, .none] } fun hp => hp.IsItemsView v d ∧ hp.DictRaw d es ep where
  iter := fun prog w A E s Q z h => wpAny_pyIter_items_raw z.1 z.2 h
  keeps := fun h h' x hk => ⟨let ⟨o, ho, r⟩ := x.1; ⟨o, hk _ _ ho, r⟩, x.2.at fun o e => hk d o e⟩
  free := rfl
def iEnIt (td : TE) : TI := fun σ H R => td σ H fun x H1 => ∃ d o kvs, x = .ref d ∧ H1 d = some (.frz o (.dK kvs)) ∧ R (Ited d o kvs) H1
section
variable {X : Cx} {e : Expr} {td : TE} {elts : List Expr} {kk : Nat} {tpos p pos apos cpos : Pos}
theorem pi_ed (hg : Gl X "enumerate") (hm : X.mg "enumerate" = none) (he : PE X e td) (hbase : attributeBase e "items" X.env (eval e X.env) = eval e X.env := by rfl) (hline : (apos.endLine == cpos.line) = true := by rfl)
    (hs : starEach [.Call (.Attribute e "items" apos) [] [] cpos] X.env = [(false, eval (.Call (.Attribute e "items" apos) [] [] cpos) X.env)] := by rfl) :
    PI X (.Tuple elts kk tpos) (.Call (.Name "enumerate" p) [.Call (.Attribute e "items" apos) [] [] cpos] [] pos) (iEnIt td) := by
  refine ⟨fun pins s σ H R I h => ?_⟩
  refine Call_ (ld_blt I hg hm PyProof.Rows.boot_enumerate (PyProof.Rows.callWith_type1 ?_ hs rfl))
  rw [hs]
  show wpAny _ _ (spliced [(false, eval (.Call (.Attribute e "items" apos) [] [] cpos) X.env)]) _ _ s
  refine Calls.spliced_cons ?_
  refine wpAny_Call_method (T := "dict") (id := "dict.items") hbase rfl hline F.plainAttrs_dict F.slot_dict_items F.type_dict_items (thn (he.run pins s σ H _ I h) fun u s1 ⟨x, H1, I1, rx, d, o, kvs, ex, hd, q⟩ => ?_)
  subst ex
  obtain rfl : u = Value.ref d := rx
  obtain ⟨hs1, hgd, hx, es, ep, vs, hdt, hsz, kv, hm1⟩ := I1.frzK hd
  have hl : kvs.length = vs.length := Paired.length kv
  refine ⟨hm1.dictOf.typeIs, hm1.dictOf.mapOf.noDict, ?_⟩
  have I2 : Inv X pins σ H1 { s1 with heap := s1.heap.push { cls := .type "dict_items", data := .fields #[.ref d] } } := I1.kept (t' := s1.toks) fun b ob q => Heap.get?_push_of_some _ q
  have fin : wpAny (model X.prog X.w) X.A (call (.type "enumerate") [.ref s1.heap.objs.size]) (fun v s2 => wpAny (model X.prog X.w) X.A (pyIter v) (PIE X pins σ (.Tuple elts kk tpos) R) X.xe s2) X.xe { s1 with heap := s1.heap.push { cls := .type "dict_items", data := .fields #[.ref d] } } := by
    refine en_call (begins_items (d := d) (es := es) (ep := ep)) ⟨⟨_, Heap.get?_push_size _ rfl, rfl, rfl⟩, ⟨_, Heap.get?_push_of_some _ hgd, hx, hdt⟩⟩ fun hp' z0 e1 old => ?_
    generalize hn0 : (s1.heap.push { cls := .type "dict_items", data := .fields #[.ref d] }).objs.size = n0 at z0 e1
    have I3 : Inv X pins σ H1 { s1 with heap := hp' } := I2.kept (t' := s1.toks) old
    have k0 : KiS hp' n0 d 0 kvs.length ep := .inl ⟨.none, .none, by
      show hp'.get? n0 = _
      rw [e1]
      show some _ = some _
      rw [hsz]
      rfl⟩
    refine wpAny_pyIter_enum z0 ⟨_, [n0 + 1, n0], _, _, H1, rfl, I3, turn_ed (n0 + 1) n0 (Nat.succ_ne_self _) hdt, ⟨⟨_, z0⟩, k0⟩, fun c hcm => ?_, q⟩
    have above : (s1.heap.push { cls := .type "dict_items", data := .fields #[.ref d] }).objs.size ≤ c := by
      rw [hn0]
      simp only [List.mem_cons, List.not_mem_nil, or_false] at hcm
      rcases hcm with z | z <;> rw [z] <;> first | exact Nat.le_refl _ | exact Nat.le_add_right _ _
    exact I2.fpOk above (I2.hok.fresh above)
  show wpAny _ _ (callWith cpos (.builtin "dict.items") [.ref d] [] []) _ X.xe s1
  exact method_meetsIn F.slot_dict_items F.entry_dict_items rfl (PySem.evalArgs_none ⟨rfl, hm1.dictOf.typeIs, F.args_dict_items_1 _, _, meets_dict_items (mixKind X.prog X.w) d hs1, ⟨vs, hm1.dictOf⟩, Calls.spliced_nil fin⟩)
end
/-- the dict, locked by the caller -/
def iEnumD (e : FE) : FI := fun s h => (e s h).bind fun x h => match x with
  | .loc n => match h[n]? with
    | some (.dct true kvs) => .ok ⟨enumW 0 0 (itItems kvs), fun h => h[n]? = some (.dct true kvs)⟩ h
    | _ => .stk
  | _ => .stk
section
variable {K : PySem.W.Frag} {H : Hp} {ι : List Addr} {h : Hh}
theorem wk_ed {a : Addr} {n : Nat} {od : Obj} {ys : List (Key × V)} {kvs : List (Key × W)} (ei : ι[n]? = some a) (q : H a = some (.frz od (.dK ys))) : Wk K (Ited a od ys) ι H ⟨enumW 0 0 (itItems kvs), fun h => h[n]? = some (.dct true kvs)⟩ := fun ι' H' h' S X ck i _ => by
  obtain ⟨ys', od', q', r⟩ := S.dctL ck (X.pre _ _ ei)
  have q2 := X.tk.fz _ _ _ q
  rw [q2] at q'
  cases q'
  refine ⟨fun e => ⟨q2, ?_⟩, fun w e => ?_⟩
  · have e' := List.getElem?_eq_none_iff.mp e
    rw [enumW_len] at e'
    unfold itItems at e'
    rw [List.length_map] at e'
    rw [r.len]
    exact e'
  · obtain ⟨u0, e0, rfl⟩ := enumW_get 0 0 i _ w e
    obtain ⟨⟨k, u⟩, e1, e2⟩ : ∃ p, kvs[i]? = some p ∧ W.tup [kW p.1, p.2] = u0 := Option.map_eq_some_iff.mp (by rw [← List.getElem?_map]; exact e0)
    obtain ⟨v, e3, rv⟩ := r.get e1
    subst e2
    refine ⟨⟨q2, (List.getElem?_eq_some_iff.mp e3).1⟩, fun y H'' z => ?_⟩
    obtain ⟨T, U, k', v', ek, ey, hT, hU, rfl⟩ := z
    rw [e3] at ek
    cases ek
    have ex := ext_new (ι := ι') (o := HO.tup [kV k, v]) hT
    have ex2 := ext_new (ι := ι') (o := HO.tup [.int (i : Int), .ref T]) hU
    have inner : Rv K (upd H' T (.tup [kV k, v])) ι' (.tup [kW k, u]) (.ref T) := ⟨T, [kV k, v], rfl, ⟨by show 2 ≤ sizeLine; decide, .inl upd_same⟩, kV k, [v], rfl, by cases k <;> rfl, v, [], rfl, rv.mono ex, rfl⟩
    refine ⟨(S.new0 hT).new0 hU, ex.trans ex2, U, [.int (i : Int), .ref T], ey, ⟨by show 2 ≤ sizeLine; decide, .inl upd_same⟩, .int (i : Int), [.ref T], rfl, ?_, .ref T, [], rfl, inner.mono ex2, rfl⟩
    show V.int (i : Int) = V.int (0 + ((0 + i : Nat) : Int))
    congr 1
    omega
end
section
variable {X : Cx} {E : Wish} {e : Expr} {fe : FE} {elts : List Expr} {kk : Nat} {tpos p pos apos cpos : Pos}
theorem i_enumD (hg : Gl X "enumerate") (hm : X.mg "enumerate" = none) (he : PE X e (lE X.K E fe)) (hbase : attributeBase e "items" X.env (eval e X.env) = eval e X.env := by rfl) (hline : (apos.endLine == cpos.line) = true := by rfl)
    (hs : starEach [.Call (.Attribute e "items" apos) [] [] cpos] X.env = [(false, eval (.Call (.Attribute e "items" apos) [] [] cpos) X.env)] := by rfl) :
    PI X (.Tuple elts kk tpos) (.Call (.Name "enumerate" p) [.Call (.Attribute e "items" apos) [] [] cpos] [] pos) (lI X.K E (iEnumD fe)) :=
  PI.imp (pi_ed hg hm he hbase hline hs) fun σ H Q ⟨ι, s, h, S, L, hw⟩ => eB S L hw lands0 fun v H1 ι1 h1 w S1 X1 r1 hw1 => by
    cases w with
    | loc n =>
      obtain ⟨al, ei, rfl⟩ := r1
      dsimp only at hw1
      split at hw1
      · rename_i e0
        obtain ⟨ys, od, q, r⟩ := S1.dctL e0 ei
        exact ⟨al, od, ys, rfl, q, hw1 _ H1 ι1 S1 X1 (wk_ed ei q)⟩
      · exact hw1.elim
    | _ => exact hw1.elim
end
end NB

set_option Elab.async false
set_option linter.all false
set_option maxRecDepth 100000
set_option maxHeartbeats 4000000
/-! NbW: a law's promise from the plain law. -/
namespace NB
open PySem PySem.Spec L2
open PyProof.Rows hiding St
/-- what leaves a def, whatever the world -/
def CXe (P : Program) : CXT := fun outer H s E u s' => ∃ w, CX P w outer H s E u s'
theorem cxe_off (P : Program) (H : Hp) (s : Shared) (e : Value) (s' : Shared) (z : CXe P [] H s (fun _ _ _ => False) e s') : False := by
  obtain ⟨w, a, B, H', cls, d, z⟩ := z
  exact z.2.2.2.2.2.2.2
theorem cxe_ok {P : Program} {w : World} {K : PySem.W.Frag} {mg : Str → Option Value} {base : Heap} {k : Nat} {f : Addr} {fd : FuncData} {ps : List Str} {sp : Sp} (F : FnOk P w K mg base (CX P w) k f fd ps sp) : FnOk P w K mg base (CXe P) k f fd ps sp :=
  ⟨F.len, fun A o s H a us vs Q E hr e b v q => codeAny_mono (F.run A o s H a us vs Q E hr e b v q) fun r s' h => by
    match r, h with
    | .error e, h => exact ⟨w, h⟩
    | .ok (.ret u), h => exact h⟩
theorem sim0 {K : PySem.W.Frag} {H : Hp} : Sim K H [] [] := ⟨rfl, fun i j a e => by simp at e, fun i ob e => by simp at e⟩
theorem rvs_ints {K : PySem.W.Frag} {H : Hp} {ι : List Addr} : ∀ ns : List Int, Rvs K H ι (ns.map W.int) (ns.map V.int)
  | [] => rfl
  | n :: ns => ⟨.int n, ns.map V.int, rfl, rfl, rvs_ints ns⟩
theorem law_sp {K : PySem.W.Frag} {c : List W → Hh → R W} {n : Nat} (plain : ∀ ns : List Int, ns.length ≤ n → ∃ h', c [.rls (ns.map W.int)] [] = .ok (.bl true) h') (H : Hp) (a : Addr) (ns : List Int) (hl : ns.length ≤ n) (ho : Only H) (hS : SqL K H a (ns.map V.int)) :
    spL K 1 c [.ref a] H (fun v _ => v = .bl true) fun _ _ _ => False := by
  have lp : Lp K H a (ns.map V.int) := by
    rcases hS with q | q
    · rcases ho a with z | ⟨o, xs, z⟩
      · rcases q with q | ⟨o', q⟩ <;> rw [z] at q <;> cases q
      · rcases q with q | ⟨o', q⟩ <;> rw [z] at q <;> cases q
        exact .inl ⟨_, z⟩
    · exact .inr q
  refine ⟨rfl, [], [], [.rls (ns.map W.int)], sim0, ⟨.ref a, [], rfl, ⟨a, _, rfl, lp, rvs_ints ns⟩, rfl⟩, ?_⟩
  obtain ⟨h', e⟩ := plain ns hl
  rw [e]
  intro v H' ι' S X r
  exact r
end NB

set_option Elab.async false
set_option linter.all false
set_option maxRecDepth 100000
set_option maxHeartbeats 4000000
/-! NbKa: two attributes stored at once; properties. -/
namespace NB
open PySem PySem.Spec L2
open PyProof.Rows hiding St

section
variable {X : Cx} {o : Expr} {f : Str} {pos : Pos} {ta : TE}
/-- a target o.f -/
def gAtt (K : PySem.W.Frag) (ta : TE) (f : Str) : TG := fun v σ H Q => ta σ H fun x H1 => ∃ a C dx fs, x = .ref a ∧ H1 a = some (.ins C dx fs) ∧ Cls K C ∧ NoAttr K C f ∧ fs.length < 1000 ∧ Q σ (upd H1 a (.ins C dx (putF f v fs)))
theorem pg_att (ho : PE X o ta) (ha : ∀ v, assign (.Attribute o f pos) X.env v = (do
      let ov ← holding [v] (eval o X.env)
      standAt pos.atName
      holding [v, ov] (setAttr ov f v)
      release [v, ov] []) := by intro _; rfl) : PG X (.Attribute o f pos) (gAtt X.K ta f) := by
  refine ⟨fun pins s σ H v u Q I r h => ?_⟩
  rw [ha]
  refine wpAny_bind (wpAny_holding (thn (ho.run pins s σ H _ I h) fun ov s1 ⟨x, H1, I1, r1, a, C, dx, fs, ex, ea, c, n, l, q⟩ => ?_))
  subst ex
  obtain rfl : ov = Value.ref a := r1
  refine wpAny_bind (wpAny_standAt (wpAny_bind (wpAny_holding (setattr_ok I1 ea c n l r fun s3 I3 => ?_))))
  exact wpAny_release ⟨σ, _, I3, q⟩
end
/-- x.f = v -/
def attG (cs : List Str) (f : Str) (x v : W) (h : Hh) : R Unit := match x with
  | .loc n => match h[n]? with
    | some (.ins C fs) => if C ∈ cs ∧ fs.length < 1000 ∧ (fs.map (·.1)).Nodup then .ok () (h.set n (.ins C (putA f v fs))) else .stk
    | _ => .stk
  | _ => .stk
/-- o.f, q.g = e: a pair -/
def sAtt2 (cs ds : List Str) (f g : Str) (o q e : FE) : FS := fun s h => (e s h).st s fun w h => match w with
  | .tup [v, u] => (o s h).st s fun x h => match attG cs f x v h with
    | .ok _ h => (q s h).st s fun y h => match attG ds g y u h with
      | .ok _ h => .ok (.nx s) h
      | _ => .stk
    | _ => .stk
  | _ => .stk
section
variable {X : Cx} {E : Wish} {o q e : Expr} {fo fq fe : FE} {f g : Str} {pos p1 p2 p3 : Pos} {cs ds : List Str} {k : Nat}
theorem attG_ok {K : PySem.W.Frag} {H : Hp} {ι : List Addr} {h h' : Hh} {wx wv : W} {x v : V} (hk : ∀ C, C ∈ cs → Cls K (He.ga K C) ∧ NoAttr K (He.ga K C) f) (S : Sim K H ι h) (rx : Rv K H ι wx x) (rv : Rv K H ι wv v) (e : attG cs f wx wv h = .ok () h') :
    ∃ a C dx fs, x = .ref a ∧ H a = some (.ins C dx fs) ∧ Cls K C ∧ NoAttr K C f ∧ fs.length < 1000 ∧ Sim K (upd H a (.ins C dx (putF f v fs))) ι h' ∧ Ext ι H ι (upd H a (.ins C dx (putF f v fs))) := by
  unfold attG at e
  cases wx with
  | loc n =>
    obtain ⟨a, ei, rfl⟩ := rx
    dsimp only at e
    split at e
    · rename_i C fs e0
      split at e
      · rename_i hc
        cases e
        obtain ⟨a', e1, dx, gs, q, r⟩ := S.ob _ _ e0
        rw [ei] at e1
        cases e1
        have mu : Mut (H a) := by rw [q]; trivial
        have ex := ext_set (o := HO.ins (He.ga K C) dx (putF f v gs)) mu (List.mem_of_getElem? ei)
        exact ⟨a, _, dx, gs, rfl, q, (hk C hc.1).1, (hk C hc.1).2, by rw [r.len]; exact hc.2.1, S.set (ob := .ins C _) e0 ei ex ⟨dx, _, upd_same, (r.putA rv).mono ex⟩, ex⟩
      · cases e
    · cases e
  | _ => cases e
theorem s_att2 (hc : X.calm = true) (hk : ∀ C, C ∈ cs → Cls X.K (He.ga X.K C) ∧ NoAttr X.K (He.ga X.K C) f) (hk2 : ∀ C, C ∈ ds → Cls X.K (He.ga X.K C) ∧ NoAttr X.K (He.ga X.K C) g) (ho : PE X o (lE X.K E fo)) (hq : PE X q (lE X.K E fq)) (he : PE X e (lE X.K E fe))
    (hs : swapsWithSole [.Tuple [.Attribute o f p1, .Attribute q g p2] k p3] e pos.line X.env = pure false := by rfl) (hw : swappedStores [.Tuple [.Attribute o f p1, .Attribute q g p2] k p3] e X.env = pure none := by rfl)
    (h1 : (assignEach [.Tuple [.Attribute o f p1, .Attribute q g p2] k p3] X.env).map (·.2) = [assign (.Tuple [.Attribute o f p1, .Attribute q g p2] k p3) X.env] := by rfl) :
    PS X (.Assign [.Tuple [.Attribute o f p1, .Attribute q g p2] k p3] e pos) (lS X.K E (sAtt2 cs ds f g fo fq fe)) :=
  PS.imp (ps_asg he (pg_tup (n := 2) hc (pgs_cons (pg_att ho) (pgs_cons (pg_att hq) pgs_nil))) hs hw h1) fun D σ H ⟨ι, s, h, S, L, hw⟩ => seB S L hw fun v H1 ι1 h1 w S1 X1 r1 q1 => by
    split at q1
    · rename_i wv wu
      obtain ⟨a, xs, rfl, t, y1, r', rfl, rv, y2, r'', rfl, ru, e3⟩ := r1
      cases (show r'' = [] from e3)
      refine ⟨a, [y1, y2], rfl, t.sq, rfl, y1, [y2], rfl, ?_⟩
      refine seB S1 (L.mono X1) (wp_fl X1 q1) fun x H2 ι2 h2 wx S2 X2 r2 q2 => ?_
      split at q2
      · rename_i h3 e3
        obtain ⟨b, C, dx, fs, rfl, hb, c1, n1, l1, S3, X3⟩ := attG_ok hk S2 r2 (rv.mono X2) e3
        refine ⟨b, C, dx, fs, rfl, hb, c1, n1, l1, y2, [], rfl, ?_⟩
        refine seB S3 (((L.mono X1).mono X2).mono X3) (wp_fl X3 (wp_fl X2 q2)) fun z H4 ι4 h4 wz S4 X4 r4 q4 => ?_
        split at q4
        · rename_i h5 e5
          obtain ⟨b2, C2, dx2, fs2, rfl, hb2, c2, n2, l2, S5, X5⟩ := attG_ok hk2 S4 r4 (((ru.mono X2).mono X3).mono X4) e5
          exact ⟨b2, C2, dx2, fs2, rfl, hb2, c2, n2, l2, rfl, q4 _ _ S5 (X4.trans X5) σ (((((L.mono X1).mono X2).mono X3).mono X4).mono X5)⟩
        · exact q4.elim
      · exact q2.elim
    · exact q1.elim
end
/-- o.f, a property: the getter by its function -/
def bProp (C : Str) (F : List W → Hh → R W) (o : FE) : FE := fun s h => (o s h).bind fun w h => match w with
  | .loc k => match h[k]? with
    | some (.ins D _) => if D = C then (F [.loc k] h).sure else .stk
    | _ => .stk
  | _ => .stk
section
variable {X : Cx} {E : Wish} {g : Bool} {o : Expr} {fo : FE} {f cn : Str} {pos : Pos} {k n : Nat} {C p ga a dx : Addr} {fd : FuncData} {ps : List Str} {sp : Sp} {fs : List (Str × V)} {WW : WX} {F : List W → Hh → R W}
theorem getpropG {pins : List (Addr × Obj)} {σ : St} {H : Hp} {s : Shared} {Q : VK} {b : Bool} (I : Inv X pins σ H s) (ea : H a = some (.ins C dx fs)) (c : Cls X.K C) (hp : PropOf X.K C f p ga)
    (G : FnG g X.prog X.w X.K X.mg X.base k ga fd ps sp) (hg : Gd g X.A) (hr : Room (k + 1) X.A) (hb : Binds X.K fd ps []) (h : sp [.ref a] H Q (fun _ _ _ => False)) :
    wpAny (model X.prog X.w) X.A (getAttr (.ref a) f b) (EP X pins σ Q) X.xe s := by
  obtain ⟨mm, O, _⟩ := ins_get I.hok ea
  obtain ⟨od, J, _⟩ := O.look
  obtain ⟨rest, hrec⟩ := hp.rec_
  have I1 := I.tok (s.toks + 1)
  have hl : ([Value.ref a] ++ []).length = ps.length := (G.len _ _ _ _ h).symm ▸ rfl
  have hc : (PySem.W.clsIn X.K C).isSome = true := by
    obtain ⟨cd, z, _⟩ := PySem.W.any_some c.hd
    exact z ▸ rfl
  have pg := PySem.W.plainGet_of (c.get f)
  refine PySem.W.get_bind I.kIn J pg.1 (PySem.W.findObj_data hc hp.at_ hp.get hp.tak) pg.2 (wpAny_call (PySem.W.prop_get (s := { s with toks := s.toks + 1 }) I.kIn hrec ?_))
  refine codeAny_mono (G.go X.A.in1 X.stack { s with toks := s.toks + 1 } H ⟨[.ref a], []⟩ [.ref a] [.ref a] Q (fun _ _ _ => False) hg hr.in1 I1.env0.in1 (hb _ [.ref a] I1.kIn hl) (.cons rfl .nil) h) fun r s' hq => ?_
  match r, hq with
  | .error er, hq =>
    obtain ⟨a, B, H', cls, d, z⟩ := hq
    exact z.2.2.2.2.2.2.2.elim
  | .ok (.ret u), hq =>
    obtain ⟨v, H', I3, rv, q3⟩ := I1.after hq
    show wpAny _ _ (handedOut u) _ _ _
    exact (PySem.W.handedOut_of (handed_of rv)).symm ▸ wpAny_pure ⟨v, H', I3, rv, q3⟩
theorem x_prop (c : Cls X.K (He.ga X.K cn)) (hp : PropOf X.K (He.ga X.K cn) f p ga) (G : FnG g X.prog X.w X.K X.mg X.base k ga fd ps (spL X.K 1 F)) (hg : Gd g X.A) (hr : Room (k + 1) X.A) (hb : Binds X.K fd ps []) (he : PE X o (lE X.K E fo))
    (hab : attributeBase o f X.env (eval o X.env) = eval o X.env := by rfl) : PE X (.Attribute o f pos) (lE X.K E (bProp cn F fo)) := by
  refine ⟨fun pins s0 σ H Q I ⟨ι, s, h, S, L, hw⟩ => ?_⟩
  refine attr_of hab (thn (he.run pins s0 σ H (fun x H1 => ∃ a dx fs, x = .ref a ∧ H1 a = some (.ins (He.ga X.K cn) dx fs) ∧ spL X.K 1 F [.ref a] H1 Q (fun _ _ _ => False)) I ?_) fun u s1 ⟨x, H1, I1, rx, a, dx, fs, ex, ea, q⟩ => ?_)
  · refine eB S L hw lands0 fun v H1 ι1 h1 w S1 X1 r1 hw1 => ?_
    cases w with
    | loc j =>
      obtain ⟨a, ei, rfl⟩ := r1
      dsimp only at hw1
      split at hw1
      · rename_i D fs e0
        split at hw1
        · rename_i hD
          subst hD
          obtain ⟨a', e1, dx, gs, q, r⟩ := S1.ob _ _ e0
          rw [ei] at e1
          cases e1
          refine ⟨a, dx, gs, rfl, q, rfl, ι1, h1, [.loc j], S1, ⟨.ref a, _, rfl, ⟨a, ei, rfl⟩, rfl⟩, ?_⟩
          cases er : F [.loc j] h1 with
          | ok w h' => rw [er] at hw1; exact Goes.mono hw1 X1
          | exn x h' => rw [er] at hw1; exact hw1.elim
          | stk => rw [er] at hw1; exact hw1.elim
        · exact hw1.elim
      · exact hw1.elim
    | _ => exact hw1.elim
  · subst ex
    obtain rfl : u = Value.ref a := rx
    exact getpropG I1 ea c hp G hg hr hb q
end
end NB

set_option Elab.async false
set_option linter.all false
set_option maxRecDepth 100000
set_option maxHeartbeats 4000000
/-! NbKb: len(o), str(o) by own methods. -/
namespace NB
open PySem PySem.Spec L2
open PyProof.Rows hiding St

/-- an instance of the class: its own method by the function -/
def ownW (C : Str) (F : List W → Hh → R W) (x : W) (h : Hh) : R W := match x with
  | .loc k => match h[k]? with
    | some (.ins D _) => if D = C then (F [.loc k] h).sure else .stk
    | _ => .stk
  | _ => .stk
def lenO (C : Str) (F : List W → Hh → R W) : List W → Hh → R W
  | [x], h => (ownW C F x h).bind fun w h => match w with
    | .int i => if 0 ≤ i ∧ i < 2 ^ 63 then .ok (.int i) h else .stk
    | _ => .stk
  | _, _ => .stk
def strO (C : Str) (F : List W → Hh → R W) : List W → Hh → R W
  | [x], h => (ownW C F x h).bind fun w h => match w with
    | .str z => .ok (.str z) h
    | _ => .stk
  | _, _ => .stk
section
variable {X : Cx} {g : Bool} {f : Addr} {cn : Str} {k n : Nat} {fd : FuncData} {ps : List Str} {F : List W → Hh → R W}
theorem ownRun {pins : List (Addr × Obj)} {σ : St} {H : Hp} {s : Shared} {Q : VK} {a : Addr} {A : Around} {E' : Value → Shared → Prop} (I : Inv X pins σ H s) (G : FnG g X.prog X.w X.K X.mg X.base k f fd ps (spL X.K 1 F)) (hg : Gd g A) (hr : Room k A) (e0 : Env0 X.prog X.w X.K X.mg X.base A X.stack s H) (hb : Binds X.K fd ps [])
    (h : spL X.K 1 F [.ref a] H Q (fun _ _ _ => False)) : wpAny (model X.prog X.w) A (call (.ref f) [.ref a]) (EP X pins σ Q) E' s := by
  have hl : ([Value.ref a] ++ []).length = ps.length := (G.len _ _ _ _ h).symm ▸ rfl
  refine wpAny_call (codeAny_mono (G.go A X.stack s H ⟨[.ref a], []⟩ [.ref a] [.ref a] Q (fun _ _ _ => False) hg hr e0 (hb s [.ref a] I.kIn hl) (.cons rfl .nil) h) fun r s' hq => ?_)
  match r, hq with
  | .error er, hq =>
    obtain ⟨a, B, H', cls, d, z⟩ := hq
    exact z.2.2.2.2.2.2.2.elim
  | .ok (.ret u), hq => exact I.after hq
theorem own_sp {K : PySem.W.Frag} {H : Hp} {ι : List Addr} {h : Hh} {Q : VK} {x : V} {w : W} {P : R W → R W} (S : Sim K H ι h) (r : Rv K H ι w x) {kk : W → Hh → R W} (hw : wpR ((ownW cn F w h).bind kk) (fun w h' => Goes K ι H Q w h') (fun _ _ => False)) :
    ∃ a dx gs, x = .ref a ∧ H a = some (.ins (He.ga K cn) dx gs) ∧ spL K 1 F [.ref a] H (fun v H1 => ∃ ι1 h1 w1, Sim K H1 ι1 h1 ∧ Ext ι H ι1 H1 ∧ Rv K H1 ι1 w1 v ∧ wpR (kk w1 h1) (fun w h' => Goes K ι H Q w h') (fun _ _ => False)) (fun _ _ _ => False) := by
  unfold ownW at hw
  cases w with
  | loc j =>
    obtain ⟨a, ei, rfl⟩ := r
    dsimp only at hw
    split at hw
    · rename_i D fs e0
      split at hw
      · rename_i hD
        subst hD
        obtain ⟨a', e1, dx, gs, q, r⟩ := S.ob _ _ e0
        rw [ei] at e1
        cases e1
        refine ⟨a, dx, gs, rfl, q, rfl, ι, h, [.loc j], S, ⟨.ref a, _, rfl, ⟨a, ei, rfl⟩, rfl⟩, ?_⟩
        cases er : F [.loc j] h with
        | ok w h' =>
          rw [er] at hw
          exact fun v H1 ι1 S1 X1 r1 => ⟨ι1, h', w, S1, X1, r1, hw⟩
        | exn x h' => rw [er] at hw; exact hw.elim
        | stk => rw [er] at hw; exact hw.elim
      · exact hw.elim
    · exact hw.elim
  | _ => exact hw.elim
theorem c_lenO (c : Cls X.K (He.ga X.K cn)) (hs : PySem.W.findIn X.K (.ref (He.ga X.K cn)) "__len__" = some (some (.ref f))) (hf : PySem.W.isFn X.K (.ref f) = true) (G : FnG g X.prog X.w X.K X.mg X.base k f fd ps (spL X.K 1 F)) (hg : Gd g X.A) (hr : Room (k + 1) X.A) (hb : Binds X.K fd ps []) :
    CallR X (.builtin "len") (rLs X.K (lenO cn F)) := by
  intro pins s σ H xs us Q I r hq
  obtain ⟨ι, h, ws, S, ar, hw⟩ := hq
  unfold lenO at hw
  split at hw
  · obtain ⟨x, r1, rfl, rx, e⟩ := ar
    rw [show r1 = [] from e] at r
    obtain ⟨u, rfl, ru⟩ := vals1 r
    obtain ⟨a, dx, gs, rfl, ea, sp⟩ := own_sp (P := id) S rx hw
    obtain rfl : u = Value.ref a := ru
    obtain ⟨mm, O, _⟩ := ins_get I.hok ea
    obtain ⟨od, J, _⟩ := O.look
    obtain ⟨m, fr⟩ := I.fr
    refine PySem.W.len_K fr I.ok.mod.kin J hs hf (wpAny_mono (ownRun (E' := X.xe) I G hg hr.in1 I.env0.in1 hb sp) (fun v s' ⟨x1, H1, I1, rv, ι1, h1, w1, S1, X1, r1, hw1⟩ => ?_) fun _ _ z => z)
    split at hw1
    · rename_i i
      split at hw1
      · rename_i hi
        cases r1
        obtain ⟨t, rfl⟩ := rv
        exact ⟨hi, ⟨.int i, H1, I1.tok _, ⟨_, rfl⟩, hw1 _ _ _ S1 X1 rfl⟩⟩
      · exact hw1.elim
    · exact hw1.elim
  · exact hw.elim
theorem c_strO (c : Cls X.K (He.ga X.K cn)) (hs : PySem.W.findIn X.K (.ref (He.ga X.K cn)) "__str__" = some (some (.ref f))) (hf : PySem.W.isFn X.K (.ref f) = true) (G : FnG g X.prog X.w X.K X.mg X.base k f fd ps (spL X.K 1 F)) (hg : Gd g X.A) (hr : Room (k + 2) X.A) (hb : Binds X.K fd ps []) :
    CallR X (.type "str") (rLs X.K (strO cn F)) := by
  intro pins s σ H xs us Q I r hq
  obtain ⟨ι, h, ws, S, ar, hw⟩ := hq
  unfold strO at hw
  split at hw
  · obtain ⟨x, r1, rfl, rx, e⟩ := ar
    rw [show r1 = [] from e] at r
    obtain ⟨u, rfl, ru⟩ := vals1 r
    obtain ⟨a, dx, gs, rfl, ea, sp⟩ := own_sp (P := id) S rx hw
    obtain rfl : u = Value.ref a := ru
    obtain ⟨mm, O, _⟩ := ins_get I.hok ea
    obtain ⟨od, J, _⟩ := O.look
    refine PySem.W.kso_call (by have := hr.in1.in1.un; omega) I.kIn J hs hf (wpAny_mono (ownRun (E' := X.xe) I G hg hr.in1.in1 I.env0.in1.in1 hb sp) (fun v s' ⟨x1, H1, I1, rv, ι1, h1, w1, S1, X1, r1, hw1⟩ => ?_) fun _ _ z => z)
    split at hw1
    · rename_i z
      cases r1
      obtain ⟨t, rfl⟩ := rv
      exact ⟨.str z, H1, I1, ⟨_, rfl⟩, hw1 _ _ _ S1 X1 rfl⟩
    · exact hw1.elim
  · exact hw.elim
end
end NB

set_option Elab.async false
set_option linter.all false
set_option maxRecDepth 100000
set_option maxHeartbeats 4000000
/-! NbLw: a law's run where it is known that no repr is under way, and that sys.modules is a dict at its place. -/
namespace NB
open PySem PySem.Spec L2
open PyProof.Rows hiding St

/-- a dict stands at the place of sys.modules -/
def SysB (h : Heap) : Prop := ∃ o, h.get? sysModules = some o ∧ o.cls = .type "dict"
abbrev scrO (vs : List Value) : Obj := { cls := .type "list", data := .seq vs.toArray }
/-- what is tracked at the start: the script, where it is none of the module's own -/
def scrH (K : PySem.W.Frag) (a : Addr) (vs : List Value) (ns : List Int) : Hp := fun b => if b = a ∧ K.lookup a = none then some (.frz (scrO vs) (.lst (ns.map V.int))) else none
section
variable {K : PySem.W.Frag} {a : Addr} {vs : List Value} {ns : List Int} {P : Program} {w : World} {h : Heap}
theorem scrH_some {b : Addr} {u : HO} (e : scrH K a vs ns b = some u) : b = a ∧ K.lookup a = none ∧ u = .frz (scrO vs) (.lst (ns.map V.int)) := by
  unfold scrH at e
  split at e
  · rename_i c
    cases e
    exact ⟨c.1, c.2, rfl⟩
  · cases e
theorem scrH_only : Only (scrH K a vs ns) := fun b => by
  cases e : scrH K a vs ns b with
  | none => exact .inl rfl
  | some u => exact .inr ⟨_, _, by rw [(scrH_some e).2.2]⟩
theorem scrH_ok (ha : h.get? a = some (scrO vs)) (hi : IntsAre vs ns) (hl : ns.length ≤ sizeLine) : HOk P w (scrH K a vs ns) h := fun b u e => by
  obtain ⟨rfl, _, rfl⟩ := scrH_some e
  exact ⟨ha, by rw [List.length_map]; exact hl, vs, _, vals_ints hi, ha⟩
theorem scrH_sq (KX : K.In h) (ha : h.get? a = some (scrO vs)) (hi : IntsAre vs ns) (hl : ns.length ≤ sizeLine) : SqL K (scrH K a vs ns) a (ns.map V.int) := by
  cases hk : K.lookup a with
  | none => exact .inl (.inr ⟨scrO vs, by unfold scrH; rw [if_pos ⟨rfl, hk⟩]⟩)
  | some o =>
    have e := KX a o hk
    rw [ha] at e
    cases e
    exact .inr ⟨_, vs.toArray, _, hk, rfl, rfl, rfl, by rw [List.size_toArray, hi.length]; exact hl, by simpa using vals_ints hi⟩
theorem scrH_free {b : Addr} {o : Obj} (e : h.get? b = some o) (ha : h.get? a = some (scrO vs)) (hc : o.cls ≠ .type "list") : scrH K a vs ns b = none := by
  cases q : scrH K a vs ns b with
  | none => rfl
  | some u =>
    rw [(scrH_some q).1, ha] at e
    cases e
    exact absurd rfl hc
theorem scrH_ns {b : Addr} {m : Str → Option Value} (ha : h.get? a = some (scrO vs)) (n : h.Ns b m) : (hidT h (scrH K a vs ns)).Ns b m := by
  obtain ⟨o, es, ep, e, d, r⟩ := n
  refine ⟨o, es, ep, hidT_get e ?_, d, r⟩
  cases q : scrH K a vs ns b with
  | none => rfl
  | some u =>
    rw [(scrH_some q).1, ha] at e
    cases e
    exact nomatch d
end
theorem law_go {P : Program} {w : World} {K : PySem.W.Frag} {mg mb : Str → Option Value} {k : Nat} {fa a : Addr} {fd : FuncData} {x : Str} {sp : Sp} {s : Shared} {vs : List Value} {ns : List Int}
    (KX : K.In s.heap) (n1 : s.heap.Ns mainGlobals mg) (n2 : s.heap.Ns builtinsNs mb) (n3 : ∀ x : Str, x ≠ "__name__" → mb x = bootBuiltins x) (n4 : s.heap.NoLimit) (sy : SysB s.heap) (g0 : s.gens = #[])
    (ha : s.heap.get? a = some (scrO vs)) (hi : IntsAre vs ns) (hl : ns.length ≤ sizeLine) (hr : Room k callerA)
    (F : ∀ base : Heap, K.In base → base.Ns mainGlobals mg → SysB base → FnG true P w K mg base k fa fd [x] sp) (bd : ∀ (s : Shared) (u : Value), BindsTo s fd ⟨[u], []⟩ [(x, u)])
    (hsp : ∀ H : Hp, Only H → SqL K H a (ns.map V.int) → sp [.ref a] H (fun v _ => v = .bl true) fun _ _ _ => False) :
    codeAny (model P w) callerA (.call (.ref fa) ⟨[.ref a], []⟩) (fun r s' => r = .ok (.ret (.bool true)) ∧ OldK s.heap s'.heap ∧ s'.os = s.os ∧ AllBare s'.gens) s := by
  have hok : HOk P w (scrH K a vs ns) s.heap := scrH_ok ha hi hl
  have b1 : K.In (hidT s.heap (scrH K a vs ns)) := fun b o e => hidT_get (KX b o e) (by
    cases q : scrH K a vs ns b with
    | none => rfl
    | some u =>
      obtain ⟨z, kn, _⟩ := scrH_some q
      rw [z, kn] at e
      cases e)
  have b2 : (hidT s.heap (scrH K a vs ns)).Ns mainGlobals mg := scrH_ns ha n1
  have b3 : SysB (hidT s.heap (scrH K a vs ns)) := by
    obtain ⟨o, e, c⟩ := sy
    exact ⟨o, hidT_get e (scrH_free e ha (by rw [c]; exact fun z => absurd (Value.type.inj z) (by decide))), c⟩
  obtain ⟨mc, c1, c2⟩ := n4
  have md : Mod K mg (hidT s.heap (scrH K a vs ns)) := ⟨b1, b2, ⟨mb, scrH_ns ha n2, n3⟩, mc, scrH_ns ha c1, c2⟩
  have e0 : Env0 P w K mg (hidT s.heap (scrH K a vs ns)) callerA [] s (scrH K a vs ns) := { frames := rfl, mod := md, bs := fun b o e => of_hidT e, bsz := Nat.le_of_eq (hidT_size _ _), funs := trivial, frf := fun b z => (nomatch z), hok := hok, bare := .of_eq g0 }
  refine codeAny_mono ((F _ b1 b2 b3).go callerA [] s _ ⟨[.ref a], []⟩ [.ref a] [.ref a] _ _ (fun _ => rfl) hr e0 (bd s (.ref a)) (.cons rfl .nil) (hsp _ scrH_only (scrH_sq KX ha hi hl))) fun r s' q => ?_
  match r, q with
  | .error e, q =>
    obtain ⟨b, B, H', cls, d, z⟩ := q
    exact z.2.2.2.2.2.2.2.elim
  | .ok (.ret u), q =>
    obtain ⟨v, H', q1, q2, un, ok', rv, q3⟩ := q
    cases (show v = .bl true from q3)
    cases (show u = Value.bool true from rv)
    refine ⟨rfl, OldK.of_keep fun b o e => ?_, q1, q2⟩
    cases c : scrH K a vs ns b with
    | none => exact un.keep b o e c (fun z => (nomatch z)) (fun z => (nomatch z))
    | some u =>
      obtain ⟨rfl, _, rfl⟩ := scrH_some c
      rw [ha] at e
      cases e
      exact (ok' _ _ (un.frzs _ _ _ c)).1
/-- a hook with the place of sys.modules -/
def sysY (s : Shared) : Bool := match s.heap.get? sysModules with
  | some o => o.cls == .type "dict"
  | none => false
def hookY (n : Nat) (fa : List He.Fa) (fn : List He.DefD) (ex : PySem.W.Frag → Bool) : PySem.W.Hook where
  α := He.AlX × Bool
  obs := fun s => (He.obsX n fa fn [] [] ex s.heap.get?, match s.heap.get? sysModules with
    | some o => o.cls == .type "dict"
    | none => false)
  val := fun w => (He.valX fn [] w, true)
  says := fun w h => (∃ K : PySem.W.Frag, K.In h ∧ He.SaysX fa fn [] [] ex w h K) ∧ SysB h
  of := fun s w e => ⟨⟨_, He.frT_in, He.saysX_of (congrArg (fun z : He.AlX × Bool => z.1) e)⟩, by
    have e2 := congrArg (fun z : He.AlX × Bool => z.2) e
    simp only at e2
    split at e2
    · rename_i o eo
      exact ⟨o, eo, eq_of_beq e2⟩
    · cases e2⟩
  keeps := fun w h h' ⟨⟨K, hK, c⟩, o, e, hc⟩ k => ⟨⟨K, PySem.W.Frag.In.keeps hK k, ⟨c.t, c.more, c.hd, c.out, fun p hp => k _ _ (c.empty p hp)⟩⟩, o, k _ _ e, hc⟩
/-- the law over such a head -/
theorem law_at {l : PySem.W.OpenLaw} {n k : Nat} {q : Program} {loose : List Str} {XP : (Str → Option Value) → Heap → Prop} {YP : World → Heap → Prop} {d : DefRec} {x : Str}
    (hn : l.most = some n) (hn2 : n ≤ sizeLine) (hdf : d.params.defaults = []) (hr : Room k callerA)
    (F : ∀ (w : World) (mg : Str → Option Value) (fa : Addr) (h : Heap), YP w h → h.Ns mainGlobals mg → mg d.name = some (.ref fa) →
      ∃ (K : PySem.W.Frag) (fd : FuncData) (sp : Sp), K.In h ∧ SysB h ∧ (∀ (s : Shared) (u : Value), BindsTo s fd ⟨[u], []⟩ [(x, u)]) ∧
        (∀ (H : Hp) (a : Addr) (ns : List Int), ns.length ≤ n → Only H → SqL K H a (ns.map V.int) → sp [.ref a] H (fun v _ => v = .bl true) fun _ _ _ => False) ∧
        ∀ base : Heap, K.In base → base.Ns mainGlobals mg → SysB base → FnG true l.prog w K mg base k fa fd [x] sp) :
    PySem.W.WalkO q loose XP YP l.row.toRowW d [] (fun f vs => PySem.call f vs) :=
  Att.attach_call hn hdf fun w s0 s1 mg mb fa o pm cd doc a vs ns G Y ho hd hcd hmg hobj hints hlen hg => by
    obtain ⟨K, fd, sp, KX, sy, bd, hsp, hF⟩ := F w mg fa _ Y G.T.g hmg
    exact law_go KX G.T.g G.T.b G.T.builtins G.T.nolimit sy hg hobj hints (Nat.le_trans hlen hn2) hr hF bd (fun H hO hS => hsp H a ns hlen hO hS)
end NB

set_option Elab.async false
set_option linter.all false
set_option maxRecDepth 100000
set_option maxHeartbeats 4000000
/-! NbRp: repr of nested data with dicts. -/
namespace NB
open PySem PySem.Spec L2
open PyProof.Rows hiding St

def pyKD : Key → PyData
  | .inl i => .int i
  | .inr z => .str z
def pyAllK (f : W → Option PyData) : List (Key × W) → Option (List (PyData × PyData))
  | [] => some []
  | (k, w) :: r => match f w, pyAllK f r with
    | some d, some ds => some ((pyKD k, d) :: ds)
    | _, _ => none
/-- a value as data, lists and dicts read -/
def pyD (h : Hh) : Nat → W → Option PyData
  | 0, _ => none
  | n + 1, w => match w with
    | .non => some .none
    | .bl b => some (.bool b)
    | .int i => some (.int i)
    | .str s => some (.str s)
    | .tup ws => (pyAll (pyD h n) ws).map PyData.tuple
    | .rls ws => (pyAll (pyD h n) ws).map PyData.list
    | .loc i => match h[i]? with
      | some (.lst ws) => (pyAll (pyD h n) ws).map PyData.list
      | some (.dct false kvs) => (pyAllK (pyD h n) kvs).map PyData.dict
      | _ => none
    | .cl _ => none
section
variable {X : Cx} {pins : List (Addr × Obj)} {σ : St} {H : Hp} {s : Shared} {ι : List Addr} {h : Hh}
theorem sys_is (I : Inv X pins σ H s) (hk : SysB X.base) : ∃ o, s.heap.get? sysModules = some o ∧ o.cls = .type "dict" := by
  obtain ⟨o, e, c⟩ := hk
  exact ⟨o, I.bk _ _ e, c⟩
theorem all_reads {f : W → Option PyData} {hp : Heap} (hf : ∀ w v u d, Rv X.K H ι w v → RelV v u → f w = some d → ∃ as, Reads hp u d as ∧ sysModules ∉ as) : ∀ {ws : List W} {xs : List V} {us : List Value} {ds : List PyData}, Rvs X.K H ι ws xs → Vals xs us → pyAll f ws = some ds → ∃ as, ReadsAll hp us ds as ∧ sysModules ∉ as
  | [], xs, us, ds, r, v, e => by
    cases (show xs = [] from r)
    cases v
    cases (show some [] = some ds from e)
    exact ⟨[], .nil, List.not_mem_nil⟩
  | w :: ws, xs, us, ds, r, v, e => by
    obtain ⟨x, r, rfl, a, t⟩ := r
    cases v with
    | cons v1 v2 =>
      unfold pyAll at e
      split at e
      · rename_i d ds' e1 e2
        cases e
        obtain ⟨as, r1, n1⟩ := hf _ _ _ _ a v1 e1
        obtain ⟨bs, r2, n2⟩ := all_reads hf t v2 e2
        exact ⟨as ++ bs, .cons r1 r2, fun z => (List.mem_append.mp z).elim n1 n2⟩
      · cases e
theorem key_reads {hp : Heap} {k : Key} {v : Value} (hk : keyIs k v = true) : Reads hp v (pyKD k) [] := by
  rcases keyIs_shape hk with ⟨i, t, rfl, rfl⟩ | ⟨x, t, rfl, rfl⟩
  · exact .int i t
  · exact .str x t
theorem kv_reads {f : W → Option PyData} {hp : Heap} (hf : ∀ w v u d, Rv X.K H ι w v → RelV v u → f w = some d → ∃ as, Reads hp u d as ∧ sysModules ∉ as) : ∀ {kvs : List (Key × W)} {ys : List (Key × V)} {vs : List (Key × Value)} {es : List DictEntry} {ds : List (PyData × PyData)}, Rkv X.K H ι kvs ys → KV ys vs → Pairs (mixKind X.prog X.w) es vs → pyAllK f kvs = some ds →
    ReadsAll hp (es.map (·.key)) (ds.map (·.1)) [] ∧ ∃ bs, ReadsAll hp (es.map (·.val)) (ds.map (·.2)) bs ∧ sysModules ∉ bs
  | [], ys, vs, es, ds, r, kv, p, e => by
    cases (show ys = [] from r)
    cases kv
    cases p
    cases (show some [] = some ds from e)
    exact ⟨.nil, [], .nil, List.not_mem_nil⟩
  | (k, w) :: kvs, ys, vs, es, ds, r, kv, p, e => by
    obtain ⟨x, r, rfl, a, t⟩ := r
    cases kv with
    | cons v1 v2 =>
      cases p with
      | cons p1 p2 p3 =>
        unfold pyAllK at e
        split at e
        · rename_i d ds' e1 e2
          cases e
          obtain ⟨q1, bs, q2, n2⟩ := kv_reads hf t v2 p3 e2
          obtain ⟨as, r1, n1⟩ := hf _ _ _ _ a v1.2 e1
          have kk := key_reads (hp := hp) p1
          rw [← v1.1] at kk
          refine ⟨.cons kk q1, as ++ bs, ?_, fun z => (List.mem_append.mp z).elim n1 n2⟩
          rw [List.map_cons, p2]
          exact .cons r1 q2
        · cases e
theorem pyD_reads (I : Inv X pins σ H s) (hk : SysB X.base) (S : Sim X.K H ι h) : ∀ (n : Nat) (w : W) (v : V) (u : Value) (d : PyData), Rv X.K H ι w v → RelV v u → pyD h n w = some d → ∃ as, Reads s.heap u d as ∧ sysModules ∉ as
  | 0, _, _, _, _, _, _, e => by cases e
  | n + 1, w, v, u, d, r, rv, e => by
    obtain ⟨so, hs, hc⟩ := sys_is I hk
    have nl : ∀ (a : Addr) (o : Obj), s.heap.get? a = some o → o.cls = .type "list" → a ≠ sysModules := fun a o e c z => by
      subst z
      rw [hs] at e
      cases e
      rw [hc] at c
      exact absurd (Value.type.inj c) (by decide)
    cases w with
    | cl C => cases e
    | non => cases r; cases rv; cases e; exact ⟨[], .none, List.not_mem_nil⟩
    | bl b => cases r; cases rv; cases e; exact ⟨[], .bool b, List.not_mem_nil⟩
    | int b => cases r; obtain ⟨t, rfl⟩ := rv; cases e; exact ⟨[], .int b t, List.not_mem_nil⟩
    | str b => cases r; obtain ⟨t, rfl⟩ := rv; cases e; exact ⟨[], .str b t, List.not_mem_nil⟩
    | tup ws =>
      obtain ⟨a, xs, rfl, t, r⟩ := r
      obtain rfl : u = Value.ref a := rv
      obtain ⟨ds, e1, rfl⟩ := Option.map_eq_some_iff.mp (show (pyAll (pyD h n) ws).map PyData.tuple = some d from e)
      obtain ⟨its, r1, ⟨o, eo, co, m, dd⟩, _⟩ := I.tuple t.sq
      obtain ⟨as, q, nq⟩ := all_reads (fun w v u d => pyD_reads I hk S n w v u d) r r1 e1
      exact ⟨as, .tuple eo co dd (by simpa using q), nq⟩
    | rls ws =>
      obtain ⟨a, xs, rfl, t, r⟩ := r
      obtain rfl : u = Value.ref a := rv
      obtain ⟨ds, e1, rfl⟩ := Option.map_eq_some_iff.mp (show (pyAll (pyD h n) ws).map PyData.list = some d from e)
      obtain ⟨its, r1, pl, _⟩ := I.list t.sq
      obtain ⟨o, eo, co, m, dd⟩ := pl.isList
      obtain ⟨as, q, nq⟩ := all_reads (fun w v u d => pyD_reads I hk S n w v u d) r r1 e1
      exact ⟨a :: as, .list eo co dd (by simpa using q), fun z => (List.mem_cons.mp z).elim (fun z => nl a o eo co z.symm) nq⟩
    | loc i =>
      obtain ⟨a, ei, rfl⟩ := r
      obtain rfl : u = Value.ref a := rv
      have e' : (match h[i]? with
        | some (.lst ws) => (pyAll (pyD h n) ws).map PyData.list
        | some (.dct false kvs) => (pyAllK (pyD h n) kvs).map PyData.dict
        | _ => none) = some d := e
      split at e'
      · rename_i e0
        obtain ⟨xs, q, r⟩ := S.lst e0 ei
        obtain ⟨ds, e1, rfl⟩ := Option.map_eq_some_iff.mp e'
        obtain ⟨its, r1, pl, _⟩ := I.list (.of q)
        obtain ⟨o, eo, co, m, dd⟩ := pl.isList
        obtain ⟨as, q, nq⟩ := all_reads (fun w v u d => pyD_reads I hk S n w v u d) r r1 e1
        exact ⟨a :: as, .list eo co dd (by simpa using q), fun z => (List.mem_cons.mp z).elim (fun z => nl a o eo co z.symm) nq⟩
      · rename_i kvs e0
        obtain ⟨ds, e1, rfl⟩ := Option.map_eq_some_iff.mp e'
        obtain ⟨a', e2, ys, q, r⟩ := S.ob _ _ e0
        rw [ei] at e2
        cases e2
        obtain ⟨_, ns, vs, kv, o, es, ep, eo, xo, dd, ks, pr, nd⟩ := dk_of I.hok q
        obtain ⟨q1, bs, q2, n2⟩ := kv_reads (fun w v u d => pyD_reads I hk S n w v u d) r kv pr e1
        refine ⟨a :: [] ++ bs, .dict eo xo.1 dd q1 q2, fun z => ?_⟩
        rcases List.mem_cons.mp z with z | z
        · rw [← z] at ns
          simp at ns
        · exact n2 z
      · cases e'
end
def reprD : List W → Hh → R W
  | [x], h => match pyD h 12 x with
    | some d => if d.showable = true ∧ d.depth ≤ 60 ∧ d.shown.length ≤ Sz then .ok (.str d.shown) h else .stk
    | none => .stk
  | _, _ => .stk
theorem c_reprD {X : Cx} (hg : Gd true X.A) (hk : SysB X.base) (hu : X.A.units + 64 < cLine) : CallR X (.builtin "repr") (rLs X.K reprD) := by
  intro pins s σ H xs us Q I r hq
  obtain ⟨ι, h, ws, S, ar, hw⟩ := hq
  unfold reprD at hw
  split at hw
  · obtain ⟨x, r1, rfl, rx, e⟩ := ar
    rw [show r1 = [] from e] at r
    obtain ⟨u, rfl, ru⟩ := vals1 r
    split at hw
    · rename_i d ed
      split at hw
      · rename_i hc
        obtain ⟨h1, h2, h3⟩ := hc
        obtain ⟨as, rd, ns⟩ := pyD_reads I hk S _ _ _ _ _ rx ru ed
        have q : Q (.str d.shown) H := hw _ _ _ S .refl rfl
        have h3' : d.shown.length ≤ sizeLine := by rw [sz_eq]; exact h3
        have fin : ∀ (h' : Heap) (u : Tok) (tk : Nat), (∀ b o, s.heap.get? b = some o → h'.get? b = some o) → EP X pins σ Q (.str d.shown u) { s with heap := h', toks := tk } := fun h' u tk hk' => ⟨.str d.shown, H, I.kept (t' := tk) hk', ⟨_, rfl⟩, q⟩
        cases u with
        | ref a => exact PySem.repr_of_reads' rd h1 (fun _ => ns) (hg rfl) (by omega) (fun _ _ e => e) fin h3'
        | none =>
          have e := rd
          cases e
          exact PySem.call_repr_gives (T := "NoneType") rfl PySem.F.slot_NoneType_repr PySem.F.entry_NoneType_repr (PySem.F.args_NoneType_repr_1 _) PySem.gives_none_repr (fin _ _ _ fun _ _ z => z) (hx := h3')
        | bool b => cases rd; exact PySem.P.repr_of_bool (by simpa [PyData.shown] using fin s.heap s.toks (s.toks + 1) fun _ _ z => z)
        | int i t => cases rd; exact PySem.P.repr_of_int (by simpa [PyData.showable] using h1) (by simpa [PyData.shown] using fin s.heap s.toks (s.toks + 1) fun _ _ z => z)
        | str z t => cases rd; exact PySem.P.repr_of_str (by simpa [PyData.shown] using fin s.heap s.toks (s.toks + 1) fun _ _ z => z) (by simpa [PyData.shown] using h3')
        | _ => cases rd
      · exact hw.elim
    · exact hw.elim
  · exact hw.elim
end NB

set_option Elab.async false
set_option linter.all false
set_option maxRecDepth 100000
set_option maxHeartbeats 4000000
/-! NbHx: facts of a head: properties and their getters; the hook with them. -/
namespace NB
open PySem PySem.Spec L2
open PyProof.Rows hiding St

/-- where a property's record stands, and its getter -/
def prA (K : PySem.W.Frag) (x f : Str) : Addr := match PySem.W.findIn K (.ref (He.ga K x)) f with
  | some (some (.ref p)) => p
  | _ => 0
def pgA (K : PySem.W.Frag) (x f : Str) : Addr := match PySem.W.recIn K (prA K x f) "property" with
  | some (.ref q :: _) => q
  | _ => 0
def propB (K : PySem.W.Frag) (x f : Str) : Bool := He.eqO (PySem.W.findIn K (.ref (He.ga K x)) f) (some (some (.ref (prA K x f)))) && (He.eqO (PySem.W.specialIn K (.ref (prA K x f)) "__get__") (some (some (.builtin "property.__get__"))) &&
  (decide (PySem.W.takesIn K (.ref (prA K x f)) = some true) && match PySem.W.recIn K (prA K x f) "property" with
    | some (.ref q :: _) => true
    | _ => false))
theorem propB_ok {K : PySem.W.Frag} {x f : Str} (h : propB K x f = true) : PropOf K (He.ga K x) f (prA K x f) (pgA K x f) := by
  obtain ⟨h1, h⟩ := He.ba h
  obtain ⟨h2, h⟩ := He.ba h
  obtain ⟨h3, h4⟩ := He.ba h
  refine ⟨He.eqO_ok h1, He.eqO_ok h2, of_decide_eq_true h3, ?_⟩
  unfold pgA
  split at h4
  · rename_i q r e
    rw [e]
    exact ⟨r, rfl⟩
  · cases h4
/-- a module's tuple of texts -/
theorem tupW_ok {K : PySem.W.Frag} {x : Str} {zs : List Str} (h : He.tupB K x (zs.map He.Dv.str) = true) (H : Hp) (ι : List Addr) : Rv K H ι (.tup (zs.map W.str)) (.ref (He.ga K x)) := by
  have q := He.tupB_ok h (fun _ => none)
  have e : (zs.map He.Dv.str).map (He.Dv.v K) = zs.map V.str := by
    rw [List.map_map]
    rfl
  rw [e] at q
  rcases q with q | ⟨o, its, n, h1, h2, h3, h4, h5⟩
  · rcases q with q | ⟨o, q⟩ <;> exact nomatch q
  · refine ⟨_, zs.map V.str, rfl, ⟨?_, .inr ⟨o, its, n, h1, h2, h3, h4, h5⟩⟩, Rvs.ofStrs zs⟩
    have := h5.length
    rw [this, Array.length_toList]
    exact h4
/-- a getter as a def -/
structure GetD where
  cls : Str
  at_ : Str
  qual : Str
  params : Arguments
  body : List Stmt
  scope : Scope
def fnA (K : PySem.W.Frag) (a : Addr) : He.FnW := match K.lookup a with
  | some ⟨_, _, .func fd, _⟩ => some (fd.name, fd.qualname, fd.params, fd.body, fd.scope, fd.globals, fd.closure, fd.builtins)
  | _ => none
def GetD.val (d : GetD) : He.FnW := some (d.at_, d.qual, d.params, .stmts d.body, d.scope, mainGlobals, [], builtinsNs)
def GetD.ok (K : PySem.W.Frag) (d : GetD) : Bool := propB K d.cls d.at_ && (PySem.W.keepIn K (.ref (pgA K d.cls d.at_)) && match K.lookup (pgA K d.cls d.at_) with
  | some ⟨_, _, .func fd, _⟩ => PySem.W.codeIn K fd.code d.qual && (He.dflB K fd.defaults [] && He.kwdB K fd.kwdefaults [])
  | _ => false)
theorem GetD.funD {K : PySem.W.Frag} {d : GetD} (e : fnA K (pgA K d.cls d.at_) = d.val) (c : d.ok K = true) : PropOf K (He.ga K d.cls) d.at_ (prA K d.cls d.at_) (pgA K d.cls d.at_) ∧ ∃ fd, FunD K d.at_ d.qual d.params d.body d.scope [] [] (pgA K d.cls d.at_) fd := by
  obtain ⟨hp, c⟩ := He.ba c
  obtain ⟨kp, c⟩ := He.ba c
  refine ⟨propB_ok hp, ?_⟩
  unfold fnA at e
  split at e
  · rename_i oc od fd osl q
    rw [q] at c
    simp only at c
    obtain ⟨n1, n2, n3, n4, n5, n6, n7, n8, n9, n10, n11, n12, n13, n14, n15⟩ := fd
    unfold GetD.val at e
    simp only [Option.some.injEq, Prod.mk.injEq] at e
    obtain ⟨rfl, rfl, rfl, rfl, rfl, rfl, rfl, rfl⟩ := e
    obtain ⟨k1, k2⟩ := He.ba c
    obtain ⟨k3, k4⟩ := He.ba k2
    exact ⟨_, ⟨oc, od, n8, n9, n10, n11, n12, n13, n14, osl, rfl, q, k1, He.dflB_ok k3, He.kwdB_ok k4⟩, kp⟩
  · cases e
abbrev AlY : Type := He.AlX × (Bool × (Bool × List He.FnW))
def obsY (n : Nat) (fa : List He.Fa) (fn : List He.DefD) (gs : List GetD) (ex : PySem.W.Frag → Bool) (g : Addr → Option Obj) : AlY :=
  (He.obsX n fa fn [] [] ex g, match g sysModules with
    | some o => o.cls == .type "dict"
    | none => false, gs.all fun d => d.ok (He.frT g (He.asD g n)), gs.map fun d => fnA (He.frT g (He.asD g n)) (pgA (He.frT g (He.asD g n)) d.cls d.at_))
structure SaysY (fa : List He.Fa) (fn : List He.DefD) (gs : List GetD) (ex : PySem.W.Frag → Bool) (w : World) (h : Heap) (K : PySem.W.Frag) : Prop where
  x : He.SaysX fa fn [] [] ex w h K
  gd : ∀ d ∈ gs, PropOf K (He.ga K d.cls) d.at_ (prA K d.cls d.at_) (pgA K d.cls d.at_) ∧ ∃ fd, FunD K d.at_ d.qual d.params d.body d.scope [] [] (pgA K d.cls d.at_) fd
def hookG (n : Nat) (fa : List He.Fa) (fn : List He.DefD) (gs : List GetD) (ex : PySem.W.Frag → Bool) : PySem.W.Hook where
  α := AlY
  obs := fun s => obsY n fa fn gs ex s.heap.get?
  val := fun w => (He.valX fn [] w, true, true, gs.map GetD.val)
  says := fun w h => (∃ K : PySem.W.Frag, K.In h ∧ SaysY fa fn gs ex w h K) ∧ SysB h
  of := fun w s e => by
    have e1 := congrArg (fun z : AlY => z.1) e
    have e2 := congrArg (fun z : AlY => z.2.1) e
    have e3 := congrArg (fun z : AlY => z.2.2.1) e
    have e4 := congrArg (fun z : AlY => z.2.2.2) e
    refine ⟨⟨_, He.frT_in, He.saysX_of e1, fun d hd => GetD.funD ?_ (List.all_eq_true.mp e3 d hd)⟩, ?_⟩
    · have e4' : gs.map (fun d => fnA (He.frT s.heap.get? (He.asD s.heap.get? n)) (pgA (He.frT s.heap.get? (He.asD s.heap.get? n)) d.cls d.at_)) = gs.map GetD.val := e4
      exact List.map_inj_left.mp e4' d hd
    · unfold obsY at e2
      simp only at e2
      split at e2
      · rename_i o eo
        exact ⟨o, eo, eq_of_beq e2⟩
      · cases e2
  keeps := fun w h h' ⟨⟨K, hK, c⟩, o, e, hc⟩ k => ⟨⟨K, PySem.W.Frag.In.keeps hK k, ⟨c.x.t, c.x.more, c.x.hd, c.x.out, fun p hp => k _ _ (c.x.empty p hp)⟩, c.gd⟩, o, k _ _ e, hc⟩
theorem obsY_eq {n : Nat} {fa : List He.Fa} {fn : List He.DefD} {gs : List GetD} {ex : PySem.W.Frag → Bool} {g : Addr → Option Obj} {s : Shared} (h : ∀ a, g a = s.heap.get? a) : obsY n fa fn gs ex g = (hookG n fa fn gs ex).obs s := by
  have e : g = s.heap.get? := funext h
  subst e
  rfl
end NB

set_option Elab.async false
set_option linter.all false
set_option maxRecDepth 100000
set_option maxHeartbeats 4000000
/-! NbHe: a head's facts read off a few written addresses. -/
namespace NB
open PySem PySem.Spec L2
open PyProof.Rows hiding St

/-- what is known of the written part K -/
structure SaysE (fa : List He.Fa) (fn : List He.DefD) (gs : List GetD) (ex : PySem.W.Frag → Bool) (K : PySem.W.Frag) : Prop where
  d : He.SaysD fa fn K
  more : ex K = true
  gd : ∀ d ∈ gs, PropOf K (He.ga K d.cls) d.at_ (prA K d.cls d.at_) (pgA K d.cls d.at_) ∧ ∃ fd, FunD K d.at_ d.qual d.params d.body d.scope [] [] (pgA K d.cls d.at_) fd
abbrev AlE : Type := He.AlD × (Bool × (Bool × (Bool × List He.FnW)))
def obsK (fa : List He.Fa) (fn : List He.DefD) (gs : List GetD) (ex : PySem.W.Frag → Bool) (K : PySem.W.Frag) (b : Bool) : AlE :=
  (He.obsD fa fn K, ex K, b, gs.all (fun d => d.ok K), gs.map fun d => fnA K (pgA K d.cls d.at_))
def obsE (as : List Addr) (fa : List He.Fa) (fn : List He.DefD) (gs : List GetD) (ex : PySem.W.Frag → Bool) (g : Addr → Option Obj) : AlE :=
  obsK fa fn gs ex (He.frG g as) (match g sysModules with
    | some o => o.cls == .type "dict"
    | none => false)
def hookE (as : List Addr) (fa : List He.Fa) (fn : List He.DefD) (gs : List GetD) (ex : PySem.W.Frag → Bool) : PySem.W.Hook where
  α := AlE
  obs := fun s => obsE as fa fn gs ex s.heap.get?
  val := fun _ => (He.valD fn, true, true, true, gs.map GetD.val)
  says := fun _ h => (∃ K : PySem.W.Frag, K.In h ∧ SaysE fa fn gs ex K) ∧ SysB h
  of := fun w s e => by
    have e1 := congrArg (fun z : AlE => z.1) e
    have e2 := congrArg (fun z : AlE => z.2.1) e
    have e3 := congrArg (fun z : AlE => z.2.2.1) e
    have e4 := congrArg (fun z : AlE => z.2.2.2.1) e
    have e5 := congrArg (fun z : AlE => z.2.2.2.2) e
    refine ⟨⟨_, He.frG_in, e1, e2, fun d hd => GetD.funD ?_ (List.all_eq_true.mp e4 d hd)⟩, ?_⟩
    · have e5' : gs.map (fun d => fnA (He.frG s.heap.get? as) (pgA (He.frG s.heap.get? as) d.cls d.at_)) = gs.map GetD.val := e5
      exact List.map_inj_left.mp e5' d hd
    · unfold obsE obsK at e3
      simp only at e3
      split at e3
      · rename_i o eo
        exact ⟨o, eo, eq_of_beq e3⟩
      · cases e3
  keeps := fun w h h' ⟨⟨K, hK, c⟩, o, e, hc⟩ k => ⟨⟨K, PySem.W.Frag.In.keeps hK k, c⟩, o, k _ _ e, hc⟩
theorem obsE_eq {as : List Addr} {fa : List He.Fa} {fn : List He.DefD} {gs : List GetD} {ex : PySem.W.Frag → Bool} {g : Addr → Option Obj} {s : Shared} (h : ∀ a, g a = s.heap.get? a) : obsE as fa fn gs ex g = (hookE as fa fn gs ex).obs s := by
  have e : g = s.heap.get? := funext h
  rw [e] <;> rfl
end NB

set_option Elab.async false
set_option linter.all false
set_option maxRecDepth 100000
set_option maxHeartbeats 4000000
/-! NbDs: dict displays with texts as keys. -/
namespace NB
open PySem PySem.Spec L2
open PyProof.Rows hiding St

def dispR (s : Sg) : List (Key × FE) → List (Key × W) → Hh → R (List (Key × W))
  | [], acc, h => .ok acc h
  | (k, f) :: r, acc, h => (f s h).bind fun w h => dispR s r (acc ++ [(k, w)]) h
/-- {k: e, ..} -/
def bDisp (fs : List (Key × FE)) : FE := fun s h => (dispR s fs [] (h ++ [.dct false []])).bind fun kvs h' => match h'[h.length]? with
  | some (.dct false []) => if kvs.length ≤ 15 then .ok (.loc h.length) (h'.set h.length (.dct false (mergeW [] kvs))) else .stk
  | _ => .stk
inductive DJ (X : Cx) (E : Wish) : List (Option Expr) → List Expr → List (Key × FE) → Prop where
  | nil : DJ X E [] [] []
  | cons {z : Str} {j : Nat} {p : Pos} {e : Expr} {f : FE} {ks : List (Option Expr)} {vs : List Expr} {fs : List (Key × FE)} (h : PE X e (lE X.K E f)) (r : DJ X E ks vs fs) : DJ X E (some (.Constant (.str z) j p) :: ks) (e :: vs) ((.inr z, f) :: fs)
section
variable {X : Cx} {E : Wish}
theorem DJ.pps {pos : Pos} {ks : List (Option Expr)} {vs : List Expr} {fs : List (Key × FE)} (d : DJ X E ks vs fs) : PPs X pos ks vs (fs.map fun q => (tC (kV q.1), lE X.K E q.2)) := by
  induction d with
  | nil => exact pps_nil
  | cons h r ih => exact pps_cons pe_str h ih
theorem disp_ok {K : PySem.W.Frag} {α : Type} {σ : St} {s : Sg} {P : α → Hh → Prop} {Ex : Exn → Hh → Prop} {g : List (Key × W) → Hh → R α} : ∀ (fs : List (Key × FE)) (acc : List (Key × W)) (H : Hp) (ι : List Addr) (h : Hh) (Q : List (V × V) → Hp → Prop), Sim K H ι h → Sl K H ι s σ → wpR ((dispR s fs acc h).bind g) P Ex → Lands K E Ex s σ ι H →
    (∀ H1 ι1 h1 ws ys, Sim K H1 ι1 h1 → Ext ι H ι1 H1 → Rkv K H1 ι1 ws ys → wpR (g (acc ++ ws) h1) P Ex → Q (ys.map fun kv => (kV kv.1, kv.2)) H1) → tPairs (fs.map fun q => (tC (kV q.1), lE K E q.2)) σ H Q
  | [], acc, H, ι, h, Q, S, L, hw, _, hQ => hQ H ι h [] [] S .refl rfl (by
    unfold dispR at hw
    simpa using hw)
  | (k, f) :: fs, acc, H, ι, h, Q, S, L, hw, hx, hQ => by
    have hw' : wpR ((f s h).bind fun w h => (dispR s fs (acc ++ [(k, w)]) h).bind g) P Ex := by
      unfold dispR at hw
      cases e : f s h <;> rw [e] at hw <;> exact hw
    refine eB S L hw' hx fun v H1 ι1 h1 w S1 X1 r1 hw1 => disp_ok fs (acc ++ [(k, w)]) H1 ι1 h1 _ S1 (L.mono X1) hw1 (hx.mono X1) fun H2 ι2 h2 ws ys S2 X2 r2 q => ?_
    exact hQ H2 ι2 h2 ((k, w) :: ws) ((k, v) :: ys) S2 (X1.trans X2) ⟨v, ys, rfl, r1.mono X2, r2⟩ (by simpa using q)
theorem x_disp {pos : Pos} {ks : List (Option Expr)} {vs : List Expr} {fs : List (Key × FE)} (d : DJ X E ks vs fs) (hall : ks.all (·.isSome) = true := by rfl) (hl : ks.length = vs.length := by rfl) (h0 : ks ≠ [] := by exact nofun) (h15 : ks.length ≤ 15 := by decide) :
    PE X (.Dict ks vs pos) (lE X.K E (bDisp fs)) :=
  PE.imp (pe_disp d.pps hall hl h0 h15) fun σ H Q ⟨ι, s, h, S, L, hw⟩ p hp => by
    have S1 : Sim X.K (upd H p (.dK [])) (ι ++ [p]) (h ++ [.dct false []]) := S.push hp ⟨[], upd_same, rfl⟩
    have X1 := ext_push (ι := ι) (o := .dK []) hp
    refine disp_ok fs [] _ _ _ _ S1 (L.mono X1) hw (lands0.mono X1) fun H2 ι2 h2 ws ys S2 X2 r2 q => ?_
    rw [List.nil_append] at q
    split at q
    · rename_i e0
      split at q
      · rename_i l15
        obtain ⟨a, ea, ys0, qa, r0⟩ := S2.ob _ _ e0
        have ep := X2.pre _ _ (at_push (p := p) S)
        rw [ep] at ea
        cases ea
        cases (show ys0 = [] from r0)
        refine ⟨qa, ys, rfl, by rw [r2.len]; exact l15, ?_⟩
        obtain ⟨S3, X3⟩ := S2.setD e0 ep qa (merge_ok (acc := []) (bs := []) List.nodup_nil rfl r2)
        exact q _ _ _ S3 ((X1.trans X2).trans X3) ⟨p, X3.pre _ _ ep, rfl⟩
      · exact q.elim
    · exact q.elim
end
theorem x_strE {X : Cx} {E : Wish} {z z' : Str} {j pos} (h : z' = z) : PE X (.Constant (.str z) j pos) (lE X.K E (bC (.str z'))) := h ▸ x_str
end NB

set_option Elab.async false
set_option linter.all false
set_option maxRecDepth 100000
set_option maxHeartbeats 4000000
/-! NbP: how the functions on slots and heap reckon: for simp. -/
namespace NB
open PySem PySem.Spec L2
open PyProof.Rows hiding St

section
variable {s : Sg} {h : Hh} {w x y : W} {n i j : Nat} {k : Int} {ws us : List W} {kvs : List (Key × W)}
@[simp] theorem e_C : bC w s h = .ok w h := rfl
@[simp] theorem e_V : bV i s h = match s[i]? with | some (some w) => .ok w h | _ => .stk := rfl
@[simp] theorem e_Op (f : W → W → Hh → R W) (a b : FE) : bOp f a b s h = (a s h).bind fun x h => (b s h).bind fun y h => (f x y h).sure := rfl
@[simp] theorem e_T (a : FE) : bT a s h = (a s h).bind fun x h => match truB h x with | some b => .ok b h | none => .stk := rfl
@[simp] theorem e_Tc (a : FE) : bTc a s h = (a s h).bind fun x h => match x with | .bl b => .ok b h | _ => .stk := rfl
@[simp] theorem e_And (a b : FT) : bAnd a b s h = (a s h).bind fun x h => if x = true then b s h else .ok false h := rfl
@[simp] theorem e_Or (a b : FT) : bOr a b s h = (a s h).bind fun x h => if x = true then .ok true h else b s h := rfl
@[simp] theorem e_Not (a : FT) : bNot a s h = (a s h).bind fun x h => .ok (!x) h := rfl
@[simp] theorem e_If (c : FT) (a b : FE) : bIf c a b s h = (c s h).bind fun x h => if x = true then a s h else b s h := rfl
@[simp] theorem e_Nil : bNil s h = .ok [] h := rfl
@[simp] theorem e_Cons (a : FE) (b : FA) : bCons a b s h = (a s h).bind fun x h => (b s h).bind fun xs h => .ok (x :: xs) h := rfl
@[simp] theorem e_Tup (a : FA) : bTup a s h = (a s h).bind fun xs h => if xs.length ≤ Sz then .ok (.tup xs) h else .stk := rfl
@[simp] theorem e_Lst (a : FA) : bLst a s h = (a s h).bind fun xs h => if xs.length ≤ Sz then .ok (.loc h.length) (h ++ [.lst xs]) else .stk := rfl
@[simp] theorem e_CallS (f : List W → Hh → R W) (a : FA) : bCallS f a s h = (a s h).bind fun xs h => (f xs h).sure := rfl
@[simp] theorem e_Neg (a : FE) : bNeg a s h = (a s h).bind fun x h => match x with | .int i => .ok (.int (-i)) h | _ => .stk := rfl
@[simp] theorem e_Sl (a : FE) (lo hi : FO) : bSl a lo hi s h = (a s h).bind fun x h => (lo s h).bind fun l h => (hi s h).bind fun u h => (slW x l u h).sure := rfl
@[simp] theorem e_O0 : bO0 s h = .ok none h := rfl
@[simp] theorem e_O1 (a : FE) : bO1 a s h = (a s h).bind fun x h => match x with | .int i => .ok (some i) h | _ => .stk := rfl
@[simp] theorem e_Bm (T : String) (f : W → List W → Hh → R W) (o : FE) (a : FA) : bBm T f o a s h = (o s h).bind fun x h => if tyB T h x = true then (a s h).bind fun xs h => (f x xs h).sure else .stk := rfl
@[simp] theorem e_Fn (m : Nat) (f : List W → Hh → R W) (ds : List W) (a : FA) : bFn m f ds a s h = (a s h).bind fun xs h => if xs.length + ds.length = m then f (xs ++ ds) h else .stk := rfl
@[simp] theorem e_Is (T : String) (a : FE) : bIs T a s h = (a s h).bind fun x h => match isT T h x with | some b => .ok (.bl b) h | none => .stk := rfl
theorem e_Chain0 (f f' : W → W → Hh → R W) (a b c : FE) : bChain f f' a b c s h = (a s h).bind fun x h => (b s h).bind fun y h => ((f x y h).sure).bind fun z h => match z with | .bl true => (c s h).bind fun u h => (f' y u h).sure | .bl false => .ok (.bl false) h | _ => .stk := rfl
@[simp] theorem go_nm : Tg.go h (.nm i) w s = some (s.set i (some w)) := by unfold Tg.go; rfl
@[simp] theorem go_tp {ts : List Tg} : Tg.go h (.tp ts) (.tup ws) s = if ws.length = ts.length then Tg.gos h ts ws s else none := by
  conv => lhs; unfold Tg.go
@[simp] theorem gos_nil : Tg.gos h [] [] s = some s := by unfold Tg.gos; rfl
@[simp] theorem gos_cons {t : Tg} {ts : List Tg} : Tg.gos h (t :: ts) (w :: ws) s = match Tg.go h t w s with | some s => Tg.gos h ts ws s | none => none := by
  conv => lhs; unfold Tg.gos
  all_goals (cases Tg.go h t w s <;> rfl)
@[simp] theorem addW_int {i j : Int} : addW (.int i) (.int j) h = .ok (.int (i + j)) h := rfl
theorem addW_str {a b : Str} : addW (.str a) (.str b) h = if a.length + b.length ≤ Sz then .ok (.str (a ++ b)) h else .stk := rfl
theorem addW_tup {a b : List W} : addW (.tup a) (.tup b) h = if a.length + b.length ≤ Sz then .ok (.tup (a ++ b)) h else .stk := rfl
theorem mulW_str {z : Str} {k : Int} : mulW (.str z) (.int k) h = if k < 1000000 ∧ -1000000 < k ∧ z.length = 1 then .ok (.str ⟨(List.replicate k.toNat z.cps).foldl (· ++ ·) #[]⟩) h else .stk := rfl
theorem strW_int {k : Int} : strW [.int k] h = if k.natAbs < 10 ^ 100 then .ok (.str (toString k)) h else .stk := rfl
@[simp] theorem subW_int {i j : Int} : subW (.int i) (.int j) h = .ok (.int (i - j)) h := rfl
@[simp] theorem mulW_int {i j : Int} : mulW (.int i) (.int j) h = if (-18446744073709551616 < i ∧ i < 18446744073709551616) ∨ (-18446744073709551616 < j ∧ j < 18446744073709551616) then .ok (.int (i * j)) h else .stk := rfl
@[simp] theorem fdvW_int {i j : Int} : fdvW (.int i) (.int j) h = if 0 < j ∧ j < 100000000000000000000 then .ok (.int (i / j)) h else .stk := rfl
@[simp] theorem modW_int {i j : Int} : modW (.int i) (.int j) h = if 0 < j then .ok (.int (i % j)) h else .stk := rfl
@[simp] theorem powW_int {i j : Int} : powW (.int i) (.int j) h = if 0 ≤ j ∧ j ≤ 1000 ∧ -18446744073709551616 < i ∧ i < 18446744073709551616 then .ok (.int (i ^ j.toNat)) h else .stk := rfl
@[simp] theorem ltW_int {i j : Int} : ltW (.int i) (.int j) h = .ok (.bl (decide (i < j))) h := rfl
@[simp] theorem leW_int {i j : Int} : leW (.int i) (.int j) h = .ok (.bl (decide (i ≤ j))) h := rfl
@[simp] theorem gtW_int {i j : Int} : gtW (.int i) (.int j) h = .ok (.bl (decide (j < i))) h := rfl
@[simp] theorem geW_int {i j : Int} : geW (.int i) (.int j) h = .ok (.bl (decide (j ≤ i))) h := rfl
@[simp] theorem addI_int {i j : Int} : addI (.int i) (.int j) h = .ok (.int (i + j)) h := rfl
@[simp] theorem subI_int {i j : Int} : subI (.int i) (.int j) h = .ok (.int (i - j)) h := rfl
@[simp] theorem isW_non : isW x .non h = .ok (.bl (isNon x)) h := by cases x <;> rfl
@[simp] theorem isnW_non : isnW x .non h = .ok (.bl (!isNon x)) h := by cases x <;> rfl
@[simp] theorem isNon_non : isNon .non = true := rfl
@[simp] theorem isNon_tup : isNon (.tup ws) = false := rfl
@[simp] theorem isNon_loc : isNon (.loc n) = false := rfl
@[simp] theorem isNon_str {z : Str} : isNon (.str z) = false := rfl
@[simp] theorem isNon_int {z : Int} : isNon (.int z) = false := rfl
@[simp] theorem eqW_int {i j : Int} : eqW (.int i) (.int j) h = .ok (.bl (decide (i = j))) h := by
  unfold eqW eqB scV
  simp [scal]
@[simp] theorem eqW_str {i j : Str} : eqW (.str i) (.str j) h = .ok (.bl (decide (i = j))) h := by
  unfold eqW eqB scV
  simp [scal]
@[simp] theorem neW_int {i j : Int} : neW (.int i) (.int j) h = .ok (.bl (!decide (i = j))) h := by
  unfold neW eqB scV
  simp [scal]
@[simp] theorem neW_str {i j : Str} : neW (.str i) (.str j) h = .ok (.bl (!decide (i = j))) h := by
  unfold neW eqB scV
  simp [scal]
@[simp] theorem lenB_str {z : Str} (hz : z.length ≤ Sz) : lenB h (.str z) = some z.length := if_pos hz
@[simp] theorem lenB_tup : lenB h (.tup ws) = some ws.length := rfl
theorem lenW_lst (e : h[n]? = some (.lst ws)) : lenW [.loc n] h = .ok (.int ws.length) h := by
  unfold lenW lenB
  simp only [e]
theorem lenW_dct {b : Bool} (e : h[n]? = some (.dct b kvs)) : lenW [.loc n] h = .ok (.int kvs.length) h := by
  unfold lenW lenB
  simp only [e]
@[simp] theorem lenW_tup : lenW [.tup ws] h = .ok (.int ws.length) h := rfl
theorem lenW_str {z : Str} (hz : z.length ≤ Sz) : lenW [.str z] h = .ok (.int z.length) h := by
  unfold lenW
  simp only [lenB_str hz]
theorem appW_lst (e : h[n]? = some (.lst ws)) (l : ws.length < Sz) : appW (.loc n) [w] h = .ok .non (h.set n (.lst (ws ++ [w]))) := by
  unfold appW
  simp only [e]
  rw [if_pos l]
theorem tyB_lst (e : h[n]? = some (.lst ws)) : tyB "list" h (.loc n) = true := by
  unfold tyB
  simp [e]
@[simp] theorem tyB_str {z : Str} : tyB "str" h (.str z) = true := by
  unfold tyB
  simp
theorem listW_lst (e : h[n]? = some (.lst ws)) : listW [.loc n] h = .ok (.loc h.length) (h ++ [.lst ws]) := by
  unfold listW
  simp only [e]
theorem listW_dct (e : h[n]? = some (.dct false kvs)) : listW [.loc n] h = .ok (.loc h.length) (h ++ [.lst (kvs.map fun kv => kW kv.1)]) := by
  unfold listW
  simp only [e]
@[simp] theorem listW_tup : listW [.tup ws] h = .ok (.loc h.length) (h ++ [.lst ws]) := rfl
@[simp] theorem tupleW_tup : tupleW [.tup ws] h = .ok (.tup ws) h := rfl
theorem tupleW_lst (e : h[n]? = some (.lst ws)) (l : ws.length ≤ Sz) : tupleW [.loc n] h = .ok (.tup ws) h := by
  unfold tupleW
  simp only [e]
  rw [if_pos l]
theorem srcSeq_lst (e : h[n]? = some (.lst ws)) : srcSeq h (.loc n) = some ⟨ws, fun h => h[n]? = some (.lst ws)⟩ := by
  unfold srcSeq
  simp only [e]
@[simp] theorem srcSeq_tup : srcSeq h (.tup ws) = some ⟨ws, fun _ => True⟩ := rfl
@[simp] theorem srcSeq_rls : srcSeq h (.rls ws) = some ⟨ws, fun _ => True⟩ := rfl
@[simp] theorem truB_bl {b : Bool} : truB h (.bl b) = some b := rfl
@[simp] theorem truB_non : truB h .non = some false := rfl
@[simp] theorem truB_int {i : Int} : truB h (.int i) = some (i != 0) := rfl
@[simp] theorem truB_tup : truB h (.tup ws) = some (!ws.isEmpty) := rfl
theorem truB_lst (e : h[n]? = some (.lst ws)) : truB h (.loc n) = some (!ws.isEmpty) := by
  unfold truB
  simp only [e]
@[simp] theorem slW_tup {lo hi : Option Int} : slW (.tup ws) lo hi h = .ok (.tup (cutW ws lo hi)) h := rfl
theorem slW_lst {lo hi : Option Int} (e : h[n]? = some (.lst ws)) : slW (.loc n) lo hi h = .ok (.loc h.length) (h ++ [.lst (cutW ws lo hi)]) := by
  unfold slW
  simp only [e]
@[simp] theorem isT_tup {T : String} : isT T h (.tup ws) = some (T == "tuple") := rfl
@[simp] theorem isT_str {T : String} {z : Str} : isT T h (.str z) = some (T == "str") := rfl
theorem isT_dct {T : String} (e : h[n]? = some (.dct false kvs)) : isT T h (.loc n) = some (T == "dict") := by
  unfold isT
  simp only [e]
/-- by a truth value -/
def selB {α : Type} (z : W) (a b : R α) : R α := match z with
  | .bl true => a
  | .bl false => b
  | _ => .stk
@[simp] theorem selB_bl {α : Type} {b : Bool} {x y : R α} : selB (.bl b) x y = if b = true then x else y := by cases b <;> rfl
@[simp] theorem e_Chain (f f' : W → W → Hh → R W) (a b c : FE) : bChain f f' a b c s h = (a s h).bind fun x h => (b s h).bind fun y h => ((f x y h).sure).bind fun z h => selB z ((c s h).bind fun u h => (f' y u h).sure) (.ok (.bl false) h) := by
  unfold bChain
  rfl
@[simp] theorem sure_ok {α : Type} {a : α} : (R.ok a h).sure = .ok a h := rfl
@[simp] theorem sure_stk {α : Type} : (R.stk : R α).sure = .stk := rfl
@[simp] theorem st_ok {α : Type} {a : α} {k : α → Hh → R Fl} : (R.ok a h).st s k = k a h := rfl
@[simp] theorem st_exn {α : Type} {x : Exn} {k : α → Hh → R Fl} : (R.exn x h : R α).st s k = .ok (.ex x s) h := rfl
@[simp] theorem st_stk {α : Type} {k : α → Hh → R Fl} : (R.stk : R α).st s k = .stk := rfl
theorem bind_if {α β : Type} {c : Prop} [Decidable c] {x y : R α} {k : α → Hh → R β} : (if c then x else y).bind k = if c then x.bind k else y.bind k := by split <;> rfl
theorem st_if {α : Type} {c : Prop} [Decidable c] {x y : R α} {k : α → Hh → R Fl} : (if c then x else y).st s k = if c then x.st s k else y.st s k := by split <;> rfl
@[simp] theorem e_AndV (a b : FE) : bAndV a b s h = (a s h).bind fun x h => match truB h x with | some true => b s h | some false => .ok x h | none => .stk := rfl
@[simp] theorem e_OrV (a b : FE) : bOrV a b s h = (a s h).bind fun x h => match truB h x with | some true => .ok x h | some false => b s h | none => .stk := rfl
@[simp] theorem e_NotV (a : FE) : bNotV a s h = (a s h).bind fun x h => match truB h x with | some b => .ok (.bl (!b)) h | none => .stk := rfl
@[simp] theorem e_Fld (cs : List Str) (f : Str) (a : FE) : bFld cs f a s h = (a s h).bind fun x h => fldW cs f x h := rfl
@[simp] theorem e_Dict0 : bDict0 s h = .ok (.loc h.length) (h ++ [.dct false []]) := rfl
@[simp] theorem e_Me (C m : Str) (n : Nat) (f : List W → Hh → R W) (ds : List W) (o : FE) (a : FA) : bMe C m n f ds o a s h = (o s h).bind fun w h => match w with
  | .loc k => match h[k]? with
    | some (.ins D fs) => if D = C ∧ fs.lookup m = none then (a s h).bind fun xs h => if xs.length + ds.length + 1 = n then f (.loc k :: (xs ++ ds)) h else .stk else .stk
    | _ => .stk
  | _ => .stk := rfl
@[simp] theorem e_MeV (C m : Str) (f : List W → Hh → R W) (o : FE) (a : FA) : bMeV C m f o a s h = (o s h).bind fun w h => match w with
  | .loc k => match h[k]? with
    | some (.ins D fs) => if D = C ∧ fs.lookup m = none then (a s h).bind fun xs h => if xs.length ≤ Sz then f [.loc k, .tup xs] h else .stk else .stk
    | _ => .stk
  | _ => .stk := rfl
@[simp] theorem e_Mk (C : Str) (n : Nat) (f : List W → Hh → R W) (ds : List W) (a : FA) : bMk C n f ds a s h = (a s h).bind fun xs h => if xs.length + ds.length + 1 = n then (f (.loc h.length :: (xs ++ ds)) (h ++ [.ins C []])).bind (mkEnd h.length) else .stk := rfl
@[simp] theorem e_Con (C f : Str) (w : W) (a : FE) : bCon C f w a s h = (a s h).bind fun x h => conW C f w x h := rfl
@[simp] theorem e_LenSet (a : FE) : bLenSet a s h = (a s h).bind fun x h => lsW x h := rfl
@[simp] theorem e_Star (a : FE) (b : FA) : bStar a b s h = (a s h).bind fun x h => match seqW h x with
  | some ws => (b s h).bind fun us h => .ok (ws ++ us) h
  | none => .stk := rfl
@[simp] theorem e_Get2 (o k d : FE) : bGet2 o k d s h = (o s h).bind fun x h => if tyB "dict" h x = true then (k s h).bind fun y h => (d s h).bind fun z h => match x with
  | .loc n => match h[n]? with
    | some (.dct _ kvs) => match keyW y with
      | some j => .ok ((getK j kvs).getD z) h
      | none => .stk
    | _ => .stk
  | _ => .stk else .stk := rfl
@[simp] theorem e_to (t : Tg) (e : FE) : sTo t e s h = (e s h).st s fun w h => match t.go h w s with | some s => .ok (.nx s) h | none => .stk := rfl
@[simp] theorem e_iSeq (e : FE) : iSeq e s h = (e s h).bind fun x h => match srcSeq h x with | some sr => .ok sr h | none => .stk := rfl
@[simp] theorem e_iText (e : FE) : iText e s h = (e s h).bind fun x h => match x with | .str z => .ok ⟨z.cps.toList.map fun c => .str ⟨#[c]⟩, fun _ => True⟩ h | _ => .stk := rfl
@[simp] theorem e_iEnumS (e : FE) : iEnumS e s h = (e s h).bind fun x h => match srcSeq h x with | some sr => .ok ⟨enumW 0 0 sr.items, sr.ck⟩ h | none => .stk := rfl
@[simp] theorem e_Yes : bYes s h = .ok true h := rfl
@[simp] theorem e_par3 (a : FA) {l : Nat} : sPar3 i j l a s h = (a s h).st s fun ws h => match ws with | [x, y, z] => .ok (.nx (((s.set i (some x)).set j (some y)).set l (some z))) h | _ => .stk := rfl
@[simp] theorem e_att (cs : List Str) (f : Str) (o e : FE) : sAtt cs f o e s h = (e s h).st s fun v h => (o s h).st s fun x h => match x with
  | .loc n => match h[n]? with
    | some (.ins C fs) => if C ∈ cs ∧ fs.length < 1000 ∧ (fs.map (·.1)).Nodup then .ok (.nx s) (h.set n (.ins C (putA f v fs))) else .stk
    | _ => .stk
  | _ => .stk := rfl
@[simp] theorem e_augI (f : W → W → Hh → R W) (o i e : FE) : sAugI f o i e s h = (o s h).st s fun x h => (i s h).st s fun y h => match getA x y h with
  | .ok old h => (e s h).st s fun v h => match f old v h with
    | .ok z h => match setG x y z h with
      | .ok _ h => .ok (.nx s) h
      | _ => .stk
    | _ => .stk
  | _ => .stk := rfl
@[simp] theorem e_pass : sPass s h = .ok (.nx s) h := rfl
@[simp] theorem e_seq (f g : FS) : sSeq f g s h = (f s h).bind fun fl h => match fl with | .nx s => g s h | fl => .ok fl h := rfl
@[simp] theorem e_exp (e : FE) : sExp e s h = (e s h).st s fun _ h => .ok (.nx s) h := rfl
@[simp] theorem e_ret (e : FE) : sRet e s h = (e s h).st s fun w h => .ok (.rt w) h := rfl
@[simp] theorem e_if (c : FT) (f g : FS) : sIf c f g s h = (c s h).st s fun b h => if b = true then f s h else g s h := rfl
@[simp] theorem e_set (e : FE) : sSet i e s h = (e s h).st s fun w h => .ok (.nx (s.set i (some w))) h := rfl
@[simp] theorem e_par (a : FA) : sPar i j a s h = (a s h).st s fun ws h => match ws with | [x, y] => .ok (.nx ((s.set i (some x)).set j (some y))) h | _ => .stk := rfl
@[simp] theorem e_put (o i e : FE) : sPut o i e s h = (e s h).st s fun v h => (o s h).st s fun x h => (i s h).st s fun y h => match setG x y v h with | .ok _ h => .ok (.nx s) h | _ => .stk := rfl
@[simp] theorem e_endn {s : Sg} : endW (.ok (.nx s) h) = .ok .non h := rfl
@[simp] theorem e_endr : endW (.ok (.rt w) h) = .ok w h := rfl
theorem atI_nat (m : Nat) : atI ws (m : Int) = ws[m]? := by
  unfold L2.atI L2.ixN
  by_cases hm : m < ws.length
  · have h0 : (0 : Int) ≤ (m : Int) := Int.natCast_nonneg m
    simp [h0, hm]
  · simp [hm]
theorem atI_lit (m : Nat) : atI ws (OfNat.ofNat m : Int) = ws[m]? := atI_nat m
theorem atI_0 : atI ws 0 = ws[0]? := atI_nat 0
theorem atI_1 : atI ws 1 = ws[1]? := atI_nat 1
theorem ixG_lst (hn : h[n]? = some (.lst ws)) : ixG (.loc n) (.int k) h = match atI ws k with | some w => .ok w h | none => .stk := by
  unfold ixG
  simp only [hn]
  unfold ixW
  simp only [hn]
  try rfl
theorem ixG_tup : ixG (.tup ws) (.int k) h = match atI ws k with | some w => .ok w h | none => .stk := rfl
theorem ixG_rls : ixG (.rls ws) (.int k) h = match atI ws k with | some w => .ok w h | none => .stk := rfl
theorem ixG_dct {b : Bool} (hn : h[n]? = some (.dct b kvs)) {kk : Key} (hk : keyW y = some kk) : ixG (.loc n) y h = match getK kk kvs with | some w => .ok w h | none => .stk := by
  unfold ixG
  simp only [hn, hk]
  try rfl
theorem setG_lst (hn : h[n]? = some (.lst ws)) : setG (.loc n) (.int k) w h = match ixN ws.length k with | some j => .ok () (h.set n (.lst (ws.set j w))) | none => .stk := by
  unfold setG
  simp only [hn]
  try rfl
theorem ixN_nat {m j : Nat} (hj : j < m) : ixN m (j : Int) = some j := by
  unfold L2.ixN
  rw [if_pos (Int.natCast_nonneg j), if_pos (by omega)]
  rfl
end
end NB

set_option Elab.async false
set_option linter.all false
set_option maxRecDepth 100000
set_option maxHeartbeats 4000000
/-! NbFr: frames of data heaps; loops by invariants. -/
namespace NB
open PySem PySem.Spec L2
open PyProof.Rows hiding St

/-- the heap has grown; what stood, stands, but for the numbers in S -/
def Fr (S : List Nat) (h h' : Hh) : Prop := h.length ≤ h'.length ∧ ∀ i, i < h.length → i ∉ S → h'[i]? = h[i]?
theorem Fr.refl {S : List Nat} {h : Hh} : Fr S h h := ⟨Nat.le_refl _, fun _ _ _ => rfl⟩
theorem Fr.get {S : List Nat} {h h' : Hh} (f : Fr S h h') {i : Nat} {o : Ob} (e : h[i]? = some o) (n : i ∉ S) : h'[i]? = some o := (f.2 i (List.getElem?_eq_some_iff.mp e).1 n).trans e
theorem Fr.g0 {h h' : Hh} (f : Fr [] h h') {i : Nat} {o : Ob} (e : h[i]? = some o) : h'[i]? = some o := f.get e List.not_mem_nil
theorem Fr.trans {S : List Nat} {h h' h'' : Hh} (f : Fr S h h') (g : Fr S h' h'') : Fr S h h'' := ⟨Nat.le_trans f.1 g.1, fun i hi n => (g.2 i (Nat.lt_of_lt_of_le hi f.1) n).trans (f.2 i hi n)⟩
theorem Fr.sub {S T : List Nat} {h h' : Hh} (f : Fr S h h') (k : ∀ i ∈ S, i ∈ T) : Fr T h h' := ⟨f.1, fun i hi n => f.2 i hi fun z => n (k i z)⟩
theorem Fr.any {S : List Nat} {h h' : Hh} (f : Fr [] h h') : Fr S h h' := f.sub fun _ z => nomatch z
/-- what is written is younger than h0 -/
theorem Fr.young {S T : List Nat} {h0 h h' : Hh} (f : Fr S h0 h) (g : Fr T h h') (k : ∀ i ∈ T, i ∈ S ∨ h0.length ≤ i) : Fr S h0 h' :=
  ⟨Nat.le_trans f.1 g.1, fun i hi n => (g.2 i (Nat.lt_of_lt_of_le hi f.1) fun z => (k i z).elim n fun q => absurd hi (Nat.not_lt.mpr q)).trans (f.2 i hi n)⟩
theorem Fr.app {S : List Nat} {h t : Hh} : Fr S h (h ++ t) := ⟨by rw [List.length_append]; exact Nat.le_add_right _ _, fun i hi _ => List.getElem?_append_left hi⟩
theorem Fr.set {S : List Nat} {h : Hh} {n : Nat} {o : Ob} (hn : n ∈ S) : Fr S h (h.set n o) := ⟨by rw [List.length_set]; exact Nat.le_refl _, fun i hi z => List.getElem?_set_ne fun q => z (by rw [← q]; exact hn)⟩
theorem get_app {h t : Hh} {n : Nat} {o : Ob} (e : h[n]? = some o) : (h ++ t)[n]? = some o := (List.getElem?_append_left (List.getElem?_eq_some_iff.mp e).1).trans e
theorem get_new {h : Hh} {o : Ob} : (h ++ [o])[h.length]? = some o := by simp
theorem get_set {h : Hh} {n : Nat} {o u : Ob} (e : h[n]? = some u) : (h.set n o)[n]? = some o := List.getElem?_set_self (List.getElem?_eq_some_iff.mp e).1
theorem get_set_ne {h : Hh} {n m : Nat} {o u : Ob} (e : h[m]? = some u) (k : n ≠ m) : (h.set n o)[m]? = some u := (List.getElem?_set_ne k).trans e
theorem lt_of_get {h : Hh} {n : Nat} {o : Ob} (e : h[n]? = some o) : n < h.length := (List.getElem?_eq_some_iff.mp e).1

section
variable {α β : Type} {P : β → Hh → Prop} {E : Exn → Hh → Prop}
theorem wp_bind_eq {r : R α} {k : α → Hh → R β} : wpR (r.bind k) P E = wpR r (fun a h => wpR (k a h) P E) E := by cases r <;> rfl
theorem wp_ok {a : β} {h : Hh} : wpR (.ok a h) P E = P a h := rfl
theorem wp_st {r : R α} {s : Sg} {k : α → Hh → R Fl} {P : Fl → Hh → Prop} (h : wpR r (fun a h => wpR (k a h) P NoE) NoE) : wpR (r.st s k) P NoE := by
  cases r with
  | ok a h' => exact h
  | exn x h' => exact h.elim
  | stk => exact h.elim
/-- for: I i holds ahead of the item i -/
theorem for_ok {t : Tg} {b : FS} {ck : Hh → Prop} {P : Fl → Hh → Prop} {I : Nat → Sg → Hh → Prop} {all : List W}
    (step : ∀ i w s h, all[i]? = some w → I i s h → ck h ∧ ∃ s1, t.go h w s = some s1 ∧ wpR (b s1 h) (fun fl h' => match fl with
      | .nx s' => I (i + 1) s' h'
      | .ct s' => I (i + 1) s' h'
      | .bk s' => P (.nx s') h'
      | fl => P fl h') E)
    (last : ∀ s h, I all.length s h → ck h ∧ P (.nx s) h) : ∀ (ws : List W) (i : Nat) (s : Sg) (h : Hh), all.drop i = ws → i ≤ all.length → I i s h → wpR (forR t b ck ws s h) P E
  | [], i, s, h, e, le, hi => by
    have : i = all.length := by
      have := List.drop_eq_nil_iff.mp e
      omega
    subst this
    obtain ⟨c, p⟩ := last s h hi
    unfold forR
    rw [if_pos c]
    exact p
  | w :: ws, i, s, h, e, le, hi => by
    have e1 : all[i]? = some w := by
      have := congrArg (fun l : List W => l[0]?) e
      simpa [List.getElem?_drop] using this
    have e2 : all.drop (i + 1) = ws := by
      have := congrArg List.tail e
      simpa [List.tail_drop] using this
    have lt : i < all.length := (List.getElem?_eq_some_iff.mp e1).1
    obtain ⟨c, s1, g, q⟩ := step i w s h e1 hi
    unfold forR
    rw [if_pos c, g]
    simp only
    rw [wp_bind_eq]
    refine wpR_mono q (fun fl h' z => ?_) fun _ _ z => z
    cases fl with
    | nx s' => exact for_ok step last ws (i + 1) s' h' e2 lt z
    | ct s' => exact for_ok step last ws (i + 1) s' h' e2 lt z
    | bk s' => exact z
    | rt w => exact z
    | ex x s' => exact z
theorem for_ok0 {t : Tg} {b : FS} {ck : Hh → Prop} {P : Fl → Hh → Prop} {I : Nat → Sg → Hh → Prop} {all : List W} {s : Sg} {h : Hh} (start : I 0 s h)
    (step : ∀ i w s h, all[i]? = some w → I i s h → ck h ∧ ∃ s1, t.go h w s = some s1 ∧ wpR (b s1 h) (fun fl h' => match fl with
      | .nx s' => I (i + 1) s' h'
      | .ct s' => I (i + 1) s' h'
      | .bk s' => P (.nx s') h'
      | fl => P fl h') E)
    (last : ∀ s h, I all.length s h → ck h ∧ P (.nx s) h) : wpR (forR t b ck all s h) P E := for_ok step last all 0 s h rfl (Nat.zero_le _) start
/-- while: the measure falls -/
theorem wh_ok {c : FT} {b : FS} {P : Fl → Hh → Prop} {I : Nat → Sg → Hh → Prop}
    (step : ∀ m s h, I m s h → wpR (c s h) (fun k h1 => if k = true then wpR (b s h1) (fun fl h' => match fl with
      | .nx s' => ∃ m', m' < m ∧ I m' s' h'
      | .ct s' => ∃ m', m' < m ∧ I m' s' h'
      | .bk s' => P (.nx s') h'
      | fl => P fl h') NoE else P (.nx s) h1) NoE) : ∀ (n m : Nat) (s : Sg) (h : Hh), m < n → I m s h → wpR (whR c b n s h) P NoE
  | 0, m, s, h, lt, _ => absurd lt (Nat.not_lt_zero _)
  | n + 1, m, s, h, lt, hi => by
    unfold whR
    refine wp_st (wpR_mono (step m s h hi) (fun k h1 z => ?_) fun _ _ z => z)
    cases k with
    | false => exact z
    | true =>
      simp only [if_true] at z ⊢
      rw [wp_bind_eq]
      refine wpR_mono z (fun fl h' q => ?_) fun _ _ z => z
      cases fl with
      | nx s' => obtain ⟨m', l, j⟩ := q; exact wh_ok step n m' s' h' (by omega) j
      | ct s' => obtain ⟨m', l, j⟩ := q; exact wh_ok step n m' s' h' (by omega) j
      | bk s' => exact q
      | rt w => exact q
      | ex x s' => exact q
end
/-- a comprehension that only lets the heap grow -/
theorem lc_ok {t : Tg} {c : FT} {e : FE} {ck : Hh → Prop} {s : Sg} {p : W → Bool} {f : W → W} {h0 : Hh} : ∀ (ws : List W) (acc : List W) (h : Hh), Fr [] h0 h → acc.length + ws.length ≤ Sz →
    (∀ w ∈ ws, ∀ h, Fr [] h0 h → ck h ∧ ∃ s2, t.go h w s = some s2 ∧ ∃ h1, c s2 h = .ok (p w) h1 ∧ Fr [] h h1 ∧ (p w = true → ∃ h2, e s2 h1 = .ok (f w) h2 ∧ Fr [] h1 h2)) → (∀ h, Fr [] h0 h → ck h) →
    ∃ h', lcR t c e ck s acc ws h = .ok (acc ++ (ws.filter p).map f) h' ∧ Fr [] h h'
  | [], acc, h, fr, _, _, last => ⟨h, by unfold lcR; rw [if_pos (last h fr)]; simp, .refl⟩
  | w :: ws, acc, h, fr, hl, st, last => by
    obtain ⟨k, s2, g, h1, e1, f1, r⟩ := st w List.mem_cons_self h fr
    have st' := fun w hw => st w (List.mem_cons_of_mem _ hw)
    unfold lcR
    rw [if_pos k, g]
    simp only [e1, R.sure, R.bind_ok]
    by_cases hp : p w = true
    · obtain ⟨h2, e2, f2⟩ := r hp
      rw [hp]
      simp only [if_true, e2, R.sure, R.bind_ok]
      have l1 : acc.length < Sz := by simp only [List.length_cons] at hl; omega
      rw [if_pos l1]
      obtain ⟨h', q, f3⟩ := lc_ok ws (acc ++ [f w]) h2 (fr.trans (f1.trans f2)) (by simp only [List.length_append, List.length_cons, List.length_nil] at hl ⊢; omega) st' last
      refine ⟨h', ?_, (f1.trans f2).trans f3⟩
      rw [q, List.filter_cons_of_pos hp]
      simp
    · simp only [Bool.not_eq_true] at hp
      rw [hp]
      simp only [Bool.false_eq_true, if_false]
      obtain ⟨h', q, f3⟩ := lc_ok ws acc h1 (fr.trans f1) (by simp only [List.length_cons] at hl; omega) st' last
      refine ⟨h', ?_, f1.trans f3⟩
      rw [q, List.filter_cons_of_neg (by rw [hp]; simp)]
end NB

set_option Elab.async false
set_option linter.all false
set_option maxRecDepth 100000
set_option maxHeartbeats 4000000
/-! NbWp: statement by statement. -/
namespace NB
open PySem PySem.Spec L2
open PyProof.Rows hiding St

section
variable {P : Fl → Hh → Prop} {E : Exn → Hh → Prop} {f g : FS} {s s' : Sg} {h h' : Hh}
theorem wp_seq {M : Sg → Hh → Prop} (a : wpR (f s h) (fun fl h' => match fl with
    | .nx s' => M s' h'
    | fl => P fl h') E) (b : ∀ s' h', M s' h' → wpR (g s' h') P E) : wpR (sSeq f g s h) P E := by
  show wpR ((f s h).bind _) P E
  rw [wp_bind_eq]
  refine wpR_mono a (fun fl h' z => ?_) fun _ _ z => z
  cases fl with
  | nx s' => exact b s' h' z
  | ct s' => exact z
  | bk s' => exact z
  | rt w => exact z
  | ex x s' => exact z
theorem wp_step (a : f s h = .ok (.nx s') h') (b : wpR (g s' h') P E) : wpR (sSeq f g s h) P E := by
  show wpR ((f s h).bind _) P E
  rw [a]
  exact b
theorem wp_ret {w : W} (a : f s h = .ok (.rt w) h') (b : P (.rt w) h') : wpR (sSeq f g s h) P E := by
  show wpR ((f s h).bind _) P E
  rw [a]
  exact b
theorem wp_eq {α : Type} {P : α → Hh → Prop} {r : R α} {a : α} (e : r = .ok a h) (b : P a h) : wpR r P E := by
  rw [e]
  exact b
theorem wp_run {n : Nat} {m : FS} {ws : List W} {P : W → Hh → Prop} (a : wpR (m (startW n ws) h) (fun fl h' => match fl with
    | .nx _ => P .non h'
    | .rt w => P w h'
    | _ => False) NoE) : wpR (runB n m ws h) P NoE := by
  unfold runB
  cases e : m (startW n ws) h with
  | ok fl h' =>
    rw [e] at a
    cases fl with
    | nx s' => exact a
    | ct s' => exact a.elim
    | bk s' => exact a.elim
    | rt w => exact a
    | ex x s' => exact a.elim
  | exn x h' => rw [e] at a; exact a.elim
  | stk => rw [e] at a; exact a.elim
theorem wp_ex {α : Type} {P : α → Hh → Prop} {r : R α} (a : wpR r P NoE) : ∃ w h', r = .ok w h' ∧ P w h' := by
  cases r with
  | ok w h' => exact ⟨w, h', rfl, a⟩
  | exn x h' => exact a.elim
  | stk => exact a.elim
theorem wp_if {c : FT} {b : Bool} (e : c s h = .ok b h') (k : wpR (if b = true then f s h' else g s h') P E) : wpR (sIf c f g s h) P E := by
  rw [e_if, e]
  exact k
end
/-- locked and unlocked -/
theorem lock_fr {h h2 : Hh} {n : Nat} {kvs : List (Key × W)} (e : h[n]? = some (.dct false kvs)) (f : Fr [] (h.set n (.dct true kvs)) h2) : h2[n]? = some (.dct true kvs) ∧ Fr [] h (h2.set n (.dct false kvs)) := by
  have e1 := get_set (o := .dct true kvs) e
  have e2 := f.g0 e1
  refine ⟨e2, ?_, fun i hi ni => ?_⟩
  · have := f.1
    rw [List.length_set] at this ⊢
    exact this
  · by_cases z : n = i
    · subst z
      rw [e]
      exact get_set e2
    · rw [List.getElem?_set_ne z]
      have := f.2 i (by rw [List.length_set]; exact hi) ni
      rw [this, List.getElem?_set_ne z]
theorem bLock_ok {e f : FE} {s : Sg} {h h1 h2 : Hh} {n : Nat} {kvs : List (Key × W)} {w : W} (ee : e s h = .ok (.loc n) h1) (en : h[n]? = some (.dct false kvs)) (ef : f s (h.set n (.dct true kvs)) = .ok w h2) (f2 : Fr [] (h.set n (.dct true kvs)) h2) : bLock e f s h = .ok w (h2.set n (.dct false kvs)) ∧ Fr [] h (h2.set n (.dct false kvs)) := by
  obtain ⟨e2, fr⟩ := lock_fr en f2
  refine ⟨?_, fr⟩
  unfold bLock
  rw [ee]
  simp only [en, ef]
  rw [if_pos e2]
theorem bFn_ok {n : Nat} {f : List W → Hh → R W} {a : FA} {s : Sg} {h h1 : Hh} {xs : List W} {r : R W} (ea : a s h = .ok xs h1) (l : xs.length = n) (e : f xs h1 = r) : bFn n f [] a s h = r := by
  rw [e_Fn, ea]
  simp only [R.bind_ok, List.length_nil, Nat.add_zero, List.append_nil]
  rw [if_pos l, e]
theorem bMe_ok {C m : Str} {n k : Nat} {f : List W → Hh → R W} {o : FE} {a : FA} {s : Sg} {h h1 h2 : Hh} {fs : List (Str × W)} {xs : List W} {r : R W} (eo : o s h = .ok (.loc k) h1) (hk : h1[k]? = some (.ins C fs)) (nf : fs.lookup m = none) (ea : a s h1 = .ok xs h2) (l : xs.length + 1 = n) (e : f (.loc k :: xs) h2 = r) : bMe C m n f [] o a s h = r := by
  rw [e_Me, eo]
  simp only [R.bind_ok, hk]
  rw [if_pos ⟨trivial, nf⟩, ea]
  simp only [R.bind_ok, List.length_nil, Nat.add_zero, List.append_nil]
  rw [if_pos l, e]
theorem bMeV_ok {C m : Str} {k : Nat} {f : List W → Hh → R W} {o : FE} {a : FA} {s : Sg} {h h1 h2 : Hh} {fs : List (Str × W)} {xs : List W} {r : R W} (eo : o s h = .ok (.loc k) h1) (hk : h1[k]? = some (.ins C fs)) (nf : fs.lookup m = none) (ea : a s h1 = .ok xs h2) (l : xs.length ≤ Sz) (e : f [.loc k, .tup xs] h2 = r) : bMeV C m f o a s h = r := by
  rw [e_MeV, eo]
  simp only [R.bind_ok, hk]
  rw [if_pos ⟨trivial, nf⟩, ea]
  simp only [R.bind_ok]
  rw [if_pos l, e]
/-- items as they stand, and what they stand for -/
def Al {α : Type} (R : α → W → Prop) : List α → List W → Prop
  | [], ws => ws = []
  | a :: as, ws => ∃ w r, ws = w :: r ∧ R a w ∧ Al R as r
theorem Al.len {α : Type} {R : α → W → Prop} : ∀ {as : List α} {ws : List W}, Al R as ws → ws.length = as.length
  | [], _, r => by rw [show _ = [] from r]; rfl
  | _ :: _, _, ⟨w, r, e, _, t⟩ => by rw [e, List.length_cons, List.length_cons, t.len]
theorem Al.mono {α : Type} {R R' : α → W → Prop} (k : ∀ a w, R a w → R' a w) : ∀ {as : List α} {ws : List W}, Al R as ws → Al R' as ws
  | [], _, r => r
  | _ :: _, _, ⟨w, r, e, q, t⟩ => ⟨w, r, e, k _ _ q, t.mono k⟩
theorem Al.get {α : Type} {R : α → W → Prop} : ∀ {as : List α} {ws : List W} {i : Nat} {a : α}, Al R as ws → as[i]? = some a → ∃ w, ws[i]? = some w ∧ R a w
  | [], _, _, _, _, e => by simp at e
  | _ :: _, _, 0, _, ⟨w, r, e1, q, _⟩, e => by
    simp only [List.getElem?_cons_zero, Option.some.injEq] at e
    subst e e1
    exact ⟨w, rfl, q⟩
  | _ :: _, _, i + 1, _, ⟨w, r, e1, _, t⟩, e => by
    subst e1
    exact Al.get (i := i) t (by simpa using e)
theorem Al.app {α : Type} {R : α → W → Prop} : ∀ {as bs : List α} {ws us : List W}, Al R as ws → Al R bs us → Al R (as ++ bs) (ws ++ us)
  | [], _, _, _, r, q => by rw [show _ = [] from r]; exact q
  | _ :: _, _, _, _, ⟨w, r, e1, a, t⟩, q => by rw [e1]; exact ⟨w, _, rfl, a, Al.app t q⟩
theorem Al.one {α : Type} {R : α → W → Prop} {a : α} {w : W} (r : R a w) : Al R [a] [w] := ⟨w, [], rfl, r, rfl⟩
theorem Al.map {α : Type} {R : α → W → Prop} {f : α → W} : ∀ {as : List α}, (∀ a ∈ as, R a (f a)) → Al R as (as.map f)
  | [], _ => rfl
  | a :: as, k => ⟨f a, _, rfl, k a List.mem_cons_self, Al.map fun b hb => k b (List.mem_cons_of_mem _ hb)⟩
theorem Al.eq {α : Type} {f : α → W} : ∀ {as : List α} {ws : List W}, Al (fun a w => w = f a) as ws → ws = as.map f
  | [], _, r => r
  | _ :: _, _, ⟨w, r, e, q, t⟩ => by rw [e, q, t.eq]; rfl
/-- a comprehension over items that stand for things: what it takes is what p says, what it makes stands for f -/
theorem lc_al {α β : Type} {t : Tg} {c : FT} {e : FE} {ck : Hh → Prop} {s : Sg} {p : α → Bool} {f : α → β} {A : α → W → Prop} {Q : Hh → β → W → Prop} {h0 : Hh}
    (up : ∀ b w h h', Fr [] h h' → Q h b w → Q h' b w) : ∀ (as : List α) (ws : List W) (bs : List β) (acc : List W) (h : Hh), Al A as ws → Al (Q h) bs acc → Fr [] h0 h → acc.length + ws.length ≤ Sz →
    (∀ a ∈ as, ∀ w h, A a w → Fr [] h0 h → ck h ∧ ∃ s2, t.go h w s = some s2 ∧ ∃ h1, c s2 h = .ok (p a) h1 ∧ Fr [] h h1 ∧ (p a = true → ∃ v h2, e s2 h1 = .ok v h2 ∧ Fr [] h1 h2 ∧ Q h2 (f a) v)) → (∀ h, Fr [] h0 h → ck h) →
    ∃ rs h', lcR t c e ck s acc ws h = .ok rs h' ∧ Fr [] h h' ∧ Al (Q h') (bs ++ (as.filter p).map f) rs
  | [], ws, bs, acc, h, ha, hb, fr, _, _, last => by
    rw [show ws = [] from ha]
    refine ⟨acc, h, ?_, .refl, by simpa using hb⟩
    unfold lcR
    rw [if_pos (last h fr)]
  | a :: as, _, bs, acc, h, ⟨w, ws, rfl, aw, ha⟩, hb, fr, hl, st, last => by
    obtain ⟨k, s2, g, h1, e1, f1, r⟩ := st a List.mem_cons_self w h aw fr
    have st' := fun a ha => st a (List.mem_cons_of_mem _ ha)
    unfold lcR
    rw [if_pos k, g]
    simp only [e1, R.sure, R.bind_ok]
    by_cases hp : p a = true
    · obtain ⟨v, h2, e2, f2, q2⟩ := r hp
      rw [hp]
      simp only [if_true, e2, R.sure, R.bind_ok]
      have l1 : acc.length < Sz := by simp only [List.length_cons] at hl; omega
      rw [if_pos l1]
      obtain ⟨rs, h', q, f3, al⟩ := lc_al up as ws (bs ++ [f a]) (acc ++ [v]) h2 ha (Al.app (hb.mono fun b w z => up _ _ _ _ (f1.trans f2) z) (.one q2)) (fr.trans (f1.trans f2)) (by simp only [List.length_append, List.length_cons, List.length_nil] at hl ⊢; omega) st' last
      refine ⟨rs, h', q, (f1.trans f2).trans f3, ?_⟩
      rw [List.filter_cons_of_pos hp]
      simpa using al
    · simp only [Bool.not_eq_true] at hp
      rw [hp]
      simp only [Bool.false_eq_true, if_false]
      obtain ⟨rs, h', q, f3, al⟩ := lc_al up as ws bs acc h1 ha (hb.mono fun b w z => up _ _ _ _ f1 z) (fr.trans f1) (by simp only [List.length_cons] at hl; omega) st' last
      refine ⟨rs, h', q, f1.trans f3, ?_⟩
      rw [List.filter_cons_of_neg (by rw [hp]; simp)]
      exact al
/-- the whole comprehension -/
theorem blc_al {α β : Type} {it : FI} {t : Tg} {c : FT} {e : FE} {vs : List Nat} {s : Sg} {p : α → Bool} {f : α → β} {A : α → W → Prop} {Q : Hh → β → W → Prop} {h h0 : Hh} {ws : List W} {ck : Hh → Prop} {as : List α}
    (hi : it s h = .ok ⟨ws, ck⟩ h0) (hh : Fr [] h h0) (ha : Al A as ws) (hl : ws.length ≤ Sz)
    (up : ∀ b w h h', Fr [] h h' → Q h b w → Q h' b w)
    (st : ∀ a ∈ as, ∀ w h, A a w → Fr [] h0 h → ck h ∧ ∃ s2, t.go h w (wipeG s vs) = some s2 ∧ ∃ h1, c s2 h = .ok (p a) h1 ∧ Fr [] h h1 ∧ (p a = true → ∃ v h2, e s2 h1 = .ok v h2 ∧ Fr [] h1 h2 ∧ Q h2 (f a) v)) (last : ∀ h, Fr [] h0 h → ck h) :
    ∃ rs n h', bLc it t c e vs s h = .ok (.loc n) h' ∧ Fr [] h h' ∧ h.length ≤ n ∧ h'[n]? = some (.lst rs) ∧ Al (Q h') ((as.filter p).map f) rs := by
  obtain ⟨rs, h', q, fr, al⟩ := lc_al (t := t) (c := c) (e := e) (ck := ck) (s := wipeG s vs) (p := p) (f := f) (A := A) (Q := Q) (h0 := h0) up as ws [] [] h0 ha rfl .refl (by simpa using hl) st last
  refine ⟨rs, h'.length, h' ++ [.lst rs], ?_, hh.trans (fr.trans .app), (hh.trans fr).1, get_new, ?_⟩
  · unfold bLc
    rw [hi]
    simp only [R.bind_ok]
    rw [q]
    rfl
  · exact al.mono fun b w z => up _ _ _ _ .app (by simpa using z)
end NB

set_option Elab.async false
set_option linter.all false
set_option maxRecDepth 100000
set_option maxHeartbeats 4000000
/-! NbEq: == of nested data. -/
namespace NB
open PySem PySem.Spec L2
open PyProof.Rows hiding St

/-- a text of signs -/
def oS (z : Str) : Prop := z.cps.all (· < 0x110000) = true
theorem pyAll_al {f : W → Option PyData} : ∀ {ds : List PyData} {ws : List W}, Al (fun d w => f w = some d) ds ws → pyAll f ws = some ds
  | [], _, r => by rw [show _ = [] from r]; rfl
  | _ :: _, _, ⟨w, r, e, q, t⟩ => by
    rw [e]
    unfold pyAll
    rw [q, pyAll_al t]
/-- w reads as d, of at most k levels -/
def Rd (h : Hh) (k : Nat) (d : PyData) (w : W) : Prop := (∀ n, k < n → pyW h n w = some d) ∧ d.canLay0 = true ∧ d.depth ≤ k
theorem canLayAll_al {f : PyData → W → Prop} (k : ∀ d w, f d w → d.canLay0 = true) : ∀ {ds : List PyData} {ws : List W}, Al f ds ws → PyData.canLayAll0 ds = true
  | [], _, _ => by unfold PyData.canLayAll0; rfl
  | d :: ds, _, ⟨w, r, e, q, t⟩ => by
    unfold PyData.canLayAll0
    rw [k _ _ q, canLayAll_al k t]
    rfl
theorem depthAll_al {f : PyData → W → Prop} {n : Nat} (k : ∀ d w, f d w → d.depth ≤ n) : ∀ {ds : List PyData} {ws : List W}, Al f ds ws → PyData.depthAll ds ≤ n
  | [], _, _ => by unfold PyData.depthAll; exact Nat.zero_le _
  | d :: ds, _, ⟨w, r, e, q, t⟩ => by
    unfold PyData.depthAll
    exact Nat.max_le.mpr ⟨k _ _ q, depthAll_al k t⟩
theorem Rd.str {h : Hh} {k : Nat} {z : Str} (o : oS z) : Rd h k (.str z) (.str z) := ⟨fun n hn => by cases n with
  | zero => omega
  | succ n => rfl, by unfold PyData.canLay0; exact o, by unfold PyData.depth; exact Nat.zero_le _⟩
theorem Rd.int {h : Hh} {k : Nat} {z : Int} : Rd h k (.int z) (.int z) := ⟨fun n hn => by cases n with
  | zero => omega
  | succ n => rfl, by unfold PyData.canLay0; rfl, by unfold PyData.depth; exact Nat.zero_le _⟩
theorem Rd.bl {h : Hh} {k : Nat} {z : Bool} : Rd h k (.bool z) (.bl z) := ⟨fun n hn => by cases n with
  | zero => omega
  | succ n => rfl, by unfold PyData.canLay0; rfl, by unfold PyData.depth; exact Nat.zero_le _⟩
theorem Rd.non {h : Hh} {k : Nat} : Rd h k .none .non := ⟨fun n hn => by cases n with
  | zero => omega
  | succ n => rfl, by unfold PyData.canLay0; rfl, by unfold PyData.depth; exact Nat.zero_le _⟩
theorem Rd.tup {h : Hh} {k : Nat} {ds : List PyData} {ws : List W} (a : Al (Rd h k) ds ws) : Rd h (k + 1) (.tuple ds) (.tup ws) := ⟨fun n hn => by
  cases n with
  | zero => omega
  | succ n =>
    show (pyAll (pyW h n) ws).map PyData.tuple = _
    rw [pyAll_al (a.mono fun d w q => q.1 n (by omega))]
    rfl, by unfold PyData.canLay0; exact canLayAll_al (fun _ _ q => q.2.1) a, by unfold PyData.depth; exact Nat.succ_le_succ (depthAll_al (fun _ _ q => q.2.2) a)⟩
theorem Rd.rls {h : Hh} {k : Nat} {ds : List PyData} {ws : List W} (a : Al (Rd h k) ds ws) : Rd h (k + 1) (.list ds) (.rls ws) := ⟨fun n hn => by
  cases n with
  | zero => omega
  | succ n =>
    show (pyAll (pyW h n) ws).map PyData.list = _
    rw [pyAll_al (a.mono fun d w q => q.1 n (by omega))]
    rfl, by unfold PyData.canLay0; exact canLayAll_al (fun _ _ q => q.2.1) a, by unfold PyData.depth; exact Nat.succ_le_succ (depthAll_al (fun _ _ q => q.2.2) a)⟩
theorem Rd.lst {h : Hh} {k : Nat} {ds : List PyData} {ws : List W} {m : Nat} (e : h[m]? = some (.lst ws)) (a : Al (Rd h k) ds ws) : Rd h (k + 1) (.list ds) (.loc m) := ⟨fun n hn => by
  cases n with
  | zero => omega
  | succ n =>
    show (match h[m]? with
      | some (.lst ws) => (pyAll (pyW h n) ws).map PyData.list
      | _ => none) = _
    rw [e]
    simp only
    rw [pyAll_al (a.mono fun d w q => q.1 n (by omega))]
    rfl, by unfold PyData.canLay0; exact canLayAll_al (fun _ _ q => q.2.1) a, by unfold PyData.depth; exact Nat.succ_le_succ (depthAll_al (fun _ _ q => q.2.2) a)⟩
theorem Rd.up {h : Hh} {k k' : Nat} {d : PyData} {w : W} (r : Rd h k d w) (l : k ≤ k') : Rd h k' d w := ⟨fun n hn => r.1 n (Nat.lt_of_le_of_lt l hn), r.2.1, Nat.le_trans r.2.2 l⟩
theorem Rd.shaped {h : Hh} {k : Nat} {d : PyData} {w : W} (r : Rd h k d w) (l : k ≤ 64) : SeqAt.shaped d = true := by
  unfold SeqAt.shaped
  rw [r.2.1, decide_eq_true (Nat.le_trans r.2.2 l)]
  rfl
theorem eqData_rd {h : Hh} {k : Nat} {d e : PyData} {x y : W} (a : Rd h k d x) (b : Rd h k e y) (l : k < 9) : eqData h x y = some (PyData.eqv d e) := by
  unfold eqData
  rw [a.1 9 l, b.1 9 l]
  simp only
  rw [if_pos ⟨a.shaped (by omega), b.shaped (by omega)⟩]
theorem pyAll_mono {f g : W → Option PyData} (k : ∀ w d, f w = some d → g w = some d) : ∀ {ws : List W} {ds : List PyData}, pyAll f ws = some ds → pyAll g ws = some ds
  | [], _, e => e
  | w :: ws, ds, e => by
    unfold pyAll at e ⊢
    split at e
    · rename_i e1 e2
      cases e
      rw [k _ _ e1, pyAll_mono k e2]
    · cases e
theorem pyW_fr {h h' : Hh} (f : Fr [] h h') : ∀ (n : Nat) (w : W) (d : PyData), pyW h n w = some d → pyW h' n w = some d
  | 0, _, _, e => by cases e
  | n + 1, w, d, e => by
    cases w with
    | cl C => exact e
    | non => exact e
    | bl b => exact e
    | int b => exact e
    | str b => exact e
    | tup ws =>
      obtain ⟨ds, e1, rfl⟩ := Option.map_eq_some_iff.mp (show (pyAll (pyW h n) ws).map PyData.tuple = some d from e)
      show (pyAll (pyW h' n) ws).map PyData.tuple = _
      rw [pyAll_mono (pyW_fr f n) e1]; rfl
    | rls ws =>
      obtain ⟨ds, e1, rfl⟩ := Option.map_eq_some_iff.mp (show (pyAll (pyW h n) ws).map PyData.list = some d from e)
      show (pyAll (pyW h' n) ws).map PyData.list = _
      rw [pyAll_mono (pyW_fr f n) e1]; rfl
    | loc i =>
      have e' : (match h[i]? with
        | some (.lst ws) => (pyAll (pyW h n) ws).map PyData.list
        | _ => none) = some d := e
      show (match h'[i]? with
        | some (.lst ws) => (pyAll (pyW h' n) ws).map PyData.list
        | _ => none) = some d
      split at e'
      · rename_i e0
        rw [f.g0 e0]
        obtain ⟨ds, e1, rfl⟩ := Option.map_eq_some_iff.mp e'
        simp only
        rw [pyAll_mono (pyW_fr f n) e1]; rfl
      · cases e'
theorem Rd.fr {h h' : Hh} {k : Nat} {d : PyData} {w : W} (r : Rd h k d w) (f : Fr [] h h') : Rd h' k d w := ⟨fun n hn => pyW_fr f n w d (r.1 n hn), r.2⟩
/-- data that hang on no text: a list, a tuple -/
def isSq : W → Bool
  | .tup _ => true
  | .rls _ => true
  | .loc _ => true
  | _ => false
theorem eqB_rd {h : Hh} {k : Nat} {d e : PyData} {x y : W} (s : isSq x = true ∨ isSq y = true) (a : Rd h k d x) (b : Rd h k e y) (l : k < 9) : eqB h x y = some (PyData.eqv d e) := by
  unfold eqB
  have q := eqData_rd a b l
  split
  · rename_i u v e1 e2
    rcases s with s | s
    · cases x <;> simp [scV, isSq] at e1 s
    · cases y <;> simp [scV, isSq] at e2 s
  · exact q
theorem eqW_rd {h : Hh} {k : Nat} {d e : PyData} {x y : W} (s : isSq x = true ∨ isSq y = true) (a : Rd h k d x) (b : Rd h k e y) (l : k < 9) : eqW x y h = .ok (.bl (PyData.eqv d e)) h := by
  unfold eqW
  rw [eqB_rd s a b l]
theorem neW_rd {h : Hh} {k : Nat} {d e : PyData} {x y : W} (s : isSq x = true ∨ isSq y = true) (a : Rd h k d x) (b : Rd h k e y) (l : k < 9) : neW x y h = .ok (.bl (!PyData.eqv d e)) h := by
  unfold neW
  rw [eqB_rd s a b l]
theorem eqv_nil {ds : List PyData} : PyData.eqv (.list ds) (.list []) = ds.isEmpty := by
  unfold PyData.eqv
  cases ds <;> unfold PyData.eqvAll <;> rfl
theorem eqv_tnil {ds : List PyData} : PyData.eqv (.tuple ds) (.tuple []) = ds.isEmpty := by
  unfold PyData.eqv
  cases ds <;> unfold PyData.eqvAll <;> rfl
/-- a list against the empty list -/
theorem eq_nil {h : Hh} {k m n : Nat} {ds : List PyData} {ws : List W} (e : h[m]? = some (.lst ws)) (a : Al (Rd h k) ds ws) (z : h[n]? = some (.lst [])) (l : k < 8) : eqW (.loc m) (.loc n) h = .ok (.bl ws.isEmpty) h := by
  have b : Rd h (k + 1) (.list []) (.loc n) := .lst z rfl
  rw [eqW_rd (.inl rfl) (.lst e a) b (by omega), eqv_nil]
  have := a.len
  cases ds <;> cases ws <;> simp_all
theorem ne_nil {h : Hh} {k m n : Nat} {ds : List PyData} {ws : List W} (e : h[m]? = some (.lst ws)) (a : Al (Rd h k) ds ws) (z : h[n]? = some (.lst [])) (l : k < 8) : neW (.loc m) (.loc n) h = .ok (.bl (!ws.isEmpty)) h := by
  have b : Rd h (k + 1) (.list []) (.loc n) := .lst z rfl
  rw [neW_rd (.inl rfl) (.lst e a) b (by omega), eqv_nil]
  have := a.len
  cases ds <;> cases ws <;> simp_all
theorem ne_nil_rls {h : Hh} {k n : Nat} {ds : List PyData} {ws : List W} (a : Al (Rd h k) ds ws) (z : h[n]? = some (.lst [])) (l : k < 8) : neW (.rls ws) (.loc n) h = .ok (.bl (!ws.isEmpty)) h := by
  have b : Rd h (k + 1) (.list []) (.loc n) := .lst z rfl
  rw [neW_rd (.inl rfl) (.rls a) b (by omega), eqv_nil]
  have := a.len
  cases ds <;> cases ws <;> simp_all
/-- a == [], a != [] -/
theorem neNil_ok {a : FE} {s : Sg} {h h1 : Hh} {n k : Nat} {ws : List W} {ds : List PyData} (ea : a s h = .ok (.loc n) h1) (e : h1[n]? = some (.lst ws)) (r : Al (Rd h1 k) ds ws) (l : k < 8) : bTc (bOp neW a (bLst bNil)) s h = .ok (!ws.isEmpty) (h1 ++ [.lst []]) := by
  have := ne_nil (get_app (t := [.lst []]) e) (r.mono fun d w q => q.fr .app) (get_new (h := h1) (o := .lst [])) l
  simp [ea, this]
theorem eqNil_ok {a : FE} {s : Sg} {h h1 : Hh} {n k : Nat} {ws : List W} {ds : List PyData} (ea : a s h = .ok (.loc n) h1) (e : h1[n]? = some (.lst ws)) (r : Al (Rd h1 k) ds ws) (l : k < 8) : bTc (bOp eqW a (bLst bNil)) s h = .ok ws.isEmpty (h1 ++ [.lst []]) := by
  have := eq_nil (get_app (t := [.lst []]) e) (r.mono fun d w q => q.fr .app) (get_new (h := h1) (o := .lst [])) l
  simp [ea, this]
theorem al_map {α : Type} {R : α → W → Prop} {f : α → W} {as : List α} (k : ∀ a ∈ as, R a (f a)) : Al R as (as.map f) := Al.map k
theorem Al.conv {α β : Type} {R : α → W → Prop} {g : α → β} {R' : β → W → Prop} (k : ∀ a w, R a w → R' (g a) w) : ∀ {as : List α} {ws : List W}, Al R as ws → Al R' (as.map g) ws
  | [], _, r => r
  | _ :: _, _, ⟨w, r, e, q, t⟩ => ⟨w, r, e, k _ _ q, t.conv k⟩
theorem rd_strs {h : Hh} {k : Nat} {l : List Str} (o : ∀ z ∈ l, oS z) : Al (Rd h k) (l.map PyData.str) (l.map W.str) := by
  induction l with
  | nil => rfl
  | cons z l ih => exact ⟨_, _, rfl, .str (o z List.mem_cons_self), ih fun y hy => o y (List.mem_cons_of_mem _ hy)⟩
theorem rd_ints {h : Hh} {k : Nat} {l : List Int} : Al (Rd h k) (l.map PyData.int) (l.map W.int) := by
  induction l with
  | nil => rfl
  | cons z l ih => exact ⟨_, _, rfl, .int, ih⟩
theorem eqvAll_strs : ∀ {a b : List Str}, PyData.eqvAll (a.map .str) (b.map .str) = decide (a = b)
  | [], [] => by unfold PyData.eqvAll; rfl
  | [], b :: _ => by unfold PyData.eqvAll; simp
  | a :: _, [] => by unfold PyData.eqvAll; simp
  | a :: as, b :: bs => by
    show PyData.eqvAll (.str a :: as.map .str) (.str b :: bs.map .str) = _
    unfold PyData.eqvAll PyData.eqv
    rw [eqvAll_strs]
    by_cases h1 : a = b <;> by_cases h2 : as = bs <;> simp [h1, h2]
end NB

set_option Elab.async false
set_option linter.all false
set_option maxRecDepth 100000
set_option maxHeartbeats 4000000
/-! NbDf: what dicts hold; numbers by names. -/
namespace NB
open PySem PySem.Spec L2
open PyProof.Rows hiding St

section
variable {k k' : Key} {w v : W} {kvs : List (Key × W)} {h : Hh} {n : Nat}
@[simp] theorem getK_nil : getK k [] = none := rfl
theorem getK_put_same : ∀ {kvs : List (Key × W)}, getK k (putW k w kvs) = some w
  | [] => if_pos rfl
  | (j, u) :: r => by
    unfold putW
    by_cases e : j = k
    · rw [if_pos e]
      unfold getK
      rw [if_pos e]
    · rw [if_neg e]
      unfold getK
      rw [if_neg e]
      exact getK_put_same
theorem getK_put_ne (ne : k ≠ k') : ∀ {kvs : List (Key × W)}, getK k' (putW k w kvs) = getK k' kvs
  | [] => if_neg ne
  | (j, u) :: r => by
    unfold putW
    by_cases e : j = k
    · rw [if_pos e]
      unfold getK
      rw [if_neg (by rw [e]; exact ne), if_neg (by rw [e]; exact ne)]
    · rw [if_neg e]
      unfold getK
      by_cases e2 : j = k'
      · rw [if_pos e2, if_pos e2]
      · rw [if_neg e2, if_neg e2]
        exact getK_put_ne ne
theorem putW_len : ∀ {kvs : List (Key × W)}, (putW k w kvs).length ≤ kvs.length + 1
  | [] => Nat.le_refl _
  | (j, u) :: r => by
    unfold putW
    split
    · exact Nat.le_succ _
    · exact Nat.succ_le_succ putW_len
theorem putW_len_in : ∀ {kvs : List (Key × W)}, getK k kvs ≠ none → (putW k w kvs).length = kvs.length
  | [], h => absurd rfl h
  | (j, u) :: r, h => by
    unfold putW
    unfold getK at h
    by_cases e : j = k
    · rw [if_pos e]; rfl
    · rw [if_neg e]
      rw [if_neg e] at h
      exact congrArg Nat.succ (putW_len_in h)
theorem setG_dct {kk : Key} (e : h[n]? = some (.dct false kvs)) (hk : keyW v = some kk) (l : kvs.length < Sz) (nd : NdK kvs) : setG (.loc n) v w h = .ok () (h.set n (.dct false (putW kk w kvs))) := by
  unfold setG
  simp only [e, hk]
  rw [if_pos ⟨l, nd⟩]
theorem getA_dct {b : Bool} {kk : Key} (e : h[n]? = some (.dct b kvs)) (hk : keyW v = some kk) (g : getK kk kvs = some w) : getA (.loc n) v h = .ok w h := by
  unfold getA
  simp only [e, hk, g]
theorem getA_lst {ws : List W} {j : Nat} (e : h[n]? = some (.lst ws)) (g : ws[j]? = some w) : getA (.loc n) (.int (j : Int)) h = .ok w h := by
  unfold getA
  simp only [e]
  rw [if_pos (Int.natCast_nonneg j)]
  simp only [Int.toNat_natCast, g]
@[simp] theorem keyW_str {z : Str} : keyW (.str z) = some (.inr z) := rfl
@[simp] theorem keyW_int {z : Int} : keyW (.int z) = some (.inl z) := rfl
theorem tyB_dct' {b : Bool} (e : h[n]? = some (.dct false kvs)) : tyB "dict" h (.loc n) = true := by
  unfold tyB
  simp [e]
theorem inG_dct {b : Bool} {kk : Key} (e : h[n]? = some (.dct b kvs)) (hk : keyW v = some kk) : inG v (.loc n) h = .ok (.bl (getK kk kvs).isSome) h := by
  unfold inG
  simp only [e, hk]
theorem ninG_dct {b : Bool} {kk : Key} (e : h[n]? = some (.dct b kvs)) (hk : keyW v = some kk) : ninG v (.loc n) h = .ok (.bl (!(getK kk kvs).isSome)) h := by
  unfold ninG
  simp only [e, hk]
/-- a dict from names to counts -/
def Beh (h : Hh) (n : Nat) (B : Nat) (c : Str → Nat) : Prop := ∃ kvs, h[n]? = some (.dct false kvs) ∧ NdK kvs ∧ kvs.length ≤ B ∧ ∀ x, (getK (.inr x) kvs).getD (.int 0) = .int (c x : Nat)
theorem Beh.fr {h h' : Hh} {n B : Nat} {S : List Nat} {c : Str → Nat} (b : Beh h n B c) (f : Fr S h h') (k : n ∉ S) : Beh h' n B c := by
  obtain ⟨kvs, e, nd, l, g⟩ := b
  exact ⟨kvs, f.get e k, nd, l, g⟩
theorem Beh.congr {h : Hh} {n B B' : Nat} {c c' : Str → Nat} (b : Beh h n B c) (l : B ≤ B') (k : ∀ x, c x = c' x) : Beh h n B' c' := by
  obtain ⟨kvs, e, nd, l', g⟩ := b
  exact ⟨kvs, e, nd, Nat.le_trans l' l, fun x => by rw [g x, k x]⟩
theorem Beh.put {h : Hh} {n B : Nat} {c : Str → Nat} (b : Beh h n B c) (hB : B < Sz) (x : Str) (v : Nat) : ∃ h', setG (.loc n) (.str x) (.int (v : Nat)) h = .ok () h' ∧ Beh h' n (B + 1) (fun y => if y = x then v else c y) ∧ Fr [n] h h' := by
  obtain ⟨kvs, e, nd, l, g⟩ := b
  refine ⟨_, setG_dct e rfl (Nat.lt_of_le_of_lt l hB) nd, ⟨_, get_set e, nd.put, Nat.le_trans putW_len (Nat.succ_le_succ l), fun y => ?_⟩, .set (by simp)⟩
  by_cases hy : y = x
  · subst hy
    rw [getK_put_same]
    simp
  · rw [getK_put_ne (fun z => hy (Sum.inr.inj z).symm), g y]
    simp [hy]
theorem Beh.put' {h : Hh} {n B : Nat} {c : Str → Nat} (b : Beh h n B c) (hB : B < Sz) (x : Str) (v : Nat) (hx : 0 < c x) : (∃ w : Nat, getA (.loc n) (.str x) h = .ok (.int (c x : Nat)) h) ∧ ∃ h', setG (.loc n) (.str x) (.int (v : Nat)) h = .ok () h' ∧ Beh h' n B (fun y => if y = x then v else c y) ∧ Fr [n] h h' := by
  obtain ⟨kvs, e, nd, l, g⟩ := b
  have gx := g x
  cases gk : getK (.inr x) kvs with
  | none =>
    rw [gk] at gx
    simp only [Option.getD_none, W.int.injEq] at gx
    omega
  | some w =>
    rw [gk] at gx
    simp only [Option.getD_some] at gx
    refine ⟨⟨0, by rw [← gx]; exact getA_dct e rfl gk⟩, _, setG_dct e rfl (Nat.lt_of_le_of_lt l hB) nd, ⟨_, get_set e, nd.put, by rw [putW_len_in (by rw [gk]; simp)]; exact l, fun y => ?_⟩, .set (by simp)⟩
    by_cases hy : y = x
    · subst hy
      rw [getK_put_same]
      simp
    · rw [getK_put_ne (fun z => hy (Sum.inr.inj z).symm), g y]
      simp [hy]
theorem Beh.get {h : Hh} {n B : Nat} {c : Str → Nat} (b : Beh h n B c) {s : Sg} {i j : Nat} {x : Str} (ei : s[i]? = some (some (.loc n))) (ej : s[j]? = some (some (.str x))) : bGet2 (bV i) (bV j) (bC (.int 0)) s h = .ok (.int (c x : Nat)) h := by
  obtain ⟨kvs, e, nd, l, g⟩ := b
  have gx := g x
  have t : tyB "dict" h (.loc n) = true := tyB_dct' (b := false) e
  simp [ei, ej, e, gx, t]
end
section
variable {α : Type} [DecidableEq α]
/-- how often a name stands behind -/
def cnt : List (List α) → α → Nat
  | [], _ => 0
  | l :: L, x => l.tail.count x + cnt L x
theorem cnt_zero {x : α} : ∀ {L : List (List α)}, cnt L x = 0 ↔ frB L x = true
  | [] => by simp [cnt, frB]
  | l :: L => by
    have ih := cnt_zero (x := x) (L := L)
    unfold frB at ih ⊢
    unfold cnt
    rw [List.all_cons, Bool.and_eq_true, ← ih]
    have : (!decide (x ∈ l.tail)) = true ↔ l.tail.count x = 0 := by
      rw [List.count_eq_zero]
      simp
    rw [this]
    omega
theorem cnt_app {x : α} : ∀ {L M : List (List α)}, cnt (L ++ M) x = cnt L x + cnt M x
  | [], M => by simp [cnt]
  | l :: L, M => by
    show l.tail.count x + cnt (L ++ M) x = _
    rw [cnt_app]
    show _ = l.tail.count x + cnt L x + cnt M x
    omega
end
end NB

set_option Elab.async false
set_option linter.all false
set_option maxRecDepth 100000
set_option maxHeartbeats 4000000
/-! NbIv: a comprehension by an invariant; what it takes may be some of the items. -/
namespace NB
open PySem PySem.Spec L2
open PyProof.Rows hiding St
theorem lci {t : Tg} {c : FT} {e : FE} {ck : Hh → Prop} {s : Sg} {I : Nat → List W → Hh → Prop} {all : List W}
    (step : ∀ i w acc h, all[i]? = some w → I i acc h → ck h ∧ ∃ s2, t.go h w s = some s2 ∧ ∃ b h1, c s2 h = .ok b h1 ∧ (b = false → I (i + 1) acc h1) ∧ (b = true → ∃ v h2, e s2 h1 = .ok v h2 ∧ acc.length < Sz ∧ I (i + 1) (acc ++ [v]) h2))
    (last : ∀ acc h, I all.length acc h → ck h) : ∀ (k i : Nat) (acc : List W) (h : Hh), i + k = all.length → I i acc h → ∃ rs h', lcR t c e ck s acc (all.drop i) h = .ok rs h' ∧ I all.length rs h'
  | 0, i, acc, h, ed, hi => by
    have : i = all.length := by omega
    subst this
    refine ⟨acc, h, ?_, hi⟩
    rw [List.drop_length]
    unfold lcR
    rw [if_pos (last _ _ hi)]
  | k + 1, i, acc, h, ed, hi => by
    have lt : i < all.length := by omega
    obtain ⟨q, s2, g, b, h1, ec, st0, st1⟩ := step i _ acc h (List.getElem?_eq_getElem lt) hi
    rw [List.drop_eq_getElem_cons lt]
    unfold lcR
    rw [if_pos q, g]
    simp only [ec, sure_ok, R.bind_ok]
    cases b with
    | false =>
      simp only [Bool.false_eq_true, if_false]
      exact lci step last k (i + 1) acc h1 (by omega) (st0 rfl)
    | true =>
      obtain ⟨v, h2, ee, l, j⟩ := st1 rfl
      simp only [if_true, ee, sure_ok, R.bind_ok]
      rw [if_pos l]
      exact lci step last k (i + 1) (acc ++ [v]) h2 (by omega) j
theorem blci {it : FI} {t : Tg} {c : FT} {e : FE} {vs : List Nat} {s : Sg} (I : Nat → List W → Hh → Prop) {h h0 : Hh} {ws : List W} {ck : Hh → Prop}
    (hi : it s h = .ok ⟨ws, ck⟩ h0) (start : I 0 [] h0)
    (step : ∀ i w acc h, ws[i]? = some w → I i acc h → ck h ∧ ∃ s2, t.go h w (wipeG s vs) = some s2 ∧ ∃ b h1, c s2 h = .ok b h1 ∧ (b = false → I (i + 1) acc h1) ∧ (b = true → ∃ v h2, e s2 h1 = .ok v h2 ∧ acc.length < Sz ∧ I (i + 1) (acc ++ [v]) h2))
    (last : ∀ acc h, I ws.length acc h → ck h) :
    ∃ rs h', bLc it t c e vs s h = .ok (.loc h'.length) (h' ++ [.lst rs]) ∧ I ws.length rs h' := by
  obtain ⟨rs, h', q, j⟩ := lci (t := t) (c := c) (e := e) (s := wipeG s vs) step last ws.length 0 [] h0 (Nat.zero_add _) start
  refine ⟨rs, h', ?_, j⟩
  unfold bLc
  rw [hi]
  simp only [R.bind_ok]
  rw [List.drop_zero] at q
  rw [q]
  rfl
end NB

set_option Elab.async false
set_option linter.all false
set_option maxRecDepth 100000
set_option maxHeartbeats 4000000
/-! NbRd: what nested data with dicts reads as, and how long its text is. -/
namespace NB
open PySem PySem.Spec L2
open PyProof.Rows hiding St
def Rp (h : Hh) (k : Nat) (d : PyData) (w : W) : Prop := ∀ n, k < n → pyD h n w = some d
section
variable {h : Hh} {k m : Nat}
theorem Rp.str {z : Str} : Rp h k (.str z) (.str z) := fun n hn => by
  cases n with
  | zero => omega
  | succ n => rfl
theorem Rp.int {z : Int} : Rp h k (.int z) (.int z) := fun n hn => by
  cases n with
  | zero => omega
  | succ n => rfl
theorem Rp.non : Rp h k .none .non := fun n hn => by
  cases n with
  | zero => omega
  | succ n => rfl
theorem Rp.tup {ds : List PyData} {ws : List W} (a : Al (Rp h k) ds ws) : Rp h (k + 1) (.tuple ds) (.tup ws) := fun n hn => by
  cases n with
  | zero => omega
  | succ n =>
    show (pyAll (pyD h n) ws).map PyData.tuple = _
    rw [pyAll_al (a.mono fun d w q => q n (by omega))]
    rfl
theorem Rp.lst {ds : List PyData} {ws : List W} (e : h[m]? = some (.lst ws)) (a : Al (Rp h k) ds ws) : Rp h (k + 1) (.list ds) (.loc m) := fun n hn => by
  cases n with
  | zero => omega
  | succ n =>
    unfold pyD
    simp only [e]
    rw [pyAll_al (a.mono fun d w q => q n (by omega))]
    rfl
theorem pyAllK_al {f : W → Option PyData} : ∀ {ds : List (Key × PyData)} {kvs : List (Key × W)}, ds.map (·.1) = kvs.map (·.1) → Al (fun d w => f w = some d) (ds.map (·.2)) (kvs.map (·.2)) → pyAllK f kvs = some (ds.map fun p => (pyKD p.1, p.2))
  | [], [], _, _ => rfl
  | [], _ :: _, e, _ => by simp at e
  | _ :: _, [], e, _ => by simp at e
  | (a, d) :: ds, (b, w) :: kvs, e, ⟨w', r, e1, q, t⟩ => by
    simp only [List.map_cons, List.cons.injEq] at e e1
    obtain ⟨rfl, e⟩ := e
    obtain ⟨rfl, rfl⟩ := e1
    unfold pyAllK
    rw [q, pyAllK_al e t]
    rfl
theorem Rp.dct {ds : List (Key × PyData)} {kvs : List (Key × W)} (e : h[m]? = some (.dct false kvs)) (ek : ds.map (·.1) = kvs.map (·.1)) (a : Al (Rp h k) (ds.map (·.2)) (kvs.map (·.2))) : Rp h (k + 1) (.dict (ds.map fun p => (pyKD p.1, p.2))) (.loc m) := fun n hn => by
  cases n with
  | zero => omega
  | succ n =>
    unfold pyD
    simp only [e]
    rw [pyAllK_al ek (a.mono fun d w q => q n (by omega))]
    rfl
theorem Rp.up {k' : Nat} {d : PyData} {w : W} (r : Rp h k d w) (l : k ≤ k') : Rp h k' d w := fun n hn => r n (by omega)
theorem rp_strs {l : List Str} : Al (Rp h k) (l.map PyData.str) (l.map W.str) := by
  induction l with
  | nil => rfl
  | cons a l ih => exact ⟨_, _, rfl, Rp.str, ih⟩
end
/-! how long -/
structure Wt (d : PyData) (n : Nat) : Prop where
  s : d.showable = true
  l : d.leavesShort 30 = true
  w : d.weight ≤ n
structure WtA (ds : List PyData) (n : Nat) : Prop where
  s : PyData.showableAll ds = true
  l : PyData.leavesShortAll 30 ds = true
  w : PyData.weightAll ds ≤ n
structure WtK (ds : List (PyData × PyData)) (n : Nat) : Prop where
  s : PyData.showableKv ds = true
  l : PyData.leavesShortKv 30 ds = true
  w : PyData.weightKv ds ≤ n
theorem Wt.str {z : Str} {n : Nat} (sm : ∀ c ∈ z.cps.toList, c < 256) (l : z.length ≤ n) : Wt (.str z) n :=
  ⟨rfl, by
    simp only [PyData.leavesShort, List.all_eq_true, decide_eq_true_eq]
    exact fun c hc => Nat.lt_trans (sm c hc) (by decide), l⟩
theorem Wt.non {n : Nat} : Wt .none n := ⟨rfl, rfl, Nat.zero_le _⟩
theorem WtA.nil {n : Nat} : WtA [] n := ⟨rfl, rfl, Nat.zero_le _⟩
theorem WtA.cons {d : PyData} {ds : List PyData} {n m : Nat} (a : Wt d n) (b : WtA ds m) : WtA (d :: ds) (n + 1 + m) :=
  ⟨by simp only [PyData.showableAll, a.s, b.s, Bool.and_self], by simp only [PyData.leavesShortAll, a.l, b.l, Bool.and_self], by
    have := a.w
    have := b.w
    simp only [PyData.weightAll]
    omega⟩
theorem WtA.all {n : Nat} : ∀ {ds : List PyData}, (∀ d ∈ ds, Wt d n) → WtA ds (ds.length * (n + 1))
  | [], _ => .nil
  | d :: ds, h => by
    have := WtA.cons (h d List.mem_cons_self) (WtA.all fun x hx => h x (List.mem_cons_of_mem d hx))
    rw [List.length_cons, Nat.succ_mul, Nat.add_comm]
    exact this
theorem WtK.nil {n : Nat} : WtK [] n := ⟨rfl, rfl, Nat.zero_le _⟩
theorem WtK.cons {k d : PyData} {ds : List (PyData × PyData)} {j n m : Nat} (c : Wt k j) (a : Wt d n) (b : WtK ds m) : WtK ((k, d) :: ds) (j + n + 2 + m) :=
  ⟨by simp only [PyData.showableKv, c.s, a.s, b.s, Bool.and_self], by simp only [PyData.leavesShortKv, c.l, a.l, b.l, Bool.and_self], by
    have := a.w
    have := b.w
    have := c.w
    simp only [PyData.weightKv]
    omega⟩
theorem WtK.all {j n : Nat} : ∀ {ds : List (PyData × PyData)}, (∀ d ∈ ds, Wt d.1 j ∧ Wt d.2 n) → WtK ds (ds.length * (j + n + 2))
  | [], _ => .nil
  | (k, d) :: ds, h => by
    obtain ⟨c, a⟩ := h (k, d) List.mem_cons_self
    have := WtK.cons c a (WtK.all fun x hx => h x (List.mem_cons_of_mem _ hx))
    rw [List.length_cons, Nat.succ_mul, Nat.add_comm]
    exact this
theorem WtA.up {ds : List PyData} {n m : Nat} (a : WtA ds n) (l : n ≤ m) : WtA ds m := ⟨a.s, a.l, Nat.le_trans a.w l⟩
theorem WtA.tup {ds : List PyData} {n : Nat} (a : WtA ds n) : Wt (.tuple ds) n := ⟨by simp only [PyData.showable, a.s], by simp only [PyData.leavesShort, a.l], by simp only [PyData.weight]; exact a.w⟩
theorem WtA.lst {ds : List PyData} {n : Nat} (a : WtA ds n) : Wt (.list ds) n := ⟨by simp only [PyData.showable, a.s], by simp only [PyData.leavesShort, a.l], by simp only [PyData.weight]; exact a.w⟩
theorem WtK.dct {ds : List (PyData × PyData)} {n : Nat} (a : WtK ds n) : Wt (.dict ds) n := ⟨by simp only [PyData.showable, a.s], by simp only [PyData.leavesShort, a.l], by simp only [PyData.weight]; exact a.w⟩
theorem Wt.up {d : PyData} {n m : Nat} (a : Wt d n) (l : n ≤ m) : Wt d m := ⟨a.s, a.l, Nat.le_trans a.w l⟩
theorem WtA.app {as bs : List PyData} {n m : Nat} (a : WtA as n) (b : WtA bs m) : WtA (as ++ bs) (n + m) := by
  induction as generalizing n with
  | nil => exact b.up (Nat.le_add_left _ _)
  | cons d ds ih =>
    have s := a.s
    have l := a.l
    have w := a.w
    simp only [PyData.showableAll, Bool.and_eq_true] at s
    simp only [PyData.leavesShortAll, Bool.and_eq_true] at l
    simp only [PyData.weightAll] at w
    exact (WtA.cons ⟨s.1, l.1, Nat.le_refl _⟩ (ih ⟨s.2, l.2, Nat.le_refl _⟩)).up (by omega)
theorem Wt.nat : ∀ i : Fin 30, Wt (.int ((i.1 : Nat) : Int)) 10 := by
  have : ∀ i : Fin 30, (PyData.showable (.int ((i.1 : Nat) : Int)) && (PyData.leavesShort 30 (.int ((i.1 : Nat) : Int)) && decide (PyData.weight (.int ((i.1 : Nat) : Int)) ≤ 10))) = true := by decide +kernel
  intro i
  have q := this i
  simp only [Bool.and_eq_true, decide_eq_true_eq] at q
  exact ⟨q.1, q.2.1, q.2.2⟩
theorem reprD_ok {h : Hh} {k n : Nat} {d : PyData} {w : W} (r : Rp h k d w) (hk : k < 12) (t : Wt d n) (hn : n ≤ 400000) (hd : d.depth ≤ 60) : reprD [w] h = .ok (.str d.shown) h := by
  unfold reprD
  have := PyData.shown_le 30 (by decide) d t.l
  have tw := t.w
  have : d.shown.length ≤ 12800030 := by omega
  simp only [r 12 hk]
  rw [if_pos ⟨t.s, hd, Nat.le_trans this (by decide)⟩]
end NB

set_option Elab.async false
set_option linter.all false
set_option maxRecDepth 100000
set_option maxHeartbeats 4000000
/-! Cs: the shared defs as functions on data (printed). -/
namespace WS
open PySem PySem.Spec L2 NB
open PyProof.Rows hiding St
def k_LETTERS : W := .str "abcdefghijklmnopqrstuvwxyz"
def k_MOST_LETTERS : W := .int 8
def k_MOST_NAMES : W := .int 4
def k_MOST_WORDS : W := .int 4
def k_CLASSES : W := .int 24
def k_BASES : W := .int 8
def k_METHODS : W := .int 3
def k_RESERVED : W := .tup ((["name", "self"] : List Str).map W.str)
def k_MAX_CLASSES : W := .int 24
def k_MAX_BASES : W := .int 8
def k_MAX_METHODS : W := .int 3
def fc_rows : List Str := ["World"]
def fc_lines : List Str := ["World"]
def fc_world : List Str := ["Member"]
def fc_own_name : List Str := ["Member"]
noncomputable def m_is_name : FS := sSeq (sIf (bOr (bNot (bT (bIs "str" (bV 0)))) (bNot (bTc (bChain leW leW (bC (.int 1)) (bCallS lenW (bCons (bV 0) (bNil))) (bC WS.k_MOST_LETTERS))))) (sRet (bC (.bl false))) (sPass)) (sRet (bCallS allW (bCons (bLc (iText (bV 0)) (.nm 1) (bYes) (bOp inG (bV 1) (bC WS.k_LETTERS)) [1]) (bNil))))
noncomputable def c_is_name : List W → Hh → R W := runB (["thing", "sign"] : List Str).length m_is_name
noncomputable def m_are_different : FS := sSeq (sIf (bOr (bNot (bT (bIs "tuple" (bV 0)))) (bNot (bT (bCallS allW (bCons (bLc (iSeq (bV 0)) (.nm 1) (bYes) (bFn 1 WS.c_is_name [] (bCons (bV 1) (bNil))) [1]) (bNil)))))) (sRet (bC (.bl false))) (sPass)) (sRet (bOp eqW (bLenSet (bV 0)) (bCallS lenW (bCons (bV 0) (bNil)))))
noncomputable def c_are_different : List W → Hh → R W := runB (["thing", "name"] : List Str).length m_are_different
noncomputable def m_is_row : FS := sRet (bAndV (bFn 1 WS.c_are_different [] (bCons (bV 0) (bNil))) (bOp leW (bCallS lenW (bCons (bV 0) (bNil))) (bC WS.k_MOST_NAMES)))
noncomputable def c_is_row : List W → Hh → R W := runB (["thing"] : List Str).length m_is_row
noncomputable def m_merge_of : FS := sSeq (sTo (.tp [.nm 1, .nm 2, .nm 3]) (bTup (bCons (bOp mulW (bLst (bCons (bC (.int 0)) (bNil))) (bCallS lenW (bCons (bV 0) (bNil)))) (bCons (bLst (bNil)) (bCons (bDict0) (bNil)))))) (sSeq (sFor (iSeq (bV 0)) (.nm 4) (sFor (iSeq (bSl (bV 4) (bO1 (bC (.int 1))) (bO0))) (.nm 5) (sPut (bV 3) (bV 5) (bOp addW (bGet2 (bV 3) (bV 5) (bC (.int 0))) (bC (.int 1)))))) (sWhile 100000 (bT (bC (.bl true))) (sSeq (sSet 6 (bLc (iZipX (bV 0) (bV 1)) (.tp [.nm 4, .nm 9]) (bTc (bOp ltW (bV 9) (bCallS lenW (bCons (bV 4) (bNil))))) (bOp ixG (bV 4) (bV 9)) [4, 9])) (sSeq (sSet 7 (bLc (iSeq (bV 6)) (.nm 5) (bTc (bOp eqW (bGet2 (bV 3) (bV 5) (bC (.int 0))) (bC (.int 0)))) (bV 5) [5])) (sSeq (sIf (bTc (bOp eqW (bV 6) (bLst (bNil)))) (sRet (bTup (bCons (bCallS tupleW (bCons (bV 2) (bNil))) (bCons (bC .non) (bNil))))) (sPass)) (sSeq (sIf (bTc (bOp eqW (bV 7) (bLst (bNil)))) (sNever) (sPass)) (sSeq (sExp (bBm "list" appW (bV 2) (bCons (bOp ixG (bV 7) (bC (.int 0))) (bNil)))) (sFor (iEnumS (bV 0)) (.tp [.nm 8, .nm 4]) (sIf (bTc (bOp eqW (bSl (bV 4) (bO1 (bOp ixG (bV 1) (bV 8))) (bO1 (bOp addW (bOp ixG (bV 1) (bV 8)) (bC (.int 1))))) (bTup (bCons (bOp ixG (bV 7) (bC (.int 0))) (bNil))))) (sSeq (sAugI addI (bV 1) (bV 8) (bC (.int 1))) (sIf (bTc (bOp ltW (bOp ixG (bV 1) (bV 8)) (bCallS lenW (bCons (bV 4) (bNil))))) (sAugI subI (bV 3) (bOp ixG (bV 4) (bOp ixG (bV 1) (bV 8))) (bC (.int 1))) (sPass))) (sPass))))))))))
noncomputable def c_merge_of : List W → Hh → R W := runB (["tuples", "places", "found", "behind", "one", "name", "heads", "free", "index", "place"] : List Str).length m_merge_of
noncomputable def m_are_words : FS := sSeq (sIf (bOr (bNot (bT (bIs "tuple" (bV 0)))) (bTc (bOp gtW (bCallS lenW (bCons (bV 0) (bNil))) (bC WS.k_MOST_WORDS)))) (sRet (bC (.bl false))) (sPass)) (sRet (bCallS allW (bCons (bLc (iSeq (bV 0)) (.nm 1) (bYes) (bFn 1 WS.c_is_name [] (bCons (bV 1) (bNil))) [1]) (bNil))))
noncomputable def c_are_words : List W → Hh → R W := runB (["thing", "word"] : List Str).length m_are_words
noncomputable def m_is_method : FS := sSeq (sIf (bOr (bNot (bT (bIs "tuple" (bV 0)))) (bTc (bOp neW (bCallS lenW (bCons (bV 0) (bNil))) (bC (.int 4))))) (sRet (bC (.bl false))) (sPass)) (sSeq (sTo (.tp [.nm 1, .nm 2, .nm 3, .nm 4]) (bV 0)) (sSeq (sIf (bOr (bNot (bT (bFn 1 WS.c_is_row [] (bCons (bV 1) (bNil))))) (bOr (bNot (bT (bFn 1 WS.c_are_words [] (bCons (bV 2) (bNil))))) (bNot (bT (bFn 1 WS.c_are_words [] (bCons (bV 4) (bNil))))))) (sRet (bC (.bl false))) (sPass)) (sRet (bIf (bTc (bOp isW (bV 3) (bC .non))) (bOp eqW (bV 4) (bTup (bNil))) (bFn 1 WS.c_is_row [] (bCons (bV 3) (bNil)))))))
noncomputable def c_is_method : List W → Hh → R W := runB (["thing", "takes", "before", "passes", "after"] : List Str).length m_is_method
noncomputable def m_part_of : FS := sRet (bIf (bTc (bOp eqW (bV 0) (bTup (bNil)))) (bC (.str "-")) (bBm "str" joinW (bC (.str " ")) (bCons (bV 0) (bNil))))
noncomputable def c_part_of : List W → Hh → R W := runB (["words"] : List Str).length m_part_of
noncomputable def m_method_line : FS := sSeq (sTo (.tp [.nm 2, .nm 3, .nm 4, .nm 5]) (bV 1)) (sSeq (sSet 6 (bIf (bTc (bOp isW (bV 4) (bC .non))) (bC (.str "stop")) (bBm "str" joinW (bC (.str " ")) (bCons (bLst (bCons (bC (.str "+")) (bStar (bV 4) (bNil)))) (bNil))))) (sRet (bBm "str" joinW (bC (.str " | ")) (bCons (bLst (bCons (bJs [bC (.str "method "), bFmt (bV 0)] Str.empty) (bCons (bFn 1 WS.c_part_of [] (bCons (bV 2) (bNil))) (bCons (bFn 1 WS.c_part_of [] (bCons (bV 3) (bNil))) (bCons (bV 6) (bCons (bFn 1 WS.c_part_of [] (bCons (bV 5) (bNil))) (bNil))))))) (bNil)))))
noncomputable def c_method_line : List W → Hh → R W := runB (["name", "method", "takes", "before", "passes", "after", "third"] : List Str).length m_method_line
noncomputable def m_text_of : FS := sSeq (sSet 1 (bLst (bNil))) (sSeq (sLock (bV 0) (sFor (iDct itItems (bV 0)) (.tp [.nm 2, .tp [.nm 3, .nm 4]]) (sSeq (sExp (bBm "list" appW (bV 1) (bCons (bBm "str" joinW (bC (.str " ")) (bCons (bLst (bCons (bC (.str "class")) (bCons (bV 2) (bStar (bV 3) (bNil))))) (bNil))) (bNil)))) (sFor (iSeq (bCallS sortedW (bCons (bV 4) (bNil)))) (.nm 5) (sExp (bBm "list" appW (bV 1) (bCons (bFn 2 WS.c_method_line [] (bCons (bV 5) (bCons (bOp ixG (bV 4) (bV 5)) (bNil)))) (bNil)))))))) (sRet (bBm "str" joinW (bC (.str "\n")) (bCons (bV 1) (bNil)))))
noncomputable def c_text_of : List W → Hh → R W := runB (["rows", "lines", "name", "bases", "methods", "method"] : List Str).length m_text_of
noncomputable def m_world_text : FS := sRet (bFn 1 WS.c_text_of [] (bCons (bFld WS.fc_rows "rows" (bV 0)) (bNil)))
noncomputable def c_world_text : List W → Hh → R W := runB (["world"] : List Str).length m_world_text
noncomputable def m_line_of : FS := sSeq (sSet 3 (bCallS tupleW (bCons (bOp addW (bLc (iSeq (bV 2)) (.nm 6) (bYes) (bOp ixG (bV 0) (bV 6)) [6]) (bLst (bCons (bV 2) (bNil)))) (bNil)))) (sSeq (sTo (.tp [.nm 4, .nm 5]) (bFn 1 WS.c_merge_of [] (bCons (bV 3) (bNil)))) (sSeq (sIf (bTc (bOp isW (bV 4) (bC .non))) (sNever) (sPass)) (sRet (bTup (bCons (bV 1) (bStar (bV 4) (bNil)))))))
noncomputable def c_line_of : List W → Hh → R W := runB (["lines", "name", "bases", "tuples", "result", "steps", "base"] : List Str).length m_line_of
noncomputable def m_is_change : FS := sSeq (sIf (bOr (bNot (bT (bIs "tuple" (bV 0)))) (bTc (bOp eqW (bV 0) (bTup (bNil))))) (sRet (bC (.bl false))) (sPass)) (sSeq (sIf (bTc (bOp eqW (bOp ixG (bV 0) (bC (.int 0))) (bC (.str "remove")))) (sRet (bOp eqW (bCallS lenW (bCons (bV 0) (bNil))) (bC (.int 2)))) (sPass)) (sSeq (sIf (bTc (bOp eqW (bOp ixG (bV 0) (bC (.int 0))) (bC (.str "rebase")))) (sRet (bAndV (bOp eqW (bCallS lenW (bCons (bV 0) (bNil))) (bC (.int 3))) (bIs "tuple" (bOp ixG (bV 0) (bC (.int 2)))))) (sPass)) (sSeq (sIf (bOr (bTc (bOp neW (bOp ixG (bV 0) (bC (.int 0))) (bC (.str "define")))) (bOr (bTc (bOp neW (bCallS lenW (bCons (bV 0) (bNil))) (bC (.int 4)))) (bOr (bNot (bT (bIs "tuple" (bOp ixG (bV 0) (bC (.int 2)))))) (bNot (bT (bIs "dict" (bOp ixG (bV 0) (bC (.int 3))))))))) (sRet (bC (.bl false))) (sPass)) (sRet (bCallS allW (bCons (bLock (bOp ixG (bV 0) (bC (.int 3))) (bLc (iDct itKeys (bOp ixG (bV 0) (bC (.int 3)))) (.nm 1) (bYes) (bIs "str" (bV 1)) [1])) (bNil)))))))
noncomputable def c_is_change : List W → Hh → R W := runB (["thing", "key"] : List Str).length m_is_change
noncomputable def m_Member_init : FS := sSeq (sAtt WS.fc_world "world" (bV 0) (bV 1)) (sAtt WS.fc_own_name "own_name" (bV 0) (bV 2))
noncomputable def c_Member_init : List W → Hh → R W := runB (["self", "world", "own_name"] : List Str).length m_Member_init
noncomputable def m_World_init : FS := sSeq (sAtt WS.fc_rows "rows" (bV 0) (bDict0)) (sAtt WS.fc_lines "lines" (bV 0) (bDict0))
noncomputable def c_World_init : List W → Hh → R W := runB (["self"] : List Str).length m_World_init
noncomputable def m_World_row_of : FS := sSeq (sIf (bTc (bOp ninG (bV 1) (bFld WS.fc_rows "rows" (bV 0)))) (sNever) (sPass)) (sRet (bOp ixG (bFld WS.fc_rows "rows" (bV 0)) (bV 1)))
noncomputable def c_World_row_of : List W → Hh → R W := runB (["self", "name"] : List Str).length m_World_row_of
noncomputable def m_World_need_class : FS := sSeq (sIf (bNot (bT (bFn 1 WS.c_is_name [] (bCons (bV 1) (bNil))))) (sNever) (sPass)) (sExp (bMe "World" "row_of" 2 WS.c_World_row_of [] (bV 0) (bCons (bV 1) (bNil))))
noncomputable def c_World_need_class : List W → Hh → R W := runB (["self", "name"] : List Str).length m_World_need_class
noncomputable def m_World_need_bases : FS := sSeq (sIf (bOr (bTc (bOp gtW (bCallS lenW (bCons (bV 1) (bNil))) (bCon "World" "MAX_BASES" WS.k_MAX_BASES (bV 0)))) (bNot (bT (bCallS allW (bCons (bLc (iSeq (bV 1)) (.nm 2) (bYes) (bFn 1 WS.c_is_name [] (bCons (bV 2) (bNil))) [2]) (bNil)))))) (sNever) (sPass)) (sSeq (sIf (bTc (bOp ltW (bLenSet (bV 1)) (bCallS lenW (bCons (bV 1) (bNil))))) (sNever) (sPass)) (sFor (iSeq (bV 1)) (.nm 2) (sExp (bMe "World" "row_of" 2 WS.c_World_row_of [] (bV 0) (bCons (bV 2) (bNil))))))
noncomputable def c_World_need_bases : List W → Hh → R W := runB (["self", "bases", "base"] : List Str).length m_World_need_bases
noncomputable def m_World_need_methods : FS := sSeq (sFor (iSeq (bCallS sortedW (bCons (bV 1) (bNil)))) (.nm 2) (sIf (bOr (bNot (bT (bFn 1 WS.c_is_name [] (bCons (bV 2) (bNil))))) (bOr (bTc (bOp inG (bV 2) (bC WS.k_RESERVED))) (bNot (bT (bFn 1 WS.c_is_method [] (bCons (bOp ixG (bV 1) (bV 2)) (bNil))))))) (sNever) (sPass))) (sIf (bTc (bOp gtW (bCallS lenW (bCons (bV 1) (bNil))) (bCon "World" "MAX_METHODS" WS.k_MAX_METHODS (bV 0)))) (sNever) (sPass))
noncomputable def c_World_need_methods : List W → Hh → R W := runB (["self", "methods", "method"] : List Str).length m_World_need_methods
noncomputable def m_World_add_class : FS := sSeq (sIf (bNot (bT (bFn 1 WS.c_is_name [] (bCons (bV 1) (bNil))))) (sNever) (sPass)) (sSeq (sIf (bTc (bOp inG (bV 1) (bFld WS.fc_rows "rows" (bV 0)))) (sNever) (sPass)) (sSeq (sExp (bMe "World" "need_bases" 2 WS.c_World_need_bases [] (bV 0) (bCons (bV 2) (bNil)))) (sSeq (sExp (bMe "World" "need_methods" 2 WS.c_World_need_methods [] (bV 0) (bCons (bV 3) (bNil)))) (sSeq (sIf (bTc (bOp geW (bCallS lenW (bCons (bFld WS.fc_rows "rows" (bV 0)) (bNil))) (bCon "World" "MAX_CLASSES" WS.k_MAX_CLASSES (bV 0)))) (sNever) (sPass)) (sSeq (sSet 4 (bFn 3 WS.c_line_of [] (bCons (bFld WS.fc_lines "lines" (bV 0)) (bCons (bV 1) (bCons (bV 2) (bNil)))))) (sSeq (sPut (bFld WS.fc_rows "rows" (bV 0)) (bV 1) (bTup (bCons (bV 2) (bCons (bDc (iSeq (bCallS sortedW (bCons (bV 3) (bNil)))) (.nm 5) (bYes) (bV 5) (bOp ixG (bV 3) (bV 5)) [5]) (bNil))))) (sSeq (sPut (bFld WS.fc_lines "lines" (bV 0)) (bV 1) (bV 4)) (sRet (bV 4)))))))))
noncomputable def c_World_add_class : List W → Hh → R W := runB (["self", "name", "bases", "methods", "line", "method"] : List Str).length m_World_add_class
noncomputable def m_World_member : FS := sSeq (sExp (bMe "World" "need_class" 2 WS.c_World_need_class [] (bV 0) (bCons (bV 1) (bNil)))) (sRet (bMk "Member" 3 WS.c_Member_init [] (bCons (bV 0) (bCons (bV 1) (bNil)))))
noncomputable def c_World_member : List W → Hh → R W := runB (["self", "name"] : List Str).length m_World_member
noncomputable def m_World_change_by : FS := sSeq (sIf (bTc (bOp eqW (bOp ixG (bV 1) (bC (.int 0))) (bC (.str "define")))) (sRet (bMe "World" "add_class" 4 WS.c_World_add_class [] (bV 0) (bCons (bOp ixG (bV 1) (bC (.int 1))) (bCons (bOp ixG (bV 1) (bC (.int 2))) (bCons (bOp ixG (bV 1) (bC (.int 3))) (bNil)))))) (sPass)) (sSeq (sNever) (sSeq (sNever) (sSeq (sNever) (sNever))))
noncomputable def c_World_change_by : List W → Hh → R W := runB (["self", "change"] : List Str).length m_World_change_by
noncomputable def m_World_perform : FS := sSeq (sFor (iEnumS (bV 1)) (.tp [.nm 2, .nm 3]) (sIf (bNot (bT (bFn 1 WS.c_is_change [] (bCons (bV 3) (bNil))))) (sNever) (sPass))) (sSeq (sPar3 4 5 6 (bCons (bCallS dictW (bCons (bFld WS.fc_rows "rows" (bV 0)) (bNil))) (bCons (bCallS dictW (bCons (bFld WS.fc_lines "lines" (bV 0)) (bNil))) (bCons (bC .non) (bNil))))) (sSeq (sTryF (sSet 6 (bLc (iSeq (bV 1)) (.nm 3) (bYes) (bMe "World" "change_by" 2 WS.c_World_change_by [] (bV 0) (bCons (bV 3) (bNil))) [3])) (sIf (bTc (bOp isW (bV 6) (bC .non))) (sNever) (sPass))) (sRet (bV 6))))
noncomputable def c_World_perform : List W → Hh → R W := runB (["self", "changes", "index", "change", "kept_rows", "kept_lines", "results"] : List Str).length m_World_perform
noncomputable def m_World_names : FS := sRet (bCallS tupleW (bCons (bFld WS.fc_rows "rows" (bV 0)) (bNil)))
noncomputable def c_World_names : List W → Hh → R W := runB (["self"] : List Str).length m_World_names
noncomputable def m_World_linearizations : FS := sRet (bCallS dictW (bCons (bFld WS.fc_lines "lines" (bV 0)) (bNil)))
noncomputable def c_World_linearizations : List W → Hh → R W := runB (["self"] : List Str).length m_World_linearizations
noncomputable def m_World_copy : FS := sSeq (sSet 1 (bMk "World" 1 WS.c_World_init [] bNil)) (sSeq (sAtt2 WS.fc_rows WS.fc_lines "rows" "lines" (bV 1) (bV 1) (bTup (bCons (bCallS dictW (bCons (bFld WS.fc_rows "rows" (bV 0)) (bNil))) (bCons (bCallS dictW (bCons (bFld WS.fc_lines "lines" (bV 0)) (bNil))) (bNil))))) (sRet (bV 1)))
noncomputable def c_World_copy : List W → Hh → R W := runB (["self", "world"] : List Str).length m_World_copy
noncomputable def m_World_len : FS := sRet (bCallS lenW (bCons (bFld WS.fc_rows "rows" (bV 0)) (bNil)))
noncomputable def c_World_len : List W → Hh → R W := runB (["self"] : List Str).length m_World_len
noncomputable def m_World_str : FS := sRet (bCallS strW (bCons (bFn 1 WS.c_text_of [] (bCons (bFld WS.fc_rows "rows" (bV 0)) (bNil))) (bNil)))
noncomputable def c_World_str : List W → Hh → R W := runB (["self"] : List Str).length m_World_str
noncomputable def m__law_source : FS := sSeq (sSet 2 (bIf (bTc (bOp neW (bV 0) (bLst (bNil)))) (bOp ixG (bV 0) (bOp modW (bV 1) (bCallS lenW (bCons (bV 0) (bNil))))) (bC (.int 1)))) (sRet (bLst (bCons (bV 2) (bCons (bOp mulW (bC (.int 3)) (bV 1)) (bCons (bIf (bTc (bOp geW (bV 2) (bOp powW (bC (.int 10)) (bC (.int 18))))) (bOp fdvW (bV 2) (bOp powW (bC (.int 10)) (bC (.int 18)))) (bC (.int 0))) (bNil))))))
noncomputable def c__law_source : List W → Hh → R W := runB (["_law_script", "_law_k", "_law_cell"] : List Str).length m__law_source
noncomputable def m__law_next : FS := sSeq (sIf (bTc (bOp gtW (bOp ixG (bV 0) (bC (.int 2))) (bC (.int 0)))) (sSeq (sSet 2 (bOp modW (bOp ixG (bV 0) (bC (.int 2))) (bV 1))) (sSeq (sPut (bV 0) (bC (.int 2)) (bOp fdvW (bOp ixG (bV 0) (bC (.int 2))) (bV 1))) (sRet (bV 2)))) (sPass)) (sSeq (sPut (bV 0) (bC (.int 1)) (bOp addW (bOp ixG (bV 0) (bC (.int 1))) (bC (.int 1)))) (sSeq (sSet 3 (bLst (bCons (bC (.int 2147483647)) (bCons (bC (.int 2147483629)) (bCons (bC (.int 2147483587)) (bCons (bC (.int 2147483579)) (bCons (bC (.int 2147483563)) (bCons (bC (.int 2147483549)) (bCons (bC (.int 2147483543)) (bCons (bC (.int 2147483497)) (bNil))))))))))) (sSeq (sSet 4 (bOp ixG (bOp addW (bV 3) (bLst (bCons (bC (.int 2147483489)) (bCons (bC (.int 2147483477)) (bCons (bC (.int 2147483423)) (bNil)))))) (bOp modW (bOp ixG (bV 0) (bC (.int 1))) (bC (.int 11))))) (sRet (bOp modW (bOp fdvW (bOp modW (bOp powW (bOp addW (bOp addW (bOp modW (bOp ixG (bV 0) (bC (.int 0))) (bV 4)) (bOp mulW (bC (.int 7919)) (bOp ixG (bV 0) (bC (.int 1))))) (bC (.int 1))) (bC (.int 5))) (bV 4)) (bC (.int 13))) (bV 1))))))
noncomputable def c__law_next : List W → Hh → R W := runB (["_law_source_here", "_law_many", "_law_found", "_law_primes", "_law_prime"] : List Str).length m__law_next
noncomputable def m__law_mixed : FS := sSeq (sPar 2 3 (bCons (bCallS listW (bCons (bV 1) (bNil))) (bCons (bLst (bNil)) (bNil)))) (sSeq (sWhile 100000 (bTc (bOp neW (bV 2) (bLst (bNil)))) (sExp (bBm "list" appW (bV 3) (bCons (bBm "list" popW (bV 2) (bCons (bFn 2 WS.c__law_next [] (bCons (bV 0) (bCons (bCallS lenW (bCons (bV 2) (bNil))) (bNil)))) (bNil))) (bNil))))) (sRet (bV 3)))
noncomputable def c__law_mixed : List W → Hh → R W := runB (["_law_source_here", "_law_items", "_law_rest", "_law_found"] : List Str).length m__law_mixed
noncomputable def m__law_merged : FS := sSeq (sTo (.tp [.nm 0, .nm 1]) (bTup (bCons (bLc (iSeq (bV 0)) (.nm 4) (bYes) (bCallS listW (bCons (bV 4) (bNil))) [4]) (bCons (bLst (bNil)) (bNil))))) (sSeq (sWhile 100000 (bTc (bOp neW (bLc (iSeq (bV 0)) (.nm 4) (bTc (bOp neW (bV 4) (bLst (bNil)))) (bV 4) [4]) (bLst (bNil)))) (sSeq (sSet 2 (bLc (iSeq (bV 0)) (.nm 4) (bTc (bOp neW (bV 4) (bLst (bNil)))) (bOp ixG (bV 4) (bC (.int 0))) [4])) (sSeq (sSet 3 (bLc (iSeq (bV 2)) (.nm 5) (bTc (bOp eqW (bLc (iSeq (bV 0)) (.nm 4) (bTc (bOp inG (bV 5) (bSl (bV 4) (bO1 (bC (.int 1))) (bO0)))) (bV 4) [4]) (bLst (bNil)))) (bV 5) [5])) (sSeq (sIf (bTc (bOp eqW (bV 3) (bLst (bNil)))) (sRet (bC .non)) (sPass)) (sSeq (sExp (bBm "list" appW (bV 1) (bCons (bOp ixG (bV 3) (bC (.int 0))) (bNil)))) (sSet 0 (bLc (iSeq (bV 0)) (.nm 4) (bYes) (bLc (iSeq (bV 4)) (.nm 6) (bTc (bOp neW (bV 6) (bOp ixG (bV 3) (bC (.int 0))))) (bV 6) [6]) [4]))))))) (sRet (bCallS tupleW (bCons (bV 1) (bNil)))))
noncomputable def c__law_merged : List W → Hh → R W := runB (["_law_lists", "_law_found", "_law_heads", "_law_good", "_law_one", "_law_head", "_law_name"] : List Str).length m__law_merged
noncomputable def m__law_line : FS := sSeq (sSet 3 (bFn 1 WS.c__law_merged [] (bCons (bOp addW (bLc (iSeq (bV 2)) (.nm 4) (bYes) (bOp ixG (bV 0) (bV 4)) [4]) (bLst (bCons (bV 2) (bNil)))) (bNil)))) (sRet (bIf (bTc (bOp isW (bV 3) (bC .non))) (bC .non) (bOp addW (bTup (bCons (bV 1) (bNil))) (bV 3))))
noncomputable def c__law_line : List W → Hh → R W := runB (["_law_lines_here", "_law_name", "_law_bases", "_law_found", "_law_base"] : List Str).length m__law_line
noncomputable def m__law_rows : FS := sSeq (sPar3 3 4 5 (bCons (bSl (bFn 2 WS.c__law_mixed [] (bCons (bV 0) (bCons (bLst (bCons (bC (.str "b")) (bCons (bC (.str "a")) (bCons (bC (.str "d")) (bCons (bC (.str "c")) (bCons (bC (.str "node")) (bCons (bC (.str "f")) (bCons (bC (.str "e")) (bCons (bC (.str "zz")) (bCons (bC (.str "g")) (bCons (bC (.str "box")) (bNil)))))))))))) (bNil)))) (bO0) (bO1 (bV 1))) (bCons (bLst (bNil)) (bCons (bDict0) (bNil))))) (sSeq (sFor (iSeq (bV 3)) (.nm 6) (sSeq (sSet 7 (bCallS tupleW (bCons (bSl (bFn 2 WS.c__law_mixed [] (bCons (bV 0) (bCons (bCallS listW (bCons (bV 5) (bNil))) (bNil)))) (bO0) (bO1 (bFn 2 WS.c__law_next [] (bCons (bV 0) (bCons (bOp addW (bV 2) (bC (.int 1))) (bNil)))))) (bNil)))) (sSeq (sWhile 100000 (bTc (bOp isW (bFn 3 WS.c__law_line [] (bCons (bV 5) (bCons (bV 6) (bCons (bV 7) (bNil))))) (bC .non))) (sSet 7 (bSl (bV 7) (bO1 (bC (.int 1))) (bO0)))) (sSeq (sExp (bBm "list" appW (bV 4) (bCons (bTup (bCons (bV 6) (bCons (bV 7) (bNil)))) (bNil)))) (sPut (bV 5) (bV 6) (bFn 3 WS.c__law_line [] (bCons (bV 5) (bCons (bV 6) (bCons (bV 7) (bNil)))))))))) (sRet (bV 4)))
noncomputable def c__law_rows : List W → Hh → R W := runB (["_law_source_here", "_law_many", "_law_most", "_law_names", "_law_rows_here", "_law_lines_here", "_law_name", "_law_bases"] : List Str).length m__law_rows
noncomputable def m__law_lines : FS := sSeq (sSet 1 (bDict0)) (sSeq (sFor (iSeq (bV 0)) (.tp [.nm 2, .nm 3]) (sPut (bV 1) (bV 2) (bFn 3 WS.c__law_line [] (bCons (bV 1) (bCons (bV 2) (bCons (bV 3) (bNil))))))) (sRet (bV 1)))
noncomputable def c__law_lines : List W → Hh → R W := runB (["_law_rows_here", "_law_found", "_law_name", "_law_bases"] : List Str).length m__law_lines
noncomputable def m__law_pick : FS := sRet (bOp ixG (bV 1) (bFn 2 WS.c__law_next [] (bCons (bV 0) (bCons (bCallS lenW (bCons (bV 1) (bNil))) (bNil)))))
noncomputable def c__law_pick : List W → Hh → R W := runB (["_law_source_here", "_law_items"] : List Str).length m__law_pick
noncomputable def m__law_word_row : FS := sRet (bCallS tupleW (bCons (bLc (iRange1 (bCons (bFn 2 WS.c__law_next [] (bCons (bV 0) (bCons (bOp addW (bV 1) (bC (.int 1))) (bNil)))) (bNil))) (.nm 2) (bYes) (bFn 2 WS.c__law_pick [] (bCons (bV 0) (bCons (bLst (bCons (bC (.str "u")) (bCons (bC (.str "v")) (bCons (bC (.str "w")) (bNil))))) (bNil)))) [2]) (bNil)))
noncomputable def c__law_word_row : List W → Hh → R W := runB (["_law_source_here", "_law_most", "_law_turn"] : List Str).length m__law_word_row
noncomputable def m__law_method : FS := sSeq (sSet 1 (bCallS tupleW (bCons (bSl (bFn 2 WS.c__law_mixed [] (bCons (bV 0) (bCons (bLst (bCons (bC (.str "o")) (bCons (bC (.str "p")) (bCons (bC (.str "q")) (bNil))))) (bNil)))) (bO0) (bO1 (bFn 2 WS.c__law_pick [] (bCons (bV 0) (bCons (bLst (bCons (bC (.int 0)) (bCons (bC (.int 0)) (bCons (bC (.int 0)) (bCons (bC (.int 1)) (bCons (bC (.int 1)) (bCons (bC (.int 2)) (bNil)))))))) (bNil)))))) (bNil)))) (sSeq (sSet 2 (bFn 2 WS.c__law_word_row [] (bCons (bV 0) (bCons (bC (.int 2)) (bNil))))) (sSeq (sIf (bTc (bOp eqW (bFn 2 WS.c__law_next [] (bCons (bV 0) (bCons (bC (.int 5)) (bNil)))) (bC (.int 0)))) (sRet (bTup (bCons (bV 1) (bCons (bV 2) (bCons (bC .non) (bCons (bTup (bNil)) (bNil))))))) (sPass)) (sSeq (sSet 3 (bCallS tupleW (bCons (bSl (bFn 2 WS.c__law_mixed [] (bCons (bV 0) (bCons (bLst (bCons (bC (.str "o")) (bCons (bC (.str "p")) (bCons (bC (.str "q")) (bNil))))) (bNil)))) (bO0) (bO1 (bFn 2 WS.c__law_pick [] (bCons (bV 0) (bCons (bLst (bCons (bC (.int 0)) (bCons (bC (.int 0)) (bCons (bC (.int 1)) (bNil))))) (bNil)))))) (bNil)))) (sRet (bTup (bCons (bV 1) (bCons (bV 2) (bCons (bV 3) (bCons (bFn 2 WS.c__law_word_row [] (bCons (bV 0) (bCons (bC (.int 1)) (bNil)))) (bNil))))))))))
noncomputable def c__law_method : List W → Hh → R W := runB (["_law_source_here", "_law_takes", "_law_before", "_law_passes"] : List Str).length m__law_method
noncomputable def m__law_methods : FS := sSeq (sSet 2 (bDict0)) (sSeq (sFor (iSeq (bV 1)) (.tp [.nm 3, .nm 4]) (sPut (bV 2) (bV 3) (bCallS dictW (bCons (bLc (iSeq (bLst (bCons (bC (.str "m")) (bCons (bC (.str "n")) (bNil))))) (.nm 5) (bTc (bOp gtW (bFn 2 WS.c__law_next [] (bCons (bV 0) (bCons (bC (.int 3)) (bNil)))) (bC (.int 0)))) (bTup (bCons (bV 5) (bCons (bFn 1 WS.c__law_method [] (bCons (bV 0) (bNil))) (bNil)))) [5]) (bNil))))) (sRet (bV 2)))
noncomputable def c__law_methods : List W → Hh → R W := runB (["_law_source_here", "_law_rows_here", "_law_found", "_law_name", "_law_bases", "_law_word"] : List Str).length m__law_methods
noncomputable def m__law_world : FS := sSeq (sSet 2 (bMk "World" 1 WS.c_World_init [] bNil)) (sSeq (sFor (iSeq (bV 0)) (.tp [.nm 3, .nm 4]) (sExp (bMeV "World" "perform" WS.c_World_perform (bV 2) (bCons (bTup (bCons (bC (.str "define")) (bCons (bV 3) (bCons (bV 4) (bCons (bGet2 (bV 1) (bV 3) (bDict0)) (bNil)))))) (bNil))))) (sRet (bV 2)))
noncomputable def c__law_world : List W → Hh → R W := runB (["_law_rows_here", "_law_methods_here", "_law_world_here", "_law_name", "_law_bases"] : List Str).length m__law_world
noncomputable def m__law_due_state : FS := sSeq (sSet 2 (bFn 1 WS.c__law_lines [] (bCons (bV 0) (bNil)))) (sSeq (sSet 3 (bLst (bCons (bCallS tupleW (bCons (bLc (iSeq (bV 0)) (.tp [.nm 4, .nm 5]) (bYes) (bV 4) [4, 5]) (bNil))) (bCons (bV 2) (bCons (bCallS lenW (bCons (bV 0) (bNil))) (bNil)))))) (sSeq (sFor (iSeq (bV 0)) (.tp [.nm 4, .nm 5]) (sSeq (sSet 6 (bGet2 (bV 1) (bV 4) (bDict0))) (sExp (bBm "list" appW (bV 3) (bCons (bTup (bCons (bV 5) (bCons (bCallS dictW (bCons (bLc (iSeq (bCallS sortedW (bCons (bV 6) (bNil)))) (.nm 7) (bYes) (bTup (bCons (bV 7) (bCons (bOp ixG (bV 6) (bV 7)) (bNil)))) [7]) (bNil))) (bNil)))) (bNil)))))) (sRet (bCallS reprD (bCons (bV 3) (bNil))))))
noncomputable def c__law_due_state : List W → Hh → R W := runB (["_law_rows_here", "_law_methods_here", "_law_lines_here", "_law_found", "_law_name", "_law_bases", "_law_own", "_law_word"] : List Str).length m__law_due_state
noncomputable def m__law_part : FS := sRet (bIf (bTc (bOp neW (bV 0) (bTup (bNil)))) (bBm "str" joinW (bC (.str " ")) (bCons (bV 0) (bNil))) (bC (.str "-")))
noncomputable def c__law_part : List W → Hh → R W := runB (["_law_words"] : List Str).length m__law_part
noncomputable def m__law_method_text : FS := sSeq (sTo (.tp [.nm 2, .nm 3, .nm 4, .nm 5]) (bV 1)) (sSeq (sSet 6 (bIf (bTc (bOp isW (bV 4) (bC .non))) (bC (.str "stop")) (bIf (bTc (bOp eqW (bV 4) (bTup (bNil)))) (bC (.str "+")) (bOp addW (bC (.str "+ ")) (bBm "str" joinW (bC (.str " ")) (bCons (bV 4) (bNil))))))) (sSeq (sSet 7 (bLst (bCons (bOp addW (bC (.str "method ")) (bV 0)) (bCons (bFn 1 WS.c__law_part [] (bCons (bV 2) (bNil))) (bCons (bFn 1 WS.c__law_part [] (bCons (bV 3) (bNil))) (bCons (bV 6) (bCons (bFn 1 WS.c__law_part [] (bCons (bV 5) (bNil))) (bNil)))))))) (sRet (bBm "str" joinW (bC (.str " | ")) (bCons (bV 7) (bNil))))))
noncomputable def c__law_method_text : List W → Hh → R W := runB (["_law_word", "_law_method_here", "_law_takes", "_law_before", "_law_passes", "_law_after", "_law_third", "_law_found"] : List Str).length m__law_method_text
noncomputable def m__law_text_lines : FS := sSeq (sSet 2 (bLst (bNil))) (sSeq (sFor (iSeq (bV 0)) (.tp [.nm 3, .nm 4]) (sSeq (sExp (bBm "list" appW (bV 2) (bCons (bBm "str" joinW (bC (.str " ")) (bCons (bOp addW (bLst (bCons (bC (.str "class")) (bCons (bV 3) (bNil)))) (bCallS listW (bCons (bV 4) (bNil)))) (bNil))) (bNil)))) (sSeq (sSet 5 (bGet2 (bV 1) (bV 3) (bDict0))) (sExp (bBm "list" extW (bV 2) (bCons (bLc (iSeq (bCallS sortedW (bCons (bV 5) (bNil)))) (.nm 6) (bYes) (bFn 2 WS.c__law_method_text [] (bCons (bV 6) (bCons (bOp ixG (bV 5) (bV 6)) (bNil)))) [6]) (bNil))))))) (sRet (bV 2)))
noncomputable def c__law_text_lines : List W → Hh → R W := runB (["_law_rows_here", "_law_methods_here", "_law_found", "_law_name", "_law_bases", "_law_own", "_law_word"] : List Str).length m__law_text_lines
noncomputable def m_Member_bases : FS := sRet (bOp ixG (bMe "World" "row_of" 2 WS.c_World_row_of [] (bFld WS.fc_world "world" (bV 0)) (bCons (bFld WS.fc_own_name "own_name" (bV 0)) (bNil))) (bC (.int 0)))
noncomputable def c_Member_bases : List W → Hh → R W := runB (["self"] : List Str).length m_Member_bases
noncomputable def m_Member_methods : FS := sRet (bCallS dictW (bCons (bOp ixG (bMe "World" "row_of" 2 WS.c_World_row_of [] (bFld WS.fc_world "world" (bV 0)) (bCons (bFld WS.fc_own_name "own_name" (bV 0)) (bNil))) (bC (.int 1))) (bNil)))
noncomputable def c_Member_methods : List W → Hh → R W := runB (["self"] : List Str).length m_Member_methods
noncomputable def m__law_state : FS := sSeq (sSet 1 (bLst (bCons (bProp "World" WS.c_World_names (bV 0)) (bCons (bProp "World" WS.c_World_linearizations (bV 0)) (bCons (bCallS (lenO "World" WS.c_World_len) (bCons (bV 0) (bNil))) (bNil)))))) (sSeq (sFor (iSeq (bProp "World" WS.c_World_names (bV 0))) (.nm 2) (sExp (bBm "list" appW (bV 1) (bCons (bTup (bCons (bProp "Member" WS.c_Member_bases (bMe "World" "member" 2 WS.c_World_member [] (bV 0) (bCons (bV 2) (bNil)))) (bCons (bProp "Member" WS.c_Member_methods (bMe "World" "member" 2 WS.c_World_member [] (bV 0) (bCons (bV 2) (bNil)))) (bNil)))) (bNil))))) (sRet (bCallS reprD (bCons (bV 1) (bNil)))))
noncomputable def c__law_state : List W → Hh → R W := runB (["_law_world_here", "_law_found", "_law_name"] : List Str).length m__law_state
end WS

set_option Elab.async false
set_option linter.all false
set_option maxRecDepth 100000
set_option maxHeartbeats 4000000
namespace W62
open PySem PySem.Spec L2 NB
open PyProof.Rows hiding St
def top (i : Nat) : Stmt := PySem.Challenge.pw_nextbehind_k62_texts_of_worlds.main.body.getD i (.Pass ⟨0, 0, 0, 0⟩)
structure Cp (K : PySem.W.Frag) (mg : Str → Option Value) (base : Heap) where
  sb : SysB base
  f_is_name : Addr
  d_is_name : FuncData
  F_is_name : FunD K "is_name" "is_name" (defArgs (top 19)) (defBody (top 19)) (defScope (top 19)) [] [] f_is_name d_is_name
  g_is_name : mg "is_name" = some (.ref f_is_name)
  f_are_different : Addr
  d_are_different : FuncData
  F_are_different : FunD K "are_different" "are_different" (defArgs (top 20)) (defBody (top 20)) (defScope (top 20)) [] [] f_are_different d_are_different
  g_are_different : mg "are_different" = some (.ref f_are_different)
  f_is_row : Addr
  d_is_row : FuncData
  F_is_row : FunD K "is_row" "is_row" (defArgs (top 21)) (defBody (top 21)) (defScope (top 21)) [] [] f_is_row d_is_row
  g_is_row : mg "is_row" = some (.ref f_is_row)
  f_merge_of : Addr
  d_merge_of : FuncData
  F_merge_of : FunD K "merge_of" "merge_of" (defArgs (top 23)) (defBody (top 23)) (defScope (top 23)) [] [] f_merge_of d_merge_of
  g_merge_of : mg "merge_of" = some (.ref f_merge_of)
  f_are_words : Addr
  d_are_words : FuncData
  F_are_words : FunD K "are_words" "are_words" (defArgs (top 29)) (defBody (top 29)) (defScope (top 29)) [] [] f_are_words d_are_words
  g_are_words : mg "are_words" = some (.ref f_are_words)
  f_is_method : Addr
  d_is_method : FuncData
  F_is_method : FunD K "is_method" "is_method" (defArgs (top 30)) (defBody (top 30)) (defScope (top 30)) [] [] f_is_method d_is_method
  g_is_method : mg "is_method" = some (.ref f_is_method)
  f_part_of : Addr
  d_part_of : FuncData
  F_part_of : FunD K "part_of" "part_of" (defArgs (top 36)) (defBody (top 36)) (defScope (top 36)) [] [] f_part_of d_part_of
  g_part_of : mg "part_of" = some (.ref f_part_of)
  f_method_line : Addr
  d_method_line : FuncData
  F_method_line : FunD K "method_line" "method_line" (defArgs (top 37)) (defBody (top 37)) (defScope (top 37)) [] [] f_method_line d_method_line
  g_method_line : mg "method_line" = some (.ref f_method_line)
  f_text_of : Addr
  d_text_of : FuncData
  F_text_of : FunD K "text_of" "text_of" (defArgs (top 38)) (defBody (top 38)) (defScope (top 38)) [] [] f_text_of d_text_of
  g_text_of : mg "text_of" = some (.ref f_text_of)
  f_world_text : Addr
  d_world_text : FuncData
  F_world_text : FunD K "world_text" "world_text" (defArgs (top 44)) (defBody (top 44)) (defScope (top 44)) [] [] f_world_text d_world_text
  g_world_text : mg "world_text" = some (.ref f_world_text)
  f_line_of : Addr
  d_line_of : FuncData
  F_line_of : FunD K "line_of" "line_of" (defArgs (top 46)) (defBody (top 46)) (defScope (top 46)) [] [] f_line_of d_line_of
  g_line_of : mg "line_of" = some (.ref f_line_of)
  f_is_change : Addr
  d_is_change : FuncData
  F_is_change : FunD K "is_change" "is_change" (defArgs (top 47)) (defBody (top 47)) (defScope (top 47)) [] [] f_is_change d_is_change
  g_is_change : mg "is_change" = some (.ref f_is_change)
  f_Member_init : Addr
  d_Member_init : FuncData
  F_Member_init : FunD K "__init__" "Member.__init__" (defArgs (inClass (top 48) 0)) (defBody (inClass (top 48) 0)) (defScope (inClass (top 48) 0)) [] [] f_Member_init d_Member_init
  f_World_init : Addr
  d_World_init : FuncData
  F_World_init : FunD K "__init__" "World.__init__" (defArgs (inClass (top 49) 3)) (defBody (inClass (top 49) 3)) (defScope (inClass (top 49) 3)) [] [] f_World_init d_World_init
  f_World_row_of : Addr
  d_World_row_of : FuncData
  F_World_row_of : FunD K "row_of" "World.row_of" (defArgs (inClass (top 49) 6)) (defBody (inClass (top 49) 6)) (defScope (inClass (top 49) 6)) [] [] f_World_row_of d_World_row_of
  f_World_need_class : Addr
  d_World_need_class : FuncData
  F_World_need_class : FunD K "need_class" "World.need_class" (defArgs (inClass (top 49) 7)) (defBody (inClass (top 49) 7)) (defScope (inClass (top 49) 7)) [] [] f_World_need_class d_World_need_class
  f_World_need_bases : Addr
  d_World_need_bases : FuncData
  F_World_need_bases : FunD K "need_bases" "World.need_bases" (defArgs (inClass (top 49) 10)) (defBody (inClass (top 49) 10)) (defScope (inClass (top 49) 10)) [] [] f_World_need_bases d_World_need_bases
  f_World_need_methods : Addr
  d_World_need_methods : FuncData
  F_World_need_methods : FunD K "need_methods" "World.need_methods" (defArgs (inClass (top 49) 11)) (defBody (inClass (top 49) 11)) (defScope (inClass (top 49) 11)) [] [] f_World_need_methods d_World_need_methods
  f_World_add_class : Addr
  d_World_add_class : FuncData
  F_World_add_class : FunD K "add_class" "World.add_class" (defArgs (inClass (top 49) 12)) (defBody (inClass (top 49) 12)) (defScope (inClass (top 49) 12)) [] [] f_World_add_class d_World_add_class
  f_World_member : Addr
  d_World_member : FuncData
  F_World_member : FunD K "member" "World.member" (defArgs (inClass (top 49) 16)) (defBody (inClass (top 49) 16)) (defScope (inClass (top 49) 16)) [] [] f_World_member d_World_member
  f_World_change_by : Addr
  d_World_change_by : FuncData
  F_World_change_by : FunD K "change_by" "World.change_by" (defArgs (inClass (top 49) 17)) (defBody (inClass (top 49) 17)) (defScope (inClass (top 49) 17)) [] [] f_World_change_by d_World_change_by
  f_World_perform : Addr
  d_World_perform : FuncData
  F_World_perform : FunD K "perform" "World.perform" (defArgs (inClass (top 49) 18)) (defBody (inClass (top 49) 18)) (defScope (inClass (top 49) 18)) [] [] f_World_perform d_World_perform
  f_World_names : Addr
  d_World_names : FuncData
  F_World_names : FunD K "names" "World.names" (defArgs (inClass (top 49) 21)) (defBody (inClass (top 49) 21)) (defScope (inClass (top 49) 21)) [] [] f_World_names d_World_names
  p_World_names : Addr
  pr_World_names : PropOf K (He.ga K "World") "names" p_World_names f_World_names
  f_World_linearizations : Addr
  d_World_linearizations : FuncData
  F_World_linearizations : FunD K "linearizations" "World.linearizations" (defArgs (inClass (top 49) 22)) (defBody (inClass (top 49) 22)) (defScope (inClass (top 49) 22)) [] [] f_World_linearizations d_World_linearizations
  p_World_linearizations : Addr
  pr_World_linearizations : PropOf K (He.ga K "World") "linearizations" p_World_linearizations f_World_linearizations
  f_World_copy : Addr
  d_World_copy : FuncData
  F_World_copy : FunD K "copy" "World.copy" (defArgs (inClass (top 49) 23)) (defBody (inClass (top 49) 23)) (defScope (inClass (top 49) 23)) [] [] f_World_copy d_World_copy
  f_World_len : Addr
  d_World_len : FuncData
  F_World_len : FunD K "__len__" "World.__len__" (defArgs (inClass (top 49) 24)) (defBody (inClass (top 49) 24)) (defScope (inClass (top 49) 24)) [] [] f_World_len d_World_len
  f_World_str : Addr
  d_World_str : FuncData
  F_World_str : FunD K "__str__" "World.__str__" (defArgs (inClass (top 49) 29)) (defBody (inClass (top 49) 29)) (defScope (inClass (top 49) 29)) [] [] f_World_str d_World_str
  f__law_source : Addr
  d__law_source : FuncData
  F__law_source : FunD K "_law_source" "_law_source" (defArgs (top 51)) (defBody (top 51)) (defScope (top 51)) [] [] f__law_source d__law_source
  g__law_source : mg "_law_source" = some (.ref f__law_source)
  f__law_next : Addr
  d__law_next : FuncData
  F__law_next : FunD K "_law_next" "_law_next" (defArgs (top 52)) (defBody (top 52)) (defScope (top 52)) [] [] f__law_next d__law_next
  g__law_next : mg "_law_next" = some (.ref f__law_next)
  f__law_mixed : Addr
  d__law_mixed : FuncData
  F__law_mixed : FunD K "_law_mixed" "_law_mixed" (defArgs (top 53)) (defBody (top 53)) (defScope (top 53)) [] [] f__law_mixed d__law_mixed
  g__law_mixed : mg "_law_mixed" = some (.ref f__law_mixed)
  f__law_merged : Addr
  d__law_merged : FuncData
  F__law_merged : FunD K "_law_merged" "_law_merged" (defArgs (top 54)) (defBody (top 54)) (defScope (top 54)) [] [] f__law_merged d__law_merged
  g__law_merged : mg "_law_merged" = some (.ref f__law_merged)
  f__law_line : Addr
  d__law_line : FuncData
  F__law_line : FunD K "_law_line" "_law_line" (defArgs (top 55)) (defBody (top 55)) (defScope (top 55)) [] [] f__law_line d__law_line
  g__law_line : mg "_law_line" = some (.ref f__law_line)
  f__law_rows : Addr
  d__law_rows : FuncData
  F__law_rows : FunD K "_law_rows" "_law_rows" (defArgs (top 56)) (defBody (top 56)) (defScope (top 56)) [] [] f__law_rows d__law_rows
  g__law_rows : mg "_law_rows" = some (.ref f__law_rows)
  f__law_lines : Addr
  d__law_lines : FuncData
  F__law_lines : FunD K "_law_lines" "_law_lines" (defArgs (top 57)) (defBody (top 57)) (defScope (top 57)) [] [] f__law_lines d__law_lines
  g__law_lines : mg "_law_lines" = some (.ref f__law_lines)
  f__law_pick : Addr
  d__law_pick : FuncData
  F__law_pick : FunD K "_law_pick" "_law_pick" (defArgs (top 58)) (defBody (top 58)) (defScope (top 58)) [] [] f__law_pick d__law_pick
  g__law_pick : mg "_law_pick" = some (.ref f__law_pick)
  f__law_word_row : Addr
  d__law_word_row : FuncData
  F__law_word_row : FunD K "_law_word_row" "_law_word_row" (defArgs (top 59)) (defBody (top 59)) (defScope (top 59)) [] [] f__law_word_row d__law_word_row
  g__law_word_row : mg "_law_word_row" = some (.ref f__law_word_row)
  f__law_method : Addr
  d__law_method : FuncData
  F__law_method : FunD K "_law_method" "_law_method" (defArgs (top 60)) (defBody (top 60)) (defScope (top 60)) [] [] f__law_method d__law_method
  g__law_method : mg "_law_method" = some (.ref f__law_method)
  f__law_methods : Addr
  d__law_methods : FuncData
  F__law_methods : FunD K "_law_methods" "_law_methods" (defArgs (top 61)) (defBody (top 61)) (defScope (top 61)) [] [] f__law_methods d__law_methods
  g__law_methods : mg "_law_methods" = some (.ref f__law_methods)
  f__law_world : Addr
  d__law_world : FuncData
  F__law_world : FunD K "_law_world" "_law_world" (defArgs (top 62)) (defBody (top 62)) (defScope (top 62)) [] [] f__law_world d__law_world
  g__law_world : mg "_law_world" = some (.ref f__law_world)
  f__law_due_state : Addr
  d__law_due_state : FuncData
  F__law_due_state : FunD K "_law_due_state" "_law_due_state" (defArgs (top 63)) (defBody (top 63)) (defScope (top 63)) [] [] f__law_due_state d__law_due_state
  g__law_due_state : mg "_law_due_state" = some (.ref f__law_due_state)
  f__law_part : Addr
  d__law_part : FuncData
  F__law_part : FunD K "_law_part" "_law_part" (defArgs (top 65)) (defBody (top 65)) (defScope (top 65)) [] [] f__law_part d__law_part
  g__law_part : mg "_law_part" = some (.ref f__law_part)
  f__law_method_text : Addr
  d__law_method_text : FuncData
  F__law_method_text : FunD K "_law_method_text" "_law_method_text" (defArgs (top 66)) (defBody (top 66)) (defScope (top 66)) [] [] f__law_method_text d__law_method_text
  g__law_method_text : mg "_law_method_text" = some (.ref f__law_method_text)
  f__law_text_lines : Addr
  d__law_text_lines : FuncData
  F__law_text_lines : FunD K "_law_text_lines" "_law_text_lines" (defArgs (top 67)) (defBody (top 67)) (defScope (top 67)) [] [] f__law_text_lines d__law_text_lines
  g__law_text_lines : mg "_law_text_lines" = some (.ref f__law_text_lines)
  f_Member_bases : Addr
  d_Member_bases : FuncData
  F_Member_bases : FunD K "bases" "Member.bases" (defArgs (inClass (top 48) 2)) (defBody (inClass (top 48) 2)) (defScope (inClass (top 48) 2)) [] [] f_Member_bases d_Member_bases
  p_Member_bases : Addr
  pr_Member_bases : PropOf K (He.ga K "Member") "bases" p_Member_bases f_Member_bases
  f_Member_methods : Addr
  d_Member_methods : FuncData
  F_Member_methods : FunD K "methods" "Member.methods" (defArgs (inClass (top 48) 5)) (defBody (inClass (top 48) 5)) (defScope (inClass (top 48) 5)) [] [] f_Member_methods d_Member_methods
  p_Member_methods : Addr
  pr_Member_methods : PropOf K (He.ga K "Member") "methods" p_Member_methods f_Member_methods
  f__law_state : Addr
  d__law_state : FuncData
  F__law_state : FunD K "_law_state" "_law_state" (defArgs (top 64)) (defBody (top 64)) (defScope (top 64)) [] [] f__law_state d__law_state
  g__law_state : mg "_law_state" = some (.ref f__law_state)
  f__law_right : Addr
  d__law_right : FuncData
  F__law_right : FunD K "_law_right" "_law_right" (defArgs (top 68)) (defBody (top 68)) (defScope (top 68)) [] [] f__law_right d__law_right
  g__law_right : mg "_law_right" = some (.ref f__law_right)
  f_law : Addr
  d_law : FuncData
  F_law : FunD K "law" "law" (defArgs (top 69)) (defBody (top 69)) (defScope (top 69)) [] [] f_law d_law
  g_law : mg "law" = some (.ref f_law)
  u_LETTERS : Value
  g_LETTERS : mg "LETTERS" = some u_LETTERS
  r_LETTERS : RelV (.str "abcdefghijklmnopqrstuvwxyz") u_LETTERS
  u_MOST_LETTERS : Value
  g_MOST_LETTERS : mg "MOST_LETTERS" = some u_MOST_LETTERS
  r_MOST_LETTERS : RelV (.int 8) u_MOST_LETTERS
  u_MOST_NAMES : Value
  g_MOST_NAMES : mg "MOST_NAMES" = some u_MOST_NAMES
  r_MOST_NAMES : RelV (.int 4) u_MOST_NAMES
  u_MOST_WORDS : Value
  g_MOST_WORDS : mg "MOST_WORDS" = some u_MOST_WORDS
  r_MOST_WORDS : RelV (.int 4) u_MOST_WORDS
  g_RESERVED : mg "RESERVED" = some (.ref (He.ga K "RESERVED"))
  r_RESERVED : RelV (.ref (He.ga K "RESERVED")) (.ref (He.ga K "RESERVED"))
  v_RESERVED : ∀ H ι, Rv K H ι WS.k_RESERVED (.ref (He.ga K "RESERVED"))
  n_all : mg "all" = none
  v_MAX_BASES : Value
  con_MAX_BASES : Con K (He.ga K "World") "MAX_BASES" (.int 8) v_MAX_BASES
  v_MAX_CLASSES : Value
  con_MAX_CLASSES : Con K (He.ga K "World") "MAX_CLASSES" (.int 24) v_MAX_CLASSES
  v_MAX_METHODS : Value
  con_MAX_METHODS : Con K (He.ga K "World") "MAX_METHODS" (.int 3) v_MAX_METHODS
  n_dict : mg "dict" = none
  n_enumerate : mg "enumerate" = none
  fld_lines : ∀ C, C ∈ WS.fc_lines → Cls K (He.ga K C) ∧ NoAttr K (He.ga K C) "lines"
  fld_own_name : ∀ C, C ∈ WS.fc_own_name → Cls K (He.ga K C) ∧ NoAttr K (He.ga K C) "own_name"
  fld_rows : ∀ C, C ∈ WS.fc_rows → Cls K (He.ga K C) ∧ NoAttr K (He.ga K C) "rows"
  fld_world : ∀ C, C ∈ WS.fc_world → Cls K (He.ga K C) ∧ NoAttr K (He.ga K C) "world"
  n_isinstance : mg "isinstance" = none
  n_len : mg "len" = none
  n_list : mg "list" = none
  n_max : mg "max" = none
  n_min : mg "min" = none
  n_range : mg "range" = none
  n_repr : mg "repr" = none
  n_set : mg "set" = none
  n_sorted : mg "sorted" = none
  n_str : mg "str" = none
  n_tuple : mg "tuple" = none
  n_zip : mg "zip" = none
  cls_World : Cls K (He.ga K "World")
  g_World : mg "World" = some (.ref (He.ga K "World"))
  mk_World : Mk K (He.ga K "World") f_World_init
  cls_Member : Cls K (He.ga K "Member")
  g_Member : mg "Member" = some (.ref (He.ga K "Member"))
  mk_Member : Mk K (He.ga K "Member") f_Member_init
  m_World_row_of : Meth K (He.ga K "World") "row_of" f_World_row_of
  m_World_need_bases : Meth K (He.ga K "World") "need_bases" f_World_need_bases
  m_World_need_methods : Meth K (He.ga K "World") "need_methods" f_World_need_methods
  m_World_add_class : Meth K (He.ga K "World") "add_class" f_World_add_class
  m_World_change_by : Meth K (He.ga K "World") "change_by" f_World_change_by
  m_World_perform : Meth K (He.ga K "World") "perform" f_World_perform
  m_World_need_class : Meth K (He.ga K "World") "need_class" f_World_need_class
  m_World_member : Meth K (He.ga K "World") "member" f_World_member
  m_World_copy : Meth K (He.ga K "World") "copy" f_World_copy
  m_World_len : Meth K (He.ga K "World") "__len__" f_World_len
  m_World_str : Meth K (He.ga K "World") "__str__" f_World_str
section
variable {g : Bool} {P : Program} {w : World} {K : PySem.W.Frag} {mg : Str → Option Value} {base : Heap}
theorem s_is_name : FnScope ["thing", "sign"] ["thing"] (defScope (top 19)) := ⟨rfl, rfl, rfl, by decide +kernel, rfl, by decide +kernel, by decide +kernel⟩
theorem B_is_name (c : Cp K mg base) : Binds K c.d_is_name ["thing"] [] := c.F_is_name.bindsN fun _ _ _ _ _ _ us hl => match us, hl with | [_], _ => rfl
theorem w_is_name (c : Cp K mg base) : FnG g P w K mg base 1 c.f_is_name c.d_is_name ["thing"] (spL K 1 WS.c_is_name) :=
  FnG.fn c.F_is_name s_is_name fun cdv A outer s H E hg hr => by
    have nd := s_is_name.nd
    unfold WS.m_is_name
    exact (ss_cons (s_if (PW.pt (w_or (y_not (y_tru (x_isi (by decide) rfl c.n_isinstance rfl c.n_str boot_str (x_var (i := 0) rfl (Or.inl rfl))))) (w_or1 (y_not (y_chain o_le o_le x_int (x_cb c_len rfl c.n_len boot_len (a_cons (x_var (i := 0) rfl (Or.inl rfl)) a_nil)) (x_c (pe_glob rfl c.g_MOST_LETTERS c.r_MOST_LETTERS) (fun _ _ => rfl))))))) (ss_one (s_ret x_bl)) ss_nil) (ss_one (s_ret (x_cb (c_all rfl) rfl c.n_all boot_all (a_cons (x_lc (own := [("sign", 1)]) (t := .nm 1) rfl nd (i_text (x_var (i := 0) rfl (Or.inl rfl))) (blkOk_by (by kernel_rfl)) (by decide) (fun _ _ _ _ _ => (pg_name (i := 1) nd rfl (Or.inl rfl))) (fun _ _ _ _ _ => t_yes) (fun _ _ _ _ _ => (x_cmp (o_inG (hu_of hr)) (x_var (i := 1) rfl (Or.inl rfl)) (x_c (pe_glob rfl c.g_LETTERS c.r_LETTERS) (fun _ _ => rfl))))) a_nil)))))
theorem s_are_different : FnScope ["thing", "name"] ["thing"] (defScope (top 20)) := ⟨rfl, rfl, rfl, by decide +kernel, rfl, by decide +kernel, by decide +kernel⟩
theorem B_are_different (c : Cp K mg base) : Binds K c.d_are_different ["thing"] [] := c.F_are_different.bindsN fun _ _ _ _ _ _ us hl => match us, hl with | [_], _ => rfl
theorem w_are_different (c : Cp K mg base) : FnG g P w K mg base 2 c.f_are_different c.d_are_different ["thing"] (spL K 1 WS.c_are_different) :=
  FnG.fn c.F_are_different s_are_different fun cdv A outer s H E hg hr => by
    have nd := s_are_different.nd
    unfold WS.m_are_different
    exact (ss_cons (s_if (PW.pt (w_or (y_not (y_tru (x_isi (by decide) rfl c.n_isinstance rfl c.n_tuple boot_tuple (x_var (i := 0) rfl (Or.inl rfl))))) (w_or1 (y_not (y_tru (x_cb (c_all rfl) rfl c.n_all boot_all (a_cons (x_lc (own := [("name", 1)]) (t := .nm 1) rfl nd (i_seq (x_var (i := 0) rfl (Or.inl rfl))) (blkOk_by (by kernel_rfl)) (by decide) (fun _ _ _ _ _ => (pg_name (i := 1) nd rfl (Or.inl rfl))) (fun _ _ _ _ _ => t_yes) (fun _ _ _ _ _ => (x_call (w_is_name c) hg (hr.mono (by decide)) rfl c.g_is_name c.F_is_name.kp (B_is_name c) .nil (fun _ _ => rfl) tk_blk (a_cons (x_var (i := 1) rfl (Or.inl rfl)) a_nil)))) a_nil))))))) (ss_one (s_ret x_bl)) ss_nil) (ss_one (s_ret (x_cmp (o_eq hr.units) (x_lenset rfl rfl c.n_len rfl c.n_set (x_var (i := 0) rfl (Or.inl rfl))) (x_cb c_len rfl c.n_len boot_len (a_cons (x_var (i := 0) rfl (Or.inl rfl)) a_nil))))))
theorem s_is_row : FnScope ["thing"] ["thing"] (defScope (top 21)) := ⟨rfl, rfl, rfl, by decide +kernel, rfl, by decide +kernel, by decide +kernel⟩
theorem B_is_row (c : Cp K mg base) : Binds K c.d_is_row ["thing"] [] := c.F_is_row.bindsN fun _ _ _ _ _ _ us hl => match us, hl with | [_], _ => rfl
theorem w_is_row (c : Cp K mg base) : FnG g P w K mg base 3 c.f_is_row c.d_is_row ["thing"] (spL K 1 WS.c_is_row) :=
  FnG.fn c.F_is_row s_is_row fun cdv A outer s H E hg hr => by
    have nd := s_is_row.nd
    unfold WS.m_is_row
    exact (ss_one (s_ret (x_and (x_call (w_are_different c) hg (hr.mono (by decide)) rfl c.g_are_different c.F_are_different.kp (B_are_different c) .nil (fun _ _ => rfl) tk_body (a_cons (x_var (i := 0) rfl (Or.inl rfl)) a_nil)) (x_one (x_cmp o_le (x_cb c_len rfl c.n_len boot_len (a_cons (x_var (i := 0) rfl (Or.inl rfl)) a_nil)) (x_c (pe_glob rfl c.g_MOST_NAMES c.r_MOST_NAMES) (fun _ _ => rfl)))))))
theorem s_merge_of : FnScope ["tuples", "places", "found", "behind", "one", "name", "heads", "free", "index", "place"] ["tuples"] (defScope (top 23)) := ⟨rfl, rfl, rfl, by decide +kernel, rfl, by decide +kernel, by decide +kernel⟩
theorem B_merge_of (c : Cp K mg base) : Binds K c.d_merge_of ["tuples"] [] := c.F_merge_of.bindsN fun _ _ _ _ _ _ us hl => match us, hl with | [_], _ => rfl
theorem w_merge_of (c : Cp K mg base) : FnG g P w K mg base 1 c.f_merge_of c.d_merge_of ["tuples"] (spL K 1 WS.c_merge_of) :=
  FnG.fn c.F_merge_of s_merge_of fun cdv A outer s H E hg hr => by
    have nd := s_merge_of.nd
    unfold WS.m_merge_of
    exact (ss_cons (s_to (t := .tp [.nm 1, .nm 2, .nm 3]) (x_tup (a_cons (x_op o_mul (x_lst (a_cons x_int a_nil)) (x_cb c_len rfl c.n_len boot_len (a_cons (x_var (i := 0) rfl (Or.inl rfl)) a_nil))) (a_cons (x_lst a_nil) (a_cons x_dict0 a_nil)))) (pg_tup rfl (pgs_cons (pg_name (i := 1) nd rfl (Or.inl rfl)) (pgs_cons (pg_name (i := 2) nd rfl (Or.inl rfl)) (pgs_cons (pg_name (i := 3) nd rfl (Or.inr rfl)) pgs_nil))))) (ss_cons (s_for (t := .nm 4) ow_body rfl (i_seq (x_var (i := 0) rfl (Or.inl rfl))) (pg_name (i := 4) nd rfl (Or.inl rfl)) (ss_one (s_for (t := .nm 5) ow_body rfl (i_seq (x_slc (x_var (i := 4) rfl (Or.inl rfl)) (o_some x_int) o_none)) (pg_name (i := 5) nd rfl (Or.inl rfl)) (ss_one (s_put (hu_of hr) (x_op o_add (x_get2 (hu_of hr) (x_var (i := 3) rfl (Or.inr (Or.inl rfl))) (x_var (i := 5) rfl (Or.inl rfl)) x_int ⟨rfl, rfl, rfl, rfl⟩) x_int) (x_var (i := 3) rfl (Or.inr (Or.inl rfl))) (x_var (i := 5) rfl (Or.inl rfl))))))) (ss_one (s_while ow_body (y_tru x_bl) (ss_cons (s_setLc (i := 6) (own := [("one", 4), ("place", 9)]) (t := .tp [.nm 4, .nm 9]) rfl nd rfl rfl (i_zipx rfl rfl c.n_zip (x_var (i := 0) rfl (Or.inl rfl)) (x_var (i := 1) rfl (Or.inl rfl))) (blkOk_by (by kernel_rfl)) (by decide) (fun _ _ _ _ _ => (pg_tup rfl (pgs_cons (pg_name (i := 4) nd rfl (Or.inl rfl)) (pgs_cons (pg_name (i := 9) nd rfl (Or.inl rfl)) pgs_nil)))) (fun _ _ _ _ _ => (t_one (y_cmp o_lt (x_var (i := 9) rfl (Or.inl rfl)) (x_cb c_len rfl c.n_len boot_len (a_cons (x_var (i := 4) rfl (Or.inl rfl)) a_nil))))) (fun _ _ _ _ _ => (x_ixg (hu_of hr) (x_var (i := 4) rfl (Or.inl rfl)) (x_var (i := 9) rfl (Or.inl rfl))))) (ss_cons (s_setLc (i := 7) (own := [("name", 5)]) (t := .nm 5) rfl nd rfl rfl (i_seq (x_var (i := 6) rfl (Or.inl rfl))) (blkOk_by (by kernel_rfl)) (by decide) (fun _ _ _ _ _ => (pg_name (i := 5) nd rfl (Or.inl rfl))) (fun _ _ _ _ _ => (t_one (y_cmp (o_eq hr.units) (x_get2 (hu_of hr) (x_var (i := 3) rfl (Or.inr (Or.inl rfl))) (x_var (i := 5) rfl (Or.inl rfl)) x_int ⟨rfl, rfl, rfl, rfl⟩) x_int))) (fun _ _ _ _ _ => (x_var (i := 5) rfl (Or.inl rfl)))) (ss_cons (s_if (y_cmp (o_eq hr.units) (x_var (i := 6) rfl (Or.inl rfl)) (x_lst a_nil)) (ss_one (s_ret (x_tup (a_cons (x_ct (c_tuple rfl) rfl c.n_tuple boot_tuple (a_cons (x_var (i := 2) rfl (Or.inl rfl)) a_nil)) (a_cons x_non a_nil))))) ss_nil) (ss_cons (s_if (y_cmp (o_eq hr.units) (x_var (i := 7) rfl (Or.inl rfl)) (x_lst a_nil)) (ss_one s_never) ss_nil) (ss_cons (s_exp (x_bm F.plainAttrs_list F.slot_list_append F.type_list_append m_app (x_var (i := 2) rfl (Or.inl rfl)) (a_cons (x_ixg (hu_of hr) (x_var (i := 7) rfl (Or.inl rfl)) x_int) a_nil))) (ss_one (s_for (t := .tp [.nm 8, .nm 4]) ow_body rfl (i_enum rfl c.n_enumerate (x_var (i := 0) rfl (Or.inl rfl))) (pg_tup rfl (pgs_cons (pg_name (i := 8) nd rfl (Or.inl rfl)) (pgs_cons (pg_name (i := 4) nd rfl (Or.inl rfl)) pgs_nil))) (ss_one (s_if (y_cmp (o_eq hr.units) (x_slc (x_var (i := 4) rfl (Or.inl rfl)) (o_some (x_ixg (hu_of hr) (x_var (i := 1) rfl (Or.inl rfl)) (x_var (i := 8) rfl (Or.inl rfl)))) (o_some (x_op o_add (x_ixg (hu_of hr) (x_var (i := 1) rfl (Or.inl rfl)) (x_var (i := 8) rfl (Or.inl rfl))) x_int))) (x_tup (a_cons (x_ixg (hu_of hr) (x_var (i := 7) rfl (Or.inl rfl)) x_int) a_nil))) (ss_cons (s_augi (hu_of hr) ip_addL (x_var (i := 1) rfl (Or.inl rfl)) (x_var (i := 8) rfl (Or.inl rfl)) x_int) (ss_one (s_if (y_cmp o_lt (x_ixg (hu_of hr) (x_var (i := 1) rfl (Or.inl rfl)) (x_var (i := 8) rfl (Or.inl rfl))) (x_cb c_len rfl c.n_len boot_len (a_cons (x_var (i := 4) rfl (Or.inl rfl)) a_nil))) (ss_one (s_augi (hu_of hr) ip_subL (x_var (i := 3) rfl (Or.inr (Or.inl rfl))) (x_ixg (hu_of hr) (x_var (i := 4) rfl (Or.inl rfl)) (x_ixg (hu_of hr) (x_var (i := 1) rfl (Or.inl rfl)) (x_var (i := 8) rfl (Or.inl rfl)))) x_int)) ss_nil))) ss_nil)))))))))))))
theorem s_are_words : FnScope ["thing", "word"] ["thing"] (defScope (top 29)) := ⟨rfl, rfl, rfl, by decide +kernel, rfl, by decide +kernel, by decide +kernel⟩
theorem B_are_words (c : Cp K mg base) : Binds K c.d_are_words ["thing"] [] := c.F_are_words.bindsN fun _ _ _ _ _ _ us hl => match us, hl with | [_], _ => rfl
theorem w_are_words (c : Cp K mg base) : FnG g P w K mg base 2 c.f_are_words c.d_are_words ["thing"] (spL K 1 WS.c_are_words) :=
  FnG.fn c.F_are_words s_are_words fun cdv A outer s H E hg hr => by
    have nd := s_are_words.nd
    unfold WS.m_are_words
    exact (ss_cons (s_if (PW.pt (w_or (y_not (y_tru (x_isi (by decide) rfl c.n_isinstance rfl c.n_tuple boot_tuple (x_var (i := 0) rfl (Or.inl rfl))))) (w_or1 (y_cmp o_gt (x_cb c_len rfl c.n_len boot_len (a_cons (x_var (i := 0) rfl (Or.inl rfl)) a_nil)) (x_c (pe_glob rfl c.g_MOST_WORDS c.r_MOST_WORDS) (fun _ _ => rfl)))))) (ss_one (s_ret x_bl)) ss_nil) (ss_one (s_ret (x_cb (c_all rfl) rfl c.n_all boot_all (a_cons (x_lc (own := [("word", 1)]) (t := .nm 1) rfl nd (i_seq (x_var (i := 0) rfl (Or.inl rfl))) (blkOk_by (by kernel_rfl)) (by decide) (fun _ _ _ _ _ => (pg_name (i := 1) nd rfl (Or.inl rfl))) (fun _ _ _ _ _ => t_yes) (fun _ _ _ _ _ => (x_call (w_is_name c) hg (hr.mono (by decide)) rfl c.g_is_name c.F_is_name.kp (B_is_name c) .nil (fun _ _ => rfl) tk_blk (a_cons (x_var (i := 1) rfl (Or.inl rfl)) a_nil)))) a_nil)))))
theorem s_is_method : FnScope ["thing", "takes", "before", "passes", "after"] ["thing"] (defScope (top 30)) := ⟨rfl, rfl, rfl, by decide +kernel, rfl, by decide +kernel, by decide +kernel⟩
theorem B_is_method (c : Cp K mg base) : Binds K c.d_is_method ["thing"] [] := c.F_is_method.bindsN fun _ _ _ _ _ _ us hl => match us, hl with | [_], _ => rfl
theorem w_is_method (c : Cp K mg base) : FnG g P w K mg base 4 c.f_is_method c.d_is_method ["thing"] (spL K 1 WS.c_is_method) :=
  FnG.fn c.F_is_method s_is_method fun cdv A outer s H E hg hr => by
    have nd := s_is_method.nd
    unfold WS.m_is_method
    exact (ss_cons (s_if (PW.pt (w_or (y_not (y_tru (x_isi (by decide) rfl c.n_isinstance rfl c.n_tuple boot_tuple (x_var (i := 0) rfl (Or.inl rfl))))) (w_or1 (y_cmp (o_ne hr.units) (x_cb c_len rfl c.n_len boot_len (a_cons (x_var (i := 0) rfl (Or.inl rfl)) a_nil)) x_int)))) (ss_one (s_ret x_bl)) ss_nil) (ss_cons (s_to (t := .tp [.nm 1, .nm 2, .nm 3, .nm 4]) (x_var (i := 0) rfl (Or.inl rfl)) (pg_tup rfl (pgs_cons (pg_name (i := 1) nd rfl (Or.inl rfl)) (pgs_cons (pg_name (i := 2) nd rfl (Or.inl rfl)) (pgs_cons (pg_name (i := 3) nd rfl (Or.inl rfl)) (pgs_cons (pg_name (i := 4) nd rfl (Or.inl rfl)) pgs_nil)))))) (ss_cons (s_if (PW.pt (w_or (y_not (y_tru (x_call (w_is_row c) hg (hr.mono (by decide)) rfl c.g_is_row c.F_is_row.kp (B_is_row c) .nil (fun _ _ => rfl) tk_body (a_cons (x_var (i := 1) rfl (Or.inl rfl)) a_nil)))) (w_or (y_not (y_tru (x_call (w_are_words c) hg (hr.mono (by decide)) rfl c.g_are_words c.F_are_words.kp (B_are_words c) .nil (fun _ _ => rfl) tk_body (a_cons (x_var (i := 2) rfl (Or.inl rfl)) a_nil)))) (w_or1 (y_not (y_tru (x_call (w_are_words c) hg (hr.mono (by decide)) rfl c.g_are_words c.F_are_words.kp (B_are_words c) .nil (fun _ _ => rfl) tk_body (a_cons (x_var (i := 4) rfl (Or.inl rfl)) a_nil)))))))) (ss_one (s_ret x_bl)) ss_nil) (ss_one (s_ret (x_if (y_cmp o_is (x_var (i := 3) rfl (Or.inl rfl)) x_non) (x_cmp (o_eq hr.units) (x_var (i := 4) rfl (Or.inl rfl)) (x_tup a_nil)) (x_call (w_is_row c) hg (hr.mono (by decide)) rfl c.g_is_row c.F_is_row.kp (B_is_row c) .nil (fun _ _ => rfl) tk_body (a_cons (x_var (i := 3) rfl (Or.inl rfl)) a_nil))))))))
theorem s_part_of : FnScope ["words"] ["words"] (defScope (top 36)) := ⟨rfl, rfl, rfl, by decide +kernel, rfl, by decide +kernel, by decide +kernel⟩
theorem B_part_of (c : Cp K mg base) : Binds K c.d_part_of ["words"] [] := c.F_part_of.bindsN fun _ _ _ _ _ _ us hl => match us, hl with | [_], _ => rfl
theorem w_part_of (c : Cp K mg base) : FnG g P w K mg base 1 c.f_part_of c.d_part_of ["words"] (spL K 1 WS.c_part_of) :=
  FnG.fn c.F_part_of s_part_of fun cdv A outer s H E hg hr => by
    have nd := s_part_of.nd
    unfold WS.m_part_of
    exact (ss_one (s_ret (x_if (y_cmp (o_eq hr.units) (x_var (i := 0) rfl (Or.inl rfl)) (x_tup a_nil)) x_str (x_bm F.plainAttrs_str F.slot_str_join F.type_str_join m_join x_str (a_cons (x_var (i := 0) rfl (Or.inl rfl)) a_nil)))))
theorem s_method_line : FnScope ["name", "method", "takes", "before", "passes", "after", "third"] ["name", "method"] (defScope (top 37)) := ⟨rfl, rfl, rfl, by decide +kernel, rfl, by decide +kernel, by decide +kernel⟩
theorem B_method_line (c : Cp K mg base) : Binds K c.d_method_line ["name", "method"] [] := c.F_method_line.bindsN fun _ _ _ _ _ _ us hl => match us, hl with | [_, _], _ => rfl
theorem w_method_line (c : Cp K mg base) : FnG g P w K mg base 2 c.f_method_line c.d_method_line ["name", "method"] (spL K 2 WS.c_method_line) :=
  FnG.fn c.F_method_line s_method_line fun cdv A outer s H E hg hr => by
    have nd := s_method_line.nd
    unfold WS.m_method_line
    exact (ss_cons (s_to (t := .tp [.nm 2, .nm 3, .nm 4, .nm 5]) (x_var (i := 1) rfl (Or.inl rfl)) (pg_tup rfl (pgs_cons (pg_name (i := 2) nd rfl (Or.inl rfl)) (pgs_cons (pg_name (i := 3) nd rfl (Or.inl rfl)) (pgs_cons (pg_name (i := 4) nd rfl (Or.inl rfl)) (pgs_cons (pg_name (i := 5) nd rfl (Or.inl rfl)) pgs_nil)))))) (ss_cons (s_set (i := 6) nd rfl (Or.inl rfl) (x_if (y_cmp o_is (x_var (i := 4) rfl (Or.inl rfl)) x_non) x_str (x_bm F.plainAttrs_str F.slot_str_join F.type_str_join m_join x_str (a_cons (x_lst (a_cons x_str (a_star (x_var (i := 4) rfl (Or.inl rfl)) a_nil))) a_nil)))) (ss_one (s_ret (x_bm F.plainAttrs_str F.slot_str_join F.type_str_join m_join x_str (a_cons (x_lst (a_cons (x_joined (.cons x_str (.cons (x_fmt (x_var (i := 0) rfl (Or.inl rfl))) .nil))) (a_cons (x_call (w_part_of c) hg (hr.mono (by decide)) rfl c.g_part_of c.F_part_of.kp (B_part_of c) .nil (fun _ _ => rfl) tk_body (a_cons (x_var (i := 2) rfl (Or.inl rfl)) a_nil)) (a_cons (x_call (w_part_of c) hg (hr.mono (by decide)) rfl c.g_part_of c.F_part_of.kp (B_part_of c) .nil (fun _ _ => rfl) tk_body (a_cons (x_var (i := 3) rfl (Or.inl rfl)) a_nil)) (a_cons (x_var (i := 6) rfl (Or.inl rfl)) (a_cons (x_call (w_part_of c) hg (hr.mono (by decide)) rfl c.g_part_of c.F_part_of.kp (B_part_of c) .nil (fun _ _ => rfl) tk_body (a_cons (x_var (i := 5) rfl (Or.inl rfl)) a_nil)) a_nil)))))) a_nil))))))
theorem s_text_of : FnScope ["rows", "lines", "name", "bases", "methods", "method"] ["rows"] (defScope (top 38)) := ⟨rfl, rfl, rfl, by decide +kernel, rfl, by decide +kernel, by decide +kernel⟩
theorem B_text_of (c : Cp K mg base) : Binds K c.d_text_of ["rows"] [] := c.F_text_of.bindsN fun _ _ _ _ _ _ us hl => match us, hl with | [_], _ => rfl
theorem w_text_of (c : Cp K mg base) : FnG g P w K mg base 3 c.f_text_of c.d_text_of ["rows"] (spL K 1 WS.c_text_of) :=
  FnG.fn c.F_text_of s_text_of fun cdv A outer s H E hg hr => by
    have nd := s_text_of.nd
    unfold WS.m_text_of
    exact (ss_cons (s_set (i := 1) nd rfl (Or.inl rfl) (x_lst a_nil)) (ss_cons (s_lock (s_for (t := .tp [.nm 2, .tp [.nm 3, .nm 4]]) ow_body rfl (i_items (x_var (i := 0) rfl (Or.inl rfl))) (pg_tup rfl (pgs_cons (pg_name (i := 2) nd rfl (Or.inl rfl)) (pgs_cons (pg_tup rfl (pgs_cons (pg_name (i := 3) nd rfl (Or.inl rfl)) (pgs_cons (pg_name (i := 4) nd rfl (Or.inl rfl)) pgs_nil))) pgs_nil))) (ss_cons (s_exp (x_bm F.plainAttrs_list F.slot_list_append F.type_list_append m_app (x_var (i := 1) rfl (Or.inl rfl)) (a_cons (x_bm F.plainAttrs_str F.slot_str_join F.type_str_join m_join x_str (a_cons (x_lst (a_cons x_str (a_cons (x_var (i := 2) rfl (Or.inl rfl)) (a_star (x_var (i := 3) rfl (Or.inl rfl)) a_nil)))) a_nil)) a_nil))) (ss_one (s_for (t := .nm 5) ow_body rfl (i_seq (x_cb (c_sorted rfl) rfl c.n_sorted boot_sorted' (a_cons (x_var (i := 4) rfl (Or.inl rfl)) a_nil))) (pg_name (i := 5) nd rfl (Or.inl rfl)) (ss_one (s_exp (x_bm F.plainAttrs_list F.slot_list_append F.type_list_append m_app (x_var (i := 1) rfl (Or.inl rfl)) (a_cons (x_call (w_method_line c) hg (hr.mono (by decide)) rfl c.g_method_line c.F_method_line.kp (B_method_line c) .nil (fun _ _ => rfl) tk_body (a_cons (x_var (i := 5) rfl (Or.inl rfl)) (a_cons (x_ixg (hu_of hr) (x_var (i := 4) rfl (Or.inl rfl)) (x_var (i := 5) rfl (Or.inl rfl))) a_nil))) a_nil)))))))) (fun _ _ _ _ _ => trivial)) (ss_one (s_ret (x_bm F.plainAttrs_str F.slot_str_join F.type_str_join m_join x_str (a_cons (x_var (i := 1) rfl (Or.inl rfl)) a_nil))))))
theorem s_world_text : FnScope ["world"] ["world"] (defScope (top 44)) := ⟨rfl, rfl, rfl, by decide +kernel, rfl, by decide +kernel, by decide +kernel⟩
theorem B_world_text (c : Cp K mg base) : Binds K c.d_world_text ["world"] [] := c.F_world_text.bindsN fun _ _ _ _ _ _ us hl => match us, hl with | [_], _ => rfl
theorem w_world_text (c : Cp K mg base) : FnG g P w K mg base 4 c.f_world_text c.d_world_text ["world"] (spL K 1 WS.c_world_text) :=
  FnG.fn c.F_world_text s_world_text fun cdv A outer s H E hg hr => by
    have nd := s_world_text.nd
    unfold WS.m_world_text
    exact (ss_one (s_ret (x_call (w_text_of c) hg (hr.mono (by decide)) rfl c.g_text_of c.F_text_of.kp (B_text_of c) .nil (fun _ _ => rfl) tk_body (a_cons (x_fld (x_var (i := 0) rfl (Or.inl rfl)) c.fld_rows) a_nil))))
theorem s_line_of : FnScope ["lines", "name", "bases", "tuples", "result", "steps", "base"] ["lines", "name", "bases"] (defScope (top 46)) := ⟨rfl, rfl, rfl, by decide +kernel, rfl, by decide +kernel, by decide +kernel⟩
theorem B_line_of (c : Cp K mg base) : Binds K c.d_line_of ["lines", "name", "bases"] [] := c.F_line_of.bindsN fun _ _ _ _ _ _ us hl => match us, hl with | [_, _, _], _ => rfl
theorem w_line_of (c : Cp K mg base) : FnG g P w K mg base 2 c.f_line_of c.d_line_of ["lines", "name", "bases"] (spL K 3 WS.c_line_of) :=
  FnG.fn c.F_line_of s_line_of fun cdv A outer s H E hg hr => by
    have nd := s_line_of.nd
    unfold WS.m_line_of
    exact (ss_cons (s_set (i := 3) nd rfl (Or.inl rfl) (x_ct (c_tuple rfl) rfl c.n_tuple boot_tuple (a_cons (x_op o_add (x_lc (own := [("base", 6)]) (t := .nm 6) rfl nd (i_seq (x_var (i := 2) rfl (Or.inl rfl))) (blkOk_by (by kernel_rfl)) (by decide) (fun _ _ _ _ _ => (pg_name (i := 6) nd rfl (Or.inl rfl))) (fun _ _ _ _ _ => t_yes) (fun _ _ _ _ _ => (x_ixg (hu_of hr) (x_var (i := 0) rfl (Or.inr (Or.inl rfl))) (x_var (i := 6) rfl (Or.inl rfl))))) (x_lst (a_cons (x_var (i := 2) rfl (Or.inl rfl)) a_nil))) a_nil))) (ss_cons (s_to (t := .tp [.nm 4, .nm 5]) (x_call (w_merge_of c) hg (hr.mono (by decide)) rfl c.g_merge_of c.F_merge_of.kp (B_merge_of c) .nil (fun _ _ => rfl) tk_body (a_cons (x_var (i := 3) rfl (Or.inl rfl)) a_nil)) (pg_tup rfl (pgs_cons (pg_name (i := 4) nd rfl (Or.inl rfl)) (pgs_cons (pg_name (i := 5) nd rfl (Or.inl rfl)) pgs_nil)))) (ss_cons (s_if (y_cmp o_is (x_var (i := 4) rfl (Or.inl rfl)) x_non) (ss_one s_never) ss_nil) (ss_one (s_ret (x_tup (a_cons (x_var (i := 1) rfl (Or.inl rfl)) (a_star (x_var (i := 4) rfl (Or.inl rfl)) a_nil))))))))
theorem s_is_change : FnScope ["thing", "key"] ["thing"] (defScope (top 47)) := ⟨rfl, rfl, rfl, by decide +kernel, rfl, by decide +kernel, by decide +kernel⟩
theorem B_is_change (c : Cp K mg base) : Binds K c.d_is_change ["thing"] [] := c.F_is_change.bindsN fun _ _ _ _ _ _ us hl => match us, hl with | [_], _ => rfl
theorem w_is_change (c : Cp K mg base) : FnG g P w K mg base 1 c.f_is_change c.d_is_change ["thing"] (spL K 1 WS.c_is_change) :=
  FnG.fn c.F_is_change s_is_change fun cdv A outer s H E hg hr => by
    have nd := s_is_change.nd
    unfold WS.m_is_change
    exact (ss_cons (s_if (PW.pt (w_or (y_not (y_tru (x_isi (by decide) rfl c.n_isinstance rfl c.n_tuple boot_tuple (x_var (i := 0) rfl (Or.inl rfl))))) (w_or1 (y_cmp (o_eq hr.units) (x_var (i := 0) rfl (Or.inl rfl)) (x_tup a_nil))))) (ss_one (s_ret x_bl)) ss_nil) (ss_cons (s_if (y_cmp (o_eq hr.units) (x_ixg (hu_of hr) (x_var (i := 0) rfl (Or.inl rfl)) x_int) x_str) (ss_one (s_ret (x_cmp (o_eq hr.units) (x_cb c_len rfl c.n_len boot_len (a_cons (x_var (i := 0) rfl (Or.inl rfl)) a_nil)) x_int))) ss_nil) (ss_cons (s_if (y_cmp (o_eq hr.units) (x_ixg (hu_of hr) (x_var (i := 0) rfl (Or.inl rfl)) x_int) x_str) (ss_one (s_ret (x_and (x_cmp (o_eq hr.units) (x_cb c_len rfl c.n_len boot_len (a_cons (x_var (i := 0) rfl (Or.inl rfl)) a_nil)) x_int) (x_one (x_isi (by decide) rfl c.n_isinstance rfl c.n_tuple boot_tuple (x_ixg (hu_of hr) (x_var (i := 0) rfl (Or.inl rfl)) x_int)))))) ss_nil) (ss_cons (s_if (PW.pt (w_or (y_cmp (o_ne hr.units) (x_ixg (hu_of hr) (x_var (i := 0) rfl (Or.inl rfl)) x_int) x_str) (w_or (y_cmp (o_ne hr.units) (x_cb c_len rfl c.n_len boot_len (a_cons (x_var (i := 0) rfl (Or.inl rfl)) a_nil)) x_int) (w_or (y_not (y_tru (x_isi (by decide) rfl c.n_isinstance rfl c.n_tuple boot_tuple (x_ixg (hu_of hr) (x_var (i := 0) rfl (Or.inl rfl)) x_int)))) (w_or1 (y_not (y_tru (x_isi (by decide) rfl c.n_isinstance rfl c.n_dict boot_dict (x_ixg (hu_of hr) (x_var (i := 0) rfl (Or.inl rfl)) x_int))))))))) (ss_one (s_ret x_bl)) ss_nil) (ss_one (s_ret (x_cb (c_all rfl) rfl c.n_all boot_all (a_cons (x_lock (x_lc (own := [("key", 1)]) (t := .nm 1) rfl nd (i_keys (x_ixg (hu_of hr) (x_var (i := 0) rfl (Or.inl rfl)) x_int)) (blkOk_by (by kernel_rfl)) (by decide) (fun _ _ _ _ _ => (pg_name (i := 1) nd rfl (Or.inl rfl))) (fun _ _ _ _ _ => t_yes) (fun _ _ _ _ _ => (x_isi (by decide) rfl c.n_isinstance rfl c.n_str boot_str (x_var (i := 1) rfl (Or.inl rfl)))))) a_nil))))))))
theorem s_Member_init : FnScope ["self", "world", "own_name"] ["self", "world", "own_name"] (defScope (inClass (top 48) 0)) := ⟨rfl, rfl, rfl, by decide +kernel, rfl, by decide +kernel, by decide +kernel⟩
theorem B_Member_init (c : Cp K mg base) : Binds K c.d_Member_init ["self", "world", "own_name"] [] := c.F_Member_init.bindsN fun _ _ _ _ _ _ us hl => match us, hl with | [_, _, _], _ => rfl
theorem w_Member_init (c : Cp K mg base) : FnG g P w K mg base 1 c.f_Member_init c.d_Member_init ["self", "world", "own_name"] (spL K 3 WS.c_Member_init) :=
  FnG.fn c.F_Member_init s_Member_init fun cdv A outer s H E hg hr => by
    have nd := s_Member_init.nd
    unfold WS.m_Member_init
    exact (ss_cons (s_att c.fld_world (x_var (i := 0) rfl (Or.inl rfl)) (x_var (i := 1) rfl (Or.inl rfl))) (ss_one (s_att c.fld_own_name (x_var (i := 0) rfl (Or.inl rfl)) (x_var (i := 2) rfl (Or.inl rfl)))))
theorem s_World_init : FnScope ["self"] ["self"] (defScope (inClass (top 49) 3)) := ⟨rfl, rfl, rfl, by decide +kernel, rfl, by decide +kernel, by decide +kernel⟩
theorem B_World_init (c : Cp K mg base) : Binds K c.d_World_init ["self"] [] := c.F_World_init.bindsN fun _ _ _ _ _ _ us hl => match us, hl with | [_], _ => rfl
theorem w_World_init (c : Cp K mg base) : FnG g P w K mg base 1 c.f_World_init c.d_World_init ["self"] (spL K 1 WS.c_World_init) :=
  FnG.fn c.F_World_init s_World_init fun cdv A outer s H E hg hr => by
    have nd := s_World_init.nd
    unfold WS.m_World_init
    exact (ss_cons (s_att c.fld_rows (x_var (i := 0) rfl (Or.inl rfl)) x_dict0) (ss_one (s_att c.fld_lines (x_var (i := 0) rfl (Or.inl rfl)) x_dict0)))
theorem s_World_row_of : FnScope ["self", "name"] ["self", "name"] (defScope (inClass (top 49) 6)) := ⟨rfl, rfl, rfl, by decide +kernel, rfl, by decide +kernel, by decide +kernel⟩
theorem B_World_row_of (c : Cp K mg base) : Binds K c.d_World_row_of ["self", "name"] [] := c.F_World_row_of.bindsN fun _ _ _ _ _ _ us hl => match us, hl with | [_, _], _ => rfl
theorem w_World_row_of (c : Cp K mg base) : FnG g P w K mg base 1 c.f_World_row_of c.d_World_row_of ["self", "name"] (spL K 2 WS.c_World_row_of) :=
  FnG.fn c.F_World_row_of s_World_row_of fun cdv A outer s H E hg hr => by
    have nd := s_World_row_of.nd
    unfold WS.m_World_row_of
    exact (ss_cons (s_if (y_cmp (o_ninG (hu_of hr)) (x_var (i := 1) rfl (Or.inl rfl)) (x_fld (x_var (i := 0) rfl (Or.inl rfl)) c.fld_rows)) (ss_one s_never) ss_nil) (ss_one (s_ret (x_ixg (hu_of hr) (x_fld (x_var (i := 0) rfl (Or.inl rfl)) c.fld_rows) (x_var (i := 1) rfl (Or.inl rfl))))))
theorem s_World_need_class : FnScope ["self", "name"] ["self", "name"] (defScope (inClass (top 49) 7)) := ⟨rfl, rfl, rfl, by decide +kernel, rfl, by decide +kernel, by decide +kernel⟩
theorem B_World_need_class (c : Cp K mg base) : Binds K c.d_World_need_class ["self", "name"] [] := c.F_World_need_class.bindsN fun _ _ _ _ _ _ us hl => match us, hl with | [_, _], _ => rfl
theorem w_World_need_class (c : Cp K mg base) : FnG g P w K mg base 2 c.f_World_need_class c.d_World_need_class ["self", "name"] (spL K 2 WS.c_World_need_class) :=
  FnG.fn c.F_World_need_class s_World_need_class fun cdv A outer s H E hg hr => by
    have nd := s_World_need_class.nd
    unfold WS.m_World_need_class
    exact (ss_cons (s_if (y_not (y_tru (x_call (w_is_name c) hg (hr.mono (by decide)) rfl c.g_is_name c.F_is_name.kp (B_is_name c) .nil (fun _ _ => rfl) tk_body (a_cons (x_var (i := 1) rfl (Or.inl rfl)) a_nil)))) (ss_one s_never) ss_nil) (ss_one (s_exp (x_meth c.cls_World c.m_World_row_of (w_World_row_of c) hg (hr.mono (by decide)) (B_World_row_of c) .nil (fun _ _ => rfl) tk_body (x_var (i := 0) rfl (Or.inl rfl)) (a_cons (x_var (i := 1) rfl (Or.inl rfl)) a_nil)))))
theorem s_World_need_bases : FnScope ["self", "bases", "base"] ["self", "bases"] (defScope (inClass (top 49) 10)) := ⟨rfl, rfl, rfl, by decide +kernel, rfl, by decide +kernel, by decide +kernel⟩
theorem B_World_need_bases (c : Cp K mg base) : Binds K c.d_World_need_bases ["self", "bases"] [] := c.F_World_need_bases.bindsN fun _ _ _ _ _ _ us hl => match us, hl with | [_, _], _ => rfl
theorem w_World_need_bases (c : Cp K mg base) : FnG g P w K mg base 2 c.f_World_need_bases c.d_World_need_bases ["self", "bases"] (spL K 2 WS.c_World_need_bases) :=
  FnG.fn c.F_World_need_bases s_World_need_bases fun cdv A outer s H E hg hr => by
    have nd := s_World_need_bases.nd
    unfold WS.m_World_need_bases
    exact (ss_cons (s_if (PW.pt (w_or (y_cmp o_gt (x_cb c_len rfl c.n_len boot_len (a_cons (x_var (i := 1) rfl (Or.inl rfl)) a_nil)) (x_con (x_var (i := 0) rfl (Or.inl rfl)) c.cls_World c.con_MAX_BASES (fun _ _ => rfl))) (w_or1 (y_not (y_tru (x_cb (c_all rfl) rfl c.n_all boot_all (a_cons (x_lc (own := [("base", 2)]) (t := .nm 2) rfl nd (i_seq (x_var (i := 1) rfl (Or.inl rfl))) (blkOk_by (by kernel_rfl)) (by decide) (fun _ _ _ _ _ => (pg_name (i := 2) nd rfl (Or.inl rfl))) (fun _ _ _ _ _ => t_yes) (fun _ _ _ _ _ => (x_call (w_is_name c) hg (hr.mono (by decide)) rfl c.g_is_name c.F_is_name.kp (B_is_name c) .nil (fun _ _ => rfl) tk_blk (a_cons (x_var (i := 2) rfl (Or.inl rfl)) a_nil)))) a_nil))))))) (ss_one s_never) ss_nil) (ss_cons (s_if (y_cmp o_lt (x_lenset rfl rfl c.n_len rfl c.n_set (x_var (i := 1) rfl (Or.inl rfl))) (x_cb c_len rfl c.n_len boot_len (a_cons (x_var (i := 1) rfl (Or.inl rfl)) a_nil))) (ss_one s_never) ss_nil) (ss_one (s_for (t := .nm 2) ow_body rfl (i_seq (x_var (i := 1) rfl (Or.inl rfl))) (pg_name (i := 2) nd rfl (Or.inl rfl)) (ss_one (s_exp (x_meth c.cls_World c.m_World_row_of (w_World_row_of c) hg (hr.mono (by decide)) (B_World_row_of c) .nil (fun _ _ => rfl) tk_body (x_var (i := 0) rfl (Or.inl rfl)) (a_cons (x_var (i := 2) rfl (Or.inl rfl)) a_nil))))))))
theorem s_World_need_methods : FnScope ["self", "methods", "method"] ["self", "methods"] (defScope (inClass (top 49) 11)) := ⟨rfl, rfl, rfl, by decide +kernel, rfl, by decide +kernel, by decide +kernel⟩
theorem B_World_need_methods (c : Cp K mg base) : Binds K c.d_World_need_methods ["self", "methods"] [] := c.F_World_need_methods.bindsN fun _ _ _ _ _ _ us hl => match us, hl with | [_, _], _ => rfl
theorem w_World_need_methods (c : Cp K mg base) : FnG g P w K mg base 5 c.f_World_need_methods c.d_World_need_methods ["self", "methods"] (spL K 2 WS.c_World_need_methods) :=
  FnG.fn c.F_World_need_methods s_World_need_methods fun cdv A outer s H E hg hr => by
    have nd := s_World_need_methods.nd
    unfold WS.m_World_need_methods
    exact (ss_cons (s_for (t := .nm 2) ow_body rfl (i_seq (x_cb (c_sorted rfl) rfl c.n_sorted boot_sorted' (a_cons (x_var (i := 1) rfl (Or.inl rfl)) a_nil))) (pg_name (i := 2) nd rfl (Or.inl rfl)) (ss_one (s_if (PW.pt (w_or (y_not (y_tru (x_call (w_is_name c) hg (hr.mono (by decide)) rfl c.g_is_name c.F_is_name.kp (B_is_name c) .nil (fun _ _ => rfl) tk_body (a_cons (x_var (i := 2) rfl (Or.inl rfl)) a_nil)))) (w_or (y_cmp (o_inG (hu_of hr)) (x_var (i := 2) rfl (Or.inl rfl)) (x_c (pe_glob rfl c.g_RESERVED c.r_RESERVED) c.v_RESERVED)) (w_or1 (y_not (y_tru (x_call (w_is_method c) hg (hr.mono (by decide)) rfl c.g_is_method c.F_is_method.kp (B_is_method c) .nil (fun _ _ => rfl) tk_body (a_cons (x_ixg (hu_of hr) (x_var (i := 1) rfl (Or.inl rfl)) (x_var (i := 2) rfl (Or.inl rfl))) a_nil)))))))) (ss_one s_never) ss_nil))) (ss_one (s_if (y_cmp o_gt (x_cb c_len rfl c.n_len boot_len (a_cons (x_var (i := 1) rfl (Or.inl rfl)) a_nil)) (x_con (x_var (i := 0) rfl (Or.inl rfl)) c.cls_World c.con_MAX_METHODS (fun _ _ => rfl))) (ss_one s_never) ss_nil)))
theorem s_World_add_class : FnScope ["self", "name", "bases", "methods", "line", "method"] ["self", "name", "bases", "methods"] (defScope (inClass (top 49) 12)) := ⟨rfl, rfl, rfl, by decide +kernel, rfl, by decide +kernel, by decide +kernel⟩
theorem B_World_add_class (c : Cp K mg base) : Binds K c.d_World_add_class ["self", "name", "bases", "methods"] [] := c.F_World_add_class.bindsN fun _ _ _ _ _ _ us hl => match us, hl with | [_, _, _, _], _ => rfl
theorem w_World_add_class (c : Cp K mg base) : FnG g P w K mg base 6 c.f_World_add_class c.d_World_add_class ["self", "name", "bases", "methods"] (spL K 4 WS.c_World_add_class) :=
  FnG.fn c.F_World_add_class s_World_add_class fun cdv A outer s H E hg hr => by
    have nd := s_World_add_class.nd
    unfold WS.m_World_add_class
    exact (ss_cons (s_if (y_not (y_tru (x_call (w_is_name c) hg (hr.mono (by decide)) rfl c.g_is_name c.F_is_name.kp (B_is_name c) .nil (fun _ _ => rfl) tk_body (a_cons (x_var (i := 1) rfl (Or.inl rfl)) a_nil)))) (ss_one s_never) ss_nil) (ss_cons (s_if (y_cmp (o_inG (hu_of hr)) (x_var (i := 1) rfl (Or.inl rfl)) (x_fld (x_var (i := 0) rfl (Or.inl rfl)) c.fld_rows)) (ss_one s_never) ss_nil) (ss_cons (s_exp (x_meth c.cls_World c.m_World_need_bases (w_World_need_bases c) hg (hr.mono (by decide)) (B_World_need_bases c) .nil (fun _ _ => rfl) tk_body (x_var (i := 0) rfl (Or.inl rfl)) (a_cons (x_var (i := 2) rfl (Or.inl rfl)) a_nil))) (ss_cons (s_exp (x_meth c.cls_World c.m_World_need_methods (w_World_need_methods c) hg (hr.mono (by decide)) (B_World_need_methods c) .nil (fun _ _ => rfl) tk_body (x_var (i := 0) rfl (Or.inl rfl)) (a_cons (x_var (i := 3) rfl (Or.inr (Or.inl rfl))) a_nil))) (ss_cons (s_if (y_cmp o_ge (x_cb c_len rfl c.n_len boot_len (a_cons (x_fld (x_var (i := 0) rfl (Or.inl rfl)) c.fld_rows) a_nil)) (x_con (x_var (i := 0) rfl (Or.inl rfl)) c.cls_World c.con_MAX_CLASSES (fun _ _ => rfl))) (ss_one s_never) ss_nil) (ss_cons (s_set (i := 4) nd rfl (Or.inl rfl) (x_call (w_line_of c) hg (hr.mono (by decide)) rfl c.g_line_of c.F_line_of.kp (B_line_of c) .nil (fun _ _ => rfl) tk_body (a_cons (x_fld (x_var (i := 0) rfl (Or.inl rfl)) c.fld_lines) (a_cons (x_var (i := 1) rfl (Or.inl rfl)) (a_cons (x_var (i := 2) rfl (Or.inl rfl)) a_nil))))) (ss_cons (s_put (hu_of hr) (x_tup (a_cons (x_var (i := 2) rfl (Or.inl rfl)) (a_cons (x_dc (own := [("method", 5)]) (t := .nm 5) rfl nd (i_seq (x_cb (c_sorted rfl) rfl c.n_sorted boot_sorted' (a_cons (x_var (i := 3) rfl (Or.inr (Or.inl rfl))) a_nil))) (blkOk_by (by kernel_rfl)) (by decide) (fun _ _ _ _ _ => (pg_name (i := 5) nd rfl (Or.inl rfl))) (fun _ _ _ _ _ => t_yes) (fun _ _ _ _ _ => (x_var (i := 5) rfl (Or.inl rfl))) (fun _ _ _ _ _ => (x_ixg (hu_of hr) (x_var (i := 3) rfl (Or.inr (Or.inl rfl))) (x_var (i := 5) rfl (Or.inl rfl))))) a_nil))) (x_fld (x_var (i := 0) rfl (Or.inl rfl)) c.fld_rows) (x_var (i := 1) rfl (Or.inl rfl))) (ss_cons (s_put (hu_of hr) (x_var (i := 4) rfl (Or.inl rfl)) (x_fld (x_var (i := 0) rfl (Or.inl rfl)) c.fld_lines) (x_var (i := 1) rfl (Or.inl rfl))) (ss_one (s_ret (x_var (i := 4) rfl (Or.inl rfl))))))))))))
theorem s_World_member : FnScope ["self", "name"] ["self", "name"] (defScope (inClass (top 49) 16)) := ⟨rfl, rfl, rfl, by decide +kernel, rfl, by decide +kernel, by decide +kernel⟩
theorem B_World_member (c : Cp K mg base) : Binds K c.d_World_member ["self", "name"] [] := c.F_World_member.bindsN fun _ _ _ _ _ _ us hl => match us, hl with | [_, _], _ => rfl
theorem w_World_member (c : Cp K mg base) : FnG g P w K mg base 3 c.f_World_member c.d_World_member ["self", "name"] (spL K 2 WS.c_World_member) :=
  FnG.fn c.F_World_member s_World_member fun cdv A outer s H E hg hr => by
    have nd := s_World_member.nd
    unfold WS.m_World_member
    exact (ss_cons (s_exp (x_meth c.cls_World c.m_World_need_class (w_World_need_class c) hg (hr.mono (by decide)) (B_World_need_class c) .nil (fun _ _ => rfl) tk_body (x_var (i := 0) rfl (Or.inl rfl)) (a_cons (x_var (i := 1) rfl (Or.inl rfl)) a_nil))) (ss_one (s_ret (x_mk c.mk_Member (w_Member_init c) hg (hr.mono (by decide)) rfl c.g_Member (B_Member_init c) .nil (fun _ _ => rfl) tk_body (a_cons (x_var (i := 0) rfl (Or.inl rfl)) (a_cons (x_var (i := 1) rfl (Or.inl rfl)) a_nil))))))
theorem s_World_change_by : FnScope ["self", "change"] ["self", "change"] (defScope (inClass (top 49) 17)) := ⟨rfl, rfl, rfl, by decide +kernel, rfl, by decide +kernel, by decide +kernel⟩
theorem B_World_change_by (c : Cp K mg base) : Binds K c.d_World_change_by ["self", "change"] [] := c.F_World_change_by.bindsN fun _ _ _ _ _ _ us hl => match us, hl with | [_, _], _ => rfl
theorem w_World_change_by (c : Cp K mg base) : FnG g P w K mg base 7 c.f_World_change_by c.d_World_change_by ["self", "change"] (spL K 2 WS.c_World_change_by) :=
  FnG.fn c.F_World_change_by s_World_change_by fun cdv A outer s H E hg hr => by
    have nd := s_World_change_by.nd
    unfold WS.m_World_change_by
    exact (ss_cons (s_if (y_cmp (o_eq hr.units) (x_ixg (hu_of hr) (x_var (i := 1) rfl (Or.inl rfl)) x_int) x_str) (ss_one (s_ret (x_meth c.cls_World c.m_World_add_class (w_World_add_class c) hg (hr.mono (by decide)) (B_World_add_class c) .nil (fun _ _ => rfl) tk_body (x_var (i := 0) rfl (Or.inl rfl)) (a_cons (x_ixg (hu_of hr) (x_var (i := 1) rfl (Or.inl rfl)) x_int) (a_cons (x_ixg (hu_of hr) (x_var (i := 1) rfl (Or.inl rfl)) x_int) (a_cons (x_ixg (hu_of hr) (x_var (i := 1) rfl (Or.inl rfl)) x_int) a_nil)))))) ss_nil) (ss_cons s_never (ss_cons s_never (ss_cons s_never (ss_one s_never)))))
theorem s_World_perform : FnScope ["self", "changes", "index", "change", "kept_rows", "kept_lines", "results"] ["self", "changes"] (defScope (inClass (top 49) 18)) := ⟨rfl, rfl, rfl, by decide +kernel, rfl, by decide +kernel, by decide +kernel⟩
theorem w_World_perform (c : Cp K mg base) : FnR P w K mg base (CX P w) 8 c.f_World_perform (spV K WS.c_World_perform) :=
  FnV.fn c.F_World_perform s_World_perform (fun _ _ _ _ _ _ a rest => by cases rest <;> rfl) fun cdv A outer s H E hg hr => by
    have nd := s_World_perform.nd
    unfold WS.m_World_perform
    exact (ss_cons (s_for (t := .tp [.nm 2, .nm 3]) ow_body rfl (i_enum rfl c.n_enumerate (x_var (i := 1) rfl (Or.inl rfl))) (pg_tup rfl (pgs_cons (pg_name (i := 2) nd rfl (Or.inl rfl)) (pgs_cons (pg_name (i := 3) nd rfl (Or.inl rfl)) pgs_nil))) (ss_one (s_if (y_not (y_tru (x_call (w_is_change c) hg (hr.mono (by decide)) rfl c.g_is_change c.F_is_change.kp (B_is_change c) .nil (fun _ _ => rfl) tk_body (a_cons (x_var (i := 3) rfl (Or.inl rfl)) a_nil)))) (ss_one s_never) ss_nil))) (ss_cons (s_par3 (i := 4) (j := 5) (l := 6) rfl nd rfl rfl rfl (by decide) (by decide) (by decide) rfl rfl rfl (a_cons (x_ct (c_dict rfl) rfl c.n_dict boot_dict (a_cons (x_fld (x_var (i := 0) rfl (Or.inr (Or.inl rfl))) c.fld_rows) a_nil)) (a_cons (x_ct (c_dict rfl) rfl c.n_dict boot_dict (a_cons (x_fld (x_var (i := 0) rfl (Or.inr (Or.inl rfl))) c.fld_lines) a_nil)) (a_cons x_non a_nil)))) (ss_cons (s_tryF (ss_one (s_setLc (i := 6) (own := [("change", 3)]) (t := .nm 3) rfl nd rfl rfl (i_seq (x_var (i := 1) rfl (Or.inl rfl))) (blkOk_by (by kernel_rfl)) (by decide) (fun _ _ _ _ _ => (pg_name (i := 3) nd rfl (Or.inl rfl))) (fun _ _ _ _ _ => t_yes) (fun _ _ _ _ _ => (x_meth c.cls_World c.m_World_change_by (w_World_change_by c) hg (hr.mono (by decide)) (B_World_change_by c) .nil (fun _ _ => rfl) tk_blk (x_var (i := 0) rfl (Or.inr (Or.inl rfl))) (a_cons (x_var (i := 3) rfl (Or.inl rfl)) a_nil))))) (ss_one (s_if (y_cmp o_is (x_var (i := 6) rfl (Or.inl rfl)) x_non) (ss_one s_never) ss_nil))) (ss_one (s_ret (x_var (i := 6) rfl (Or.inl rfl)))))))
theorem s_World_names : FnScope ["self"] ["self"] (defScope (inClass (top 49) 21)) := ⟨rfl, rfl, rfl, by decide +kernel, rfl, by decide +kernel, by decide +kernel⟩
theorem B_World_names (c : Cp K mg base) : Binds K c.d_World_names ["self"] [] := c.F_World_names.bindsN fun _ _ _ _ _ _ us hl => match us, hl with | [_], _ => rfl
theorem w_World_names (c : Cp K mg base) : FnG g P w K mg base 1 c.f_World_names c.d_World_names ["self"] (spL K 1 WS.c_World_names) :=
  FnG.fn c.F_World_names s_World_names fun cdv A outer s H E hg hr => by
    have nd := s_World_names.nd
    unfold WS.m_World_names
    exact (ss_one (s_ret (x_ct (c_tuple rfl) rfl c.n_tuple boot_tuple (a_cons (x_fld (x_var (i := 0) rfl (Or.inl rfl)) c.fld_rows) a_nil))))
theorem s_World_linearizations : FnScope ["self"] ["self"] (defScope (inClass (top 49) 22)) := ⟨rfl, rfl, rfl, by decide +kernel, rfl, by decide +kernel, by decide +kernel⟩
theorem B_World_linearizations (c : Cp K mg base) : Binds K c.d_World_linearizations ["self"] [] := c.F_World_linearizations.bindsN fun _ _ _ _ _ _ us hl => match us, hl with | [_], _ => rfl
theorem w_World_linearizations (c : Cp K mg base) : FnG g P w K mg base 1 c.f_World_linearizations c.d_World_linearizations ["self"] (spL K 1 WS.c_World_linearizations) :=
  FnG.fn c.F_World_linearizations s_World_linearizations fun cdv A outer s H E hg hr => by
    have nd := s_World_linearizations.nd
    unfold WS.m_World_linearizations
    exact (ss_one (s_ret (x_ct (c_dict rfl) rfl c.n_dict boot_dict (a_cons (x_fld (x_var (i := 0) rfl (Or.inl rfl)) c.fld_lines) a_nil))))
theorem s_World_copy : FnScope ["self", "world"] ["self"] (defScope (inClass (top 49) 23)) := ⟨rfl, rfl, rfl, by decide +kernel, rfl, by decide +kernel, by decide +kernel⟩
theorem B_World_copy (c : Cp K mg base) : Binds K c.d_World_copy ["self"] [] := c.F_World_copy.bindsN fun _ _ _ _ _ _ us hl => match us, hl with | [_], _ => rfl
theorem w_World_copy (c : Cp K mg base) : FnG g P w K mg base 3 c.f_World_copy c.d_World_copy ["self"] (spL K 1 WS.c_World_copy) :=
  FnG.fn c.F_World_copy s_World_copy fun cdv A outer s H E hg hr => by
    have nd := s_World_copy.nd
    unfold WS.m_World_copy
    exact (ss_cons (s_set (i := 1) nd rfl (Or.inl rfl) (x_mk0 c.mk_World (w_World_init c) hg (hr.mono (by decide)) rfl c.g_World (B_World_init c) .nil (fun _ _ => rfl) tk_body)) (ss_cons (s_att2 rfl c.fld_rows c.fld_lines (x_var (i := 1) rfl (Or.inl rfl)) (x_var (i := 1) rfl (Or.inl rfl)) (x_tup (a_cons (x_ct (c_dict rfl) rfl c.n_dict boot_dict (a_cons (x_fld (x_var (i := 0) rfl (Or.inl rfl)) c.fld_rows) a_nil)) (a_cons (x_ct (c_dict rfl) rfl c.n_dict boot_dict (a_cons (x_fld (x_var (i := 0) rfl (Or.inl rfl)) c.fld_lines) a_nil)) a_nil)))) (ss_one (s_ret (x_var (i := 1) rfl (Or.inl rfl))))))
theorem s_World_len : FnScope ["self"] ["self"] (defScope (inClass (top 49) 24)) := ⟨rfl, rfl, rfl, by decide +kernel, rfl, by decide +kernel, by decide +kernel⟩
theorem B_World_len (c : Cp K mg base) : Binds K c.d_World_len ["self"] [] := c.F_World_len.bindsN fun _ _ _ _ _ _ us hl => match us, hl with | [_], _ => rfl
theorem w_World_len (c : Cp K mg base) : FnG g P w K mg base 1 c.f_World_len c.d_World_len ["self"] (spL K 1 WS.c_World_len) :=
  FnG.fn c.F_World_len s_World_len fun cdv A outer s H E hg hr => by
    have nd := s_World_len.nd
    unfold WS.m_World_len
    exact (ss_one (s_ret (x_cb c_len rfl c.n_len boot_len (a_cons (x_fld (x_var (i := 0) rfl (Or.inl rfl)) c.fld_rows) a_nil))))
theorem s_World_str : FnScope ["self"] ["self"] (defScope (inClass (top 49) 29)) := ⟨rfl, rfl, rfl, by decide +kernel, rfl, by decide +kernel, by decide +kernel⟩
theorem B_World_str (c : Cp K mg base) : Binds K c.d_World_str ["self"] [] := c.F_World_str.bindsN fun _ _ _ _ _ _ us hl => match us, hl with | [_], _ => rfl
theorem w_World_str (c : Cp K mg base) : FnG g P w K mg base 4 c.f_World_str c.d_World_str ["self"] (spL K 1 WS.c_World_str) :=
  FnG.fn c.F_World_str s_World_str fun cdv A outer s H E hg hr => by
    have nd := s_World_str.nd
    unfold WS.m_World_str
    exact (ss_one (s_ret (x_ct c_str rfl c.n_str boot_str (a_cons (x_call (w_text_of c) hg (hr.mono (by decide)) rfl c.g_text_of c.F_text_of.kp (B_text_of c) .nil (fun _ _ => rfl) tk_body (a_cons (x_fld (x_var (i := 0) rfl (Or.inl rfl)) c.fld_rows) a_nil)) a_nil))))
theorem s__law_source : FnScope ["_law_script", "_law_k", "_law_cell"] ["_law_script", "_law_k"] (defScope (top 51)) := ⟨rfl, rfl, rfl, by decide +kernel, rfl, by decide +kernel, by decide +kernel⟩
theorem B__law_source (c : Cp K mg base) : Binds K c.d__law_source ["_law_script", "_law_k"] [] := c.F__law_source.bindsN fun _ _ _ _ _ _ us hl => match us, hl with | [_, _], _ => rfl
theorem w__law_source (c : Cp K mg base) : FnG g P w K mg base 1 c.f__law_source c.d__law_source ["_law_script", "_law_k"] (spL K 2 WS.c__law_source) :=
  FnG.fn c.F__law_source s__law_source fun cdv A outer s H E hg hr => by
    have nd := s__law_source.nd
    unfold WS.m__law_source
    exact (ss_cons (s_set (i := 2) nd rfl (Or.inl rfl) (x_if (y_cmp (o_ne hr.units) (x_var (i := 0) rfl (Or.inl rfl)) (x_lst a_nil)) (x_ixg (hu_of hr) (x_var (i := 0) rfl (Or.inl rfl)) (x_op o_mod (x_var (i := 1) rfl (Or.inl rfl)) (x_cb c_len rfl c.n_len boot_len (a_cons (x_var (i := 0) rfl (Or.inl rfl)) a_nil)))) x_int)) (ss_one (s_ret (x_lst (a_cons (x_var (i := 2) rfl (Or.inl rfl)) (a_cons (x_op o_mul x_int (x_var (i := 1) rfl (Or.inl rfl))) (a_cons (x_if (y_cmp o_ge (x_var (i := 2) rfl (Or.inl rfl)) (x_op o_pow x_int x_int)) (x_op o_fdv (x_var (i := 2) rfl (Or.inl rfl)) (x_op o_pow x_int x_int)) x_int) a_nil)))))))
theorem s__law_next : FnScope ["_law_source_here", "_law_many", "_law_found", "_law_primes", "_law_prime"] ["_law_source_here", "_law_many"] (defScope (top 52)) := ⟨rfl, rfl, rfl, by decide +kernel, rfl, by decide +kernel, by decide +kernel⟩
theorem B__law_next (c : Cp K mg base) : Binds K c.d__law_next ["_law_source_here", "_law_many"] [] := c.F__law_next.bindsN fun _ _ _ _ _ _ us hl => match us, hl with | [_, _], _ => rfl
theorem w__law_next (c : Cp K mg base) : FnG g P w K mg base 1 c.f__law_next c.d__law_next ["_law_source_here", "_law_many"] (spL K 2 WS.c__law_next) :=
  FnG.fn c.F__law_next s__law_next fun cdv A outer s H E hg hr => by
    have nd := s__law_next.nd
    unfold WS.m__law_next
    exact (ss_cons (s_if (y_cmp o_gt (x_ixg (hu_of hr) (x_var (i := 0) rfl (Or.inl rfl)) x_int) x_int) (ss_cons (s_set (i := 2) nd rfl (Or.inl rfl) (x_op o_mod (x_ixg (hu_of hr) (x_var (i := 0) rfl (Or.inl rfl)) x_int) (x_var (i := 1) rfl (Or.inl rfl)))) (ss_cons (s_put (hu_of hr) (x_op o_fdv (x_ixg (hu_of hr) (x_var (i := 0) rfl (Or.inl rfl)) x_int) (x_var (i := 1) rfl (Or.inl rfl))) (x_var (i := 0) rfl (Or.inl rfl)) x_int) (ss_one (s_ret (x_var (i := 2) rfl (Or.inl rfl)))))) ss_nil) (ss_cons (s_put (hu_of hr) (x_op o_add (x_ixg (hu_of hr) (x_var (i := 0) rfl (Or.inl rfl)) x_int) x_int) (x_var (i := 0) rfl (Or.inl rfl)) x_int) (ss_cons (s_set (i := 3) nd rfl (Or.inl rfl) (x_lst (a_cons x_int (a_cons x_int (a_cons x_int (a_cons x_int (a_cons x_int (a_cons x_int (a_cons x_int (a_cons x_int a_nil)))))))))) (ss_cons (s_set (i := 4) nd rfl (Or.inl rfl) (x_ixg (hu_of hr) (x_op o_add (x_var (i := 3) rfl (Or.inl rfl)) (x_lst (a_cons x_int (a_cons x_int (a_cons x_int a_nil))))) (x_op o_mod (x_ixg (hu_of hr) (x_var (i := 0) rfl (Or.inl rfl)) x_int) x_int))) (ss_one (s_ret (x_op o_mod (x_op o_fdv (x_op o_mod (x_op o_pow (x_op o_add (x_op o_add (x_op o_mod (x_ixg (hu_of hr) (x_var (i := 0) rfl (Or.inl rfl)) x_int) (x_var (i := 4) rfl (Or.inl rfl))) (x_op o_mul x_int (x_ixg (hu_of hr) (x_var (i := 0) rfl (Or.inl rfl)) x_int))) x_int) x_int) (x_var (i := 4) rfl (Or.inl rfl))) x_int) (x_var (i := 1) rfl (Or.inl rfl)))))))))
theorem s__law_mixed : FnScope ["_law_source_here", "_law_items", "_law_rest", "_law_found"] ["_law_source_here", "_law_items"] (defScope (top 53)) := ⟨rfl, rfl, rfl, by decide +kernel, rfl, by decide +kernel, by decide +kernel⟩
theorem B__law_mixed (c : Cp K mg base) : Binds K c.d__law_mixed ["_law_source_here", "_law_items"] [] := c.F__law_mixed.bindsN fun _ _ _ _ _ _ us hl => match us, hl with | [_, _], _ => rfl
theorem w__law_mixed (c : Cp K mg base) : FnG g P w K mg base 2 c.f__law_mixed c.d__law_mixed ["_law_source_here", "_law_items"] (spL K 2 WS.c__law_mixed) :=
  FnG.fn c.F__law_mixed s__law_mixed fun cdv A outer s H E hg hr => by
    have nd := s__law_mixed.nd
    unfold WS.m__law_mixed
    exact (ss_cons (s_par (i := 2) (j := 3) rfl nd rfl rfl (by decide) rfl rfl (a_cons (x_ct (c_list rfl) rfl c.n_list boot_list (a_cons (x_var (i := 1) rfl (Or.inl rfl)) a_nil)) (a_cons (x_lst a_nil) a_nil))) (ss_cons (s_while ow_body (y_cmp (o_ne hr.units) (x_var (i := 2) rfl (Or.inl rfl)) (x_lst a_nil)) (ss_one (s_exp (x_bm F.plainAttrs_list F.slot_list_append F.type_list_append m_app (x_var (i := 3) rfl (Or.inl rfl)) (a_cons (x_bm F.plainAttrs_list F.slot_list_pop F.type_list_pop m_pop (x_var (i := 2) rfl (Or.inl rfl)) (a_cons (x_call (w__law_next c) hg (hr.mono (by decide)) rfl c.g__law_next c.F__law_next.kp (B__law_next c) .nil (fun _ _ => rfl) tk_body (a_cons (x_var (i := 0) rfl (Or.inl rfl)) (a_cons (x_cb c_len rfl c.n_len boot_len (a_cons (x_var (i := 2) rfl (Or.inl rfl)) a_nil)) a_nil))) a_nil)) a_nil))))) (ss_one (s_ret (x_var (i := 3) rfl (Or.inl rfl))))))
theorem s__law_merged : FnScope ["_law_lists", "_law_found", "_law_heads", "_law_good", "_law_one", "_law_head", "_law_name"] ["_law_lists"] (defScope (top 54)) := ⟨rfl, rfl, rfl, by decide +kernel, rfl, by decide +kernel, by decide +kernel⟩
theorem B__law_merged (c : Cp K mg base) : Binds K c.d__law_merged ["_law_lists"] [] := c.F__law_merged.bindsN fun _ _ _ _ _ _ us hl => match us, hl with | [_], _ => rfl
theorem w__law_merged (c : Cp K mg base) : FnG g P w K mg base 1 c.f__law_merged c.d__law_merged ["_law_lists"] (spL K 1 WS.c__law_merged) :=
  FnG.fn c.F__law_merged s__law_merged fun cdv A outer s H E hg hr => by
    have nd := s__law_merged.nd
    unfold WS.m__law_merged
    exact (ss_cons (s_to (t := .tp [.nm 0, .nm 1]) (x_tup (a_cons (x_lc (own := [("_law_one", 4)]) (t := .nm 4) rfl nd (i_seq (x_var (i := 0) rfl (Or.inr (Or.inl rfl)))) (blkOk_by (by kernel_rfl)) (by decide) (fun _ _ _ _ _ => (pg_name (i := 4) nd rfl (Or.inl rfl))) (fun _ _ _ _ _ => t_yes) (fun _ _ _ _ _ => (x_ct (c_list rfl) rfl c.n_list boot_list (a_cons (x_var (i := 4) rfl (Or.inl rfl)) a_nil)))) (a_cons (x_lst a_nil) a_nil))) (pg_tup rfl (pgs_cons (pg_name (i := 0) nd rfl (Or.inr rfl)) (pgs_cons (pg_name (i := 1) nd rfl (Or.inl rfl)) pgs_nil)))) (ss_cons (s_while ow_body (y_cmp (o_ne hr.units) (x_lc (own := [("_law_one", 4)]) (t := .nm 4) rfl nd (i_seq (x_var (i := 0) rfl (Or.inr (Or.inl rfl)))) (blkOk_by (by kernel_rfl)) (by decide) (fun _ _ _ _ _ => (pg_name (i := 4) nd rfl (Or.inl rfl))) (fun _ _ _ _ _ => (t_one (y_cmp (o_ne hr.units) (x_var (i := 4) rfl (Or.inl rfl)) (x_lst a_nil)))) (fun _ _ _ _ _ => (x_var (i := 4) rfl (Or.inl rfl)))) (x_lst a_nil)) (ss_cons (s_setLc (i := 2) (own := [("_law_one", 4)]) (t := .nm 4) rfl nd rfl rfl (i_seq (x_var (i := 0) rfl (Or.inr (Or.inl rfl)))) (blkOk_by (by kernel_rfl)) (by decide) (fun _ _ _ _ _ => (pg_name (i := 4) nd rfl (Or.inl rfl))) (fun _ _ _ _ _ => (t_one (y_cmp (o_ne hr.units) (x_var (i := 4) rfl (Or.inl rfl)) (x_lst a_nil)))) (fun _ _ _ _ _ => (x_ixg (hu_of hr) (x_var (i := 4) rfl (Or.inl rfl)) x_int))) (ss_cons (s_set (i := 3) nd rfl (Or.inr rfl) (x_lc (own := [("_law_head", 5)]) (t := .nm 5) rfl nd (i_seq (x_var (i := 2) rfl (Or.inl rfl))) (blkOk_by (by kernel_rfl)) (by decide) (fun _ _ _ _ _ => (pg_name (i := 5) nd rfl (Or.inr rfl))) (fun _ _ _ _ _ => (t_one (y_cmp (o_eq hr.units) (x_lc (own := [("_law_one", 4)]) (t := .nm 4) rfl nd (i_seq (x_var (i := 0) rfl (Or.inr (Or.inl rfl)))) (blkOk_by (by kernel_rfl)) (by decide) (fun _ _ _ _ _ => (pg_name (i := 4) nd rfl (Or.inl rfl))) (fun _ _ _ _ _ => (t_one (y_cmp (o_inG (hu_of hr)) (x_var (i := 5) rfl (Or.inr (Or.inl rfl))) (x_slc (x_var (i := 4) rfl (Or.inl rfl)) (o_some x_int) o_none)))) (fun _ _ _ _ _ => (x_var (i := 4) rfl (Or.inl rfl)))) (x_lst a_nil)))) (fun _ _ _ _ _ => (x_var (i := 5) rfl (Or.inr (Or.inl rfl)))))) (ss_cons (s_if (y_cmp (o_eq hr.units) (x_var (i := 3) rfl (Or.inr (Or.inl rfl))) (x_lst a_nil)) (ss_one (s_ret x_non)) ss_nil) (ss_cons (s_exp (x_bm F.plainAttrs_list F.slot_list_append F.type_list_append m_app (x_var (i := 1) rfl (Or.inl rfl)) (a_cons (x_ixg (hu_of hr) (x_var (i := 3) rfl (Or.inr (Or.inl rfl))) x_int) a_nil))) (ss_one (s_set (i := 0) nd rfl (Or.inr rfl) (x_lc (own := [("_law_one", 4)]) (t := .nm 4) rfl nd (i_seq (x_var (i := 0) rfl (Or.inr (Or.inl rfl)))) (blkOk_by (by kernel_rfl)) (by decide) (fun _ _ _ _ _ => (pg_name (i := 4) nd rfl (Or.inl rfl))) (fun _ _ _ _ _ => t_yes) (fun _ _ _ _ _ => (x_lc (own := [("_law_name", 6)]) (t := .nm 6) rfl nd (i_seq (x_var (i := 4) rfl (Or.inl rfl))) (blkOk_by (by kernel_rfl)) (by decide) (fun _ _ _ _ _ => (pg_name (i := 6) nd rfl (Or.inl rfl))) (fun _ _ _ _ _ => (t_one (y_cmp (o_ne hr.units) (x_var (i := 6) rfl (Or.inl rfl)) (x_ixg (hu_of hr) (x_var (i := 3) rfl (Or.inr (Or.inl rfl))) x_int)))) (fun _ _ _ _ _ => (x_var (i := 6) rfl (Or.inl rfl))))))))))))) (ss_one (s_ret (x_ct (c_tuple rfl) rfl c.n_tuple boot_tuple (a_cons (x_var (i := 1) rfl (Or.inl rfl)) a_nil))))))
theorem s__law_line : FnScope ["_law_lines_here", "_law_name", "_law_bases", "_law_found", "_law_base"] ["_law_lines_here", "_law_name", "_law_bases"] (defScope (top 55)) := ⟨rfl, rfl, rfl, by decide +kernel, rfl, by decide +kernel, by decide +kernel⟩
theorem B__law_line (c : Cp K mg base) : Binds K c.d__law_line ["_law_lines_here", "_law_name", "_law_bases"] [] := c.F__law_line.bindsN fun _ _ _ _ _ _ us hl => match us, hl with | [_, _, _], _ => rfl
theorem w__law_line (c : Cp K mg base) : FnG g P w K mg base 2 c.f__law_line c.d__law_line ["_law_lines_here", "_law_name", "_law_bases"] (spL K 3 WS.c__law_line) :=
  FnG.fn c.F__law_line s__law_line fun cdv A outer s H E hg hr => by
    have nd := s__law_line.nd
    unfold WS.m__law_line
    exact (ss_cons (s_set (i := 3) nd rfl (Or.inl rfl) (x_call (w__law_merged c) hg (hr.mono (by decide)) rfl c.g__law_merged c.F__law_merged.kp (B__law_merged c) .nil (fun _ _ => rfl) tk_body (a_cons (x_op o_add (x_lc (own := [("_law_base", 4)]) (t := .nm 4) rfl nd (i_seq (x_var (i := 2) rfl (Or.inl rfl))) (blkOk_by (by kernel_rfl)) (by decide) (fun _ _ _ _ _ => (pg_name (i := 4) nd rfl (Or.inl rfl))) (fun _ _ _ _ _ => t_yes) (fun _ _ _ _ _ => (x_ixg (hu_of hr) (x_var (i := 0) rfl (Or.inr (Or.inl rfl))) (x_var (i := 4) rfl (Or.inl rfl))))) (x_lst (a_cons (x_var (i := 2) rfl (Or.inl rfl)) a_nil))) a_nil))) (ss_one (s_ret (x_if (y_cmp o_is (x_var (i := 3) rfl (Or.inl rfl)) x_non) x_non (x_op o_add (x_tup (a_cons (x_var (i := 1) rfl (Or.inl rfl)) a_nil)) (x_var (i := 3) rfl (Or.inl rfl)))))))
theorem s__law_rows : FnScope ["_law_source_here", "_law_many", "_law_most", "_law_names", "_law_rows_here", "_law_lines_here", "_law_name", "_law_bases"] ["_law_source_here", "_law_many", "_law_most"] (defScope (top 56)) := ⟨rfl, rfl, rfl, by decide +kernel, rfl, by decide +kernel, by decide +kernel⟩
theorem B__law_rows (c : Cp K mg base) : Binds K c.d__law_rows ["_law_source_here", "_law_many", "_law_most"] [] := c.F__law_rows.bindsN fun _ _ _ _ _ _ us hl => match us, hl with | [_, _, _], _ => rfl
theorem w__law_rows (c : Cp K mg base) : FnG g P w K mg base 3 c.f__law_rows c.d__law_rows ["_law_source_here", "_law_many", "_law_most"] (spL K 3 WS.c__law_rows) :=
  FnG.fn c.F__law_rows s__law_rows fun cdv A outer s H E hg hr => by
    have nd := s__law_rows.nd
    unfold WS.m__law_rows
    exact (ss_cons (s_par3 (i := 3) (j := 4) (l := 5) rfl nd rfl rfl rfl (by decide) (by decide) (by decide) rfl rfl rfl (a_cons (x_slc (x_call (w__law_mixed c) hg (hr.mono (by decide)) rfl c.g__law_mixed c.F__law_mixed.kp (B__law_mixed c) .nil (fun _ _ => rfl) tk_body (a_cons (x_var (i := 0) rfl (Or.inl rfl)) (a_cons (x_lst (a_cons x_str (a_cons x_str (a_cons x_str (a_cons x_str (a_cons x_str (a_cons x_str (a_cons x_str (a_cons x_str (a_cons x_str (a_cons x_str a_nil))))))))))) a_nil))) o_none (o_some (x_var (i := 1) rfl (Or.inl rfl)))) (a_cons (x_lst a_nil) (a_cons x_dict0 a_nil)))) (ss_cons (s_for (t := .nm 6) ow_body rfl (i_seq (x_var (i := 3) rfl (Or.inl rfl))) (pg_name (i := 6) nd rfl (Or.inl rfl)) (ss_cons (s_set (i := 7) nd rfl (Or.inl rfl) (x_ct (c_tuple rfl) rfl c.n_tuple boot_tuple (a_cons (x_slc (x_call (w__law_mixed c) hg (hr.mono (by decide)) rfl c.g__law_mixed c.F__law_mixed.kp (B__law_mixed c) .nil (fun _ _ => rfl) tk_body (a_cons (x_var (i := 0) rfl (Or.inl rfl)) (a_cons (x_ct (c_list rfl) rfl c.n_list boot_list (a_cons (x_var (i := 5) rfl (Or.inl rfl)) a_nil)) a_nil))) o_none (o_some (x_call (w__law_next c) hg (hr.mono (by decide)) rfl c.g__law_next c.F__law_next.kp (B__law_next c) .nil (fun _ _ => rfl) tk_body (a_cons (x_var (i := 0) rfl (Or.inl rfl)) (a_cons (x_op o_add (x_var (i := 2) rfl (Or.inl rfl)) x_int) a_nil))))) a_nil))) (ss_cons (s_while ow_body (y_cmp o_is (x_call (w__law_line c) hg (hr.mono (by decide)) rfl c.g__law_line c.F__law_line.kp (B__law_line c) .nil (fun _ _ => rfl) tk_body (a_cons (x_var (i := 5) rfl (Or.inl rfl)) (a_cons (x_var (i := 6) rfl (Or.inl rfl)) (a_cons (x_var (i := 7) rfl (Or.inl rfl)) a_nil)))) x_non) (ss_one (s_set (i := 7) nd rfl (Or.inl rfl) (x_slc (x_var (i := 7) rfl (Or.inl rfl)) (o_some x_int) o_none)))) (ss_cons (s_exp (x_bm F.plainAttrs_list F.slot_list_append F.type_list_append m_app (x_var (i := 4) rfl (Or.inl rfl)) (a_cons (x_tup (a_cons (x_var (i := 6) rfl (Or.inl rfl)) (a_cons (x_var (i := 7) rfl (Or.inl rfl)) a_nil))) a_nil))) (ss_one (s_put (hu_of hr) (x_call (w__law_line c) hg (hr.mono (by decide)) rfl c.g__law_line c.F__law_line.kp (B__law_line c) .nil (fun _ _ => rfl) tk_body (a_cons (x_var (i := 5) rfl (Or.inl rfl)) (a_cons (x_var (i := 6) rfl (Or.inl rfl)) (a_cons (x_var (i := 7) rfl (Or.inl rfl)) a_nil)))) (x_var (i := 5) rfl (Or.inl rfl)) (x_var (i := 6) rfl (Or.inl rfl)))))))) (ss_one (s_ret (x_var (i := 4) rfl (Or.inl rfl))))))
theorem s__law_lines : FnScope ["_law_rows_here", "_law_found", "_law_name", "_law_bases"] ["_law_rows_here"] (defScope (top 57)) := ⟨rfl, rfl, rfl, by decide +kernel, rfl, by decide +kernel, by decide +kernel⟩
theorem B__law_lines (c : Cp K mg base) : Binds K c.d__law_lines ["_law_rows_here"] [] := c.F__law_lines.bindsN fun _ _ _ _ _ _ us hl => match us, hl with | [_], _ => rfl
theorem w__law_lines (c : Cp K mg base) : FnG g P w K mg base 3 c.f__law_lines c.d__law_lines ["_law_rows_here"] (spL K 1 WS.c__law_lines) :=
  FnG.fn c.F__law_lines s__law_lines fun cdv A outer s H E hg hr => by
    have nd := s__law_lines.nd
    unfold WS.m__law_lines
    exact (ss_cons (s_set (i := 1) nd rfl (Or.inl rfl) x_dict0) (ss_cons (s_for (t := .tp [.nm 2, .nm 3]) ow_body rfl (i_seq (x_var (i := 0) rfl (Or.inl rfl))) (pg_tup rfl (pgs_cons (pg_name (i := 2) nd rfl (Or.inl rfl)) (pgs_cons (pg_name (i := 3) nd rfl (Or.inl rfl)) pgs_nil))) (ss_one (s_put (hu_of hr) (x_call (w__law_line c) hg (hr.mono (by decide)) rfl c.g__law_line c.F__law_line.kp (B__law_line c) .nil (fun _ _ => rfl) tk_body (a_cons (x_var (i := 1) rfl (Or.inl rfl)) (a_cons (x_var (i := 2) rfl (Or.inl rfl)) (a_cons (x_var (i := 3) rfl (Or.inl rfl)) a_nil)))) (x_var (i := 1) rfl (Or.inl rfl)) (x_var (i := 2) rfl (Or.inl rfl))))) (ss_one (s_ret (x_var (i := 1) rfl (Or.inl rfl))))))
theorem s__law_pick : FnScope ["_law_source_here", "_law_items"] ["_law_source_here", "_law_items"] (defScope (top 58)) := ⟨rfl, rfl, rfl, by decide +kernel, rfl, by decide +kernel, by decide +kernel⟩
theorem B__law_pick (c : Cp K mg base) : Binds K c.d__law_pick ["_law_source_here", "_law_items"] [] := c.F__law_pick.bindsN fun _ _ _ _ _ _ us hl => match us, hl with | [_, _], _ => rfl
theorem w__law_pick (c : Cp K mg base) : FnG g P w K mg base 2 c.f__law_pick c.d__law_pick ["_law_source_here", "_law_items"] (spL K 2 WS.c__law_pick) :=
  FnG.fn c.F__law_pick s__law_pick fun cdv A outer s H E hg hr => by
    have nd := s__law_pick.nd
    unfold WS.m__law_pick
    exact (ss_one (s_ret (x_ixg (hu_of hr) (x_var (i := 1) rfl (Or.inl rfl)) (x_call (w__law_next c) hg (hr.mono (by decide)) rfl c.g__law_next c.F__law_next.kp (B__law_next c) .nil (fun _ _ => rfl) tk_body (a_cons (x_var (i := 0) rfl (Or.inl rfl)) (a_cons (x_cb c_len rfl c.n_len boot_len (a_cons (x_var (i := 1) rfl (Or.inl rfl)) a_nil)) a_nil))))))
theorem s__law_word_row : FnScope ["_law_source_here", "_law_most", "_law_turn"] ["_law_source_here", "_law_most"] (defScope (top 59)) := ⟨rfl, rfl, rfl, by decide +kernel, rfl, by decide +kernel, by decide +kernel⟩
theorem B__law_word_row (c : Cp K mg base) : Binds K c.d__law_word_row ["_law_source_here", "_law_most"] [] := c.F__law_word_row.bindsN fun _ _ _ _ _ _ us hl => match us, hl with | [_, _], _ => rfl
theorem w__law_word_row (c : Cp K mg base) : FnG g P w K mg base 3 c.f__law_word_row c.d__law_word_row ["_law_source_here", "_law_most"] (spL K 2 WS.c__law_word_row) :=
  FnG.fn c.F__law_word_row s__law_word_row fun cdv A outer s H E hg hr => by
    have nd := s__law_word_row.nd
    unfold WS.m__law_word_row
    exact (ss_one (s_ret (x_ct (c_tuple rfl) rfl c.n_tuple boot_tuple (a_cons (x_lc (own := [("_law_turn", 2)]) (t := .nm 2) rfl nd (i_range1 rfl c.n_range (a_cons (x_call (w__law_next c) hg (hr.mono (by decide)) rfl c.g__law_next c.F__law_next.kp (B__law_next c) .nil (fun _ _ => rfl) tk_body (a_cons (x_var (i := 0) rfl (Or.inr (Or.inl rfl))) (a_cons (x_op o_add (x_var (i := 1) rfl (Or.inl rfl)) x_int) a_nil))) a_nil)) (blkOk_by (by kernel_rfl)) (by decide) (fun _ _ _ _ _ => (pg_name (i := 2) nd rfl (Or.inl rfl))) (fun _ _ _ _ _ => t_yes) (fun _ _ _ _ _ => (x_call (w__law_pick c) hg (hr.mono (by decide)) rfl c.g__law_pick c.F__law_pick.kp (B__law_pick c) .nil (fun _ _ => rfl) tk_blk (a_cons (x_var (i := 0) rfl (Or.inr (Or.inl rfl))) (a_cons (x_lst (a_cons x_str (a_cons x_str (a_cons x_str a_nil)))) a_nil))))) a_nil))))
theorem s__law_method : FnScope ["_law_source_here", "_law_takes", "_law_before", "_law_passes"] ["_law_source_here"] (defScope (top 60)) := ⟨rfl, rfl, rfl, by decide +kernel, rfl, by decide +kernel, by decide +kernel⟩
theorem B__law_method (c : Cp K mg base) : Binds K c.d__law_method ["_law_source_here"] [] := c.F__law_method.bindsN fun _ _ _ _ _ _ us hl => match us, hl with | [_], _ => rfl
theorem w__law_method (c : Cp K mg base) : FnG g P w K mg base 4 c.f__law_method c.d__law_method ["_law_source_here"] (spL K 1 WS.c__law_method) :=
  FnG.fn c.F__law_method s__law_method fun cdv A outer s H E hg hr => by
    have nd := s__law_method.nd
    unfold WS.m__law_method
    exact (ss_cons (s_set (i := 1) nd rfl (Or.inl rfl) (x_ct (c_tuple rfl) rfl c.n_tuple boot_tuple (a_cons (x_slc (x_call (w__law_mixed c) hg (hr.mono (by decide)) rfl c.g__law_mixed c.F__law_mixed.kp (B__law_mixed c) .nil (fun _ _ => rfl) tk_body (a_cons (x_var (i := 0) rfl (Or.inl rfl)) (a_cons (x_lst (a_cons x_str (a_cons x_str (a_cons x_str a_nil)))) a_nil))) o_none (o_some (x_call (w__law_pick c) hg (hr.mono (by decide)) rfl c.g__law_pick c.F__law_pick.kp (B__law_pick c) .nil (fun _ _ => rfl) tk_body (a_cons (x_var (i := 0) rfl (Or.inl rfl)) (a_cons (x_lst (a_cons x_int (a_cons x_int (a_cons x_int (a_cons x_int (a_cons x_int (a_cons x_int a_nil))))))) a_nil))))) a_nil))) (ss_cons (s_set (i := 2) nd rfl (Or.inl rfl) (x_call (w__law_word_row c) hg (hr.mono (by decide)) rfl c.g__law_word_row c.F__law_word_row.kp (B__law_word_row c) .nil (fun _ _ => rfl) tk_body (a_cons (x_var (i := 0) rfl (Or.inl rfl)) (a_cons x_int a_nil)))) (ss_cons (s_if (y_cmp (o_eq hr.units) (x_call (w__law_next c) hg (hr.mono (by decide)) rfl c.g__law_next c.F__law_next.kp (B__law_next c) .nil (fun _ _ => rfl) tk_body (a_cons (x_var (i := 0) rfl (Or.inl rfl)) (a_cons x_int a_nil))) x_int) (ss_one (s_ret (x_tup (a_cons (x_var (i := 1) rfl (Or.inl rfl)) (a_cons (x_var (i := 2) rfl (Or.inl rfl)) (a_cons x_non (a_cons (x_tup a_nil) a_nil))))))) ss_nil) (ss_cons (s_set (i := 3) nd rfl (Or.inl rfl) (x_ct (c_tuple rfl) rfl c.n_tuple boot_tuple (a_cons (x_slc (x_call (w__law_mixed c) hg (hr.mono (by decide)) rfl c.g__law_mixed c.F__law_mixed.kp (B__law_mixed c) .nil (fun _ _ => rfl) tk_body (a_cons (x_var (i := 0) rfl (Or.inl rfl)) (a_cons (x_lst (a_cons x_str (a_cons x_str (a_cons x_str a_nil)))) a_nil))) o_none (o_some (x_call (w__law_pick c) hg (hr.mono (by decide)) rfl c.g__law_pick c.F__law_pick.kp (B__law_pick c) .nil (fun _ _ => rfl) tk_body (a_cons (x_var (i := 0) rfl (Or.inl rfl)) (a_cons (x_lst (a_cons x_int (a_cons x_int (a_cons x_int a_nil)))) a_nil))))) a_nil))) (ss_one (s_ret (x_tup (a_cons (x_var (i := 1) rfl (Or.inl rfl)) (a_cons (x_var (i := 2) rfl (Or.inl rfl)) (a_cons (x_var (i := 3) rfl (Or.inl rfl)) (a_cons (x_call (w__law_word_row c) hg (hr.mono (by decide)) rfl c.g__law_word_row c.F__law_word_row.kp (B__law_word_row c) .nil (fun _ _ => rfl) tk_body (a_cons (x_var (i := 0) rfl (Or.inl rfl)) (a_cons x_int a_nil))) a_nil)))))))))))
theorem s__law_methods : FnScope ["_law_source_here", "_law_rows_here", "_law_found", "_law_name", "_law_bases", "_law_word"] ["_law_source_here", "_law_rows_here"] (defScope (top 61)) := ⟨rfl, rfl, rfl, by decide +kernel, rfl, by decide +kernel, by decide +kernel⟩
theorem B__law_methods (c : Cp K mg base) : Binds K c.d__law_methods ["_law_source_here", "_law_rows_here"] [] := c.F__law_methods.bindsN fun _ _ _ _ _ _ us hl => match us, hl with | [_, _], _ => rfl
theorem w__law_methods (c : Cp K mg base) : FnG g P w K mg base 5 c.f__law_methods c.d__law_methods ["_law_source_here", "_law_rows_here"] (spL K 2 WS.c__law_methods) :=
  FnG.fn c.F__law_methods s__law_methods fun cdv A outer s H E hg hr => by
    have nd := s__law_methods.nd
    unfold WS.m__law_methods
    exact (ss_cons (s_set (i := 2) nd rfl (Or.inl rfl) x_dict0) (ss_cons (s_for (t := .tp [.nm 3, .nm 4]) ow_body rfl (i_seq (x_var (i := 1) rfl (Or.inl rfl))) (pg_tup rfl (pgs_cons (pg_name (i := 3) nd rfl (Or.inl rfl)) (pgs_cons (pg_name (i := 4) nd rfl (Or.inl rfl)) pgs_nil))) (ss_one (s_put (hu_of hr) (x_ct (c_dict rfl) rfl c.n_dict boot_dict (a_cons (x_lc (own := [("_law_word", 5)]) (t := .nm 5) rfl nd (i_seq (x_lst (a_cons x_str (a_cons x_str a_nil)))) (blkOk_by (by kernel_rfl)) (by decide) (fun _ _ _ _ _ => (pg_name (i := 5) nd rfl (Or.inl rfl))) (fun _ _ _ _ _ => (t_one (y_cmp o_gt (x_call (w__law_next c) hg (hr.mono (by decide)) rfl c.g__law_next c.F__law_next.kp (B__law_next c) .nil (fun _ _ => rfl) tk_blk (a_cons (x_var (i := 0) rfl (Or.inr (Or.inl rfl))) (a_cons x_int a_nil))) x_int))) (fun _ _ _ _ _ => (x_tup (a_cons (x_var (i := 5) rfl (Or.inl rfl)) (a_cons (x_call (w__law_method c) hg (hr.mono (by decide)) rfl c.g__law_method c.F__law_method.kp (B__law_method c) .nil (fun _ _ => rfl) tk_blk (a_cons (x_var (i := 0) rfl (Or.inr (Or.inl rfl))) a_nil)) a_nil))))) a_nil)) (x_var (i := 2) rfl (Or.inl rfl)) (x_var (i := 3) rfl (Or.inl rfl))))) (ss_one (s_ret (x_var (i := 2) rfl (Or.inl rfl))))))
theorem s__law_world : FnScope ["_law_rows_here", "_law_methods_here", "_law_world_here", "_law_name", "_law_bases"] ["_law_rows_here", "_law_methods_here"] (defScope (top 62)) := ⟨rfl, rfl, rfl, by decide +kernel, rfl, by decide +kernel, by decide +kernel⟩
theorem B__law_world (c : Cp K mg base) : Binds K c.d__law_world ["_law_rows_here", "_law_methods_here"] [] := c.F__law_world.bindsN fun _ _ _ _ _ _ us hl => match us, hl with | [_, _], _ => rfl
theorem w__law_world (c : Cp K mg base) : FnG g P w K mg base 9 c.f__law_world c.d__law_world ["_law_rows_here", "_law_methods_here"] (spL K 2 WS.c__law_world) :=
  FnG.fn c.F__law_world s__law_world fun cdv A outer s H E hg hr => by
    have nd := s__law_world.nd
    unfold WS.m__law_world
    exact (ss_cons (s_set (i := 2) nd rfl (Or.inl rfl) (x_mk0 c.mk_World (w_World_init c) hg (hr.mono (by decide)) rfl c.g_World (B_World_init c) .nil (fun _ _ => rfl) tk_body)) (ss_cons (s_for (t := .tp [.nm 3, .nm 4]) ow_body rfl (i_seq (x_var (i := 0) rfl (Or.inl rfl))) (pg_tup rfl (pgs_cons (pg_name (i := 3) nd rfl (Or.inl rfl)) (pgs_cons (pg_name (i := 4) nd rfl (Or.inl rfl)) pgs_nil))) (ss_one (s_exp (x_methV c.cls_World c.m_World_perform (w_World_perform c) (hr.mono (by decide)) tk_body (x_var (i := 2) rfl (Or.inl rfl)) (a_cons (x_tup (a_cons x_str (a_cons (x_var (i := 3) rfl (Or.inl rfl)) (a_cons (x_var (i := 4) rfl (Or.inl rfl)) (a_cons (x_get2 (hu_of hr) (x_var (i := 1) rfl (Or.inl rfl)) (x_var (i := 3) rfl (Or.inl rfl)) x_dict0 ⟨rfl, rfl, rfl, rfl⟩) a_nil))))) a_nil))))) (ss_one (s_ret (x_var (i := 2) rfl (Or.inl rfl))))))
theorem s__law_due_state : FnScope ["_law_rows_here", "_law_methods_here", "_law_lines_here", "_law_found", "_law_name", "_law_bases", "_law_own", "_law_word"] ["_law_rows_here", "_law_methods_here"] (defScope (top 63)) := ⟨rfl, rfl, rfl, by decide +kernel, rfl, by decide +kernel, by decide +kernel⟩
theorem B__law_due_state (c : Cp K mg base) : Binds K c.d__law_due_state ["_law_rows_here", "_law_methods_here"] [] := c.F__law_due_state.bindsN fun _ _ _ _ _ _ us hl => match us, hl with | [_, _], _ => rfl
theorem w__law_due_state (c : Cp K mg base) : FnG true P w K mg base 4 c.f__law_due_state c.d__law_due_state ["_law_rows_here", "_law_methods_here"] (spL K 2 WS.c__law_due_state) :=
  FnG.fn c.F__law_due_state s__law_due_state fun cdv A outer s H E hg hr => by
    have nd := s__law_due_state.nd
    unfold WS.m__law_due_state
    exact (ss_cons (s_set (i := 2) nd rfl (Or.inl rfl) (x_call (w__law_lines c) hg (hr.mono (by decide)) rfl c.g__law_lines c.F__law_lines.kp (B__law_lines c) .nil (fun _ _ => rfl) tk_body (a_cons (x_var (i := 0) rfl (Or.inl rfl)) a_nil))) (ss_cons (s_set (i := 3) nd rfl (Or.inl rfl) (x_lst (a_cons (x_ct (c_tuple rfl) rfl c.n_tuple boot_tuple (a_cons (x_lc (own := [("_law_name", 4), ("_law_bases", 5)]) (t := .tp [.nm 4, .nm 5]) rfl nd (i_seq (x_var (i := 0) rfl (Or.inl rfl))) (blkOk_by (by kernel_rfl)) (by decide) (fun _ _ _ _ _ => (pg_tup rfl (pgs_cons (pg_name (i := 4) nd rfl (Or.inl rfl)) (pgs_cons (pg_name (i := 5) nd rfl (Or.inl rfl)) pgs_nil)))) (fun _ _ _ _ _ => t_yes) (fun _ _ _ _ _ => (x_var (i := 4) rfl (Or.inl rfl)))) a_nil)) (a_cons (x_var (i := 2) rfl (Or.inl rfl)) (a_cons (x_cb c_len rfl c.n_len boot_len (a_cons (x_var (i := 0) rfl (Or.inl rfl)) a_nil)) a_nil))))) (ss_cons (s_for (t := .tp [.nm 4, .nm 5]) ow_body rfl (i_seq (x_var (i := 0) rfl (Or.inl rfl))) (pg_tup rfl (pgs_cons (pg_name (i := 4) nd rfl (Or.inl rfl)) (pgs_cons (pg_name (i := 5) nd rfl (Or.inl rfl)) pgs_nil))) (ss_cons (s_set (i := 6) nd rfl (Or.inr rfl) (x_get2 (hu_of hr) (x_var (i := 1) rfl (Or.inl rfl)) (x_var (i := 4) rfl (Or.inl rfl)) x_dict0 ⟨rfl, rfl, rfl, rfl⟩)) (ss_one (s_exp (x_bm F.plainAttrs_list F.slot_list_append F.type_list_append m_app (x_var (i := 3) rfl (Or.inl rfl)) (a_cons (x_tup (a_cons (x_var (i := 5) rfl (Or.inl rfl)) (a_cons (x_ct (c_dict rfl) rfl c.n_dict boot_dict (a_cons (x_lc (own := [("_law_word", 7)]) (t := .nm 7) rfl nd (i_seq (x_cb (c_sorted rfl) rfl c.n_sorted boot_sorted' (a_cons (x_var (i := 6) rfl (Or.inr (Or.inl rfl))) a_nil))) (blkOk_by (by kernel_rfl)) (by decide) (fun _ _ _ _ _ => (pg_name (i := 7) nd rfl (Or.inl rfl))) (fun _ _ _ _ _ => t_yes) (fun _ _ _ _ _ => (x_tup (a_cons (x_var (i := 7) rfl (Or.inl rfl)) (a_cons (x_ixg (hu_of hr) (x_var (i := 6) rfl (Or.inr (Or.inl rfl))) (x_var (i := 7) rfl (Or.inl rfl))) a_nil))))) a_nil)) a_nil))) a_nil)))))) (ss_one (s_ret (x_cb (c_reprD hg c.sb hr.units) rfl c.n_repr boot_repr (a_cons (x_var (i := 3) rfl (Or.inl rfl)) a_nil)))))))
theorem s__law_part : FnScope ["_law_words"] ["_law_words"] (defScope (top 65)) := ⟨rfl, rfl, rfl, by decide +kernel, rfl, by decide +kernel, by decide +kernel⟩
theorem B__law_part (c : Cp K mg base) : Binds K c.d__law_part ["_law_words"] [] := c.F__law_part.bindsN fun _ _ _ _ _ _ us hl => match us, hl with | [_], _ => rfl
theorem w__law_part (c : Cp K mg base) : FnG g P w K mg base 1 c.f__law_part c.d__law_part ["_law_words"] (spL K 1 WS.c__law_part) :=
  FnG.fn c.F__law_part s__law_part fun cdv A outer s H E hg hr => by
    have nd := s__law_part.nd
    unfold WS.m__law_part
    exact (ss_one (s_ret (x_if (y_cmp (o_ne hr.units) (x_var (i := 0) rfl (Or.inl rfl)) (x_tup a_nil)) (x_bm F.plainAttrs_str F.slot_str_join F.type_str_join m_join x_str (a_cons (x_var (i := 0) rfl (Or.inl rfl)) a_nil)) x_str)))
theorem s__law_method_text : FnScope ["_law_word", "_law_method_here", "_law_takes", "_law_before", "_law_passes", "_law_after", "_law_third", "_law_found"] ["_law_word", "_law_method_here"] (defScope (top 66)) := ⟨rfl, rfl, rfl, by decide +kernel, rfl, by decide +kernel, by decide +kernel⟩
theorem B__law_method_text (c : Cp K mg base) : Binds K c.d__law_method_text ["_law_word", "_law_method_here"] [] := c.F__law_method_text.bindsN fun _ _ _ _ _ _ us hl => match us, hl with | [_, _], _ => rfl
theorem w__law_method_text (c : Cp K mg base) : FnG g P w K mg base 2 c.f__law_method_text c.d__law_method_text ["_law_word", "_law_method_here"] (spL K 2 WS.c__law_method_text) :=
  FnG.fn c.F__law_method_text s__law_method_text fun cdv A outer s H E hg hr => by
    have nd := s__law_method_text.nd
    unfold WS.m__law_method_text
    exact (ss_cons (s_to (t := .tp [.nm 2, .nm 3, .nm 4, .nm 5]) (x_var (i := 1) rfl (Or.inl rfl)) (pg_tup rfl (pgs_cons (pg_name (i := 2) nd rfl (Or.inl rfl)) (pgs_cons (pg_name (i := 3) nd rfl (Or.inl rfl)) (pgs_cons (pg_name (i := 4) nd rfl (Or.inl rfl)) (pgs_cons (pg_name (i := 5) nd rfl (Or.inl rfl)) pgs_nil)))))) (ss_cons (s_set (i := 6) nd rfl (Or.inl rfl) (x_if (y_cmp o_is (x_var (i := 4) rfl (Or.inl rfl)) x_non) x_str (x_if (y_cmp (o_eq hr.units) (x_var (i := 4) rfl (Or.inl rfl)) (x_tup a_nil)) x_str (x_op o_add x_str (x_bm F.plainAttrs_str F.slot_str_join F.type_str_join m_join x_str (a_cons (x_var (i := 4) rfl (Or.inl rfl)) a_nil)))))) (ss_cons (s_set (i := 7) nd rfl (Or.inl rfl) (x_lst (a_cons (x_op o_add x_str (x_var (i := 0) rfl (Or.inl rfl))) (a_cons (x_call (w__law_part c) hg (hr.mono (by decide)) rfl c.g__law_part c.F__law_part.kp (B__law_part c) .nil (fun _ _ => rfl) tk_body (a_cons (x_var (i := 2) rfl (Or.inl rfl)) a_nil)) (a_cons (x_call (w__law_part c) hg (hr.mono (by decide)) rfl c.g__law_part c.F__law_part.kp (B__law_part c) .nil (fun _ _ => rfl) tk_body (a_cons (x_var (i := 3) rfl (Or.inl rfl)) a_nil)) (a_cons (x_var (i := 6) rfl (Or.inl rfl)) (a_cons (x_call (w__law_part c) hg (hr.mono (by decide)) rfl c.g__law_part c.F__law_part.kp (B__law_part c) .nil (fun _ _ => rfl) tk_body (a_cons (x_var (i := 5) rfl (Or.inl rfl)) a_nil)) a_nil))))))) (ss_one (s_ret (x_bm F.plainAttrs_str F.slot_str_join F.type_str_join m_join x_str (a_cons (x_var (i := 7) rfl (Or.inl rfl)) a_nil)))))))
theorem s__law_text_lines : FnScope ["_law_rows_here", "_law_methods_here", "_law_found", "_law_name", "_law_bases", "_law_own", "_law_word"] ["_law_rows_here", "_law_methods_here"] (defScope (top 67)) := ⟨rfl, rfl, rfl, by decide +kernel, rfl, by decide +kernel, by decide +kernel⟩
theorem B__law_text_lines (c : Cp K mg base) : Binds K c.d__law_text_lines ["_law_rows_here", "_law_methods_here"] [] := c.F__law_text_lines.bindsN fun _ _ _ _ _ _ us hl => match us, hl with | [_, _], _ => rfl
theorem w__law_text_lines (c : Cp K mg base) : FnG g P w K mg base 3 c.f__law_text_lines c.d__law_text_lines ["_law_rows_here", "_law_methods_here"] (spL K 2 WS.c__law_text_lines) :=
  FnG.fn c.F__law_text_lines s__law_text_lines fun cdv A outer s H E hg hr => by
    have nd := s__law_text_lines.nd
    unfold WS.m__law_text_lines
    exact (ss_cons (s_set (i := 2) nd rfl (Or.inl rfl) (x_lst a_nil)) (ss_cons (s_for (t := .tp [.nm 3, .nm 4]) ow_body rfl (i_seq (x_var (i := 0) rfl (Or.inl rfl))) (pg_tup rfl (pgs_cons (pg_name (i := 3) nd rfl (Or.inl rfl)) (pgs_cons (pg_name (i := 4) nd rfl (Or.inl rfl)) pgs_nil))) (ss_cons (s_exp (x_bm F.plainAttrs_list F.slot_list_append F.type_list_append m_app (x_var (i := 2) rfl (Or.inl rfl)) (a_cons (x_bm F.plainAttrs_str F.slot_str_join F.type_str_join m_join x_str (a_cons (x_op o_add (x_lst (a_cons x_str (a_cons (x_var (i := 3) rfl (Or.inl rfl)) a_nil))) (x_ct (c_list rfl) rfl c.n_list boot_list (a_cons (x_var (i := 4) rfl (Or.inl rfl)) a_nil))) a_nil)) a_nil))) (ss_cons (s_set (i := 5) nd rfl (Or.inr rfl) (x_get2 (hu_of hr) (x_var (i := 1) rfl (Or.inl rfl)) (x_var (i := 3) rfl (Or.inl rfl)) x_dict0 ⟨rfl, rfl, rfl, rfl⟩)) (ss_one (s_exp (x_bm F.plainAttrs_list F.slot_list_extend F.type_list_extend m_ext (x_var (i := 2) rfl (Or.inl rfl)) (a_cons (x_lc (own := [("_law_word", 6)]) (t := .nm 6) rfl nd (i_seq (x_cb (c_sorted rfl) rfl c.n_sorted boot_sorted' (a_cons (x_var (i := 5) rfl (Or.inr (Or.inl rfl))) a_nil))) (blkOk_by (by kernel_rfl)) (by decide) (fun _ _ _ _ _ => (pg_name (i := 6) nd rfl (Or.inl rfl))) (fun _ _ _ _ _ => t_yes) (fun _ _ _ _ _ => (x_call (w__law_method_text c) hg (hr.mono (by decide)) rfl c.g__law_method_text c.F__law_method_text.kp (B__law_method_text c) .nil (fun _ _ => rfl) tk_blk (a_cons (x_var (i := 6) rfl (Or.inl rfl)) (a_cons (x_ixg (hu_of hr) (x_var (i := 5) rfl (Or.inr (Or.inl rfl))) (x_var (i := 6) rfl (Or.inl rfl))) a_nil))))) a_nil))))))) (ss_one (s_ret (x_var (i := 2) rfl (Or.inl rfl))))))
theorem s_Member_bases : FnScope ["self"] ["self"] (defScope (inClass (top 48) 2)) := ⟨rfl, rfl, rfl, by decide +kernel, rfl, by decide +kernel, by decide +kernel⟩
theorem B_Member_bases (c : Cp K mg base) : Binds K c.d_Member_bases ["self"] [] := c.F_Member_bases.bindsN fun _ _ _ _ _ _ us hl => match us, hl with | [_], _ => rfl
theorem w_Member_bases (c : Cp K mg base) : FnG g P w K mg base 2 c.f_Member_bases c.d_Member_bases ["self"] (spL K 1 WS.c_Member_bases) :=
  FnG.fn c.F_Member_bases s_Member_bases fun cdv A outer s H E hg hr => by
    have nd := s_Member_bases.nd
    unfold WS.m_Member_bases
    exact (ss_one (s_ret (x_ixg (hu_of hr) (x_meth c.cls_World c.m_World_row_of (w_World_row_of c) hg (hr.mono (by decide)) (B_World_row_of c) .nil (fun _ _ => rfl) tk_body (x_fld (x_var (i := 0) rfl (Or.inl rfl)) c.fld_world) (a_cons (x_fld (x_var (i := 0) rfl (Or.inl rfl)) c.fld_own_name) a_nil)) x_int)))
theorem s_Member_methods : FnScope ["self"] ["self"] (defScope (inClass (top 48) 5)) := ⟨rfl, rfl, rfl, by decide +kernel, rfl, by decide +kernel, by decide +kernel⟩
theorem B_Member_methods (c : Cp K mg base) : Binds K c.d_Member_methods ["self"] [] := c.F_Member_methods.bindsN fun _ _ _ _ _ _ us hl => match us, hl with | [_], _ => rfl
theorem w_Member_methods (c : Cp K mg base) : FnG g P w K mg base 2 c.f_Member_methods c.d_Member_methods ["self"] (spL K 1 WS.c_Member_methods) :=
  FnG.fn c.F_Member_methods s_Member_methods fun cdv A outer s H E hg hr => by
    have nd := s_Member_methods.nd
    unfold WS.m_Member_methods
    exact (ss_one (s_ret (x_ct (c_dict rfl) rfl c.n_dict boot_dict (a_cons (x_ixg (hu_of hr) (x_meth c.cls_World c.m_World_row_of (w_World_row_of c) hg (hr.mono (by decide)) (B_World_row_of c) .nil (fun _ _ => rfl) tk_body (x_fld (x_var (i := 0) rfl (Or.inl rfl)) c.fld_world) (a_cons (x_fld (x_var (i := 0) rfl (Or.inl rfl)) c.fld_own_name) a_nil)) x_int) a_nil))))
theorem s__law_state : FnScope ["_law_world_here", "_law_found", "_law_name"] ["_law_world_here"] (defScope (top 64)) := ⟨rfl, rfl, rfl, by decide +kernel, rfl, by decide +kernel, by decide +kernel⟩
theorem B__law_state (c : Cp K mg base) : Binds K c.d__law_state ["_law_world_here"] [] := c.F__law_state.bindsN fun _ _ _ _ _ _ us hl => match us, hl with | [_], _ => rfl
theorem w__law_state (c : Cp K mg base) : FnG true P w K mg base 5 c.f__law_state c.d__law_state ["_law_world_here"] (spL K 1 WS.c__law_state) :=
  FnG.fn c.F__law_state s__law_state fun cdv A outer s H E hg hr => by
    have nd := s__law_state.nd
    unfold WS.m__law_state
    exact (ss_cons (s_set (i := 1) nd rfl (Or.inl rfl) (x_lst (a_cons (x_prop c.cls_World c.pr_World_names (w_World_names c) hg (hr.mono (by decide)) (B_World_names c) (x_var (i := 0) rfl (Or.inl rfl))) (a_cons (x_prop c.cls_World c.pr_World_linearizations (w_World_linearizations c) hg (hr.mono (by decide)) (B_World_linearizations c) (x_var (i := 0) rfl (Or.inl rfl))) (a_cons (x_cb (c_lenO c.cls_World c.m_World_len.at_ c.m_World_len.fn (w_World_len c) hg (hr.mono (by decide)) (B_World_len c)) rfl c.n_len boot_len (a_cons (x_var (i := 0) rfl (Or.inl rfl)) a_nil)) a_nil))))) (ss_cons (s_for (t := .nm 2) ow_body rfl (i_seq (x_prop c.cls_World c.pr_World_names (w_World_names c) hg (hr.mono (by decide)) (B_World_names c) (x_var (i := 0) rfl (Or.inl rfl)))) (pg_name (i := 2) nd rfl (Or.inl rfl)) (ss_one (s_exp (x_bm F.plainAttrs_list F.slot_list_append F.type_list_append m_app (x_var (i := 1) rfl (Or.inl rfl)) (a_cons (x_tup (a_cons (x_prop c.cls_Member c.pr_Member_bases (w_Member_bases c) hg (hr.mono (by decide)) (B_Member_bases c) (x_meth c.cls_World c.m_World_member (w_World_member c) hg (hr.mono (by decide)) (B_World_member c) .nil (fun _ _ => rfl) tk_body (x_var (i := 0) rfl (Or.inl rfl)) (a_cons (x_var (i := 2) rfl (Or.inl rfl)) a_nil))) (a_cons (x_prop c.cls_Member c.pr_Member_methods (w_Member_methods c) hg (hr.mono (by decide)) (B_Member_methods c) (x_meth c.cls_World c.m_World_member (w_World_member c) hg (hr.mono (by decide)) (B_World_member c) .nil (fun _ _ => rfl) tk_body (x_var (i := 0) rfl (Or.inl rfl)) (a_cons (x_var (i := 2) rfl (Or.inl rfl)) a_nil))) a_nil))) a_nil))))) (ss_one (s_ret (x_cb (c_reprD hg c.sb hr.units) rfl c.n_repr boot_repr (a_cons (x_var (i := 1) rfl (Or.inl rfl)) a_nil))))))
noncomputable def m__law_right : FS := sSeq (sSet 2 (bFn 2 WS.c__law_methods [] (bCons (bV 0) (bCons (bV 1) (bNil))))) (sSeq (sPar 3 4 (bCons (bFn 2 WS.c__law_world [] (bCons (bV 1) (bCons (bV 2) (bNil)))) (bCons (bBm "str" joinW (bC (.str "\n")) (bCons (bFn 2 WS.c__law_text_lines [] (bCons (bV 1) (bCons (bV 2) (bNil)))) (bNil))) (bNil)))) (sSeq (sIf (bTc (bOp neW (bCallS reprD (bCons (bLst (bCons (bFn 1 WS.c_world_text [] (bCons (bV 3) (bNil))) (bCons (bCallS (strO "World" WS.c_World_str) (bCons (bV 3) (bNil))) (bCons (bFn 1 WS.c_world_text [] (bCons (bMe "World" "copy" 1 WS.c_World_copy [] (bV 3) bNil) (bNil))) (bNil))))) (bNil))) (bCallS reprD (bCons (bOp mulW (bLst (bCons (bV 4) (bNil))) (bC (.int 3))) (bNil))))) (sRet (bC (.bl false))) (sPass)) (sRet (bOp eqW (bFn 1 WS.c__law_state [] (bCons (bV 3) (bNil))) (bFn 2 WS.c__law_due_state [] (bCons (bV 1) (bCons (bV 2) (bNil))))))))
noncomputable def c__law_right : List W → Hh → R W := runB (["_law_source_here", "_law_rows_here", "_law_methods_here", "_law_world_here", "_law_due"] : List Str).length m__law_right
theorem s__law_right : FnScope ["_law_source_here", "_law_rows_here", "_law_methods_here", "_law_world_here", "_law_due"] ["_law_source_here", "_law_rows_here"] (defScope (top 68)) := ⟨rfl, rfl, rfl, by decide +kernel, rfl, by decide +kernel, by decide +kernel⟩
theorem B__law_right (c : Cp K mg base) : Binds K c.d__law_right ["_law_source_here", "_law_rows_here"] [] := c.F__law_right.bindsN fun _ _ _ _ _ _ us hl => match us, hl with | [_, _], _ => rfl
theorem w__law_right (c : Cp K mg base) : FnG true P w K mg base 10 c.f__law_right c.d__law_right ["_law_source_here", "_law_rows_here"] (spL K 2 c__law_right) :=
  FnG.fn c.F__law_right s__law_right fun cdv A outer s H E hg hr => by
    have nd := s__law_right.nd
    unfold m__law_right
    exact (ss_cons (s_set (i := 2) nd rfl (Or.inl rfl) (x_call (w__law_methods c) hg (hr.mono (by decide)) rfl c.g__law_methods c.F__law_methods.kp (B__law_methods c) .nil (fun _ _ => rfl) tk_body (a_cons (x_var (i := 0) rfl (Or.inl rfl)) (a_cons (x_var (i := 1) rfl (Or.inl rfl)) a_nil)))) (ss_cons (s_par (i := 3) (j := 4) rfl nd rfl rfl (by decide) rfl rfl (a_cons (x_call (w__law_world c) hg (hr.mono (by decide)) rfl c.g__law_world c.F__law_world.kp (B__law_world c) .nil (fun _ _ => rfl) tk_body (a_cons (x_var (i := 1) rfl (Or.inl rfl)) (a_cons (x_var (i := 2) rfl (Or.inl rfl)) a_nil))) (a_cons (x_bm F.plainAttrs_str F.slot_str_join F.type_str_join m_join x_str (a_cons (x_call (w__law_text_lines c) hg (hr.mono (by decide)) rfl c.g__law_text_lines c.F__law_text_lines.kp (B__law_text_lines c) .nil (fun _ _ => rfl) tk_body (a_cons (x_var (i := 1) rfl (Or.inl rfl)) (a_cons (x_var (i := 2) rfl (Or.inl rfl)) a_nil))) a_nil)) a_nil))) (ss_cons (s_if (y_cmp (o_ne hr.units) (x_cb (c_reprD hg c.sb hr.units) rfl c.n_repr boot_repr (a_cons (x_lst (a_cons (x_call (w_world_text c) hg (hr.mono (by decide)) rfl c.g_world_text c.F_world_text.kp (B_world_text c) .nil (fun _ _ => rfl) tk_body (a_cons (x_var (i := 3) rfl (Or.inl rfl)) a_nil)) (a_cons (x_ct (c_strO c.cls_World c.m_World_str.at_ c.m_World_str.fn (w_World_str c) hg (hr.mono (by decide)) (B_World_str c)) rfl c.n_str boot_str (a_cons (x_var (i := 3) rfl (Or.inl rfl)) a_nil)) (a_cons (x_call (w_world_text c) hg (hr.mono (by decide)) rfl c.g_world_text c.F_world_text.kp (B_world_text c) .nil (fun _ _ => rfl) tk_body (a_cons (x_meth0 c.cls_World c.m_World_copy (w_World_copy c) hg (hr.mono (by decide)) (B_World_copy c) .nil (fun _ _ => rfl) tk_body (x_var (i := 3) rfl (Or.inl rfl))) a_nil)) a_nil)))) a_nil)) (x_cb (c_reprD hg c.sb hr.units) rfl c.n_repr boot_repr (a_cons (x_op o_mul (x_lst (a_cons (x_var (i := 4) rfl (Or.inl rfl)) a_nil)) x_int) a_nil))) (ss_one (s_ret x_bl)) ss_nil) (ss_one (s_ret (x_cmp (o_eq hr.units) (x_call (w__law_state c) hg (hr.mono (by decide)) rfl c.g__law_state c.F__law_state.kp (B__law_state c) .nil (fun _ _ => rfl) tk_body (a_cons (x_var (i := 3) rfl (Or.inl rfl)) a_nil)) (x_call (w__law_due_state c) hg (hr.mono (by decide)) rfl c.g__law_due_state c.F__law_due_state.kp (B__law_due_state c) .nil (fun _ _ => rfl) tk_body (a_cons (x_var (i := 1) rfl (Or.inl rfl)) (a_cons (x_var (i := 2) rfl (Or.inl rfl)) a_nil)))))))))
noncomputable def m_law : FS := sSeq (sFor (iRange1 (bCons (bCallS maxW (bCons (bC (.int 1)) (bCons (bCallS minW (bCons (bC (.int 3)) (bCons (bCallS lenW (bCons (bV 0) (bNil))) (bNil)))) (bNil)))) (bNil))) (.nm 1) (sSeq (sSet 2 (bFn 2 WS.c__law_source [] (bCons (bV 0) (bCons (bV 1) (bNil))))) (sIf (bNot (bT (bFn 2 c__law_right [] (bCons (bV 2) (bCons (bFn 3 WS.c__law_rows [] (bCons (bV 2) (bCons (bFn 2 WS.c__law_next [] (bCons (bV 2) (bCons (bC (.int 9)) (bNil)))) (bCons (bC (.int 3)) (bNil))))) (bNil)))))) (sRet (bC (.bl false))) (sPass)))) (sSeq (sSet 3 (bDisp [(.inr "z", bTup (bCons (bTup (bNil)) (bCons (bTup (bNil)) (bCons (bTup (bNil)) (bCons (bTup (bNil)) (bNil)))))), (.inr "a", bTup (bCons (bTup (bCons (bC (.str "o")) (bCons (bC (.str "p")) (bNil)))) (bCons (bTup (bCons (bC (.str "u")) (bCons (bC (.str "u")) (bNil)))) (bCons (bC .non) (bCons (bTup (bNil)) (bNil)))))), (.inr "talk", bTup (bCons (bTup (bCons (bC (.str "q")) (bNil))) (bCons (bTup (bNil)) (bCons (bTup (bCons (bC (.str "o")) (bCons (bC (.str "q")) (bNil)))) (bCons (bTup (bCons (bC (.str "w")) (bNil))) (bNil))))))])) (sSeq (sSet 4 (bC (.str (Txt.join "\n" [Txt.join " " ["class", "b"], Txt.join " | " ["method a", "o p", "u u", "stop", "-"], Txt.join " | " ["method talk", "q", "-", "+ o q", "w"], Txt.join " | " ["method z", "-", "-", "+", "-"]])))) (sRet (bAndV (bOp eqW (bFn 1 WS.c_world_text [] (bCons (bMk "World" 1 WS.c_World_init [] bNil) (bNil))) (bC (.str ""))) (bOp eqW (bFn 1 WS.c_world_text [] (bCons (bFn 2 WS.c__law_world [] (bCons (bLst (bCons (bTup (bCons (bC (.str "b")) (bCons (bTup (bNil)) (bNil)))) (bNil))) (bCons (bDisp [(.inr "b", bV 3)]) (bNil)))) (bNil))) (bV 4))))))
noncomputable def c_law : List W → Hh → R W := runB (["_law_script", "_law_k", "_law_source_here", "_law_good", "_law_due"] : List Str).length m_law
theorem s_law : FnScope ["_law_script", "_law_k", "_law_source_here", "_law_good", "_law_due"] ["_law_script"] (defScope (top 69)) := ⟨rfl, rfl, rfl, by decide +kernel, rfl, by decide +kernel, by decide +kernel⟩
theorem B_law (c : Cp K mg base) : Binds K c.d_law ["_law_script"] [] := c.F_law.bindsN fun _ _ _ _ _ _ us hl => match us, hl with | [_], _ => rfl
theorem w_law (c : Cp K mg base) : FnG true P w K mg base 11 c.f_law c.d_law ["_law_script"] (spL K 1 c_law) :=
  FnG.fn c.F_law s_law fun cdv A outer s H E hg hr => by
    have nd := s_law.nd
    unfold m_law
    exact (ss_cons (s_for (t := .nm 1) ow_body rfl (i_range1 rfl c.n_range (a_cons (x_cb (c_max rfl) rfl c.n_max boot_max (a_cons x_int (a_cons (x_cb (c_min rfl) rfl c.n_min boot_min (a_cons x_int (a_cons (x_cb c_len rfl c.n_len boot_len (a_cons (x_var (i := 0) rfl (Or.inl rfl)) a_nil)) a_nil))) a_nil))) a_nil)) (pg_name (i := 1) nd rfl (Or.inl rfl)) (ss_cons (s_set (i := 2) nd rfl (Or.inl rfl) (x_call (w__law_source c) hg (hr.mono (by decide)) rfl c.g__law_source c.F__law_source.kp (B__law_source c) .nil (fun _ _ => rfl) tk_body (a_cons (x_var (i := 0) rfl (Or.inl rfl)) (a_cons (x_var (i := 1) rfl (Or.inl rfl)) a_nil)))) (ss_one (s_if (y_not (y_tru (x_call (w__law_right c) hg (hr.mono (by decide)) rfl c.g__law_right c.F__law_right.kp (B__law_right c) .nil (fun _ _ => rfl) tk_body (a_cons (x_var (i := 2) rfl (Or.inl rfl)) (a_cons (x_call (w__law_rows c) hg (hr.mono (by decide)) rfl c.g__law_rows c.F__law_rows.kp (B__law_rows c) .nil (fun _ _ => rfl) tk_body (a_cons (x_var (i := 2) rfl (Or.inl rfl)) (a_cons (x_call (w__law_next c) hg (hr.mono (by decide)) rfl c.g__law_next c.F__law_next.kp (B__law_next c) .nil (fun _ _ => rfl) tk_body (a_cons (x_var (i := 2) rfl (Or.inl rfl)) (a_cons x_int a_nil))) (a_cons x_int a_nil)))) a_nil))))) (ss_one (s_ret x_bl)) ss_nil)))) (ss_cons (s_set (i := 3) nd rfl (Or.inl rfl) (x_disp (.cons (x_tup (a_cons (x_tup a_nil) (a_cons (x_tup a_nil) (a_cons (x_tup a_nil) (a_cons (x_tup a_nil) a_nil))))) (.cons (x_tup (a_cons (x_tup (a_cons x_str (a_cons x_str a_nil))) (a_cons (x_tup (a_cons x_str (a_cons x_str a_nil))) (a_cons x_non (a_cons (x_tup a_nil) a_nil))))) (.cons (x_tup (a_cons (x_tup (a_cons x_str a_nil)) (a_cons (x_tup a_nil) (a_cons (x_tup (a_cons x_str (a_cons x_str a_nil))) (a_cons (x_tup (a_cons x_str a_nil)) a_nil))))) .nil))))) (ss_cons (s_set (i := 4) nd rfl (Or.inl rfl) (x_strE (by decide +kernel))) (ss_one (s_ret (x_and (x_cmp (o_eq hr.units) (x_call (w_world_text c) hg (hr.mono (by decide)) rfl c.g_world_text c.F_world_text.kp (B_world_text c) .nil (fun _ _ => rfl) tk_body (a_cons (x_mk0 c.mk_World (w_World_init c) hg (hr.mono (by decide)) rfl c.g_World (B_World_init c) .nil (fun _ _ => rfl) tk_body) a_nil)) x_str) (x_one (x_cmp (o_eq hr.units) (x_call (w_world_text c) hg (hr.mono (by decide)) rfl c.g_world_text c.F_world_text.kp (B_world_text c) .nil (fun _ _ => rfl) tk_body (a_cons (x_call (w__law_world c) hg (hr.mono (by decide)) rfl c.g__law_world c.F__law_world.kp (B__law_world c) .nil (fun _ _ => rfl) tk_body (a_cons (x_lst (a_cons (x_tup (a_cons x_str (a_cons (x_tup a_nil) a_nil))) a_nil)) (a_cons (x_disp (.cons (x_var (i := 3) rfl (Or.inl rfl)) .nil)) a_nil))) a_nil)) (x_var (i := 4) rfl (Or.inl rfl))))))))))
end
end W62

set_option Elab.async false
set_option linter.all false
set_option maxRecDepth 100000
set_option maxHeartbeats 4000000
namespace WS
open PySem PySem.Spec L2 NB
open PyProof.Rows hiding St
def lettersS : Str := Str.ofString "abcdefghijklmnopqrstuvwxyz"
def isNb (z : Str) : Bool := decide (1 ≤ z.length) && decide (z.length ≤ 8) && z.cps.toList.all fun c => decide (c ∈ lettersS.cps.toList)
theorem blsW_al : ∀ {bs : List Bool} {ws : List W}, Al (fun b w => w = .bl b) bs ws → blsW ws = some bs
  | [], _, r => by rw [show _ = [] from r]; rfl
  | b :: _, _, ⟨w, r, e, q, t⟩ => by
    rw [e, q]
    unfold blsW
    rw [blsW_al t]
theorem is_name_ok {z : Str} (hz : z.length ≤ Sz) (h : Hh) : ∃ h', c_is_name [.str z] h = .ok (.bl (isNb z)) h' ∧ Fr [] h h' := by
  unfold c_is_name runB m_is_name
  rw [show startW (["thing", "sign"] : List Str).length [W.str z] = [some (.str z), none] from rfl]
  by_cases h1 : 1 ≤ z.length
  · have i1 : (1 : Int) ≤ z.length := by omega
    by_cases h2 : z.length ≤ 8
    · have i2 : (z.length : Int) ≤ 8 := by omega
      obtain ⟨rs, n, h', e, f, _, g, al⟩ := blc_al (it := iText (bV 0)) (t := .nm 1) (c := bYes) (e := bOp inG (bV 1) (bC k_LETTERS)) (vs := [1]) (s := [some (.str z), none]) (h := h) (h0 := h) (p := fun _ => true) (f := fun c => decide (c ∈ lettersS.cps.toList)) (A := fun (c : Nat) w => w = .str ⟨#[c]⟩) (Q := fun _ b w => w = .bl b) (as := z.cps.toList) (ws := z.cps.toList.map fun c => W.str ⟨#[c]⟩) (ck := fun _ => True)
        (by simp [iText]) .refl (.map fun _ _ => rfl) (by rw [List.length_map, Array.length_toList]; exact hz) (fun _ _ _ _ _ q => q) (fun c hc w h aw fr => by
          subst aw
          refine ⟨trivial, _, rfl, h, rfl, .refl, fun _ => ⟨_, h, ?_, .refl, rfl⟩⟩
          simp [inG, inW, inB, k_LETTERS, lettersS]
          rfl) (fun _ _ => trivial)
      refine ⟨h', ?_, f⟩
      have e2 := blsW_al al
      simp [isT, truB, lenW, lenB, hz, leW, k_MOST_LETTERS, h1, h2, i1, i2, e, allW, g, e2, isNb]
    · have i2 : ¬ (z.length : Int) ≤ 8 := by omega
      refine ⟨h, ?_, .refl⟩
      simp [isT, truB, lenW, lenB, hz, leW, k_MOST_LETTERS, h1, h2, i1, i2, isNb]
  · have i1 : ¬ (1 : Int) ≤ z.length := by omega
    refine ⟨h, ?_, .refl⟩
    simp [isT, truB, lenW, lenB, hz, leW, k_MOST_LETTERS, h1, i1, isNb]
end WS

set_option Elab.async false
set_option linter.all false
set_option maxRecDepth 100000
set_option maxHeartbeats 4000000
namespace WS
open PySem PySem.Spec L2 NB
open PyProof.Rows hiding St
/-- a source of numbers at n, its counter at most B -/
def Src (n B : Nat) (h : Hh) : Prop := ∃ a b c : Int, h[n]? = some (.lst [.int a, .int b, .int c]) ∧ 0 ≤ b ∧ b ≤ B
theorem Src.up {n B B' : Nat} {h : Hh} (s : Src n B h) (l : B ≤ B') : Src n B' h := by
  obtain ⟨a, b, c, e, l1, l2⟩ := s
  exact ⟨a, b, c, e, l1, by omega⟩
theorem Src.fr {n B : Nat} {S : List Nat} {h h' : Hh} (s : Src n B h) (f : Fr S h h') (k : n ∉ S) : Src n B h' := by
  obtain ⟨a, b, c, e, l1, l2⟩ := s
  exact ⟨a, b, c, f.get e k, l1, l2⟩
theorem Src.lt {n B : Nat} {h : Hh} (s : Src n B h) : n < h.length := by
  obtain ⟨a, b, c, e, l1, l2⟩ := s
  exact lt_of_get e
def primes : List Int := [2147483647, 2147483629, 2147483587, 2147483579, 2147483563, 2147483549, 2147483543, 2147483497, 2147483489, 2147483477, 2147483423]
theorem primes_ok : ∀ j : Fin 11, 0 < primes[j]'j.2 ∧ primes[j]'j.2 < 2147483648 := by decide
theorem next_wp {m : Int} {n B : Nat} {h : Hh} (hs : Src n B h) (hB : B < 1000000000) (hm : 0 < m) (hm2 : m < 1000000) :
    wpR (c__law_next [.loc n, .int m] h) (fun w h' => ∃ x : Nat, w = .int x ∧ (x : Int) < m ∧ Fr [n] h h' ∧ Src n (B + 1) h') NoE := by
  obtain ⟨a, b, c, hn, l1, l2⟩ := hs
  have hl : n < h.length := lt_of_get hn
  have fin : ∀ (y : Int) (h' : Hh), 0 ≤ y → y < m → Fr [n] h h' → Src n (B + 1) h' → ∃ x : Nat, W.int y = .int x ∧ (x : Int) < m ∧ Fr [n] h h' ∧ Src n (B + 1) h' := fun y h' y0 ym f s => ⟨y.toNat, by rw [Int.toNat_of_nonneg y0], by omega, f, s⟩
  refine wp_run ?_
  rw [show startW (["_law_source_here", "_law_many", "_law_found", "_law_primes", "_law_prime"] : List Str).length [W.loc n, .int m] = [some (.loc n), some (.int m), none, none, none] from rfl]
  unfold m__law_next
  by_cases hc : 0 < c
  · have hm3 : m < 100000000000000000000 := by omega
    refine wp_ret (w := .int (c % m)) (h' := h.set n (.lst [.int a, .int b, .int (c / m)])) ?_ (fin _ _ (Int.emod_nonneg _ (by omega)) (Int.emod_lt_of_pos _ hm) (.set (by simp)) ⟨a, b, c / m, get_set hn, l1, by omega⟩)
    simp [ixG_lst hn, L2.atI, L2.ixN, gtW, hc, modW, fdvW, hm, hm3, setG_lst hn]
  · have e1 : (b + 1) % 11 = (((b + 1) % 11).toNat : Int) := (Int.toNat_of_nonneg (Int.emod_nonneg _ (by decide))).symm
    have lt : ((b + 1) % 11).toNat < 11 := by omega
    obtain ⟨p0, p1⟩ := primes_ok ⟨_, lt⟩
    generalize ((b + 1) % 11).toNat = j at e1 lt p0 p1
    have ej : ([.int 2147483647, .int 2147483629, .int 2147483587, .int 2147483579, .int 2147483563, .int 2147483549, .int 2147483543, .int 2147483497, .int 2147483489, .int 2147483477, .int 2147483423] : List W)[j]? = some (.int (primes[j]'lt)) := by
      show (primes.map W.int)[j]? = _
      rw [List.getElem?_map, List.getElem?_eq_getElem lt]
      rfl
    generalize primes[j]'lt = p at ej p0 p1
    refine wp_step (s' := [some (.loc n), some (.int m), none, none, none]) (h' := h) ?_ ?_
    · simp [ixG_lst hn, L2.atI, L2.ixN, gtW, hc]
    refine wp_step (s' := [some (.loc n), some (.int m), none, none, none]) (h' := h.set n (.lst [.int a, .int (b + 1), .int c])) ?_ ?_
    · simp [ixG_lst hn, L2.atI, L2.ixN, addW, setG_lst hn]
    have h1 := get_set (o := .lst [.int a, .int (b + 1), .int c]) hn
    have f1 : Fr [n] h (h.set n (.lst [.int a, .int (b + 1), .int c])) := .set (by simp)
    generalize h.set n (.lst [.int a, .int (b + 1), .int c]) = hh at h1 f1
    refine wp_step (s' := [some (.loc n), some (.int m), none, some (.loc hh.length), none]) (h' := hh ++ [.lst [.int 2147483647, .int 2147483629, .int 2147483587, .int 2147483579, .int 2147483563, .int 2147483549, .int 2147483543, .int 2147483497]]) ?_ ?_
    · simp [Sz]
    have f2 : Fr [n] h (hh ++ [.lst [.int 2147483647, .int 2147483629, .int 2147483587, .int 2147483579, .int 2147483563, .int 2147483549, .int 2147483543, .int 2147483497]]) := f1.trans .app
    have h2 := get_app (t := [.lst [.int 2147483647, .int 2147483629, .int 2147483587, .int 2147483579, .int 2147483563, .int 2147483549, .int 2147483543, .int 2147483497]]) h1
    have h3 := get_new (h := hh) (o := .lst [.int 2147483647, .int 2147483629, .int 2147483587, .int 2147483579, .int 2147483563, .int 2147483549, .int 2147483543, .int 2147483497])
    generalize hh.length = k at h2 h3
    generalize hh ++ [.lst [.int 2147483647, .int 2147483629, .int 2147483587, .int 2147483579, .int 2147483563, .int 2147483549, .int 2147483543, .int 2147483497]] = h4 at h2 h3 f2
    have g2 := get_app (t := [.lst [.int 2147483489, .int 2147483477, .int 2147483423], .lst [.int 2147483647, .int 2147483629, .int 2147483587, .int 2147483579, .int 2147483563, .int 2147483549, .int 2147483543, .int 2147483497, .int 2147483489, .int 2147483477, .int 2147483423]]) h2
    refine wp_step (s' := [some (.loc n), some (.int m), none, some (.loc k), some (.int p)]) (h' := h4 ++ [.lst [.int 2147483489, .int 2147483477, .int 2147483423], .lst [.int 2147483647, .int 2147483629, .int 2147483587, .int 2147483579, .int 2147483563, .int 2147483549, .int 2147483543, .int 2147483497, .int 2147483489, .int 2147483477, .int 2147483423]]) ?_ ?_
    · have q1 := get_app (t := [.lst [.int 2147483489, .int 2147483477, .int 2147483423]]) h3
      have q2 : (h4 ++ [.lst [.int 2147483489, .int 2147483477, .int 2147483423]])[h4.length]? = _ := get_new
      have q3 : (h4 ++ [.lst [.int 2147483489, .int 2147483477, .int 2147483423], .lst [.int 2147483647, .int 2147483629, .int 2147483587, .int 2147483579, .int 2147483563, .int 2147483549, .int 2147483543, .int 2147483497, .int 2147483489, .int 2147483477, .int 2147483423]])[h4.length + 1]? = some (.lst [.int 2147483647, .int 2147483629, .int 2147483587, .int 2147483579, .int 2147483563, .int 2147483549, .int 2147483543, .int 2147483497, .int 2147483489, .int 2147483477, .int 2147483423]) := by simp
      have ltI : (j : Int) < 11 := by omega
      simp [Sz, addW, q1, ltI, ixG_lst g2, ixG_lst q3, L2.atI, L2.ixN, modW, e1, lt]
      rw [List.getElem?_eq_getElem lt] at ej
      exact Option.some.inj ej
    refine wp_eq (a := .rt (.int ((a % p + 7919 * (b + 1) + 1) ^ 5 % p / 13 % m))) ?_ (fin _ _ (Int.emod_nonneg _ (by omega)) (Int.emod_lt_of_pos _ hm) (f2.trans .app) ⟨a, b + 1, c, g2, by omega, by omega⟩)
    have z1 := Int.emod_nonneg a (b := p) (by omega)
    have z2 := Int.emod_lt_of_pos a p0
    have z3 : -18446744073709551616 < a % p + 7919 * (b + 1) + 1 := by omega
    have z4 : a % p + 7919 * (b + 1) + 1 < 18446744073709551616 := by omega
    simp [ixG_lst g2, L2.atI, L2.ixN, hm, p0, z3, z4]
theorem next_ok {m : Int} {n B : Nat} {h : Hh} (hs : Src n B h) (hB : B < 1000000000) (hm : 0 < m) (hm2 : m < 1000000) :
    ∃ (x : Nat) (h' : Hh), c__law_next [.loc n, .int m] h = .ok (.int x) h' ∧ (x : Int) < m ∧ Fr [n] h h' ∧ Src n (B + 1) h' := by
  obtain ⟨w, h', e, x, rfl, l, f, s⟩ := wp_ex (next_wp hs hB hm hm2)
  exact ⟨x, h', e, l, f, s⟩
end WS

set_option Elab.async false
set_option linter.all false
set_option maxRecDepth 100000
set_option maxHeartbeats 4000000
namespace WS
open PySem PySem.Spec L2 NB
open PyProof.Rows hiding St
def tS (l : List Str) : W := .tup (l.map .str)
/-- a list of texts at k -/
def Qs (h : Hh) (l : List Str) (w : W) : Prop := ∃ k, w = .loc k ∧ h[k]? = some (.lst (l.map W.str))
theorem Qs.up : ∀ (l : List Str) (w : W) (h h' : Hh), Fr [] h h' → Qs h l w → Qs h' l w := fun l w h h' f ⟨k, e, q⟩ => ⟨k, e, f.g0 q⟩
/-- .. at a place such as S says -/
def Qp (S : Nat → Prop) (h : Hh) (l : List Str) (w : W) : Prop := ∃ k, w = .loc k ∧ S k ∧ h[k]? = some (.lst (l.map W.str))
theorem Qp.up {S : Nat → Prop} : ∀ (l : List Str) (w : W) (h h' : Hh), Fr [] h h' → Qp S h l w → Qp S h' l w := fun l w h h' f ⟨k, e, s, q⟩ => ⟨k, e, s, f.g0 q⟩
theorem Qp.qs {S : Nat → Prop} {h : Hh} {l : List Str} {w : W} (q : Qp S h l w) : Qs h l w := let ⟨k, e, s, q⟩ := q; ⟨k, e, q⟩
/-- all texts are of signs, and few -/
def oL (L : List (List Str)) : Prop := (∀ l ∈ L, ∀ z ∈ l, oS z) ∧ tot L ≤ 90000 ∧ L.length ≤ 100000
theorem len_tot {L : List (List Str)} {l : List Str} (h : l ∈ L) : l.length ≤ tot L := by
  induction L with
  | nil => cases h
  | cons a L ih =>
    show l.length ≤ a.length + tot L
    rcases List.mem_cons.mp h with h | h
    · rw [h]; exact Nat.le_add_right _ _
    · exact Nat.le_trans (ih h) (Nat.le_add_left _ _)
theorem oL.len {L : List (List Str)} (o : oL L) {l : List Str} (h : l ∈ L) : l.length ≤ Sz := Nat.le_trans (len_tot h) (Nat.le_trans o.2.1 (by decide))
theorem rd_Qs {h : Hh} {L : List (List Str)} {ws : List W} (o : ∀ l ∈ L, ∀ z ∈ l, oS z) (a : Al (Qs h) L ws) : ∃ ds, Al (Rd h 1) ds ws := by
  induction L generalizing ws with
  | nil => exact ⟨[], a⟩
  | cons l L ih =>
    obtain ⟨w, r, rfl, ⟨k, rfl, q⟩, t⟩ := a
    obtain ⟨ds, hd⟩ := ih (fun l hl => o l (List.mem_cons_of_mem _ hl)) t
    exact ⟨_ :: ds, _, _, rfl, .lst q (rd_strs (o l List.mem_cons_self)), hd⟩
theorem cut_tail (ws : List W) : cutW ws (some 1) none = ws.tail := by
  unfold cutW HT.sIx
  cases ws with
  | nil => simp
  | cons a ws => simp
theorem scAll_strs : ∀ l : List Str, scAll (l.map W.str) = some (l.map V.str)
  | [] => rfl
  | a :: l => by
    show (match scV (.str a), scAll (l.map W.str) with
      | some v, some vs => some (v :: vs)
      | _, _ => none) = _
    rw [scAll_strs l]
    rfl
theorem inV_strs (x : Str) (l : List Str) : inV (.str x) (l.map V.str) = decide (x ∈ l) := by
  unfold inV
  rw [List.any_map]
  apply Bool.eq_iff_iff.mpr
  simp only [List.any_eq_true, Function.comp, decide_eq_true_eq]
  constructor
  · rintro ⟨y, hy, e⟩
    have : y = x := by simpa [eqV] using e
    rw [← this]; exact hy
  · intro hx
    exact ⟨x, hx, by simp [eqV]⟩
theorem flat_strs (l : List Str) : (l.map V.str).all flatV = true := by
  rw [List.all_map]
  exact List.all_eq_true.mpr fun _ _ => rfl
theorem inG_strs {h : Hh} {n : Nat} {l : List Str} (x : Str) (e : h[n]? = some (.lst (l.map .str))) : inG (.str x) (.loc n) h = .ok (.bl (decide (x ∈ l))) h := by
  unfold inG
  simp only [e]
  unfold inW inB
  simp only [seqW, e, scV, scAll_strs]
  rw [if_pos ⟨rfl, flat_strs l⟩, inV_strs]
theorem inG_tup {h : Hh} {l : List Str} (x : Str) : inG (.str x) (.tup (l.map .str)) h = .ok (.bl (decide (x ∈ l))) h := by
  unfold inG inW inB
  simp only [seqW, scV, scAll_strs]
  rw [if_pos ⟨rfl, flat_strs l⟩, inV_strs]
theorem filter_ne_hds (L : List (List Str)) : (L.filter fun l => !l.isEmpty).map (fun l => l.headD Str.empty) = hds L := by
  induction L with
  | nil => rfl
  | cons l L ih =>
    cases l with
    | nil =>
      show _ = hds L
      rw [← ih]
      rfl
    | cons a l =>
      show a :: _ = a :: hds L
      rw [← ih]
theorem hds_nil_iff (L : List (List Str)) : (L.filter fun l => !l.isEmpty) = [] ↔ hds L = [] := by
  rw [← filter_ne_hds]
  simp
section
variable {x0 x1 x2 x3 x4 x5 x6 : Option W} {h h0 : Hh} {n1 n2 : Nat} {L : List (List Str)} {ws : List W}
/-- [one for one in lists if one != []] .. -/
theorem lists_ok (e : h[n1]? = some (.lst ws)) (a : Al (Qs h) L ws) (o : oL L) {β : Type} {el : FE} {f : List Str → β} {Q : Hh → β → W → Prop} (up : ∀ b w h h', Fr [] h h' → Q h b w → Q h' b w)
    (hel : ∀ l ∈ L, l ≠ [] → ∀ k h1, h1[k]? = some (.lst (l.map W.str)) → ∃ v h2, el [some (.loc n1), x1, x2, x3, some (.loc k), x5, x6] h1 = .ok v h2 ∧ Fr [] h1 h2 ∧ Q h2 (f l) v) :
    ∃ rs n h', bLc (iSeq (bV 0)) (.nm 4) (bTc (bOp neW (bV 4) (bLst (bNil)))) el [4] [some (.loc n1), x1, x2, x3, x4, x5, x6] h = .ok (.loc n) h' ∧ Fr [] h h' ∧ h.length ≤ n ∧ h'[n]? = some (.lst rs) ∧ Al (Q h') ((L.filter fun l => !l.isEmpty).map f) rs := by
  have hl : ws.length ≤ Sz := by rw [a.len]; exact Nat.le_trans o.2.2 (by decide)
  refine blc_al (it := iSeq (bV 0)) (t := .nm 4) (vs := [4]) (p := fun l : List Str => !l.isEmpty) (f := f) (A := Qs h) (Q := Q) (h := h) (h0 := h) (ws := ws) (ck := fun h => h[n1]? = some (.lst ws)) (as := L) (by simp [srcSeq_lst e]) .refl a hl up (fun l hl' w h' aw fr => ?_) fun h' fr => fr.g0 e
  obtain ⟨k, rfl, q⟩ := aw
  have q' := fr.g0 q
  refine ⟨fr.g0 e, _, rfl, h' ++ [.lst []], ?_, .app, fun hp => ?_⟩
  · have := neNil_ok (a := bV 4) (s := [some (.loc n1), x1, x2, x3, some (.loc k), x5, x6]) (h := h') (h1 := h') (n := k) (k := 0) rfl q' (rd_strs (o.1 l hl')) (by decide)
    simpa [wipeG] using this
  · exact hel l hl' (by intro z; subst z; simp at hp) k (h' ++ [.lst []]) (get_app q')
theorem cond_ok (e : h[n1]? = some (.lst ws)) (a : Al (Qs h) L ws) (o : oL L) : ∃ h', bTc (bOp neW (bLc (iSeq (bV 0)) (.nm 4) (bTc (bOp neW (bV 4) (bLst (bNil)))) (bV 4) [4]) (bLst (bNil))) [some (.loc n1), x1, x2, x3, x4, x5, x6] h = .ok (!(hds L).isEmpty) h' ∧ Fr [] h h' := by
  obtain ⟨rs, n, h', q, fr, _, g, al⟩ := lists_ok (x1 := x1) (x2 := x2) (x3 := x3) (x4 := x4) (x5 := x5) (x6 := x6) (el := bV 4) (f := fun l => l) (Q := Qs) e a o Qs.up fun l hl hn k h1 q => ⟨_, h1, rfl, .refl, k, rfl, q⟩
  simp only [List.map_id'] at al
  obtain ⟨ds, hd⟩ := rd_Qs (fun l hl => o.1 l ((List.mem_filter.mp hl).1)) al
  refine ⟨h' ++ [.lst []], ?_, fr.trans .app⟩
  rw [neNil_ok q g hd (by decide)]
  have : rs.isEmpty = (hds L).isEmpty := by
    have hl := al.len
    have i := hds_nil_iff L
    apply Bool.eq_iff_iff.mpr
    rw [List.isEmpty_iff, List.isEmpty_iff, ← i]
    constructor
    · intro z; rw [z] at hl; exact List.eq_nil_of_length_eq_zero hl.symm
    · intro z; rw [z] at hl; exact List.eq_nil_of_length_eq_zero hl
  rw [this]
theorem heads_ok (e : h[n1]? = some (.lst ws)) (a : Al (Qs h) L ws) (o : oL L) : ∃ n h', bLc (iSeq (bV 0)) (.nm 4) (bTc (bOp neW (bV 4) (bLst (bNil)))) (bOp ixG (bV 4) (bC (.int 0))) [4] [some (.loc n1), x1, x2, x3, x4, x5, x6] h = .ok (.loc n) h' ∧ Fr [] h h' ∧ h.length ≤ n ∧ h'[n]? = some (.lst ((hds L).map .str)) := by
  obtain ⟨rs, n, h', q, fr, l, g, al⟩ := lists_ok (x1 := x1) (x2 := x2) (x3 := x3) (x4 := x4) (x5 := x5) (x6 := x6) (el := bOp ixG (bV 4) (bC (.int 0))) (f := fun l => l.headD Str.empty) (Q := fun _ z w => w = .str z) e a o (fun _ _ _ _ _ z => z) fun l hl hn k h1 q => by
    cases l with
    | nil => exact absurd rfl hn
    | cons z l => exact ⟨_, h1, by simp [ixG_lst q, L2.atI, L2.ixN], .refl, rfl⟩
  rw [filter_ne_hds] at al
  rw [al.eq] at g
  exact ⟨n, h', q, fr, l, g⟩
theorem filter_all (L : List (List Str)) (x : Str) : (L.filter fun l => decide (x ∈ l.tail)).isEmpty = frB L x := by
  unfold frB
  induction L with
  | nil => rfl
  | cons l L ih =>
    by_cases h : x ∈ l.tail
    · rw [List.filter_cons_of_pos (by simpa using h)]
      simp [h]
    · rw [List.filter_cons_of_neg (by simpa using h), ih]
      simp [h]
theorem good_ok (e : h[n1]? = some (.lst ws)) (a : Al (Qs h) L ws) (o : oL L) (g : h[n2]? = some (.lst ((hds L).map .str))) (hl : (hds L).length ≤ Sz) : ∃ n h', bLc (iSeq (bV 2)) (.nm 5) (bTc (bOp eqW (bLc (iSeq (bV 0)) (.nm 4) (bTc (bOp inG (bV 5) (bSl (bV 4) (bO1 (bC (.int 1))) (bO0)))) (bV 4) [4]) (bLst (bNil)))) (bV 5) [5] [some (.loc n1), x1, some (.loc n2), x3, x4, x5, x6] h = .ok (.loc n) h' ∧ Fr [] h h' ∧ h.length ≤ n ∧ h'[n]? = some (.lst ((fre L).map .str)) := by
  obtain ⟨rs, n, h', q, fr, l, g', al⟩ := blc_al (it := iSeq (bV 2)) (t := .nm 5) (c := bTc (bOp eqW (bLc (iSeq (bV 0)) (.nm 4) (bTc (bOp inG (bV 5) (bSl (bV 4) (bO1 (bC (.int 1))) (bO0)))) (bV 4) [4]) (bLst (bNil)))) (e := bV 5) (vs := [5]) (s := [some (.loc n1), x1, some (.loc n2), x3, x4, x5, x6]) (p := frB L) (f := fun z => z) (A := fun z w => w = W.str z) (Q := fun _ z w => w = W.str z) (h := h) (h0 := h) (ws := (hds L).map .str) (ck := fun h => h[n2]? = some (.lst ((hds L).map .str))) (as := hds L) (by simp [srcSeq_lst g]) .refl (.map fun _ _ => rfl) (by simpa using hl) (fun _ _ _ _ _ z => z) (fun z hz w h' aw fr => by
    subst aw
    refine ⟨fr.g0 g, _, rfl, ?_⟩
    have e' := fr.g0 e
    have a' : Al (Qs h') L ws := a.mono fun l w z => Qs.up l w _ _ fr z
    obtain ⟨rs, n, h2, q, f2, _, g2, al⟩ := blc_al (it := iSeq (bV 0)) (t := .nm 4) (c := bTc (bOp inG (bV 5) (bSl (bV 4) (bO1 (bC (.int 1))) (bO0)))) (e := bV 4) (vs := [4]) (s := [some (.loc n1), x1, some (.loc n2), x3, x4, some (.str z), x6]) (p := fun l : List Str => decide (z ∈ l.tail)) (f := fun l => l) (A := Qs h') (Q := Qs) (h := h') (h0 := h') (ws := ws) (ck := fun h => h[n1]? = some (.lst ws)) (as := L) (by simp [srcSeq_lst e']) .refl a' (by rw [a.len]; exact Nat.le_trans o.2.2 (by decide)) Qs.up (fun l hl' w h3 aw fr3 => by
      obtain ⟨k, rfl, qk⟩ := aw
      have q3 := fr3.g0 qk
      refine ⟨fr3.g0 e', _, rfl, h3 ++ [.lst (l.tail.map W.str)], ?_, .app, fun _ => ⟨_, _, rfl, .refl, k, rfl, get_app q3⟩⟩
      have := inG_strs z (get_new (h := h3) (o := .lst (l.tail.map W.str)))
      simp [wipeG, slW_lst q3, cut_tail, ← List.map_tail, this]) (fun h3 f3 => f3.g0 e')
    simp only [List.map_id'] at al
    obtain ⟨ds, hd⟩ := rd_Qs (fun l hl => o.1 l (List.mem_filter.mp hl).1) al
    refine ⟨h2 ++ [.lst []], ?_, f2.trans .app, fun _ => ⟨_, _, rfl, .refl, rfl⟩⟩
    have hq : (wipeG [some (W.loc n1), x1, some (.loc n2), x3, x4, x5, x6] [5]).set 5 (some (.str z)) = [some (W.loc n1), x1, some (.loc n2), x3, x4, some (.str z), x6] := rfl
    have := eqNil_ok q g2 hd (by decide)
    have em : rs.isEmpty = frB L z := by
      rw [← filter_all]
      have := al.len
      apply Bool.eq_iff_iff.mpr
      rw [List.isEmpty_iff, List.isEmpty_iff]
      constructor
      · intro z; rw [z] at this; exact List.eq_nil_of_length_eq_zero this.symm
      · intro z; rw [z] at this; exact List.eq_nil_of_length_eq_zero this
    rw [← em, ← this]
    rfl) fun h' fr => fr.g0 g
  rw [List.map_id'] at al
  rw [al.eq] at g'
  exact ⟨n, h', q, fr, l, g'⟩
theorem pops_ok {g : Str} {fs : List Str} (e : h[n1]? = some (.lst ws)) (a : Al (Qs h) L ws) (o : oL L) (eg : fre L = g :: fs) (gd : h[n2]? = some (.lst ((g :: fs).map .str))) : ∃ rs n h', bLc (iSeq (bV 0)) (.nm 4) (bYes) (bLc (iSeq (bV 4)) (.nm 6) (bTc (bOp neW (bV 6) (bOp ixG (bV 3) (bC (.int 0))))) (bV 6) [6]) [4] [some (.loc n1), x1, x2, some (.loc n2), x4, x5, x6] h = .ok (.loc n) h' ∧ Fr [] h h' ∧ h.length ≤ n ∧ h'[n]? = some (.lst rs) ∧ Al (Qp (fun k => h.length ≤ k) h') (popL g L) rs := by
  obtain ⟨rs, n, h', q, fr, l, g', al⟩ := blc_al (it := iSeq (bV 0)) (t := .nm 4) (c := bYes) (e := bLc (iSeq (bV 4)) (.nm 6) (bTc (bOp neW (bV 6) (bOp ixG (bV 3) (bC (.int 0))))) (bV 6) [6]) (vs := [4]) (s := [some (.loc n1), x1, x2, some (.loc n2), x4, x5, x6]) (p := fun _ : List Str => true) (f := fun l => l.filter fun x => decide (x ≠ g)) (A := Qs h) (Q := Qp fun k => h.length ≤ k) (h := h) (h0 := h) (ws := ws) (ck := fun h => h[n1]? = some (.lst ws)) (as := L) (by simp [srcSeq_lst e]) .refl a (by rw [a.len]; exact Nat.le_trans o.2.2 (by decide)) Qp.up (fun l hl w h' aw fr => by
    obtain ⟨k, rfl, qk⟩ := aw
    have q' := fr.g0 qk
    have gd' := fr.g0 gd
    refine ⟨fr.g0 e, _, rfl, h', rfl, .refl, fun _ => ?_⟩
    obtain ⟨rs, n, h2, q, f2, ln, g2, al⟩ := blc_al (it := iSeq (bV 4)) (t := .nm 6) (c := bTc (bOp neW (bV 6) (bOp ixG (bV 3) (bC (.int 0))))) (e := bV 6) (vs := [6]) (s := [some (.loc n1), x1, x2, some (.loc n2), some (.loc k), x5, x6]) (p := fun x => decide (x ≠ g)) (f := fun x => x) (A := fun x w => w = W.str x) (Q := fun _ x w => w = W.str x) (h := h') (h0 := h') (ws := l.map .str) (ck := fun h => h[k]? = some (.lst (l.map .str))) (as := l) (by simp [srcSeq_lst q']) .refl (.map fun _ _ => rfl) (by rw [List.length_map]; exact o.len hl) (fun _ _ _ _ _ z => z) (fun x hx w h3 aw fr3 => by
      subst aw
      refine ⟨fr3.g0 q', _, rfl, h3, ?_, .refl, fun _ => ⟨_, _, rfl, .refl, rfl⟩⟩
      have := fr3.g0 gd'
      simp [wipeG, ixG_lst this, L2.atI, L2.ixN]) (fun h3 f3 => f3.g0 q')
    rw [List.map_id'] at al
    rw [al.eq] at g2
    exact ⟨_, h2, q, f2, n, rfl, Nat.le_trans fr.1 ln, g2⟩) fun h' fr => fr.g0 e
  refine ⟨rs, n, h', q, fr, l, g', ?_⟩
  have hg : g ∈ fre L := by rw [eg]; exact List.mem_cons_self
  have : (L.filter fun _ => true).map (fun l => l.filter fun x => decide (x ≠ g)) = popL g L := by
    rw [List.filter_eq_self.mpr fun _ _ => rfl]
    unfold popL
    apply List.map_congr_left
    intro l hl
    exact popH_filter (frB_tail (List.mem_filter.mp hg).2 hl)
  rw [this] at al
  exact al
end
end WS

set_option Elab.async false
set_option linter.all false
set_option maxRecDepth 100000
set_option maxHeartbeats 4000000
namespace WS
open PySem PySem.Spec L2 NB
open PyProof.Rows hiding St
def optS : Option (List Str) → W
  | none => .non
  | some m => tS m
theorem oL.pop {L : List (List Str)} (o : oL L) (g : Str) : oL (popL g L) := ⟨fun l hl z hz => by
  obtain ⟨l', hl', rfl⟩ := List.mem_map.mp hl
  exact o.1 l' hl' z (mem_popH hz), Nat.le_trans (tot_le g L) o.2.1, by unfold popL; rw [List.length_map]; exact o.2.2⟩
theorem hds_len : ∀ L : List (List Str), (hds L).length ≤ L.length
  | [] => Nat.le_refl _
  | [] :: L => Nat.le_succ_of_le (hds_len L)
  | (a :: l) :: L => Nat.succ_le_succ (hds_len L)
theorem al_refl {α : Type} {f : α → W} : ∀ {as : List α}, Al (fun a w => w = f a) as (as.map f) := Al.map fun _ _ => rfl
theorem merged_wp {T : List (List Str)} {n : Nat} {h : Hh} (e : h[n]? = some (.lst (T.map tS))) (o : oL T) :
    wpR (c__law_merged [.loc n] h) (fun w h' => w = optS (mrg T) ∧ Fr [] h h') NoE := by
  have hT : T.length ≤ Sz := Nat.le_trans o.2.2 (by decide)
  refine wp_run ?_
  rw [show startW (["_law_lists", "_law_found", "_law_heads", "_law_good", "_law_one", "_law_head", "_law_name"] : List Str).length [W.loc n] = [some (.loc n), none, none, none, none, none, none] from rfl]
  unfold m__law_merged
  obtain ⟨rs, n1, h1, q, f1, l1, g1, al⟩ := blc_al (it := iSeq (bV 0)) (t := .nm 4) (c := bYes) (e := bCallS listW (bCons (bV 4) (bNil))) (vs := [4]) (s := [some (.loc n), none, none, none, none, none, none]) (p := fun _ : List Str => true) (f := fun l => l) (A := fun l w => w = tS l) (Q := Qs) (h := h) (h0 := h) (ws := T.map tS) (ck := fun h => h[n]? = some (.lst (T.map tS))) (as := T) (by simp [srcSeq_lst e]) .refl al_refl (by rw [List.length_map]; exact hT) Qs.up (fun l hl w h' aw fr => by
    subst aw
    refine ⟨fr.g0 e, _, rfl, h', rfl, .refl, fun _ => ⟨.loc h'.length, h' ++ [.lst (l.map .str)], ?_, .app, _, rfl, get_new⟩⟩
    simp [tS, wipeG]) fun h' fr => fr.g0 e
  rw [List.filter_eq_self.mpr fun _ _ => rfl, List.map_id'] at al
  refine wp_step (s' := [some (.loc n1), some (.loc h1.length), none, none, none, none, none]) (h' := h1 ++ [.lst []]) ?_ ?_
  · simp [q, Sz]
  have f2 : Fr [] h (h1 ++ [.lst []]) := f1.trans .app
  have g2 := get_app (t := [.lst []]) g1
  have al2 : Al (Qp (· < h1.length) (h1 ++ [.lst []])) T rs := al.mono fun l w ⟨k, e1, e2⟩ => ⟨k, e1, lt_of_get e2, get_app e2⟩
  have gf := get_new (h := h1) (o := .lst [])
  have hn1 := lt_of_get g1
  have hf := f1.1
  generalize h1 ++ [.lst []] = h2 at f2 g2 al2 gf
  generalize h1.length = n2 at gf hn1 hf al2
  refine wp_seq (M := fun s h' => ∃ fd x, s = [some (.loc x), some (.loc n2), s[2]?.join, s[3]?.join, s[4]?.join, s[5]?.join, s[6]?.join] ∧ h'[n2]? = some (.lst (fd.map .str)) ∧ fd.length ≤ Sz ∧ mrg T = some fd ∧ Fr [] h h') ?_ ?_
  · refine wh_ok (I := fun m s h' => ∃ fd x rs L y2 y3 y4 y5 y6, s = [some (.loc x), some (.loc n2), y2, y3, y4, y5, y6] ∧ h'[n2]? = some (.lst (fd.map .str)) ∧ h'[x]? = some (.lst rs) ∧ x ≠ n2 ∧ Al (Qp (· ≠ n2) h') L rs ∧ n2 < h'.length ∧ h.length ≤ n2 ∧ oL L ∧ m = tot L ∧ fd.length + tot L ≤ tot T ∧ mrg T = (mrg L).map (fd ++ ·) ∧ Fr [] h h') ?_ 100000 (tot T) _ h2 ?_ ?_
    · rintro m s h' ⟨fd, x, rs, L, y2, y3, y4, y5, y6, rfl, gf', gx, ne, al0, n2l, n2h, o', rfl, le, em, f⟩
      have al' : Al (Qs h') L rs := al0.mono fun _ _ z => z.qs
      obtain ⟨h3, ec, f3⟩ := cond_ok (x1 := some (.loc n2)) (x2 := y2) (x3 := y3) (x4 := y4) (x5 := y5) (x6 := y6) gx al' o'
      refine wp_eq ec ?_
      by_cases hh : hds L = []
      · rw [hh]
        simp only [List.isEmpty_nil, Bool.not_true, Bool.false_eq_true, if_false]
        rw [mrg_done hh] at em
        simp only [Option.map_some, List.append_nil] at em
        exact ⟨fd, x, rfl, f3.g0 gf', Nat.le_trans (show fd.length ≤ 100000 by have := o.2.1; omega) (by decide), em, f.trans f3⟩
      · have : (!(hds L).isEmpty) = true := by cases hq : hds L <;> simp_all
        rw [this]
        simp only [if_true]
        have gx3 := f3.g0 gx
        have al3 : Al (Qs h3) L rs := al'.mono fun l w z => Qs.up l w _ _ f3 z
        obtain ⟨nh, h4, e4, f4, _, g4⟩ := heads_ok (x1 := some (.loc n2)) (x2 := y2) (x3 := y3) (x4 := y4) (x5 := y5) (x6 := y6) gx3 al3 o'
        refine wp_step (s' := [some (.loc x), some (.loc n2), some (.loc nh), y3, y4, y5, y6]) (h' := h4) (by simp [e4]) ?_
        have gx4 := f4.g0 gx3
        have al4 : Al (Qs h4) L rs := al3.mono fun l w z => Qs.up l w _ _ f4 z
        obtain ⟨ng, h5, e5, f5, _, g5⟩ := good_ok (x1 := some (.loc n2)) (x3 := y3) (x4 := y4) (x5 := y5) (x6 := y6) gx4 al4 o' g4 (Nat.le_trans (hds_len L) (Nat.le_trans o'.2.2 (by decide)))
        refine wp_step (s' := [some (.loc x), some (.loc n2), some (.loc nh), some (.loc ng), y4, y5, y6]) (h' := h5) (by simp [e5]) ?_
        have gx5 := f5.g0 gx4
        have al5 : Al (Qs h5) L rs := al4.mono fun l w z => Qs.up l w _ _ f5 z
        have en := eqNil_ok (a := bV 3) (s := [some (.loc x), some (.loc n2), some (.loc nh), some (.loc ng), y4, y5, y6]) (k := 0) rfl g5 (rd_strs fun z hz => by
          obtain ⟨l, hl, hx⟩ := hds_in (fre_hds hz)
          exact o'.1 l hl z hx) (by decide)
        cases ef : fre L with
        | nil =>
          rw [ef] at en
          refine wp_ret (w := .non) (h' := h5 ++ [.lst []]) ?_ ?_
          · rw [e_if, en]
            rfl
          · refine ⟨?_, f.trans (f3.trans (f4.trans (f5.trans .app)))⟩
            rw [em, mrg_stop hh ef]
            rfl
        | cons g fs =>
          rw [ef] at en g5
          refine wp_step (s' := [some (.loc x), some (.loc n2), some (.loc nh), some (.loc ng), y4, y5, y6]) (h' := h5 ++ [.lst []]) ?_ ?_
          · rw [e_if, en]
            rfl
          have f6 : Fr [] h5 (h5 ++ [.lst []]) := .app
          generalize h5 ++ [.lst []] = h6 at f6
          have gx6 := f6.g0 gx5
          have g6 := f6.g0 g5
          have gf6 := f6.g0 (f5.g0 (f4.g0 (f3.g0 gf')))
          have al6 : Al (Qs h6) L rs := al5.mono fun l w z => Qs.up l w _ _ f6 z
          have hg : g ∈ hds L := fre_hds (by rw [ef]; exact List.mem_cons_self)
          have lt := tot_lt hg
          have hb := o.2.1
          have lz : (fd.map W.str).length < Sz := by
            rw [List.length_map]
            exact Nat.lt_of_le_of_lt (show fd.length ≤ 100000 by omega) (by decide)
          refine wp_step (s' := [some (.loc x), some (.loc n2), some (.loc nh), some (.loc ng), y4, y5, y6]) (h' := h6.set n2 (.lst ((fd ++ [g]).map .str))) ?_ ?_
          · simp [tyB_lst gf6, ixG_lst g6, L2.atI, L2.ixN, appW_lst gf6 lz]
          have f7 : Fr [n2] h6 (h6.set n2 (.lst ((fd ++ [g]).map .str))) := .set (by simp)
          have gf7 := get_set (o := .lst ((fd ++ [g]).map W.str)) gf6
          have gx7 := f7.get gx6 (by simpa using ne)
          have g7 := f7.get g6 (by
            have := f4.1
            have := f3.1
            simp only [List.mem_singleton]
            omega)
          have al7 : Al (Qs (h6.set n2 (.lst ((fd ++ [g]).map .str)))) L rs := al0.mono fun l w ⟨k, e1, ne, e2⟩ => ⟨k, e1, f7.get (f6.g0 (f5.g0 (f4.g0 (f3.g0 e2)))) (by simpa using ne)⟩
          have ff : Fr [] h (h6.set n2 (.lst ((fd ++ [g]).map .str))) := (f.trans (f3.trans (f4.trans (f5.trans f6)))).young f7 fun i hi => .inr (by rw [List.mem_singleton.mp hi]; exact n2h)
          have l7 : n2 < (h6.set n2 (.lst ((fd ++ [g]).map .str))).length := lt_of_get gf7
          generalize h6.set n2 (.lst ((fd ++ [g]).map .str)) = h7 at f7 gf7 gx7 g7 al7 ff l7
          obtain ⟨rs', x', h8, e8, f8, l8, g8, al8⟩ := pops_ok (x1 := some (.loc n2)) (x2 := some (.loc nh)) (x4 := y4) (x5 := y5) (x6 := y6) gx7 al7 o' ef g7
          refine wp_eq (a := .nx [some (.loc x'), some (.loc n2), some (.loc nh), some (.loc ng), y4, y5, y6]) (h := h8) (by simp [e8]) ?_
          refine ⟨tot (popL g L), lt, fd ++ [g], x', rs', popL g L, _, _, _, _, _, rfl, f8.g0 gf7, g8, (by omega), al8.mono fun l w ⟨k, e1, e2, e3⟩ => ⟨k, e1, by omega, e3⟩, lt_of_get (f8.g0 gf7), n2h, o'.pop g, rfl, ?_, ?_, ff.trans f8⟩
          · have : tot (popL g L) < tot L := lt
            simp only [List.length_append, List.length_cons, List.length_nil]
            omega
          · rw [em, mrg_step ef, Option.map_map]
            congr 1
            funext m
            simp
    · have := o.2.1
      omega
    · refine ⟨[], n1, rs, T, _, _, _, _, _, rfl, gf, g2, by omega, al2.mono fun l w ⟨k, e1, e2, e3⟩ => ⟨k, e1, by omega, e3⟩, lt_of_get gf, hf, o, rfl, by simp, ?_, f2⟩
      simp
  · rintro s h' ⟨fd, x, es, gf', hl, em, f⟩
    rw [es]
    refine wp_eq (a := .rt (tS fd)) (h := h') ?_ ?_
    · simp [tupleW_lst gf' (by rw [List.length_map]; exact hl), tS]
    · exact ⟨by rw [em]; rfl, f⟩
end WS

set_option Elab.async false
set_option linter.all false
set_option maxRecDepth 100000
set_option maxHeartbeats 4000000
namespace WS
open PySem PySem.Spec L2 NB
open PyProof.Rows hiding St
/-- the lists from their places on -/
def cuts (T : List (List Str)) (ps : List Nat) : List (List Str) := List.zipWith (fun l p => l.drop p) T ps
theorem heads_cuts : ∀ (T : List (List Str)) (ps : List Nat), ((T.zip ps).filter fun q => decide (q.2 < q.1.length)).map (fun q => (q.1[q.2]?).getD Str.empty) = hds (cuts T ps)
  | [], _ => by simp [cuts, hds]
  | _ :: _, [] => by simp [cuts, hds]
  | l :: T, p :: ps => by
    have ih := heads_cuts T ps
    show List.map _ (List.filter _ ((l, p) :: T.zip ps)) = hds (l.drop p :: cuts T ps)
    by_cases hp : p < l.length
    · rw [List.filter_cons_of_pos (by simpa using hp), List.map_cons, ih]
      rw [List.drop_eq_getElem_cons hp]
      simp [hds, hp]
    · rw [List.filter_cons_of_neg (by simpa using hp), ih]
      have : l.drop p = [] := List.drop_eq_nil_iff.mpr (by omega)
      rw [this]
      rfl
section
variable {T : List (List Str)} {x4 x5 x6 x7 x8 x9 : Option W} {h h0 : Hh} {np nf nb : Nat}
/-- the counts at the start -/
theorem counts_ok (o : oL T) (b : Beh h nb 0 (fun _ => 0)) : wpR (sFor (iSeq (bV 0)) (.nm 4) (sFor (iSeq (bSl (bV 4) (bO1 (bC (.int 1))) (bO0))) (.nm 5) (sPut (bV 3) (bV 5) (bOp addW (bGet2 (bV 3) (bV 5) (bC (.int 0))) (bC (.int 1))))) [some (.tup (T.map tS)), some (.loc np), some (.loc nf), some (.loc nb), x4, x5, x6, x7, x8, x9] h)
    (fun fl h' => ∃ y4 y5, fl = .nx [some (.tup (T.map tS)), some (.loc np), some (.loc nf), some (.loc nb), y4, y5, x6, x7, x8, x9] ∧ Beh h' nb 90000 (cnt T) ∧ Fr [nb] h h') NoE := by
  unfold sFor
  simp only [e_iSeq, e_V, List.getElem?_cons_zero, R.bind_ok, srcSeq_tup, st_ok]
  refine for_ok0 (I := fun i s h' => ∃ y4 y5, s = [some (.tup (T.map tS)), some (.loc np), some (.loc nf), some (.loc nb), y4, y5, x6, x7, x8, x9] ∧ Beh h' nb (tot (T.take i)) (cnt (T.take i)) ∧ Fr [nb] h h') ⟨_, _, rfl, b, .refl⟩ (fun i w s h' ei I => ?_) (fun s h' I => ?_)
  · obtain ⟨y4, y5, rfl, b', f⟩ := I
    rw [List.getElem?_map] at ei
    obtain ⟨l, el, rfl⟩ := Option.map_eq_some_iff.mp ei
    refine ⟨trivial, _, rfl, ?_⟩
    have tk : T.take (i + 1) = T.take i ++ [l] := by
      rw [List.take_succ, el]
      rfl
    have lt : tot (T.take i) + l.length ≤ tot T := by
      have : ∀ (T : List (List Str)) (i : Nat) (l : List Str), T[i]? = some l → tot (T.take i) + l.length ≤ tot T := by
        intro T
        induction T with
        | nil => intro i l e; simp at e
        | cons a T ih =>
          intro i l e
          cases i with
          | zero =>
            simp only [List.getElem?_cons_zero, Option.some.injEq] at e
            rw [e]
            show 0 + l.length ≤ l.length + tot T
            omega
          | succ i =>
            have := ih i l (by simpa using e)
            show a.length + tot (T.take i) + l.length ≤ a.length + tot T
            omega
      exact this T i l el
    have tt : tot (T.take i ++ [l]) = tot (T.take i) + l.length := by
      have : ∀ (A B : List (List Str)), tot (A ++ B) = tot A + tot B := by
        intro A B
        induction A with
        | nil => simp [tot]
        | cons a A ih => show a.length + tot (A ++ B) = a.length + tot A + tot B; rw [ih]; omega
      rw [this]
      rfl
    have hs : (iSeq (bSl (bV 4) (bO1 (bC (.int 1))) (bO0))) [some (.tup (T.map tS)), some (.loc np), some (.loc nf), some (.loc nb), some (tS l), y5, x6, x7, x8, x9] h' = .ok ⟨l.tail.map .str, fun _ => True⟩ h' := by
      simp [tS, cut_tail]
    show wpR (R.st ((iSeq (bSl (bV 4) (bO1 (bC (.int 1))) (bO0))) [some (.tup (T.map tS)), some (.loc np), some (.loc nf), some (.loc nb), some (tS l), y5, x6, x7, x8, x9] h') _ _) _ _
    rw [hs]
    simp only [st_ok]
    refine for_ok0 (I := fun j s h2 => ∃ y5, s = [some (.tup (T.map tS)), some (.loc np), some (.loc nf), some (.loc nb), some (tS l), y5, x6, x7, x8, x9] ∧ Beh h2 nb (tot (T.take i) + j) (fun x => cnt (T.take i) x + (l.tail.take j).count x) ∧ Fr [nb] h h2) ⟨_, rfl, b'.congr (Nat.le_refl _) (fun x => by simp), f⟩ (fun j w s h2 ej I => ?_) (fun s h2 I => ?_)
    · obtain ⟨y5, rfl, b2, f2⟩ := I
      rw [List.getElem?_map] at ej
      obtain ⟨x, ex, rfl⟩ := Option.map_eq_some_iff.mp ej
      refine ⟨trivial, _, rfl, ?_⟩
      have jl : j < l.tail.length := (List.getElem?_eq_some_iff.mp ex).1
      have jl2 : j < l.length := by rw [List.length_tail] at jl; omega
      have o2 := o.2.1
      have hB : tot (T.take i) + j < Sz := Nat.lt_of_lt_of_le (show tot (T.take i) + j < 90000 by omega) (by decide)
      have gg := b2.get (s := [some (.tup (T.map tS)), some (.loc np), some (.loc nf), some (.loc nb), some (tS l), some (.str x), x6, x7, x8, x9]) (i := 3) (j := 5) (x := x) rfl rfl
      obtain ⟨h3, e3, b3, f3⟩ := b2.put hB x (cnt (T.take i) x + (l.tail.take j).count x + 1)
      refine wp_eq (a := .nx [some (.tup (T.map tS)), some (.loc np), some (.loc nf), some (.loc nb), some (tS l), some (.str x), x6, x7, x8, x9]) (h := h3) ?_ ?_
      · have e3' : setG (.loc nb) (.str x) (.int ((cnt (T.take i) x : Int) + ((l.tail.take j).count x : Int) + 1)) h2 = .ok () h3 := by
          rw [← e3]
          congr 2
        simp only [e_put, e_Op, List.set_cons_succ, List.set_cons_zero, gg, R.bind_ok, e_C, addW_int, sure_ok, st_ok, e_V, List.getElem?_cons_succ, List.getElem?_cons_zero]
        simp only [Int.natCast_add] at e3' ⊢
        rw [e3']
      · refine ⟨_, rfl, b3.congr (by omega) (fun z => ?_), f2.trans f3⟩
        have t2 : l.tail.take (j + 1) = l.tail.take j ++ [x] := by
          rw [List.take_succ, ex]
          rfl
        rw [t2, List.count_append]
        by_cases hz : z = x
        · subst hz
          simp
          omega
        · have : ¬ x = z := fun q => hz q.symm
          simp [hz, this]
    · obtain ⟨y5, rfl, b2, f2⟩ := I
      refine ⟨trivial, _, _, rfl, b2.congr ?_ (fun x => ?_), f2⟩
      · rw [tk, tt, List.length_map, List.length_tail]
        omega
      · rw [tk, cnt_app, List.length_map, List.take_length]
        simp [NB.cnt]
  · obtain ⟨y4, y5, rfl, b', f⟩ := I
    refine ⟨trivial, y4, y5, rfl, b'.congr ?_ (fun x => ?_), f⟩
    · rw [List.length_map, List.take_length]
      exact o.2.1
    · rw [List.length_map, List.take_length]
/-- the heads, and those that stand behind in no list -/
theorem mheads_ok {ps : List Nat} (o : oL T) (lp : ps.length = T.length) (gp : h[np]? = some (.lst (ps.map fun (p : Nat) => W.int p))) : ∃ n h', bLc (iZipX (bV 0) (bV 1)) (.tp [.nm 4, .nm 9]) (bTc (bOp ltW (bV 9) (bCallS lenW (bCons (bV 4) (bNil))))) (bOp ixG (bV 4) (bV 9)) [4, 9] [some (.tup (T.map tS)), some (.loc np), some (.loc nf), some (.loc nb), x4, x5, x6, x7, x8, x9] h = .ok (.loc n) h' ∧ Fr [] h h' ∧ h.length ≤ n ∧ h'[n]? = some (.lst ((hds (cuts T ps)).map .str)) := by
  obtain ⟨rs, n, h', q, fr, l, g, al⟩ := blc_al (it := iZipX (bV 0) (bV 1)) (t := .tp [.nm 4, .nm 9]) (c := bTc (bOp ltW (bV 9) (bCallS lenW (bCons (bV 4) (bNil))))) (e := bOp ixG (bV 4) (bV 9)) (vs := [4, 9]) (s := [some (.tup (T.map tS)), some (.loc np), some (.loc nf), some (.loc nb), x4, x5, x6, x7, x8, x9]) (p := fun q : List Str × Nat => decide (q.2 < q.1.length)) (f := fun q => (q.1[q.2]?).getD Str.empty) (A := fun q w => w = .tup [tS q.1, .int (q.2 : Nat)]) (Q := fun _ x w => w = W.str x) (h := h) (h0 := h) (ws := (T.zip ps).map fun q => .tup [tS q.1, .int (q.2 : Nat)]) (ck := fun h => h[np]? = some (.lst (ps.map fun (p : Nat) => W.int p))) (as := T.zip ps)
    (by
      have z : List.zip (T.map tS) (ps.map fun (p : Nat) => W.int p) = (T.zip ps).map fun q => (tS q.1, W.int (q.2 : Nat)) := by rw [List.zip_map]; rfl
      simp [iZipX, gp, lp, z]) .refl al_refl (by rw [List.length_map, List.length_zip]; exact Nat.le_trans (Nat.min_le_left _ _) (Nat.le_trans o.2.2 (by decide))) (fun _ _ _ _ _ z => z) (fun q hq w h' aw fr => by
    subst aw
    obtain ⟨l, p⟩ := q
    refine ⟨fr.g0 gp, _, by simp [wipeG]; rfl, h', by simp [tS], .refl, fun hp => ⟨.str ((l[p]?).getD Str.empty), h', ?_, .refl, rfl⟩⟩
    have hp : p < l.length := by simpa using hp
    have hpI : (p : Int) < l.length := by omega
    simp [tS, ixG_tup, L2.atI, L2.ixN, hp, hpI]) fun h' fr => fr.g0 gp
  rw [al.eq, heads_cuts] at g
  exact ⟨n, h', q, fr, l, g⟩
theorem mfree_ok {L : List (List Str)} {y : List Str} {nh : Nat} (b : Beh h nb 90000 (NB.cnt L)) (gh : h[nh]? = some (.lst ((hds L).map .str))) (hl : (hds L).length ≤ Sz) : ∃ n h', bLc (iSeq (bV 6)) (.nm 5) (bTc (bOp eqW (bGet2 (bV 3) (bV 5) (bC (.int 0))) (bC (.int 0)))) (bV 5) [5] [some (.tup (T.map tS)), some (.loc np), some (.loc nf), some (.loc nb), x4, x5, some (.loc nh), x7, x8, x9] h = .ok (.loc n) h' ∧ Fr [] h h' ∧ h.length ≤ n ∧ h'[n]? = some (.lst ((fre L).map .str)) := by
  obtain ⟨rs, n, h', q, fr, l, g, al⟩ := blc_al (it := iSeq (bV 6)) (t := .nm 5) (c := bTc (bOp eqW (bGet2 (bV 3) (bV 5) (bC (.int 0))) (bC (.int 0)))) (e := bV 5) (vs := [5]) (s := [some (.tup (T.map tS)), some (.loc np), some (.loc nf), some (.loc nb), x4, x5, some (.loc nh), x7, x8, x9]) (p := frB L) (f := fun z => z) (A := fun z w => w = W.str z) (Q := fun _ z w => w = W.str z) (h := h) (h0 := h) (ws := (hds L).map .str) (ck := fun h => h[nh]? = some (.lst ((hds L).map .str))) (as := hds L) (by simp [srcSeq_lst gh]) .refl al_refl (by simpa using hl) (fun _ _ _ _ _ z => z) (fun z hz w h' aw fr => by
    subst aw
    refine ⟨fr.g0 gh, _, rfl, h', ?_, .refl, fun _ => ⟨_, _, rfl, .refl, rfl⟩⟩
    have gg := (b.fr fr (by simp)).get (s := [some (.tup (T.map tS)), some (.loc np), some (.loc nf), some (.loc nb), x4, some (.str z), some (.loc nh), x7, x8, x9]) (i := 3) (j := 5) (x := z) rfl rfl
    have c := cnt_zero (x := z) (L := L)
    have : frB L z = decide (NB.cnt L z = 0) := by
      apply Bool.eq_iff_iff.mpr
      rw [decide_eq_true_iff, c]
    rw [this]
    show bTc _ [some (.tup (T.map tS)), some (.loc np), some (.loc nf), some (.loc nb), x4, some (.str z), some (.loc nh), x7, x8, x9] h' = _
    simp only [e_Tc, e_Op, gg, R.bind_ok, e_C, eqW_int, sure_ok]
    congr 1
    simp) fun h' fr => fr.g0 gh
  rw [List.map_id'] at al
  rw [al.eq] at g
  exact ⟨n, h', q, fr, l, g⟩
theorem cuts_set {v : Nat} {l : List Str} : ∀ {T : List (List Str)} {ps : List Nat} {i : Nat}, T[i]? = some l → cuts T (ps.set i v) = (cuts T ps).set i (l.drop v)
  | [], _, _, e => by simp at e
  | _ :: _, [], _, _ => by simp [cuts]
  | a :: T, p :: ps, 0, e => by
    simp only [List.getElem?_cons_zero, Option.some.injEq] at e
    subst e
    rfl
  | a :: T, p :: ps, i + 1, e => by
    show a.drop p :: cuts T (ps.set i v) = a.drop p :: (cuts T ps).set i (l.drop v)
    rw [cuts_set (by simpa using e)]
theorem cuts_get {l : List Str} {p : Nat} : ∀ {T : List (List Str)} {ps : List Nat} {i : Nat}, T[i]? = some l → ps[i]? = some p → (cuts T ps)[i]? = some (l.drop p)
  | [], _, _, e, _ => by simp at e
  | _ :: _, [], _, _, e => by simp at e
  | a :: T, q :: ps, 0, e, e' => by
    simp only [List.getElem?_cons_zero, Option.some.injEq] at e e'
    subst e e'
    rfl
  | a :: T, q :: ps, i + 1, e, e' => by
    show (cuts T ps)[i]? = _
    exact cuts_get (by simpa using e) (by simpa using e')
theorem cut_one (ws : List W) (p : Nat) (hp : p ≤ ws.length) : cutW ws (some (p : Int)) (some ((p : Int) + 1)) = (ws.drop p).take 1 := by
  have e : ((p : Int) + 1) = ((p + 1 : Nat) : Int) := by omega
  unfold cutW
  rw [e, HT.sIx_nat, HT.sIx_nat, Nat.min_eq_left hp]
  by_cases h : p + 1 ≤ ws.length
  · rw [Nat.min_eq_left h]
    congr 1
    omega
  · rw [Nat.min_eq_right (by omega)]
    have : ws.length - p = 0 := by omega
    rw [this, List.drop_eq_nil_of_le (by omega)]
    rfl
theorem mpop_ok {ps : List Nat} {g : Str} {fs : List Str} {ng : Nat} (o : oL T) (lp : ps.length = T.length) (bp : ∀ (i : Nat) (l : List Str) (p : Nat), T[i]? = some l → ps[i]? = some p → p ≤ l.length) (gp : h[np]? = some (.lst (ps.map fun (p : Nat) => W.int p))) (b : Beh h nb 90000 (NB.cnt (cuts T ps)))
    (gg : h[ng]? = some (.lst ((g :: fs).map .str))) (n1 : np ≠ nb) (n2 : ng ≠ np) (n3 : ng ≠ nb) (og : oS g) :
    wpR (sFor (iEnumS (bV 0)) (.tp [.nm 8, .nm 4]) (sIf (bTc (bOp eqW (bSl (bV 4) (bO1 (bOp ixG (bV 1) (bV 8))) (bO1 (bOp addW (bOp ixG (bV 1) (bV 8)) (bC (.int 1))))) (bTup (bCons (bOp ixG (bV 7) (bC (.int 0))) (bNil))))) (sSeq (sAugI addI (bV 1) (bV 8) (bC (.int 1))) (sIf (bTc (bOp ltW (bOp ixG (bV 1) (bV 8)) (bCallS lenW (bCons (bV 4) (bNil))))) (sAugI subI (bV 3) (bOp ixG (bV 4) (bOp ixG (bV 1) (bV 8))) (bC (.int 1))) (sPass))) (sPass))
      [some (.tup (T.map tS)), some (.loc np), some (.loc nf), some (.loc nb), x4, x5, x6, some (.loc ng), x8, x9] h)
    (fun fl h' => ∃ y4 y8 ps', fl = .nx [some (.tup (T.map tS)), some (.loc np), some (.loc nf), some (.loc nb), y4, x5, x6, some (.loc ng), y8, x9] ∧ ps'.length = T.length ∧ (∀ (i : Nat) (l : List Str) (p : Nat), T[i]? = some l → ps'[i]? = some p → p ≤ l.length) ∧ h'[np]? = some (.lst (ps'.map fun (p : Nat) => W.int p)) ∧ cuts T ps' = popL g (cuts T ps) ∧ Beh h' nb 90000 (NB.cnt (cuts T ps')) ∧ Fr [np, nb] h h') NoE := by
  unfold sFor
  simp only [e_iEnumS, e_V, List.getElem?_cons_zero, R.bind_ok, srcSeq_tup, st_ok]
  have lc : (cuts T ps).length = T.length := by unfold cuts; rw [List.length_zipWith, lp, Nat.min_self]
  have enl : ∀ (k : Nat) (ws : List W), (enumW 0 k ws).length = ws.length := by
    intro k ws
    induction ws generalizing k with
    | nil => rfl
    | cons w ws ih => exact congrArg Nat.succ (ih (k + 1))
  have eng : ∀ (ws : List W) (k i : Nat), (enumW 0 k ws)[i]? = (ws[i]?).map fun w => .tup [.int ((k + i : Nat) : Int), w] := by
    intro ws
    induction ws with
    | nil => intro k i; simp [enumW]
    | cons w ws ih =>
      intro k i
      cases i with
      | zero => simp [enumW]
      | succ i =>
        show (enumW 0 (k + 1) ws)[i]? = _
        rw [ih]
        have : k + 1 + i = k + (i + 1) := by omega
        simp [this]
  refine for_ok0 (I := fun i s h' => ∃ y4 y8 ps', s = [some (.tup (T.map tS)), some (.loc np), some (.loc nf), some (.loc nb), y4, x5, x6, some (.loc ng), y8, x9] ∧ ps'.length = T.length ∧ (∀ (i : Nat) (l : List Str) (p : Nat), T[i]? = some l → ps'[i]? = some p → p ≤ l.length) ∧ h'[np]? = some (.lst (ps'.map fun (p : Nat) => W.int p)) ∧ cuts T ps' = popL g ((cuts T ps).take i) ++ (cuts T ps).drop i ∧ Beh h' nb 90000 (NB.cnt (cuts T ps')) ∧ Fr [np, nb] h h') ⟨_, _, ps, rfl, lp, bp, gp, by simp [popL], b, .refl⟩ (fun i w s h' ei I => ?_) (fun s h' I => ?_)
  · obtain ⟨y4, y8, ps', rfl, lp', bp', gp', ec, b', f⟩ := I
    rw [eng, List.getElem?_map] at ei
    obtain ⟨w', ew, rfl⟩ := Option.map_eq_some_iff.mp ei
    obtain ⟨l, el, rfl⟩ := Option.map_eq_some_iff.mp ew
    rw [Nat.zero_add]
    have il : i < T.length := (List.getElem?_eq_some_iff.mp el).1
    have ip : i < ps'.length := by rw [lp']; exact il
    obtain ⟨p, ep⟩ : ∃ p, ps'[i]? = some p := ⟨_, List.getElem?_eq_getElem ip⟩
    have gg' := f.get gg (by simp [n2, n3])
    have epW : (ps'.map fun (p : Nat) => W.int p)[i]? = some (.int p) := by rw [List.getElem?_map, ep]; rfl
    have lm : l ∈ T := List.mem_of_getElem? el
    have ple := bp' i l p el ep
    refine ⟨trivial, _, by simp; rfl, ?_⟩
    have ixp : ixG (.loc np) (.int (i : Int)) h' = .ok (.int p) h' := by
      rw [ixG_lst gp', NB.atI_nat, epW]
    have Ri : (cuts T ps)[i]? = some (l.drop p) := by
      have := cuts_get el ep
      rw [ec, List.getElem?_append_right (by simp [popL]; omega)] at this
      simpa [popL, lc, Nat.min_eq_left (Nat.le_of_lt il)] using this
    have dr : (cuts T ps).drop i = l.drop p :: (cuts T ps).drop (i + 1) := by
      have hi : i < (cuts T ps).length := by rw [lc]; exact il
      rw [List.drop_eq_getElem_cons hi]
      rw [List.getElem?_eq_getElem hi] at Ri
      rw [Option.some.inj Ri]
    have tk : (cuts T ps).take (i + 1) = (cuts T ps).take i ++ [l.drop p] := by
      rw [List.take_succ, Ri]
      rfl
    have eqc : eqW (.tup ((l.map W.str).drop p |>.take 1)) (.tup [.str g]) h' = .ok (.bl (decide ((l.drop p).take 1 = [g]))) h' := by
      rw [← List.map_drop, ← List.map_take]
      have r1 : Rd h' 1 (.tuple (((l.drop p).take 1).map .str)) (.tup (((l.drop p).take 1).map W.str)) := .tup (rd_strs fun z hz => o.1 l lm z (List.mem_of_mem_drop (List.mem_of_mem_take hz)))
      have r2 : Rd h' 1 (.tuple ([g].map .str)) (.tup ([g].map W.str)) := .tup (rd_strs fun z hz => by rw [List.mem_singleton.mp hz]; exact og)
      have := eqW_rd (.inl rfl) r1 r2 (by decide)
      rw [show (W.tup ([g].map W.str)) = .tup [.str g] from rfl] at this
      rw [this]
      congr 2
      show PyData.eqv (.tuple _) (.tuple _) = _
      unfold PyData.eqv
      exact eqvAll_strs
    have cl : cutW (l.map W.str) (some (p : Int)) (some ((p : Int) + 1)) = ((l.drop p).take 1).map W.str := by
      rw [cut_one _ _ (by rw [List.length_map]; exact ple), List.map_take, List.map_drop]
    refine wp_if (b := decide ((l.drop p).take 1 = [g])) (h' := h') ?_ ?_
    · simp [tS, ixp, cl, ixG_lst gg', L2.atI, L2.ixN, Sz, eqc]
    by_cases hd : (l.drop p).take 1 = [g]
    · rw [decide_eq_true hd]
      simp only [if_true]
      have pl : p < l.length := by
        have := congrArg List.length hd
        simp at this
        omega
      have dp : l.drop p = l[p] :: l.drop (p + 1) := List.drop_eq_getElem_cons pl
      have gl : l[p] = g := by
        rw [dp] at hd
        exact (List.cons.inj hd).1
      have pop1 : popH g (l.drop p) = l.drop (p + 1) := by
        unfold popH
        rw [dp, gl]
        simp
      have ec2 : cuts T (ps'.set i (p + 1)) = popL g ((cuts T ps).take (i + 1)) ++ (cuts T ps).drop (i + 1) := by
        rw [cuts_set el, ec, tk, dr]
        have l1 : (popL g ((cuts T ps).take i)).length = i := by simp [popL, lc, Nat.min_eq_left (Nat.le_of_lt il)]
        rw [List.set_append_right _ _ (by omega), l1, Nat.sub_self]
        unfold popL
        rw [List.map_append]
        simp [pop1]
      have bp2 : ∀ (j : Nat) (l : List Str) (q : Nat), T[j]? = some l → (ps'.set i (p + 1))[j]? = some q → q ≤ l.length := fun j l' q e1 e2 => by
        by_cases hj : i = j
        · subst hj
          rw [List.getElem?_set_self ip] at e2
          rw [el] at e1
          cases e1; cases e2
          exact pl
        · rw [List.getElem?_set_ne hj] at e2
          exact bp' j l' q e1 e2
      have st1 : sAugI addI (bV 1) (bV 8) (bC (.int 1)) [some (.tup (T.map tS)), some (.loc np), some (.loc nf), some (.loc nb), some (tS l), x5, x6, some (.loc ng), some (.int (i : Int)), x9] h' = .ok (.nx [some (.tup (T.map tS)), some (.loc np), some (.loc nf), some (.loc nb), some (tS l), x5, x6, some (.loc ng), some (.int (i : Int)), x9]) (h'.set np (.lst ((ps'.set i (p + 1)).map fun (p : Nat) => W.int p))) := by
        have sg : setG (.loc np) (.int (i : Int)) (.int ((p : Int) + 1)) h' = .ok () (h'.set np (.lst ((ps'.set i (p + 1)).map fun (p : Nat) => W.int p))) := by
          rw [setG_lst gp', ixN_nat (by rw [List.length_map]; exact ip)]
          simp [List.map_set]
        simp [getA_lst gp' epW, sg]
      refine wp_step st1 ?_
      have f2 : Fr [np] h' (h'.set np (.lst ((ps'.set i (p + 1)).map fun (p : Nat) => W.int p))) := .set (by simp)
      have gp2 := get_set (o := .lst ((ps'.set i (p + 1)).map fun (p : Nat) => W.int p)) gp'
      have b2 := b'.fr f2 (by simpa using fun z => n1 z.symm)
      generalize h'.set np (.lst ((ps'.set i (p + 1)).map fun (p : Nat) => W.int p)) = h2 at f2 gp2 b2
      have ip2 : ((ps'.set i (p + 1)).map fun (p : Nat) => W.int p)[i]? = some (.int ((p + 1 : Nat) : Int)) := by
        rw [List.getElem?_map, List.getElem?_set_self ip]
        rfl
      have ix2 : ixG (.loc np) (.int (i : Int)) h2 = .ok (.int ((p + 1 : Nat) : Int)) h2 := by
        rw [ixG_lst gp2, NB.atI_nat, ip2]
      have ff : Fr [np, nb] h h2 := f.trans (f2.sub fun _ z => by simp at z ⊢; exact .inl z)
      refine wp_if (b := decide (p + 1 < l.length)) (h' := h2) ?_ ?_
      · simp only [e_Tc, e_Op, e_V, List.getElem?_cons_succ, List.getElem?_cons_zero, R.bind_ok, ix2, sure_ok, e_CallS, e_Cons, e_Nil, tS, lenW_tup, ltW_int, List.length_map]
        congr 1
        apply Bool.eq_iff_iff.mpr
        rw [decide_eq_true_iff, decide_eq_true_iff]
        omega
      by_cases hq : p + 1 < l.length
      · rw [decide_eq_true hq]
        simp only [if_true]
        have dq : l.drop (p + 1) = l[p + 1] :: l.drop (p + 2) := List.drop_eq_getElem_cons hq
        have iy : ixG (tS l) (.int ((p + 1 : Nat) : Int)) h2 = .ok (.str l[p + 1]) h2 := by
          unfold tS
          rw [ixG_tup, NB.atI_nat, List.getElem?_map, List.getElem?_eq_getElem hq]
          rfl
        -- the counts
        have c1 : ∀ x, NB.cnt (cuts T ps') x = NB.cnt (cuts T (ps'.set i (p + 1))) x + (if l[p + 1] = x then 1 else 0) := by
          intro x
          rw [ec, ec2, tk, dr]
          unfold popL
          rw [List.map_append, List.map_singleton, pop1, List.append_assoc, cnt_app, cnt_app, List.singleton_append]
          show _ + ((l.drop p).tail.count x + NB.cnt ((cuts T ps).drop (i + 1)) x) = _ + ((l.drop (p + 1)).tail.count x + NB.cnt ((cuts T ps).drop (i + 1)) x) + _
          rw [dp, List.tail_cons, dq, List.tail_cons, List.count_cons]
          by_cases hx : l[p + 1] = x
          · simp [hx]; omega
          · have : ¬ (l[p + 1] == x) = true := by simpa using hx
            rw [if_neg this, if_neg hx]
            omega
        have cy : 0 < NB.cnt (cuts T ps') l[p + 1] := by
          rw [c1]
          simp
        obtain ⟨⟨_, ga⟩, h3, e3, b3, f3⟩ := b2.put' (by decide) l[p + 1] (NB.cnt (cuts T ps') l[p + 1] - 1) cy
        refine wp_eq (a := .nx [some (.tup (T.map tS)), some (.loc np), some (.loc nf), some (.loc nb), some (tS l), x5, x6, some (.loc ng), some (.int (i : Int)), x9]) (h := h3) ?_ ?_
        · have e3' : setG (.loc nb) (.str l[p + 1]) (.int ((NB.cnt (cuts T ps') l[p + 1] : Int) - 1)) h2 = .ok () h3 := by
            rw [← e3]
            congr 2
            omega
          simp only [e_augI, e_Op, e_V, List.getElem?_cons_succ, List.getElem?_cons_zero, R.bind_ok, ix2, sure_ok, iy, st_ok, ga, e_C, subI_int, e3']
        · refine ⟨_, _, ps'.set i (p + 1), rfl, by rw [List.length_set, lp'], bp2, f3.get gp2 (by simpa using n1), ec2, b3.congr (Nat.le_refl _) fun x => ?_, ff.trans (f3.sub fun _ z => by simp at z ⊢; exact .inr z)⟩
          by_cases hx : x = l[p + 1]
          · subst hx
            rw [if_pos rfl, c1]
            simp
          · rw [if_neg hx, c1]
            rw [if_neg fun z => hx z.symm]
            rfl
      · rw [decide_eq_false hq]
        simp only [Bool.false_eq_true, if_false]
        have dq : l.drop (p + 1) = [] := List.drop_eq_nil_of_le (by omega)
        refine ⟨_, _, ps'.set i (p + 1), rfl, by rw [List.length_set, lp'], bp2, gp2, ec2, b2.congr (Nat.le_refl _) fun x => ?_, ff⟩
        rw [ec, ec2, tk, dr]
        unfold popL
        rw [List.map_append, List.map_singleton, pop1, List.append_assoc, cnt_app, cnt_app, List.singleton_append]
        show _ + ((l.drop p).tail.count x + NB.cnt ((cuts T ps).drop (i + 1)) x) = _ + ((l.drop (p + 1)).tail.count x + NB.cnt ((cuts T ps).drop (i + 1)) x)
        rw [dp, List.tail_cons, dq]
        rfl
    · rw [decide_eq_false hd]
      simp only [Bool.false_eq_true, if_false]
      refine ⟨_, _, ps', rfl, lp', bp', gp', ?_, b', f⟩
      rw [ec, tk, dr]
      unfold popL
      rw [List.map_append, List.map_singleton]
      have : popH g (l.drop p) = l.drop p := by
        unfold popH
        rw [if_neg]
        intro z
        apply hd
        cases hl : l.drop p with
        | nil => rw [hl] at z; cases z
        | cons a r =>
          rw [hl] at z
          simp only [List.head?_cons, Option.some.injEq] at z
          rw [z]
          rfl
      rw [this]
      simp
  · obtain ⟨y4, y8, ps', rfl, lp', bp', gp', ec, b', f⟩ := I
    refine ⟨trivial, y4, y8, ps', rfl, lp', bp', gp', ?_, b', f⟩
    rw [ec, enl, List.length_map, ← lc, List.take_length, List.drop_length, List.append_nil]
end
end WS

set_option Elab.async false
set_option linter.all false
set_option maxRecDepth 100000
set_option maxHeartbeats 4000000
namespace WS
open PySem PySem.Spec L2 NB
open PyProof.Rows hiding St
theorem flat_zeros : ∀ n : Nat, (List.replicate n [W.int 0]).flatten = (List.replicate n 0).map fun (p : Nat) => W.int p
  | 0 => rfl
  | n + 1 => by rw [List.replicate_succ, List.replicate_succ, List.flatten_cons, flat_zeros n]; rfl
theorem cuts_zero : ∀ T : List (List Str), cuts T (List.replicate T.length 0) = T
  | [] => rfl
  | l :: T => by
    show l.drop 0 :: cuts T (List.replicate T.length 0) = l :: T
    rw [cuts_zero T, List.drop_zero]
theorem merge_wp {T : List (List Str)} {m : List Str} {h : Hh} (o : oL T) (hm : mrg T = some m) :
    wpR (c_merge_of [.tup (T.map tS)] h) (fun w h' => w = .tup [tS m, .non] ∧ Fr [] h h') NoE := by
  have hT : T.length ≤ 100000 := o.2.2
  refine wp_run ?_
  rw [show startW (["tuples", "places", "found", "behind", "one", "name", "heads", "free", "index", "place"] : List Str).length [W.tup (T.map tS)] = [some (.tup (T.map tS)), none, none, none, none, none, none, none, none, none] from rfl]
  unfold m_merge_of
  have h0e : h ++ [.lst [.int 0]] ++ [.lst ((List.replicate T.length 0).map fun (p : Nat) => W.int p)] ++ [.lst []] ++ [.dct false []] = h ++ [.lst [.int 0], .lst ((List.replicate T.length 0).map fun (p : Nat) => W.int p), .lst [], .dct false []] := by simp
  refine wp_step (s' := [some (.tup (T.map tS)), some (.loc (h.length + 1)), some (.loc (h.length + 2)), some (.loc (h.length + 3)), none, none, none, none, none, none]) (h' := h ++ [.lst [.int 0], .lst ((List.replicate T.length 0).map fun (p : Nat) => W.int p), .lst [], .dct false []]) ?_ ?_
  · have l1 : (T.length : Int) < 1000000 := by omega
    have l2 : -1000000 < (T.length : Int) := by omega
    have l3 : T.length ≤ Sz := by have : 100000 ≤ Sz := by decide
                                  omega
    have mw : mulW (.loc h.length) (.int (T.length : Int)) (h ++ [.lst [.int 0]]) = .ok (.loc (h.length + 1)) (h ++ [.lst [.int 0], .lst ((List.replicate T.length 0).map fun (p : Nat) => W.int p)]) := by
      unfold mulW
      have : (h ++ [.lst [.int 0]])[h.length]? = some (.lst [.int 0]) := get_new
      simp only [this]
      rw [if_pos ⟨l1, l2, by simpa using l3⟩, Int.toNat_natCast, flat_zeros]
      simp
    have s1 : (1 : Nat) ≤ Sz := by decide
    have s3 : (3 : Nat) ≤ Sz := by decide
    simp [mw, s1, s3]
  have gp : (h ++ [.lst [.int 0], .lst ((List.replicate T.length 0).map fun (p : Nat) => W.int p), .lst [], .dct false []])[h.length + 1]? = some (.lst ((List.replicate T.length 0).map fun (p : Nat) => W.int p)) := by simp
  have gf : (h ++ [.lst [.int 0], .lst ((List.replicate T.length 0).map fun (p : Nat) => W.int p), .lst [], .dct false []])[h.length + 2]? = some (.lst []) := by simp
  have gb : (h ++ [.lst [.int 0], .lst ((List.replicate T.length 0).map fun (p : Nat) => W.int p), .lst [], .dct false []])[h.length + 3]? = some (.dct false []) := by simp
  have f0 : Fr [] h (h ++ [.lst [.int 0], .lst ((List.replicate T.length 0).map fun (p : Nat) => W.int p), .lst [], .dct false []]) := .app
  generalize h ++ [.lst [.int 0], .lst ((List.replicate T.length 0).map fun (p : Nat) => W.int p), .lst [], .dct false []] = h1 at gp gf gb f0
  have b0 : Beh h1 (h.length + 3) 0 (fun _ => 0) := ⟨[], gb, by unfold NdK; exact List.nodup_nil, Nat.le_refl _, fun x => rfl⟩
  -- the counts
  refine wp_seq (M := fun s h' => ∃ y4 y5, s = [some (.tup (T.map tS)), some (.loc (h.length + 1)), some (.loc (h.length + 2)), some (.loc (h.length + 3)), y4, y5, none, none, none, none] ∧ Beh h' (h.length + 3) 90000 (NB.cnt T) ∧ Fr [h.length + 3] h1 h') ?_ ?_
  · refine wpR_mono (counts_ok o b0) ?_ fun _ _ z => z
    rintro fl h' ⟨y4, y5, rfl, b, f⟩
    exact ⟨y4, y5, rfl, b, f⟩
  rintro s h2 ⟨y4, y5, rfl, b2, f2⟩
  have gp2 := f2.get gp (by simp)
  have gf2 := f2.get gf (by simp)
  have ff2 : Fr [] h h2 := f0.young f2 fun i hi => .inr (by rw [List.mem_singleton.mp hi]; omega)
  -- the loop
  refine wh_ok (I := fun k s h' => ∃ y4 y5 y6 y7 y8 y9 ps fd, s = [some (.tup (T.map tS)), some (.loc (h.length + 1)), some (.loc (h.length + 2)), some (.loc (h.length + 3)), y4, y5, y6, y7, y8, y9] ∧ ps.length = T.length ∧ (∀ (i : Nat) (l : List Str) (p : Nat), T[i]? = some l → ps[i]? = some p → p ≤ l.length) ∧ h'[h.length + 1]? = some (.lst (ps.map fun (p : Nat) => W.int p)) ∧ h'[h.length + 2]? = some (.lst (fd.map .str)) ∧ Beh h' (h.length + 3) 90000 (NB.cnt (cuts T ps)) ∧ k = tot (cuts T ps) ∧ fd.length + tot (cuts T ps) ≤ tot T ∧ mrg T = (mrg (cuts T ps)).map (fd ++ ·) ∧ Fr [] h h') ?_ 100000 (tot T) _ h2 (by have := o.2.1; omega) ?_
  · rintro k s h' ⟨y4, y5, y6, y7, y8, y9, ps, fd, rfl, lp, bp, gp', gf', b', rfl, le, em, f⟩
    have e0 : bT (bC (.bl true)) [some (.tup (T.map tS)), some (.loc (h.length + 1)), some (.loc (h.length + 2)), some (.loc (h.length + 3)), y4, y5, y6, y7, y8, y9] h' = .ok true h' := by simp
    refine wp_eq e0 ?_
    simp only [if_true]
    have o' : oL (cuts T ps) := by
      refine ⟨?_, by have := o.2.1; omega, ?_⟩
      · intro l hl z hz
        obtain ⟨i, hi, e⟩ := List.getElem_of_mem hl
        unfold cuts at e hi
        rw [List.getElem_zipWith] at e
        rw [← e] at hz
        rw [List.length_zipWith] at hi
        exact o.1 _ (List.getElem_mem (by omega)) z (List.mem_of_mem_drop hz)
      · unfold cuts
        rw [List.length_zipWith]
        omega
    obtain ⟨nh, h3, e3, f3, l3, g3⟩ := mheads_ok (x4 := y4) (x5 := y5) (x6 := y6) (x7 := y7) (x8 := y8) (x9 := y9) (nf := h.length + 2) (nb := h.length + 3) o lp gp'
    refine wp_step (s' := [some (.tup (T.map tS)), some (.loc (h.length + 1)), some (.loc (h.length + 2)), some (.loc (h.length + 3)), y4, y5, some (.loc nh), y7, y8, y9]) (h' := h3) (by rw [e_set, e3]; rfl) ?_
    have b3 := b'.fr f3 (by simp)
    have hh3 := Nat.le_trans (hds_len (cuts T ps)) (Nat.le_trans o'.2.2 (show 100000 ≤ Sz by decide))
    obtain ⟨ng, h4, e4, f4, l4, g4⟩ := mfree_ok (T := T) (x4 := y4) (x5 := y5) (x7 := y7) (x8 := y8) (x9 := y9) (np := h.length + 1) (nf := h.length + 2) (y := []) b3 g3 hh3
    refine wp_step (s' := [some (.tup (T.map tS)), some (.loc (h.length + 1)), some (.loc (h.length + 2)), some (.loc (h.length + 3)), y4, y5, some (.loc nh), some (.loc ng), y8, y9]) (h' := h4) (by rw [e_set, e4]; rfl) ?_
    have g34 := f4.g0 g3
    have e5 := eqNil_ok (a := bV 6) (s := [some (.tup (T.map tS)), some (.loc (h.length + 1)), some (.loc (h.length + 2)), some (.loc (h.length + 3)), y4, y5, some (.loc nh), some (.loc ng), y8, y9]) (k := 0) rfl g34 (rd_strs fun z hz => by
      obtain ⟨l, hl, hx⟩ := hds_in hz
      exact o'.1 l hl z hx) (by decide)
    have gf4 := f4.g0 (f3.g0 gf')
    by_cases hh : hds (cuts T ps) = []
    · rw [hh] at e5
      rw [mrg_done hh, hm] at em
      simp only [Option.map_some, List.append_nil, Option.some.injEq] at em
      have lf : (m.map W.str).length ≤ Sz := by
        rw [List.length_map]
        rw [← em] at le
        have := o.2.1
        exact Nat.le_trans (show m.length ≤ 100000 by omega) (by decide)
      rw [← em] at gf4
      refine wp_ret (w := .tup [tS m, .non]) (h' := h4 ++ [.lst []]) ?_ ⟨rfl, f.trans (f3.trans (f4.trans .app))⟩
      rw [e_if, e5]
      have s2 : (2 : Nat) ≤ Sz := by decide
      simp [tupleW_lst (get_app gf4) lf, tS, s2]
    · have e5' : ((hds (cuts T ps)).map W.str).isEmpty = false := by cases hq : hds (cuts T ps) <;> simp_all
      rw [e5'] at e5
      refine wp_step (s' := [some (.tup (T.map tS)), some (.loc (h.length + 1)), some (.loc (h.length + 2)), some (.loc (h.length + 3)), y4, y5, some (.loc nh), some (.loc ng), y8, y9]) (h' := h4 ++ [.lst []]) (by rw [e_if, e5]; rfl) ?_
      have f5 : Fr [] h4 (h4 ++ [.lst []]) := .app
      generalize h4 ++ [.lst []] = h5 at f5
      have g5 := f5.g0 g4
      cases ef : fre (cuts T ps) with
      | nil =>
        rw [hm, mrg_stop hh ef] at em
        cases em
      | cons g fs =>
        rw [ef] at g5
        have e6 := eqNil_ok (a := bV 7) (s := [some (.tup (T.map tS)), some (.loc (h.length + 1)), some (.loc (h.length + 2)), some (.loc (h.length + 3)), y4, y5, some (.loc nh), some (.loc ng), y8, y9]) (k := 0) rfl g5 (rd_strs fun z hz => by
          rw [← ef] at hz
          obtain ⟨l, hl, hx⟩ := hds_in (fre_hds hz)
          exact o'.1 l hl z hx) (by decide)
        refine wp_step (s' := [some (.tup (T.map tS)), some (.loc (h.length + 1)), some (.loc (h.length + 2)), some (.loc (h.length + 3)), y4, y5, some (.loc nh), some (.loc ng), y8, y9]) (h' := h5 ++ [.lst []]) (by rw [e_if, e6]; rfl) ?_
        have f6 : Fr [] h5 (h5 ++ [.lst []]) := .app
        generalize h5 ++ [.lst []] = h6 at f6
        have g6 := f6.g0 g5
        have gf6 := f6.g0 (f5.g0 gf4)
        have hg : g ∈ hds (cuts T ps) := fre_hds (by rw [ef]; exact List.mem_cons_self)
        have lt := tot_lt hg
        have hb := o.2.1
        have lz : (fd.map W.str).length < Sz := by
          rw [List.length_map]
          exact Nat.lt_of_le_of_lt (show fd.length ≤ 100000 by omega) (by decide)
        refine wp_step (s' := [some (.tup (T.map tS)), some (.loc (h.length + 1)), some (.loc (h.length + 2)), some (.loc (h.length + 3)), y4, y5, some (.loc nh), some (.loc ng), y8, y9]) (h' := h6.set (h.length + 2) (.lst ((fd ++ [g]).map .str))) ?_ ?_
        · simp [tyB_lst gf6, ixG_lst g6, L2.atI, L2.ixN, appW_lst gf6 lz]
        have f7 : Fr [h.length + 2] h6 (h6.set (h.length + 2) (.lst ((fd ++ [g]).map .str))) := .set (by simp)
        have gf7 := get_set (o := .lst ((fd ++ [g]).map W.str)) gf6
        have F6 : Fr [] h' h6 := f3.trans (f4.trans (f5.trans f6))
        have gp7 := f7.get (F6.g0 gp') (by simp)
        have b7 := (b'.fr F6 (by simp)).fr f7 (by simp)
        have ll := f3.1
        have ll' := lt_of_get gf'
        have g7 := f7.get g6 (by simp; omega)
        have ff7 : Fr [] h (h6.set (h.length + 2) (.lst ((fd ++ [g]).map .str))) := (f.trans F6).young f7 fun i hi => .inr (by rw [List.mem_singleton.mp hi]; omega)
        generalize h6.set (h.length + 2) (.lst ((fd ++ [g]).map .str)) = h7 at f7 gf7 gp7 b7 g7 ff7
        obtain ⟨kb, eb, _⟩ := b'
        have lb := lt_of_get eb
        refine wpR_mono (mpop_ok (nf := h.length + 2) o lp bp gp7 b7 g7 (by omega) (by omega) (by omega) (by
          obtain ⟨l, hl, hx⟩ := hds_in hg
          exact o'.1 l hl g hx)) ?_ fun _ _ z => z
        rintro fl h8 ⟨y4', y8', ps', rfl, lp', bp', gp8, ec, b8, f8⟩
        have tl : tot (cuts T ps') < tot (cuts T ps) := by rw [ec]; exact lt
        refine ⟨tot (cuts T ps'), tl, y4', y5, _, _, y8', y9, ps', fd ++ [g], rfl, lp', bp', gp8, f8.get gf7 (by simp), b8, rfl, ?_, ?_, ff7.young f8 fun i hi => .inr ?_⟩
        · simp only [List.length_append, List.length_cons, List.length_nil]
          omega
        · rw [em, mrg_step ef, ec, Option.map_map]
          congr 1
          funext m
          simp
        · simp at hi
          omega
  · refine ⟨y4, y5, none, none, none, none, List.replicate T.length 0, [], rfl, by simp, ?_, gp2, gf2, by rw [cuts_zero]; exact b2, by rw [cuts_zero], by rw [cuts_zero]; simp, by rw [cuts_zero]; simp, ff2⟩
    intro i l p _ e2
    have := List.mem_of_getElem? e2
    rw [(List.mem_replicate.mp this).2]
    exact Nat.zero_le _
end WS

set_option Elab.async false
set_option linter.all false
set_option maxRecDepth 100000
set_option maxHeartbeats 4000000
namespace WS
open PySem PySem.Spec L2 NB
open PyProof.Rows hiding St
/-- the lines as a dict's pairs -/
def dL (L : List (Str × List Str)) : List (Key × W) := L.map fun p => (.inr p.1, tS p.2)
theorem getK_dL {b : Str} : ∀ {L : List (Str × List Str)}, getK (.inr b) (dL L) = (L.lookup b).map tS
  | [] => rfl
  | (a, l) :: L => by
    show (if (Sum.inr a : Key) = .inr b then some (tS l) else getK (.inr b) (dL L)) = _
    rw [List.lookup_cons]
    by_cases e : a = b
    · subst e
      simp
    · rw [if_neg fun z => e (Sum.inr.inj z), getK_dL]
      have : (b == a) = false := by simpa using fun z : b = a => e z.symm
      rw [this]
theorem getK_ln {L : List (Str × List Str)} {b : Str} (h : b ∈ L.map (·.1)) : getK (.inr b) (dL L) = some (tS (lnOf L b)) := by
  rw [getK_dL]
  obtain ⟨l, e⟩ := lookup_some h
  unfold lnOf
  rw [e]
  rfl
theorem getK_dL_none {L : List (Str × List Str)} {b : Str} (h : b ∉ L.map (·.1)) : getK (.inr b) (dL L) = none := by
  rw [getK_dL]
  cases e : L.lookup b with
  | none => rfl
  | some l => exact absurd (List.mem_map.mpr ⟨_, lookup_mem e, rfl⟩) h
theorem isN_oS {z : Str} (h : isNb z = true) : oS z := by
  unfold isNb at h
  simp only [Bool.and_eq_true] at h
  obtain ⟨_, h⟩ := h
  unfold oS
  rw [← Array.all_toList]
  rw [List.all_eq_true] at h ⊢
  intro c hc
  have := h c hc
  simp only [decide_eq_true_eq] at this ⊢
  have k : ∀ c ∈ lettersS.cps.toList, c < 0x110000 := by decide +kernel
  exact k c this
theorem isN_len {z : Str} (h : isNb z = true) : 1 ≤ z.length ∧ z.length ≤ 8 := by
  unfold isNb at h
  simp only [Bool.and_eq_true, decide_eq_true_eq] at h
  exact h.1
/-- rows that a world takes -/
structure WR (rows L : List (Str × List Str)) : Prop where
  v : VR rows L
  n : ∀ x ∈ L.map (·.1), isNb x = true
  few : rows.length ≤ 24
  b8 : ∀ x bs, (x, bs) ∈ rows → bs.length ≤ 8
theorem tot_le_mul {k : Nat} : ∀ {T : List (List Str)}, (∀ l ∈ T, l.length ≤ k) → tot T ≤ T.length * k
  | [], _ => Nat.zero_le _
  | l :: T, h => by
    show l.length + tot T ≤ (T.length + 1) * k
    have h1 := h l List.mem_cons_self
    have h2 := tot_le_mul (T := T) fun l' hl => h l' (List.mem_cons_of_mem l hl)
    rw [Nat.add_mul]
    omega
theorem WR.oT {rows L : List (Str × List Str)} (w : WR rows L) {bs : List Str} (hb : ∀ b ∈ bs, b ∈ L.map (·.1)) (nd : bs.Nodup) : oL (bs.map (lnOf L) ++ [bs]) := by
  have hl : bs.length ≤ 24 := by
    have := nodup_sub_len nd hb
    rw [List.length_map, w.v.len] at this
    exact Nat.le_trans this w.few
  have k : ∀ l ∈ bs.map (lnOf L) ++ [bs], l.length ≤ 24 ∧ ∀ x ∈ l, x ∈ L.map (·.1) := by
    intro l hl'
    rcases List.mem_append.mp hl' with h | h
    · obtain ⟨b, hb', rfl⟩ := List.mem_map.mp h
      have m := lnOf_mem (hb b hb')
      exact ⟨Nat.le_trans (w.v.line_len m).2 w.few, (w.v.lines _ _ m).2.2⟩
    · rw [List.mem_singleton.mp h]
      exact ⟨hl, hb⟩
  refine ⟨fun l hl z hz => isN_oS (w.n z ((k l hl).2 z hz)), ?_, ?_⟩
  · have := tot_le_mul fun l hl => (k l hl).1
    rw [List.length_append, List.length_map, List.length_singleton] at this
    have : (bs.length + 1) * 24 ≤ 25 * 24 := Nat.mul_le_mul_right _ (by omega)
    omega
  · rw [List.length_append, List.length_map, List.length_singleton]
    omega
section
variable {h : Hh} {nl : Nat} {rows L : List (Str × List Str)} {x : Str} {bs l : List Str}
/-- [lines[base] for base in bases] -/
theorem linesOf_ok {i : Nat} {s : Sg} {b : Bool} {e : FE} (he : ∀ w h', (Tg.nm i).go h' w (wipeG s [i]) = some ((wipeG s [i]).set i (some w))) (hi : ∀ h', iSeq e s h' = .ok ⟨bs.map .str, fun _ => True⟩ h') (hb : ∀ b ∈ bs, b ∈ L.map (·.1)) (hl : bs.length ≤ Sz)
    (hx : ∀ b ∈ bs, ∀ h', Fr [] h h' → bOp ixG (bV 0) (bV i) ((wipeG s [i]).set i (some (.str b))) h' = .ok (tS (lnOf L b)) h') :
    ∃ n h', bLc (iSeq e) (.nm i) bYes (bOp ixG (bV 0) (bV i)) [i] s h = .ok (.loc n) h' ∧ Fr [] h h' ∧ h.length ≤ n ∧ h'[n]? = some (.lst ((bs.map (lnOf L)).map tS)) := by
  obtain ⟨rs, n, h', q, fr, l, g, al⟩ := blc_al (it := iSeq e) (t := .nm i) (c := bYes) (e := bOp ixG (bV 0) (bV i)) (vs := [i]) (s := s) (p := fun _ : Str => true) (f := lnOf L) (A := fun z w => w = W.str z) (Q := fun _ l w => w = tS l) (h := h) (h0 := h) (ws := bs.map .str) (ck := fun _ => True) (as := bs) (hi h) .refl al_refl (by rw [List.length_map]; exact hl) (fun _ _ _ _ _ z => z) (fun z hz w h' aw fr => by
    subst aw
    exact ⟨trivial, _, he _ _, h', rfl, .refl, fun _ => ⟨_, h', hx z hz h' fr, .refl, rfl⟩⟩) fun _ _ => trivial
  rw [List.filter_eq_self.mpr fun _ _ => rfl] at al
  rw [al.eq] at g
  exact ⟨n, h', q, fr, l, g⟩
theorem ixG_line {h : Hh} {b : Bool} (e : h[nl]? = some (.dct b (dL L))) {x : Str} (hx : x ∈ L.map (·.1)) : ixG (.loc nl) (.str x) h = .ok (tS (lnOf L x)) h := by
  rw [ixG_dct e rfl, getK_ln hx]
/-- line_of, as the program does it -/
theorem line_of_wp (w : WR rows L) (e : h[nl]? = some (.dct false (dL L))) (hb : ∀ b ∈ bs, b ∈ L.map (·.1)) (nd : bs.Nodup) (hl : lineR L x bs = some l) :
    wpR (c_line_of [.loc nl, .str x, tS bs] h) (fun r h' => r = tS l ∧ Fr [] h h') NoE := by
  have oT := w.oT hb nd
  obtain ⟨m, rfl, hm⟩ := lineR_some hl
  have bl : bs.length ≤ Sz := by
    have := oT.2.2
    rw [List.length_append, List.length_map] at this
    exact Nat.le_trans (show bs.length ≤ 100000 by omega) (by decide)
  refine wp_run ?_
  rw [show startW (["lines", "name", "bases", "tuples", "result", "steps", "base"] : List Str).length [W.loc nl, .str x, tS bs] = [some (.loc nl), some (.str x), some (tS bs), none, none, none, none] from rfl]
  unfold m_line_of
  obtain ⟨n, h1, e1, f1, l1, g1⟩ := linesOf_ok (h := h) (L := L) (i := 6) (s := [some (.loc nl), some (.str x), some (tS bs), none, none, none, none]) (b := false) (e := bV 2) (bs := bs) (fun w h' => rfl) (fun h' => by simp [tS]) hb bl (fun b hb' h' fr => by
    have := ixG_line (fr.g0 e) (hb b hb')
    simp [wipeG, this])
  have ll : ((bs.map (lnOf L)).map tS).length + 1 ≤ Sz := by
    have := oT.2.2
    rw [List.length_append, List.length_map] at this
    rw [List.length_map, List.length_map]
    exact Nat.le_trans (show bs.length + 1 ≤ 100000 from this) (by decide)
  have g1' := get_app (t := [.lst [tS bs]]) g1
  have g2' := get_app (t := [.lst [tS bs], .lst ((bs.map (lnOf L) ++ [bs]).map tS)]) g1
  refine wp_step (s' := [some (.loc nl), some (.str x), some (tS bs), some (.tup ((bs.map (lnOf L) ++ [bs]).map tS)), none, none, none]) (h' := h1 ++ [.lst [tS bs], .lst ((bs.map (lnOf L) ++ [bs]).map tS)]) ?_ ?_
  · have q1 : (h1 ++ [.lst [tS bs]])[h1.length]? = some (.lst [tS bs]) := get_new
    have s1 : (1 : Nat) ≤ Sz := by decide
    have ad : addW (.loc n) (.loc h1.length) (h1 ++ [.lst [tS bs]]) = .ok (.loc (h1.length + 1)) (h1 ++ [.lst [tS bs], .lst ((bs.map (lnOf L) ++ [bs]).map tS)]) := by
      unfold addW
      simp only [g1', q1]
      rw [if_pos (show _ + [tS bs].length ≤ Sz from ll), List.map_append]
      simp
    have q3 : (h1 ++ [.lst [tS bs], .lst ((bs.map (lnOf L) ++ [bs]).map tS)])[h1.length + 1]? = some (.lst ((bs.map (lnOf L) ++ [bs]).map tS)) := by simp
    have tu := tupleW_lst q3 (by rw [List.length_map, List.length_append, List.length_map, List.length_singleton]; rw [List.length_map, List.length_map] at ll; exact ll)
    simp only [e_set, e_CallS, e_Cons, e_Nil, e_Op, e1, R.bind_ok, e_Lst, e_V, List.getElem?_cons_succ, List.getElem?_cons_zero, List.length_cons, List.length_nil, Nat.zero_add, s1, if_true, ad, sure_ok, tu, st_ok, List.set_cons_succ, List.set_cons_zero]
  have f2 : Fr [] h (h1 ++ [.lst [tS bs], .lst ((bs.map (lnOf L) ++ [bs]).map tS)]) := f1.trans .app
  generalize h1 ++ [.lst [tS bs], .lst ((bs.map (lnOf L) ++ [bs]).map tS)] = h2 at f2
  obtain ⟨_, h3, e3, rfl, f3⟩ := wp_ex (merge_wp (h := h2) oT hm.mrg)
  refine wp_step (s' := [some (.loc nl), some (.str x), some (tS bs), some (.tup ((bs.map (lnOf L) ++ [bs]).map tS)), some (tS m), some .non, none]) (h' := h3) ?_ ?_
  · simp only [e_to, e_Fn, e_Cons, e_Nil, e_V, List.getElem?_cons_succ, List.getElem?_cons_zero, R.bind_ok, List.length_cons, List.length_nil, List.append_nil]
    rw [if_pos trivial, e3]
    simp
  refine wp_step (s' := [some (.loc nl), some (.str x), some (tS bs), some (.tup ((bs.map (lnOf L) ++ [bs]).map tS)), some (tS m), some .non, none]) (h' := h3) ?_ ?_
  · simp [tS]
  refine wp_eq (a := .rt (tS (x :: m))) (h := h3) ?_ ⟨rfl, f2.trans f3⟩
  have lm : (x :: m).length ≤ Sz := by
    have h1 : m.length ≤ tot (bs.map (lnOf L) ++ [bs]) := hm.len
    have := oT.2.1
    exact Nat.le_trans (show m.length + 1 ≤ 100000 by omega) (by decide)
  have lm' : m.length + 1 ≤ Sz := lm
  simp [tS, seqW, lm']
end
end WS

set_option Elab.async false
set_option linter.all false
set_option maxRecDepth 100000
set_option maxHeartbeats 4000000
namespace WS
open PySem PySem.Spec L2 NB
open PyProof.Rows hiding St
def insW (a b : W) : Ob := .ins "World" [("rows", a), ("lines", b)]
section
variable {h : Hh} {nw nr nn : Nat} {a b : W} {rows L : List (Str × List Str)} {x : Str} {bs l : List Str}
theorem lk_rows : List.lookup ("rows" : Str) [(("rows" : Str), a), (("lines" : Str), b)] = some a := by
  rw [List.lookup_cons]
  have : (("rows" : Str) == ("rows" : Str)) = true := by decide +kernel
  rw [this]
theorem lk_lines : List.lookup ("lines" : Str) [(("rows" : Str), a), (("lines" : Str), b)] = some b := by
  rw [List.lookup_cons, List.lookup_cons]
  have e1 : (("lines" : Str) == ("rows" : Str)) = false := by decide +kernel
  have e2 : (("lines" : Str) == ("lines" : Str)) = true := by decide +kernel
  rw [e1, e2]
theorem lk_other {f : Str} (h1 : (f == ("rows" : Str)) = false) (h2 : (f == ("lines" : Str)) = false) : List.lookup f [(("rows" : Str), a), (("lines" : Str), b)] = none := by
  rw [List.lookup_cons, List.lookup_cons, h1, h2]
  rfl
theorem fld_rows (e : h[nw]? = some (insW a b)) : fldW fc_rows "rows" (.loc nw) h = .ok a h := by
  unfold fldW
  have m : ("World" : Str) ∈ fc_rows := by decide +kernel
  simp only [e, insW, m, if_true, lk_rows]
theorem fld_lines (e : h[nw]? = some (insW a b)) : fldW fc_lines "lines" (.loc nw) h = .ok b h := by
  unfold fldW
  have m : ("World" : Str) ∈ fc_lines := by decide +kernel
  simp only [e, insW, m, if_true, lk_lines]
theorem con_of {f : Str} {c : W} (e : h[nw]? = some (insW a b)) (h1 : (f == ("rows" : Str)) = false) (h2 : (f == ("lines" : Str)) = false) : conW "World" f c (.loc nw) h = .ok c h := by
  unfold conW
  simp only [e, insW]
  rw [if_pos ⟨trivial, lk_other h1 h2⟩]
theorem getK_isSome {k : Key} : ∀ {kvs : List (Key × W)}, (getK k kvs).isSome = true ↔ k ∈ kvs.map (·.1)
  | [] => by simp
  | (j, u) :: r => by
    unfold getK
    by_cases e : j = k
    · simp [e]
    · rw [if_neg e, getK_isSome]
      have : ¬ k = j := fun z => e z.symm
      simp [this]
theorem uqS_nodup : ∀ {ys acc : List Str}, ys.Nodup → (∀ y ∈ ys, y ∉ acc) → uqS acc ys = acc ++ ys
  | [], acc, _, _ => by unfold uqS; simp
  | y :: ys, acc, nd, h => by
    have nd' := List.nodup_cons.mp nd
    unfold uqS
    rw [if_neg (h y List.mem_cons_self), uqS_nodup nd'.2]
    · simp
    · intro z hz m
      rcases List.mem_append.mp m with m | m
      · exact h z (List.mem_cons_of_mem _ hz) m
      · rw [List.mem_singleton.mp m] at hz
        exact nd'.1 hz
theorem strsW_strs : ∀ l : List Str, strsW (l.map W.str) = some l
  | [] => rfl
  | a :: l => by
    show (match strsW (l.map W.str) with
      | some bs => some (a :: bs)
      | none => none) = _
    rw [strsW_strs l]
theorem lenSet_ok {l : List Str} (nd : l.Nodup) (hl : l.length ≤ 4000) : lsW (tS l) h = .ok (.int l.length) h := by
  unfold lsW tS
  simp only [seqW, strsW_strs]
  rw [if_pos hl, uqS_nodup nd (fun _ _ => List.not_mem_nil)]
  rfl
/-- all([is_name(x) for x in xs]) -/
theorem all_names_ok {i : Nat} {s : Sg} {e : FE} {xs : List Str} (he : ∀ w h', (Tg.nm i).go h' w (wipeG s [i]) = some ((wipeG s [i]).set i (some w))) (hi : ∀ h', iSeq e s h' = .ok ⟨xs.map .str, fun _ => True⟩ h') (hl : xs.length ≤ Sz) (hz : ∀ x ∈ xs, x.length ≤ Sz)
    (hx : ∀ w, ((wipeG s [i]).set i (some w))[i]? = some (some w)) :
    ∃ n h', bLc (iSeq e) (.nm i) (bYes) (bFn 1 c_is_name [] (bCons (bV i) (bNil))) [i] s h = .ok (.loc n) h' ∧ allW [.loc n] h' = .ok (.bl (xs.all isNb)) h' ∧ Fr [] h h' := by
  obtain ⟨rs, n, h', q, fr, l, g, al⟩ := blc_al (it := iSeq e) (t := .nm i) (c := bYes) (e := bFn 1 c_is_name [] (bCons (bV i) (bNil))) (vs := [i]) (s := s) (p := fun _ : Str => true) (f := isNb) (A := fun z w => w = W.str z) (Q := fun _ b w => w = W.bl b) (h := h) (h0 := h) (ws := xs.map .str) (ck := fun _ => True) (as := xs) (hi h) .refl al_refl (by rw [List.length_map]; exact hl) (fun _ _ _ _ _ z => z) (fun z hz' w h' aw fr => by
    subst aw
    obtain ⟨h2, e2, f2⟩ := is_name_ok (hz z hz') h'
    exact ⟨trivial, _, he _ _, h', rfl, .refl, fun _ => ⟨.bl (isNb z), h2, bFn_ok (xs := [.str z]) (h1 := h') (by simp [hx]) rfl e2, f2, rfl⟩⟩) fun _ _ => trivial
  rw [List.filter_eq_self.mpr fun _ _ => rfl] at al
  have e2 := blsW_al al
  refine ⟨n, h', q, ?_, fr⟩
  simp [allW, g, e2]
/-! methods -/
structure Mth where
  takes : List Str
  before : List Str
  passes : Option (List Str)
  after : List Str
def mW (m : Mth) : W := .tup [tS m.takes, tS m.before, optS m.passes, tS m.after]
abbrev MS : Type := List (Str × Mth)
def dM (ms : MS) : List (Key × W) := ms.map fun p => (.inr p.1, mW p.2)
def RowOk (l : List Str) : Prop := l.Nodup ∧ l.length ≤ 4 ∧ ∀ z ∈ l, isNb z = true
def WordsOk (l : List Str) : Prop := l.length ≤ 4 ∧ ∀ z ∈ l, isNb z = true
structure MOk (m : Mth) : Prop where
  t : RowOk m.takes
  b : WordsOk m.before
  a : WordsOk m.after
  n : m.passes = none → m.after = []
  p : ∀ l, m.passes = some l → RowOk l
theorem names_in {l : List Str} (hn : ∀ z ∈ l, isNb z = true) : l.all isNb = true := List.all_eq_true.mpr hn
theorem are_different_ok {l : List Str} (r : RowOk l) (h : Hh) : ∃ h', c_are_different [tS l] h = .ok (.bl true) h' ∧ Fr [] h h' := by
  obtain ⟨nd, l4, hn⟩ := r
  obtain ⟨n1, h1, e1, a1, f1⟩ := all_names_ok (h := h) (i := 1) (s := [some (tS l), none]) (e := bV 0) (xs := l) (fun _ _ => rfl) (fun h' => by simp [tS]) (Nat.le_trans l4 (by decide)) (fun x hx => Nat.le_trans (isN_len (hn x hx)).2 (by decide)) (fun w => rfl)
  rw [names_in hn] at a1
  have ls := lenSet_ok (h := h1) nd (by omega)
  refine ⟨h1, ?_, f1⟩
  unfold c_are_different runB m_are_different
  rw [show startW (["thing", "name"] : List Str).length [tS l] = [some (tS l), none] from rfl]
  have t1 : isT "tuple" h (tS l) = some true := rfl
  simp [t1, e1, a1, ls]
  simp [tS]
theorem is_row_ok {l : List Str} (r : RowOk l) (h : Hh) : ∃ h', c_is_row [tS l] h = .ok (.bl true) h' ∧ Fr [] h h' := by
  obtain ⟨h1, e1, f1⟩ := are_different_ok r h
  refine ⟨h1, ?_, f1⟩
  unfold c_is_row runB m_is_row
  rw [show startW (["thing"] : List Str).length [tS l] = [some (tS l)] from rfl]
  have l4 : (l.length : Int) ≤ 4 := by have := r.2.1; omega
  simp [e1, k_MOST_NAMES]
  simp [tS, l4]
theorem are_words_ok {l : List Str} (r : WordsOk l) (h : Hh) : ∃ h', c_are_words [tS l] h = .ok (.bl true) h' ∧ Fr [] h h' := by
  obtain ⟨l4, hn⟩ := r
  obtain ⟨n1, h1, e1, a1, f1⟩ := all_names_ok (h := h) (i := 1) (s := [some (tS l), none]) (e := bV 0) (xs := l) (fun _ _ => rfl) (fun h' => by simp [tS]) (Nat.le_trans l4 (by decide)) (fun x hx => Nat.le_trans (isN_len (hn x hx)).2 (by decide)) (fun w => rfl)
  rw [names_in hn] at a1
  refine ⟨h1, ?_, f1⟩
  unfold c_are_words runB m_are_words
  rw [show startW (["thing", "word"] : List Str).length [tS l] = [some (tS l), none] from rfl]
  have t1 : isT "tuple" h (tS l) = some true := rfl
  have l5 : ¬ (4 : Int) < l.length := by omega
  have t2 : lenW [tS l] h = .ok (.int l.length) h := by simp [tS]
  simp [t1, t2, k_MOST_WORDS, l5, e1, a1]
theorem is_method_ok {m : Mth} (r : MOk m) (h : Hh) : ∃ h', c_is_method [mW m] h = .ok (.bl true) h' ∧ Fr [] h h' := by
  obtain ⟨h1, e1, f1⟩ := is_row_ok r.t h
  obtain ⟨h2, e2, f2⟩ := are_words_ok r.b h1
  obtain ⟨h3, e3, f3⟩ := are_words_ok r.a h2
  have F := f1.trans (f2.trans f3)
  have t1 : isT "tuple" h (mW m) = some true := rfl
  have l1 : lenW [mW m] h = .ok (.int 4) h := rfl
  have go : (Tg.tp [.nm 1, .nm 2, .nm 3, .nm 4]).go h (mW m) [some (mW m), none, none, none, none] = some [some (mW m), some (tS m.takes), some (tS m.before), some (optS m.passes), some (tS m.after)] := by simp [mW]
  obtain ⟨tk, bf, ps, af⟩ := m
  simp only at *
  unfold c_is_method runB m_is_method
  rw [show startW (["thing", "takes", "before", "passes", "after"] : List Str).length [mW ⟨tk, bf, ps, af⟩] = [some (mW ⟨tk, bf, ps, af⟩), none, none, none, none] from rfl]
  cases ps with
  | none =>
    have ea : af = [] := r.n rfl
    subst ea
    refine ⟨h3, ?_, F⟩
    have q : eqW (tS []) (.tup []) h3 = .ok (.bl true) h3 := rfl
    simp [t1, l1, -go_tp, go, e1, e2, e3, q, optS]
  | some l =>
    obtain ⟨h4, e4, f4⟩ := is_row_ok (r.p l rfl) h3
    refine ⟨h4, ?_, F.trans f4⟩
    have q : isNon (tS l) = false := rfl
    simp [t1, l1, -go_tp, go, e1, e2, e3, e4, optS, q]
end
end WS

set_option Elab.async false
set_option linter.all false
set_option maxRecDepth 100000
set_option maxHeartbeats 4000000
namespace WS
open PySem PySem.Spec L2 NB
open PyProof.Rows hiding St
def m0 : Mth := ⟨[], [], none, []⟩
def mAt (ms : MS) (x : Str) : Mth := (ms.lookup x).getD m0
def keysM (ms : MS) : List Str := ms.map (·.1)
def srt (ms : MS) : MS := (sortS (keysM ms)).map fun x => (x, mAt ms x)
structure MsOk (ms : MS) : Prop where
  nd : (keysM ms).Nodup
  l3 : ms.length ≤ 3
  nm : ∀ x ∈ keysM ms, isNb x = true ∧ x ∉ (["name", "self"] : List Str)
  ok : ∀ p ∈ ms, MOk p.2
theorem keys_srt (ms : MS) : keysM (srt ms) = sortS (keysM ms) := by
  unfold srt keysM
  rw [List.map_map]
  exact List.map_id _
theorem lk_some {β : Type} {x : Str} : ∀ {l : List (Str × β)}, x ∈ l.map (·.1) → ∃ v, l.lookup x = some v ∧ (x, v) ∈ l
  | [], h => nomatch h
  | (a, v) :: l, h => by
    by_cases e : x = a
    · subst e
      exact ⟨v, by simp, List.mem_cons_self⟩
    · have m : x ∈ l.map (·.1) := by
        rcases List.mem_cons.mp h with z | z
        · exact absurd z e
        · exact z
      obtain ⟨v', e1, e2⟩ := lk_some m
      have : (x == a) = false := by simpa using e
      exact ⟨v', by rw [List.lookup_cons, this, e1], List.mem_cons_of_mem _ e2⟩
theorem mem_mAt {ms : MS} {x : Str} (h : x ∈ keysM ms) : (x, mAt ms x) ∈ ms := by
  obtain ⟨l, e, m⟩ := lk_some h
  unfold mAt
  rw [e]
  exact m
theorem getK_dM {b : Str} : ∀ {ms : MS}, getK (.inr b) (dM ms) = (ms.lookup b).map mW
  | [] => rfl
  | (a, l) :: L => by
    show (if (Sum.inr a : Key) = .inr b then some (mW l) else getK (.inr b) (dM L)) = _
    rw [List.lookup_cons]
    by_cases e : a = b
    · subst e
      simp
    · rw [if_neg fun z => e (Sum.inr.inj z), getK_dM]
      have : (b == a) = false := by simpa using fun z : b = a => e z.symm
      rw [this]
theorem getK_at {ms : MS} {x : Str} (h : x ∈ keysM ms) : getK (.inr x) (dM ms) = some (mW (mAt ms x)) := by
  rw [getK_dM]
  obtain ⟨l, e, _⟩ := lk_some h
  unfold mAt
  rw [e]
  rfl
theorem keyStrs_dM : ∀ ms : MS, keyStrs (dM ms) = some (keysM ms)
  | [] => rfl
  | (a, l) :: L => by
    show (match keyStrs (dM L) with
      | some ss => some (a :: ss)
      | none => none) = _
    rw [keyStrs_dM L]
    rfl
theorem keys_len (ms : MS) : (keysM ms).length = ms.length := List.length_map _
theorem sort_len (l : List Str) : (sortS l).length = l.length := (sort_perm l).length_eq
theorem mem_sort {l : List Str} {x : Str} : x ∈ sortS l ↔ x ∈ l := (sort_perm l).mem_iff
section
variable {h : Hh} {nw nr nn dm : Nat} {a b : W} {rows L : List (Str × List Str)} {M : Str → MS} {x : Str} {bs l : List Str} {ms : MS}
theorem sorted_dM {f : Bool} (e : h[dm]? = some (.dct f (dM ms))) (l : ms.length ≤ 3) : sortedW [.loc dm] h = .ok (.loc h.length) (h ++ [.lst ((sortS (keysM ms)).map .str)]) := by
  unfold sortedW
  simp only [e, keyStrs_dM]
  rw [if_pos (by rw [keys_len]; omega)]
/-- a dict made of keys that differ -/
theorem dc_new {t : Tg} {c : FT} {k e : FE} {ck : Hh → Prop} {s : Sg} {f : Str → W} {h : Hh} (hc : ck h) (hcy : c = bYes) : ∀ (xs : List Str) (acc : List (Key × W)), (∀ x ∈ xs, ∃ s2, t.go h (.str x) s = some s2 ∧ k s2 h = .ok (.str x) h ∧ e s2 h = .ok (f x) h) → xs.Nodup → (∀ x ∈ xs, getK (.inr x) acc = none) → acc.length + xs.length ≤ Sz →
    dcR t c k e ck s acc (xs.map .str) h = .ok (acc ++ xs.map fun x => (.inr x, f x)) h
  | [], acc, _, _, _, _ => by
    show dcR t c k e ck s acc [] h = _
    unfold dcR
    rw [if_pos hc]
    simp
  | x :: xs, acc, st, nd, nk, hl => by
    obtain ⟨s2, g, e1, e2⟩ := st x List.mem_cons_self
    have nd' := List.nodup_cons.mp nd
    show dcR t c k e ck s acc (.str x :: xs.map .str) h = _
    unfold dcR
    rw [if_pos hc, g, hcy]
    simp only [e_Yes, sure_ok, R.bind_ok, if_true, e1, e2]
    have kx : keyW (.str x) = some (.inr x) := rfl
    simp only [kx]
    rw [if_pos (by simp only [List.length_cons] at hl; omega), putW_new (nk x List.mem_cons_self)]
    have := dc_new (t := t) (c := c) (k := k) (e := e) (ck := ck) (s := s) (f := f) hc hcy xs (acc ++ [(.inr x, f x)]) (fun z hz => st z (List.mem_cons_of_mem _ hz)) nd'.2 (fun z hz => ?_) (by rw [List.length_append, List.length_singleton]; rw [List.length_cons] at hl; omega)
    · rw [hcy] at this
      rw [this]
      simp
    · have n1 := nk z (List.mem_cons_of_mem _ hz)
      cases g : getK (.inr z) (acc ++ [(.inr x, f x)]) with
      | none => rfl
      | some w =>
        have : (getK (.inr z) (acc ++ [(.inr x, f x)])).isSome = true := by rw [g]; rfl
        have := getK_isSome.mp this
        rw [List.map_append] at this
        rcases List.mem_append.mp this with m | m
        · have := getK_isSome.mpr m
          rw [n1] at this
          cases this
        · simp at m
          rw [m] at hz
          exact absurd hz nd'.1
/-- the row of a class in the dict of rows -/
def RowAt (h : Hh) (S : List Nat) (M : Str → MS) (r : Str × List Str) (d : Nat) : Prop := h[d]? = some (.dct false (dM (srt (M r.1)))) ∧ d ∉ S
def dR : List (Str × List Str) → List Nat → List (Key × W)
  | r :: rs, d :: ds => (.inr r.1, .tup [tS r.2, .loc d]) :: dR rs ds
  | _, _ => []
/-- a world: the dict of rows holds bases and methods, the dict of lines holds the lines -/
structure WO (h : Hh) (nw nr nn : Nat) (rows L : List (Str × List Str)) (M : Str → MS) : Prop where
  ins : h[nw]? = some (insW (.loc nr) (.loc nn))
  rws : ∃ ds : List Nat, h[nr]? = some (.dct false (dR rows ds)) ∧ ds.length = rows.length ∧ ∀ (i : Nat) (r : Str × List Str) (d : Nat), rows[i]? = some r → ds[i]? = some d → RowAt h [nw, nr, nn] M r d
  lns : h[nn]? = some (.dct false (dL L))
  d1 : nw ≠ nr
  d2 : nw ≠ nn
  d3 : nr ≠ nn
theorem WO.fr {h h' : Hh} (o : WO h nw nr nn rows L M) (f : Fr [] h h') : WO h' nw nr nn rows L M :=
  ⟨f.g0 o.ins, let ⟨ds, e, k, a⟩ := o.rws; ⟨ds, f.g0 e, k, fun i r d e1 e2 => ⟨f.g0 (a i r d e1 e2).1, (a i r d e1 e2).2⟩⟩, f.g0 o.lns, o.d1, o.d2, o.d3⟩
theorem keys_dR : ∀ {rows : List (Str × List Str)} {ds : List Nat}, ds.length = rows.length → (dR rows ds).map (·.1) = rows.map fun r => .inr r.1
  | [], [], _ => rfl
  | [], _ :: _, e => nomatch e
  | _ :: _, [], e => nomatch e
  | r :: rs, d :: ds, e => by
    show _ :: (dR rs ds).map (·.1) = _
    rw [keys_dR (Nat.succ.inj e)]
    rfl
theorem getK_dR {b : Str} : ∀ {rows : List (Str × List Str)} {ds : List Nat}, ds.length = rows.length → b ∈ rows.map (·.1) → ∃ (i : Nat) (r : Str × List Str) (d : Nat), rows[i]? = some r ∧ ds[i]? = some d ∧ r.1 = b ∧ getK (.inr b) (dR rows ds) = some (.tup [tS r.2, .loc d]) ∧ rows.lookup b = some r.2
  | [], _, _, m => nomatch m
  | _ :: _, [], e, _ => nomatch e
  | r :: rs, d :: ds, e, m => by
    by_cases q : r.1 = b
    · refine ⟨0, r, d, rfl, rfl, q, ?_, ?_⟩
      · show (if (Sum.inr r.1 : Key) = .inr b then _ else _) = _
        rw [if_pos (by rw [q])]
      · obtain ⟨r1, r2⟩ := r
        simp only at q
        subst q
        simp
    · have m' : b ∈ rs.map (·.1) := by
        rcases List.mem_cons.mp m with z | z
        · exact absurd z.symm q
        · exact z
      obtain ⟨i, r', d', e1, e2, e3, e4, e5⟩ := getK_dR (Nat.succ.inj e) m'
      refine ⟨i + 1, r', d', by simpa using e1, by simpa using e2, e3, ?_, ?_⟩
      · show (if (Sum.inr r.1 : Key) = .inr b then _ else getK (.inr b) (dR rs ds)) = _
        rw [if_neg fun z => q (Sum.inr.inj z), e4]
      · obtain ⟨r1, r2⟩ := r
        have : (b == r1) = false := by simpa using fun z : b = r1 => q z.symm
        rw [List.lookup_cons, this, e5]
theorem row_of_ok (o : WO h nw nr nn rows L M) (hx : x ∈ rows.map (·.1)) : ∃ d bs, rows.lookup x = some bs ∧ c_World_row_of [.loc nw, .str x] h = .ok (.tup [tS bs, .loc d]) h ∧ h[d]? = some (.dct false (dM (srt (M x)))) ∧ d ∉ [nw, nr, nn] := by
  obtain ⟨ds, e, k, al⟩ := o.rws
  obtain ⟨i, r, d, e1, e2, e3, e4, e5⟩ := getK_dR k hx
  obtain ⟨q1, q2⟩ := al i r d e1 e2
  subst e3
  refine ⟨d, r.2, e5, ?_, q1, q2⟩
  unfold c_World_row_of runB m_World_row_of
  rw [show startW (["self", "name"] : List Str).length [W.loc nw, .str r.1] = [some (.loc nw), some (.str r.1)] from rfl]
  have f1 := fld_rows o.ins
  have i1 := ninG_dct (v := .str r.1) e rfl
  have i2 := ixG_dct (y := .str r.1) e rfl
  rw [e4] at i1 i2
  simp [f1, i1, i2]
theorem row_of_ex (o : WO h nw nr nn rows L M) (hx : x ∈ rows.map (·.1)) : ∃ w, c_World_row_of [.loc nw, .str x] h = .ok w h := let ⟨d, bs, _, e, _⟩ := row_of_ok o hx; ⟨_, e⟩
theorem need_bases_wp (o : WO h nw nr nn rows L M) (hb : ∀ b ∈ bs, b ∈ rows.map (·.1)) (hn : ∀ b ∈ bs, isNb b = true) (nd : bs.Nodup) (h8 : bs.length ≤ 8) :
    wpR (c_World_need_bases [.loc nw, tS bs] h) (fun r h' => Fr [] h h') NoE := by
  refine wp_run ?_
  rw [show startW (["self", "bases", "base"] : List Str).length [W.loc nw, tS bs] = [some (.loc nw), some (tS bs), none] from rfl]
  unfold m_World_need_bases
  have bl : bs.length ≤ Sz := Nat.le_trans h8 (by decide)
  obtain ⟨n1, h1, e1, a1, f1⟩ := all_names_ok (h := h) (i := 2) (s := [some (.loc nw), some (tS bs), none]) (e := bV 1) (xs := bs) (fun _ _ => rfl) (fun h' => by simp [tS]) bl (fun x hx => Nat.le_trans (isN_len (hn x hx)).2 (by decide)) (fun w => rfl)
  have ea : bs.all isNb = true := List.all_eq_true.mpr hn
  rw [ea] at a1
  refine wp_step (s' := [some (.loc nw), some (tS bs), none]) (h' := h1) ?_ ?_
  · have c1 := con_of (f := "MAX_BASES") (c := .int 8) o.ins (by decide +kernel) (by decide +kernel)
    have l8 : ¬ (8 : Int) < bs.length := by omega
    simp only [tS] at e1
    simp [tS, c1, k_MAX_BASES, l8, e1, a1]
  have o1 := o.fr f1
  refine wp_step (s' := [some (.loc nw), some (tS bs), none]) (h' := h1) ?_ ?_
  · have := lenSet_ok (h := h1) nd (by omega)
    simp [this, tS]
    simp [tS] at this
    simp [this]
  unfold sFor
  simp only [e_iSeq, e_V, List.getElem?_cons_succ, List.getElem?_cons_zero, R.bind_ok, tS, srcSeq_tup, st_ok]
  refine for_ok0 (I := fun i s h' => ∃ y, s = [some (.loc nw), some (tS bs), y] ∧ h' = h1) ⟨_, rfl, rfl⟩ (fun i w s h' ei I => ?_) (fun s h' I => ?_)
  · obtain ⟨y, rfl, rfl⟩ := I
    rw [List.getElem?_map] at ei
    obtain ⟨z, ez, rfl⟩ := Option.map_eq_some_iff.mp ei
    have hz := List.mem_of_getElem? ez
    obtain ⟨w, ew⟩ := row_of_ex o1 (hb z hz)
    refine ⟨trivial, _, rfl, ?_⟩
    refine wp_eq (a := .nx [some (.loc nw), some (tS bs), some (.str z)]) (h := h') ?_ ⟨_, rfl, rfl⟩
    rw [e_exp]
    have := bMe_ok (C := "World") (m := "row_of") (n := 2) (o := bV 0) (a := bCons (bV 2) bNil) (s := [some (.loc nw), some (tS bs), some (.str z)]) (h := h') (h1 := h') (h2 := h') (xs := [.str z]) rfl o1.ins (lk_other (by decide +kernel) (by decide +kernel)) (by simp) rfl ew
    show R.st (bMe "World" "row_of" 2 c_World_row_of [] (bV 0) (bCons (bV 2) bNil) [some (.loc nw), some (tS bs), some (.str z)] h') _ _ = _
    rw [this]
    rfl
  · obtain ⟨y, rfl, rfl⟩ := I
    exact ⟨trivial, f1⟩

theorem need_methods_wp (o : WO h nw nr nn rows L M) (e : h[dm]? = some (.dct false (dM ms))) (k : MsOk ms) : wpR (c_World_need_methods [.loc nw, .loc dm] h) (fun r h' => Fr [] h h') NoE := by
  refine wp_run ?_
  rw [show startW (["self", "methods", "method"] : List Str).length [W.loc nw, .loc dm] = [some (.loc nw), some (.loc dm), none] from rfl]
  unfold m_World_need_methods
  have so := sorted_dM e k.l3
  have sl : (sortS (keysM ms)).length = ms.length := by rw [sort_len, keys_len]
  refine wp_seq (M := fun s h' => (∃ y, s = [some (.loc nw), some (.loc dm), y]) ∧ Fr [] h h') ?_ ?_
  · unfold sFor
    have g := get_new (h := h) (o := .lst ((sortS (keysM ms)).map .str))
    have f1 : Fr [] h (h ++ [.lst ((sortS (keysM ms)).map .str)]) := .app
    have s1 := srcSeq_lst g
    simp only [e_iSeq, e_CallS, e_Cons, e_Nil, e_V, List.getElem?_cons_succ, List.getElem?_cons_zero, R.bind_ok, so, sure_ok, s1, st_ok]
    generalize h ++ [.lst ((sortS (keysM ms)).map .str)] = h1 at f1 g
    generalize h.length = n at g
    refine for_ok0 (I := fun i s h' => (∃ y, s = [some (.loc nw), some (.loc dm), y]) ∧ Fr [] h1 h') ⟨⟨_, rfl⟩, .refl⟩ (fun i w s h' ei I => ?_) (fun s h' I => ?_)
    · obtain ⟨⟨y, rfl⟩, f⟩ := I
      rw [List.getElem?_map] at ei
      obtain ⟨z, ez, rfl⟩ := Option.map_eq_some_iff.mp ei
      have hz := mem_sort.mp (List.mem_of_getElem? ez)
      refine ⟨f.g0 g, _, rfl, ?_⟩
      show wpR (sIf _ _ _ [some (.loc nw), some (.loc dm), some (.str z)] h') _ _
      obtain ⟨nz, rz⟩ := k.nm z hz
      obtain ⟨h2, e2, f2⟩ := is_name_ok (z := z) (Nat.le_trans (isN_len nz).2 (by decide)) h'
      have iR : inG (.str z) k_RESERVED h2 = .ok (.bl false) h2 := by
        have := inG_tup (h := h2) (l := ["name", "self"]) z
        rw [decide_eq_false rz] at this
        exact this
      have ix := ixG_dct (y := .str z) (f2.g0 (f.g0 (f1.g0 e))) rfl
      rw [getK_at hz] at ix
      obtain ⟨h3, e3, f3⟩ := is_method_ok (k.ok _ (mem_mAt hz)) h2
      rw [nz] at e2
      refine wp_eq (a := .nx [some (.loc nw), some (.loc dm), some (.str z)]) (h := h3) ?_ ⟨⟨_, rfl⟩, f.trans (f2.trans f3)⟩
      simp [e2, iR, ix, e3]
    · obtain ⟨⟨y, rfl⟩, f⟩ := I
      exact ⟨f.g0 g, ⟨_, rfl⟩, f1.trans f⟩
  · rintro s h' ⟨⟨y, rfl⟩, f⟩
    have o1 := o.fr f
    refine wp_eq (a := .nx [some (.loc nw), some (.loc dm), y]) (h := h') ?_ f
    have c1 := con_of (f := "MAX_METHODS") (c := .int 3) o1.ins (by decide +kernel) (by decide +kernel)
    have l3 : ¬ (3 : Int) < (dM ms).length := by
      have := k.l3
      have : (dM ms).length = ms.length := List.length_map _
      omega
    simp [lenW_dct (f.g0 e), c1, k_MAX_METHODS, l3]
end
end WS

set_option Elab.async false
set_option linter.all false
set_option maxRecDepth 100000
set_option maxHeartbeats 4000000
namespace WS
open PySem PySem.Spec L2 NB
open PyProof.Rows hiding St
section
variable {h : Hh} {nw nr nn dm : Nat} {a b : W} {rows L : List (Str × List Str)} {M : Str → MS} {x : Str} {bs l : List Str} {ms : MS}
theorem dR_app {r : Str × List Str} {d : Nat} : ∀ {rows : List (Str × List Str)} {ds : List Nat}, ds.length = rows.length → dR (rows ++ [r]) (ds ++ [d]) = dR rows ds ++ [(.inr r.1, .tup [tS r.2, .loc d])]
  | [], [], _ => rfl
  | [], _ :: _, e => nomatch e
  | _ :: _, [], e => nomatch e
  | r' :: rs, d' :: ds, e => by
    show _ :: dR (rs ++ [r]) (ds ++ [d]) = _
    rw [dR_app (Nat.succ.inj e)]
    rfl
theorem add_class_wp (w : WR (rows ++ [(x, bs)]) (L ++ [(x, l)])) (w0 : WR rows L) (o : WO h nw nr nn rows L M) (e : h[dm]? = some (.dct false (dM (M x)))) (km : MsOk (M x)) (hx : x ∉ L.map (·.1)) (hb : ∀ b ∈ bs, b ∈ L.map (·.1)) (nd : bs.Nodup) (hl : lineR L x bs = some l) :
    wpR (c_World_add_class [.loc nw, .str x, tS bs, .loc dm] h) (fun r h' => r = tS l ∧ Fr [nr, nn] h h' ∧ WO h' nw nr nn (rows ++ [(x, bs)]) (L ++ [(x, l)]) M) NoE := by
  have nx : isNb x = true := w.n x (by simp)
  have h8 : bs.length ≤ 8 := w.b8 x bs (by simp)
  have few : rows.length < 24 := by
    have := w.few
    rw [List.length_append, List.length_singleton] at this
    omega
  have nm := w0.v.names
  refine wp_run ?_
  rw [show startW (["self", "name", "bases", "methods", "line", "method"] : List Str).length [W.loc nw, .str x, tS bs, .loc dm] = [some (.loc nw), some (.str x), some (tS bs), some (.loc dm), none, none] from rfl]
  unfold m_World_add_class
  have xl : x.length ≤ Sz := Nat.le_trans (isN_len nx).2 (by decide)
  obtain ⟨h1, e1, f1⟩ := is_name_ok xl h
  rw [nx] at e1
  refine wp_step (s' := [some (.loc nw), some (.str x), some (tS bs), some (.loc dm), none, none]) (h' := h1) ?_ ?_
  · have := bFn_ok (n := 1) (f := c_is_name) (a := bCons (bV 1) bNil) (s := [some (.loc nw), some (.str x), some (tS bs), some (.loc dm), none, none]) (h := h) (h1 := h) (xs := [.str x]) (by simp) rfl e1
    simp only [e_if, e_Not, e_T, this, R.bind_ok, truB_bl]
    simp
  have o1 := o.fr f1
  have e' := f1.g0 e
  obtain ⟨ds, ek, dl, al⟩ := o1.rws
  have kk := keys_dR dl
  generalize ekvs : dR rows ds = kvs at ek kk
  have xk : getK (.inr x) kvs = none := by
    cases g : getK (.inr x) kvs with
    | none => rfl
    | some w =>
      have : (getK (.inr x) kvs).isSome = true := by rw [g]; rfl
      have := getK_isSome.mp this
      rw [kk] at this
      obtain ⟨r, hr, er⟩ := List.mem_map.mp this
      cases er
      exact absurd (by rw [nm]; exact List.mem_map.mpr ⟨r, hr, rfl⟩) hx
  have i1 := inG_dct (v := .str x) ek rfl
  rw [xk] at i1
  have fr1 := fld_rows o1.ins
  refine wp_step (s' := [some (.loc nw), some (.str x), some (tS bs), some (.loc dm), none, none]) (h' := h1) ?_ ?_
  · simp [fr1, i1]
  have tr : ∀ b ∈ bs, b ∈ rows.map (·.1) := fun b hb' => by rw [← nm]; exact hb b hb'
  have nb : ∀ b ∈ bs, isNb b = true := fun b hb' => w0.n b (hb b hb')
  obtain ⟨r2, h2, e2, f2⟩ := wp_ex (need_bases_wp o1 tr nb nd h8)
  have lk : ∀ f : Str, (f == ("rows" : Str)) = false → (f == ("lines" : Str)) = false → List.lookup f [(("rows" : Str), W.loc nr), (("lines" : Str), W.loc nn)] = none := fun f a b => lk_other a b
  refine wp_step (s' := [some (.loc nw), some (.str x), some (tS bs), some (.loc dm), none, none]) (h' := h2) ?_ ?_
  · have := bMe_ok (C := "World") (m := "need_bases") (n := 2) (o := bV 0) (a := bCons (bV 2) bNil) (s := [some (.loc nw), some (.str x), some (tS bs), some (.loc dm), none, none]) (h := h1) (h1 := h1) (h2 := h1) (xs := [tS bs]) rfl o1.ins (lk _ (by decide +kernel) (by decide +kernel)) (by simp) rfl e2
    rw [e_exp, this]
    rfl
  have o2 := o1.fr f2
  have e2' := f2.g0 e'
  obtain ⟨r3, h3, e3, f3⟩ := wp_ex (need_methods_wp o2 e2' km)
  refine wp_step (s' := [some (.loc nw), some (.str x), some (tS bs), some (.loc dm), none, none]) (h' := h3) ?_ ?_
  · have := bMe_ok (C := "World") (m := "need_methods") (n := 2) (o := bV 0) (a := bCons (bV 3) bNil) (s := [some (.loc nw), some (.str x), some (tS bs), some (.loc dm), none, none]) (h := h2) (h1 := h2) (h2 := h2) (xs := [.loc dm]) rfl o2.ins (lk _ (by decide +kernel) (by decide +kernel)) (by simp) rfl e3
    rw [e_exp, this]
    rfl
  have o3 := o2.fr f3
  have e3' := f3.g0 e2'
  have ek3 := f3.g0 (f2.g0 ek)
  have fr3 := fld_rows o3.ins
  have fl3 := fld_lines o3.ins
  have klen : kvs.length = rows.length := by
    have := congrArg List.length kk
    simpa using this
  refine wp_step (s' := [some (.loc nw), some (.str x), some (tS bs), some (.loc dm), none, none]) (h' := h3) ?_ ?_
  · have c1 := con_of (f := "MAX_CLASSES") (c := .int 24) o3.ins (by decide +kernel) (by decide +kernel)
    have l24 : ¬ (24 : Int) ≤ kvs.length := by omega
    simp [fr3, lenW_dct ek3, c1, k_MAX_CLASSES, l24]
  obtain ⟨_, h4, e4, rfl, f4⟩ := wp_ex (line_of_wp (h := h3) w0 o3.lns hb nd hl)
  refine wp_step (s' := [some (.loc nw), some (.str x), some (tS bs), some (.loc dm), some (tS l), none]) (h' := h4) ?_ ?_
  · have := bFn_ok (n := 3) (f := c_line_of) (a := bCons (bFld fc_lines "lines" (bV 0)) (bCons (bV 1) (bCons (bV 2) bNil))) (s := [some (.loc nw), some (.str x), some (tS bs), some (.loc dm), none, none]) (h := h3) (h1 := h3) (xs := [.loc nn, .str x, tS bs]) (by simp [fl3]) rfl e4
    rw [e_set, this]
    rfl
  have o4 := o3.fr f4
  have e4' := f4.g0 e3'
  have ek4 := f4.g0 ek3
  have ndk : NdK kvs := by
    unfold NdK
    rw [kk]
    have := w0.v.nodup
    rw [nm] at this
    rw [List.nodup_iff_pairwise_ne] at this ⊢
    rw [List.pairwise_map] at this ⊢
    exact this.imp fun {a b} ne z => ne (Sum.inr.inj z)
  have kz : kvs.length < Sz := Nat.lt_of_le_of_lt (show kvs.length ≤ 24 by omega) (by decide)
  -- the row
  have so := sorted_dM e4' km.l3
  have ndS : (sortS (keysM (M x))).Nodup := (sort_perm _).nodup_iff.mpr km.nd
  have sl3 : (sortS (keysM (M x))).length ≤ 3 := by rw [sort_len, keys_len]; exact km.l3
  have h5e : ∃ h5, sPut (bFld fc_rows "rows" (bV 0)) (bV 1) (bTup (bCons (bV 2) (bCons (bDc (iSeq (bCallS sortedW (bCons (bV 3) (bNil)))) (.nm 5) (bYes) (bV 5) (bOp ixG (bV 3) (bV 5)) [5]) (bNil)))) [some (.loc nw), some (.str x), some (tS bs), some (.loc dm), some (tS l), none] h4 = .ok (.nx [some (.loc nw), some (.str x), some (tS bs), some (.loc dm), some (tS l), none]) h5 ∧ Fr [nr] h4 h5 ∧ h5[nr]? = some (.dct false (dR (rows ++ [(x, bs)]) (ds ++ [h4.length + 1]))) ∧ h5[h4.length + 1]? = some (.dct false (dM (srt (M x)))) := by
    have ff0 : Fr [] h4 (h4 ++ [Ob.lst ((sortS (keysM (M x))).map .str)]) := .app
    have hs : bDc (iSeq (bCallS sortedW (bCons (bV 3) (bNil)))) (.nm 5) (bYes) (bV 5) (bOp ixG (bV 3) (bV 5)) [5] [some (.loc nw), some (.str x), some (tS bs), some (.loc dm), some (tS l), none] h4 = .ok (.loc (h4.length + 1)) (h4 ++ [.lst ((sortS (keysM (M x))).map .str), .dct false (dM (srt (M x)))]) := by
      have g := get_new (h := h4) (o := .lst ((sortS (keysM (M x))).map .str))
      have s1 := srcSeq_lst g
      have d := dc_new (t := .nm 5) (c := bYes) (k := bV 5) (e := bOp ixG (bV 3) (bV 5)) (ck := fun h => h[h4.length]? = some (.lst ((sortS (keysM (M x))).map .str))) (s := [some (.loc nw), some (.str x), some (tS bs), some (.loc dm), some (tS l), none]) (f := fun z => mW (mAt (M x) z)) (h := h4 ++ [Ob.lst ((sortS (keysM (M x))).map .str)]) g rfl (sortS (keysM (M x))) [] (fun z hz => by
        have ix := ixG_dct (y := .str z) (ff0.g0 e4') rfl
        rw [getK_at (mem_sort.mp hz)] at ix
        exact ⟨_, rfl, rfl, by simp [ix]⟩) ndS (fun _ _ => rfl) (Nat.le_trans (show 0 + _ ≤ 3 by omega) (by decide))
      have e6 : (sortS (keysM (M x))).map (fun z => ((.inr z, mW (mAt (M x) z)) : Key × W)) = dM (srt (M x)) := by
        unfold dM srt
        rw [List.map_map]
        rfl
      unfold bDc
      simp only [e_iSeq, e_CallS, e_Cons, e_Nil, e_V, List.getElem?_cons_succ, List.getElem?_cons_zero, R.bind_ok, so, sure_ok, s1]
      show R.bind (dcR _ _ _ _ _ [some (.loc nw), some (.str x), some (tS bs), some (.loc dm), some (tS l), none] _ _ _) _ = _
      rw [d, List.nil_append, e6]
      unfold dcEnd
      simp
    have ff : Fr [] h4 (h4 ++ [.lst ((sortS (keysM (M x))).map .str), .dct false (dM (srt (M x)))]) := .app
    have fr5 := fld_rows (ff.g0 o4.ins)
    have sg := setG_dct (v := .str x) (w := .tup [tS bs, .loc (h4.length + 1)]) (kk := .inr x) (ff.g0 ek4) rfl kz ndk
    rw [putW_new xk] at sg
    have ed : kvs ++ [(.inr x, .tup [tS bs, .loc (h4.length + 1)])] = dR (rows ++ [(x, bs)]) (ds ++ [h4.length + 1]) := by
      rw [← ekvs, dR_app dl]
    rw [ed] at sg
    refine ⟨(h4 ++ [Ob.lst ((sortS (keysM (M x))).map .str), Ob.dct false (dM (srt (M x)))] : Hh).set nr (.dct false (dR (rows ++ [(x, bs)]) (ds ++ [h4.length + 1]))), ?_, (ff.any).trans (.set (by simp)), get_set (ff.g0 ek4), ?_⟩
    · have s2 : (2 : Nat) ≤ Sz := by decide
      simp [hs, fr5, sg, s2]
    · have ne : nr ≠ h4.length + 1 := by have := lt_of_get ek4; omega
      rw [List.getElem?_set_ne ne]
      simp
  obtain ⟨h5, e5, f5, ek5, ed5⟩ := h5e
  refine wp_step e5 ?_
  have n1 := o.d1
  have n2 := o.d2
  have n3 := o.d3
  have i5 := f5.get o4.ins (by simpa using n1)
  have l5 := f5.get o4.lns (by simpa using fun z => n3 z.symm)
  have fl5 := fld_lines i5
  have ndl : NdK (dL L) := by
    unfold NdK dL
    rw [List.map_map]
    have := w0.v.nodup
    rw [List.nodup_iff_pairwise_ne] at this ⊢
    rw [List.pairwise_map] at this ⊢
    exact this.imp fun {a b} ne z => ne (Sum.inr.inj z)
  have lz : (dL L).length < Sz := by
    unfold dL
    rw [List.length_map, w0.v.len]
    exact Nat.lt_of_le_of_lt (show rows.length ≤ 24 by omega) (by decide)
  have sg := setG_dct (v := .str x) (w := tS l) (kk := .inr x) l5 rfl lz ndl
  rw [putW_new (getK_dL_none hx)] at sg
  have edl : dL L ++ [(.inr x, tS l)] = dL (L ++ [(x, l)]) := by
    unfold dL
    rw [List.map_append]
    rfl
  rw [edl] at sg
  refine wp_step (s' := [some (.loc nw), some (.str x), some (tS bs), some (.loc dm), some (tS l), none]) (h' := h5.set nn (.dct false (dL (L ++ [(x, l)])))) ?_ ?_
  · simp [fl5, sg]
  have f6 : Fr [nn] h5 (h5.set nn (.dct false (dL (L ++ [(x, l)])))) := .set (by simp)
  refine wp_eq (a := .rt (tS l)) (h := h5.set nn (.dct false (dL (L ++ [(x, l)])))) (by simp) ⟨rfl, ?_, ⟨f6.get i5 (by simpa using n2), ⟨ds ++ [h4.length + 1], f6.get ek5 (by simpa using n3), by rw [List.length_append, List.length_append, dl]; rfl, ?_⟩, get_set l5, n1, n2, n3⟩⟩
  · have F4 : Fr [] h h4 := f1.trans (f2.trans (f3.trans f4))
    exact F4.any.trans ((f5.sub fun i hi => by simp at hi ⊢; exact .inl hi).trans (f6.sub fun i hi => by simp at hi ⊢; exact .inr hi))
  · intro i r d e1 e2
    have lw := lt_of_get o4.ins
    have lr := lt_of_get ek4
    have ln := lt_of_get o4.lns
    have up : ∀ {d : Nat} {ob : Ob}, h5[d]? = some ob → d ∉ [nw, nr, nn] → (h5.set nn (.dct false (dL (L ++ [(x, l)]))))[d]? = some ob ∧ d ∉ [nw, nr, nn] := fun e z => ⟨f6.get e (fun y => z (by simp at y ⊢; exact .inr (.inr y))), z⟩
    by_cases q : i < rows.length
    · rw [List.getElem?_append_left q] at e1
      rw [List.getElem?_append_left (by omega)] at e2
      obtain ⟨a1, a2⟩ := al i r d e1 e2
      have a4 := f4.g0 (f3.g0 (f2.g0 a1))
      exact up (f5.get a4 (fun y => a2 (by simp at y ⊢; exact .inr (.inl y)))) a2
    · have li : i < (rows ++ [(x, bs)]).length := (List.getElem?_eq_some_iff.mp e1).1
      rw [List.length_append, List.length_singleton] at li
      have ei : i = rows.length := by omega
      subst ei
      rw [List.getElem?_append_right (by omega), Nat.sub_self] at e1
      rw [List.getElem?_append_right (by omega), dl, Nat.sub_self] at e2
      cases e1
      cases e2
      exact up ed5 (by simp; omega)
end
end WS

set_option Elab.async false
set_option linter.all false
set_option maxRecDepth 100000
set_option maxHeartbeats 4000000
namespace WS
open PySem PySem.Spec L2 NB
open PyProof.Rows hiding St
section
variable {h : Hh} {nw nr nn dm : Nat} {a b : W} {rows L : List (Str × List Str)} {M : Str → MS} {x : Str} {bs l : List Str} {ms : MS}
def chg (x : Str) (bs : List Str) (dm : Nat) : W := .tup [.str "define", .str x, tS bs, .loc dm]
theorem strEq {a b : Str} {c : Bool} (e : decide (a = b) = c) (h : Hh) : eqW (.str a) (.str b) h = .ok (.bl c) h := by rw [eqW_str, e]
theorem keys_items : ∀ ms : MS, itKeys (dM ms) = (keysM ms).map W.str
  | [] => rfl
  | (a, m) :: r => by
    show _ :: itKeys (dM r) = _
    rw [keys_items r]
    rfl
theorem is_change_ok (hl3 : ms.length ≤ 3) (e : h[dm]? = some (.dct false (dM ms))) : ∃ h', c_is_change [chg x bs dm] h = .ok (.bl true) h' ∧ Fr [] h h' := by
  have e1 := get_set (o := .dct true (dM ms)) e
  obtain ⟨rs, n, h1, ef, ff, ln1, gn, al⟩ := blc_al (it := iDct itKeys (bOp ixG (bV 0) (bC (.int 3)))) (t := .nm 1) (c := bYes) (e := bIs "str" (bV 1)) (vs := [1]) (s := [some (chg x bs dm), none]) (p := fun _ : Str => true) (f := fun _ => true) (A := fun z w => w = W.str z) (Q := fun _ b w => w = W.bl b) (h := h.set dm (.dct true (dM ms))) (h0 := h.set dm (.dct true (dM ms))) (ws := (keysM ms).map .str) (ck := fun h => h[dm]? = some (.dct true (dM ms))) (as := keysM ms) (by
      unfold iDct
      simp [chg, ixG_tup, L2.atI, L2.ixN, e1]
      exact keys_items ms) .refl al_refl (by rw [List.length_map, keys_len]; exact Nat.le_trans hl3 (by decide)) (fun _ _ _ _ _ z => z) (fun z hz w h' aw fr => by
    subst aw
    exact ⟨fr.g0 e1, _, rfl, h', rfl, .refl, fun _ => ⟨.bl true, h', by simp [wipeG], .refl, rfl⟩⟩) (fun h' fr => fr.g0 e1)
  rw [List.filter_eq_self.mpr fun _ _ => rfl] at al
  obtain ⟨e2, f2⟩ := bLock_ok (e := bOp ixG (bV 0) (bC (.int 3))) (s := [some (chg x bs dm), none]) (h := h) (h1 := h) (n := dm) (by simp [chg, ixG_tup, L2.atI, L2.ixN]) e ef ff
  refine ⟨_, ?_, f2⟩
  unfold c_is_change runB m_is_change
  rw [show startW (["thing", "key"] : List Str).length [chg x bs dm] = [some (chg x bs dm), none] from rfl]
  have al2 : allW [.loc n] (h1.set dm (.dct false (dM ms))) = .ok (.bl true) (h1.set dm (.dct false (dM ms))) := by
    have ne : dm ≠ n := by
      have := lt_of_get e
      rw [List.length_set] at ln1
      omega
    have g2 : (h1.set dm (.dct false (dM ms)))[n]? = some (.lst rs) := by
      rw [List.getElem?_set_ne ne]
      exact gn
    unfold allW
    simp only [g2, blsW_al al]
    simp
  have s1 := strEq (a := "define") (b := "remove") (c := false) (by decide +kernel)
  have s2 := strEq (a := "define") (b := "rebase") (c := false) (by decide +kernel)
  have s3 : neW (.str "define") (.str "define") h = .ok (.bl false) h := by
    rw [neW_str]
    simp
  have td : isT "dict" h (.loc dm) = some true := by rw [isT_dct e]; rfl
  have eqt : eqW (chg x bs dm) (.tup []) h = .ok (.bl false) h := by
    have pn : pyW h 9 (chg x bs dm) = none := by
      have pl : pyW h 8 (.loc dm) = none := by
        show (match h[dm]? with
          | some (.lst ws) => (pyAll (pyW h 7) ws).map PyData.list
          | _ => none) = none
        rw [e]
      show (pyAll (pyW h 8) [.str "define", .str x, tS bs, .loc dm]).map PyData.tuple = none
      have : pyAll (pyW h 8) [.str "define", .str x, tS bs, .loc dm] = none := by
        unfold pyAll
        split
        · rename_i e1 e2
          unfold pyAll at e2
          split at e2
          · rename_i e3 e4
            unfold pyAll at e4
            split at e4
            · rename_i e5 e6
              unfold pyAll at e6
              rw [pl] at e6
              simp at e6
            · cases e4
          · cases e2
        · rfl
      rw [this]
      rfl
    unfold eqW
    have : eqB h (chg x bs dm) (.tup []) = none := by
      unfold eqB eqData
      rw [pn]
      rfl
    rw [this]
    rfl
  have ix0 : ixG (chg x bs dm) (.int 0) h = .ok (.str "define") h := by simp [chg, ixG_tup, L2.atI, L2.ixN]
  have ix2 : ixG (chg x bs dm) (.int 2) h = .ok (tS bs) h := by simp [chg, ixG_tup, L2.atI, L2.ixN]
  have ix3 : ixG (chg x bs dm) (.int 3) h = .ok (.loc dm) h := by simp [chg, ixG_tup, L2.atI, L2.ixN]
  have ln : lenW [chg x bs dm] h = .ok (.int 4) h := by simp [chg]
  have it : isT "tuple" h (chg x bs dm) = some true := rfl
  have it2 : isT "tuple" h (tS bs) = some true := rfl
  simp [it, it2, eqt, ix0, ix2, ix3, s1, s2, td, ln, e2, al2]
theorem change_by_wp (w : WR (rows ++ [(x, bs)]) (L ++ [(x, l)])) (w0 : WR rows L) (o : WO h nw nr nn rows L M) (e : h[dm]? = some (.dct false (dM (M x)))) (km : MsOk (M x)) (hx : x ∉ L.map (·.1)) (hb : ∀ b ∈ bs, b ∈ L.map (·.1)) (nd : bs.Nodup) (hl : lineR L x bs = some l) :
    wpR (c_World_change_by [.loc nw, chg x bs dm] h) (fun r h' => Fr [nr, nn] h h' ∧ WO h' nw nr nn (rows ++ [(x, bs)]) (L ++ [(x, l)]) M) NoE := by
  refine wp_run ?_
  rw [show startW (["self", "change"] : List Str).length [W.loc nw, chg x bs dm] = [some (.loc nw), some (chg x bs dm)] from rfl]
  unfold m_World_change_by
  obtain ⟨_, h1, e1, rfl, f1, o1⟩ := wp_ex (add_class_wp w w0 o e km hx hb nd hl)
  have s1 := strEq (a := "define") (b := "define") (c := true) (by decide +kernel) h
  have ix0 : ixG (chg x bs dm) (.int 0) h = .ok (.str "define") h := by simp [chg, ixG_tup, L2.atI, L2.ixN]
  have ix1 : ixG (chg x bs dm) (.int 1) h = .ok (.str x) h := by simp [chg, ixG_tup, L2.atI, L2.ixN]
  have ix2 : ixG (chg x bs dm) (.int 2) h = .ok (tS bs) h := by simp [chg, ixG_tup, L2.atI, L2.ixN]
  have ix3 : ixG (chg x bs dm) (.int 3) h = .ok (.loc dm) h := by simp [chg, ixG_tup, L2.atI, L2.ixN]
  have c := bMe_ok (C := "World") (m := "add_class") (n := 4) (o := bV 0) (a := bCons (bOp ixG (bV 1) (bC (.int 1))) (bCons (bOp ixG (bV 1) (bC (.int 2))) (bCons (bOp ixG (bV 1) (bC (.int 3))) bNil))) (s := [some (.loc nw), some (chg x bs dm)]) (h := h) (h1 := h) (h2 := h) (xs := [.str x, tS bs, .loc dm]) rfl o.ins (lk_other (by decide +kernel) (by decide +kernel)) (by simp [ix1, ix2, ix3]) rfl e1
  refine wp_ret (w := tS l) (h' := h1) ?_ ⟨f1, o1⟩
  refine Eq.trans (b := R.st (R.ok true h) [some (.loc nw), some (chg x bs dm)] fun b h => if b = true then sRet (bMe "World" "add_class" 4 c_World_add_class [] (bV 0) (bCons (bOp ixG (bV 1) (bC (.int 1))) (bCons (bOp ixG (bV 1) (bC (.int 2))) (bCons (bOp ixG (bV 1) (bC (.int 3))) bNil)))) [some (.loc nw), some (chg x bs dm)] h else sPass [some (.loc nw), some (chg x bs dm)] h) ?_ ?_
  · rw [e_if]
    congr 1
  · simp only [st_ok, if_true, e_ret]
    rw [c]
    rfl
theorem perform_wp (w : WR (rows ++ [(x, bs)]) (L ++ [(x, l)])) (w0 : WR rows L) (o : WO h nw nr nn rows L M) (e : h[dm]? = some (.dct false (dM (M x)))) (km : MsOk (M x)) (hx : x ∉ L.map (·.1)) (hb : ∀ b ∈ bs, b ∈ L.map (·.1)) (nd : bs.Nodup) (hl : lineR L x bs = some l) :
    wpR (c_World_perform [.loc nw, .tup [chg x bs dm]] h) (fun r h' => Fr [nr, nn] h h' ∧ WO h' nw nr nn (rows ++ [(x, bs)]) (L ++ [(x, l)]) M) NoE := by
  refine wp_run ?_
  rw [show startW (["self", "changes", "index", "change", "kept_rows", "kept_lines", "results"] : List Str).length [W.loc nw, .tup [chg x bs dm]] = [some (.loc nw), some (.tup [chg x bs dm]), none, none, none, none, none] from rfl]
  unfold m_World_perform
  obtain ⟨h1, e1, f1⟩ := is_change_ok (x := x) (bs := bs) km.l3 e
  refine wp_step (s' := [some (.loc nw), some (.tup [chg x bs dm]), some (.int 0), some (chg x bs dm), none, none, none]) (h' := h1) ?_ ?_
  · have := bFn_ok (n := 1) (f := c_is_change) (a := bCons (bV 3) bNil) (s := [some (.loc nw), some (.tup [chg x bs dm]), some (.int 0), some (chg x bs dm), none, none, none]) (h := h) (h1 := h) (xs := [chg x bs dm]) (by simp) rfl e1
    have b1 : (sIf (bNot (bT (bFn 1 c_is_change [] (bCons (bV 3) (bNil))))) (sNever) (sPass)) [some (.loc nw), some (.tup [chg x bs dm]), some (.int 0), some (chg x bs dm), none, none, none] h = .ok (.nx [some (.loc nw), some (.tup [chg x bs dm]), some (.int 0), some (chg x bs dm), none, none, none]) h1 := by
      simp only [e_if, e_Not, e_T]
      rw [this]
      simp
    unfold sFor
    simp [enumW, forR, -e_if, b1]
  have o1 := o.fr f1
  have e' := f1.g0 e
  obtain ⟨ds, ek, dl, al⟩ := o1.rws
  generalize ekvs : dR rows ds = kvs at ek
  have fr1 := fld_rows o1.ins
  have dc1 : dictW [.loc nr] h1 = .ok (.loc h1.length) (h1 ++ [.dct false kvs]) := by
    unfold dictW
    simp only [ek]
  have fl1 := fld_lines (get_app (t := [.dct false kvs]) o1.ins)
  have dc2 : dictW [.loc nn] (h1 ++ [.dct false kvs]) = .ok (.loc (h1.length + 1)) (h1 ++ [.dct false kvs, .dct false (dL L)]) := by
    unfold dictW
    simp only [get_app (t := [.dct false kvs]) o1.lns]
    simp
  refine wp_step (s' := [some (.loc nw), some (.tup [chg x bs dm]), some (.int 0), some (chg x bs dm), some (.loc h1.length), some (.loc (h1.length + 1)), some .non]) (h' := h1 ++ [.dct false kvs, .dct false (dL L)]) ?_ ?_
  · simp [fr1, dc1, fl1, dc2]
  have f2 : Fr [] h1 (h1 ++ [.dct false kvs, .dct false (dL L)]) := .app
  generalize h1 ++ [.dct false kvs, .dct false (dL L)] = h2 at f2
  generalize some (W.loc h1.length) = y4
  generalize some (W.loc (h1.length + 1)) = y5
  have o2 := o1.fr f2
  obtain ⟨r, h3, e3, f3, o3⟩ := wp_ex (change_by_wp w w0 o2 (f2.g0 e') km hx hb nd hl)
  have c := bMe_ok (C := "World") (m := "change_by") (n := 2) (o := bV 0) (a := bCons (bV 3) bNil) (s := [some (.loc nw), some (.tup [chg x bs dm]), some (.int 0), some (chg x bs dm), y4, y5, some .non]) (h := h2) (h1 := h2) (h2 := h2) (xs := [chg x bs dm]) rfl o2.ins (lk_other (by decide +kernel) (by decide +kernel)) (by simp) rfl e3
  have lc : bLc (iSeq (bV 1)) (.nm 3) (bYes) (bMe "World" "change_by" 2 c_World_change_by [] (bV 0) (bCons (bV 3) (bNil))) [3] [some (.loc nw), some (.tup [chg x bs dm]), some (.int 0), some (chg x bs dm), y4, y5, some .non] h2 = .ok (.loc h3.length) (h3 ++ [.lst [r]]) := by
    unfold bLc
    have s1 : 0 < Sz := by decide
    simp only [e_iSeq, e_V, List.getElem?_cons_succ, List.getElem?_cons_zero, R.bind_ok, srcSeq_tup, wipeG, lcR, if_true, go_nm, List.set_cons_succ, List.set_cons_zero, e_Yes, sure_ok, c, List.length_nil, s1, lcEnd]
    rfl
  refine wp_step (s' := [some (.loc nw), some (.tup [chg x bs dm]), some (.int 0), some (chg x bs dm), y4, y5, some (.loc h3.length)]) (h' := h3 ++ [.lst [r]]) ?_ ?_
  · unfold sTryF
    simp [lc]
  have f4 : Fr [] h3 (h3 ++ [.lst [r]]) := .app
  refine wp_eq (a := .rt (.loc h3.length)) (h := h3 ++ [.lst [r]]) (by simp) ⟨(f1.trans f2).any.trans (f3.trans f4.any), o3.fr f4⟩
end
end WS

set_option Elab.async false
set_option linter.all false
set_option maxRecDepth 100000
set_option maxHeartbeats 4000000
namespace WS
open PySem PySem.Spec L2 NB
open PyProof.Rows hiding St
theorem VR.inv {A M : List (Str × List Str)} {x : Str} {bs : List Str} (v : VR (A ++ [(x, bs)]) M) : ∃ L0 l, M = L0 ++ [(x, l)] ∧ VR A L0 ∧ x ∉ L0.map (·.1) ∧ (∀ b ∈ bs, b ∈ L0.map (·.1)) ∧ bs.Nodup ∧ lineR L0 x bs = some l := by
  generalize hr : A ++ [(x, bs)] = R at v
  cases v with
  | nil => simp at hr
  | @snoc rows L n bs' l v nn hb nd e =>
    have := List.append_inj' hr rfl
    obtain ⟨rfl, h2⟩ := this
    simp only [List.cons.injEq, and_true, Prod.mk.injEq] at h2
    obtain ⟨rfl, rfl⟩ := h2
    exact ⟨L, l, rfl, v, nn, hb, nd, e⟩
theorem WR.take {rows L : List (Str × List Str)} (w : WR rows L) (i : Nat) : WR (rows.take i) (L.take i) := by
  obtain ⟨L1, v1, e1⟩ := w.v.pre (List.take_append_drop i rows).symm
  have : L1 = L.take i := by
    rw [e1, List.length_take]
    by_cases h : i ≤ rows.length
    · rw [Nat.min_eq_left h]
    · rw [Nat.min_eq_right (by omega), List.take_of_length_le (by rw [w.v.len]; exact Nat.le_refl _), List.take_of_length_le (by rw [w.v.len]; omega)]
  rw [this] at v1
  refine ⟨v1, fun x hx => w.n x ?_, ?_, fun x bs h => w.b8 x bs (List.mem_of_mem_take h)⟩
  · rw [List.map_take] at hx
    exact List.mem_of_mem_take hx
  · rw [List.length_take]
    have := w.few
    omega
/-- one row more -/
theorem WR.at {rows L : List (Str × List Str)} (w : WR rows L) {i : Nat} {x : Str} {bs : List Str} (e : rows[i]? = some (x, bs)) : ∃ l, L[i]? = some (x, l) ∧ rows.take (i + 1) = rows.take i ++ [(x, bs)] ∧ L.take (i + 1) = L.take i ++ [(x, l)] ∧ x ∉ (L.take i).map (·.1) ∧ (∀ b ∈ bs, b ∈ (L.take i).map (·.1)) ∧ bs.Nodup ∧ lineR (L.take i) x bs = some l := by
  have hi : i < rows.length := (List.getElem?_eq_some_iff.mp e).1
  have t1 : rows.take (i + 1) = rows.take i ++ [(x, bs)] := by rw [List.take_succ, e]; rfl
  have v := (w.take (i + 1)).v
  rw [t1] at v
  obtain ⟨L0, l, eM, v0, h1, h2, h3, h4⟩ := VR.inv v
  have hL : i < L.length := by rw [w.v.len]; exact hi
  have t2 : L.take (i + 1) = L.take i ++ [L[i]] := by rw [List.take_succ, List.getElem?_eq_getElem hL]; rfl
  rw [t2] at eM
  obtain ⟨q1, q2⟩ := List.append_inj' eM rfl
  simp only [List.cons.injEq, and_true] at q2
  subst q1
  exact ⟨l, by rw [List.getElem?_eq_getElem hL, q2], t1, by rw [t2, q2], h1, h2, h3, h4⟩
/-- rows as they are written -/
def rW (r : Str × List Str) : W := .tup [.str r.1, tS r.2]
/-- a dict of methods' dicts -/
def MD (h : Hh) (nm : Nat) (rows : List (Str × List Str)) (M : Str → MS) : Prop := ∃ kvs, h[nm]? = some (.dct false kvs) ∧ ∀ x ∈ rows.map (·.1), ∃ d, getK (.inr x) kvs = some (.loc d) ∧ h[d]? = some (.dct false (dM (M x)))
theorem MD.fr {h h' : Hh} {nm : Nat} {rows : List (Str × List Str)} {M : Str → MS} (o : MD h nm rows M) (f : Fr [] h h') : MD h' nm rows M :=
  let ⟨kvs, e, k⟩ := o
  ⟨kvs, f.g0 e, fun x hx => let ⟨d, g, q⟩ := k x hx; ⟨d, g, f.g0 q⟩⟩
section
variable {M : Str → MS} {h : Hh} {nrs nm nl n : Nat} {rows L : List (Str × List Str)} {x : Str} {bs l : List Str}
theorem init_ok (k : Nat) (e : h[k]? = some (.ins "World" [])) : ∃ h', c_World_init [.loc k] h = .ok .non h' ∧ Fr [k] h h' ∧ h'[k]? = some (insW (.loc h.length) (.loc (h.length + 1))) ∧ h'[h.length]? = some (.dct false []) ∧ h'[h.length + 1]? = some (.dct false []) := by
  have kl := lt_of_get e
  have m1 : ("World" : Str) ∈ fc_rows := by decide +kernel
  have m2 : ("World" : Str) ∈ fc_lines := by decide +kernel
  have e1 := get_app (t := [.dct false []]) e
  have s1 := get_set (o := .ins "World" [("rows", .loc h.length)]) e1
  have p1 : putA "rows" (.loc h.length) [] = [(("rows" : Str), W.loc h.length)] := rfl
  have p2 : putA "lines" (.loc (h.length + 1)) [(("rows" : Str), W.loc h.length)] = [(("rows" : Str), W.loc h.length), (("lines" : Str), W.loc (h.length + 1))] := by
    unfold putA
    rw [if_neg (by decide +kernel)]
    rfl
  have nd1 : ((["rows"] : List Str)).Nodup := by decide +kernel
  have lhs : ((h ++ [Ob.dct false []]).set k (.ins "World" [("rows", .loc h.length)])).length = h.length + 1 := by simp
  have s2 := get_app (t := [Ob.dct false []]) s1
  refine ⟨((h ++ [Ob.dct false []]).set k (.ins "World" [("rows", .loc h.length)]) ++ [Ob.dct false []]).set k (insW (.loc h.length) (.loc (h.length + 1))), ?_, ?_, ?_, ?_, ?_⟩
  · unfold c_World_init runB m_World_init
    rw [show startW (["self"] : List Str).length [W.loc k] = [some (.loc k)] from rfl]
    have a1 : sAtt fc_rows "rows" (bV 0) bDict0 [some (.loc k)] h = .ok (.nx [some (.loc k)]) ((h ++ [Ob.dct false []]).set k (.ins "World" [("rows", .loc h.length)])) := by
      simp [e1, m1, p1]
    have a2 : sAtt fc_lines "lines" (bV 0) bDict0 [some (.loc k)] ((h ++ [Ob.dct false []]).set k (.ins "World" [("rows", .loc h.length)])) = .ok (.nx [some (.loc k)]) (((h ++ [Ob.dct false []]).set k (.ins "World" [("rows", .loc h.length)]) ++ [Ob.dct false []]).set k (insW (.loc h.length) (.loc (h.length + 1)))) := by
      rw [e_att, e_Dict0, lhs]
      simp only [st_ok, e_V, List.getElem?_cons_zero, s2, m2, true_and, p2]
      rfl
    rw [e_seq, a1]
    simp only [R.bind_ok]
    rw [a2]
    rfl
  · exact Fr.trans (Fr.any .app) (Fr.trans (.set (by simp)) (Fr.trans (Fr.any .app) (.set (by simp))))
  · exact get_set s2
  · rw [List.getElem?_set_ne (by omega)]
    refine get_app ?_
    rw [List.getElem?_set_ne (by omega)]
    exact get_new
  · rw [List.getElem?_set_ne (by omega)]
    have := get_new (h := (h ++ [Ob.dct false []]).set k (.ins "World" [("rows", .loc h.length)])) (o := Ob.dct false [])
    rw [lhs] at this
    exact this
theorem world_wp (w : WR rows L) (e : h[nrs]? = some (.lst (rows.map rW))) (em : MD h nm rows M) (km : ∀ x ∈ rows.map (·.1), MsOk (M x)) :
    wpR (c__law_world [.loc nrs, .loc nm] h) (fun r h' => ∃ nw nr nn, r = .loc nw ∧ WO h' nw nr nn rows L M ∧ Fr [] h h') NoE := by
  refine wp_run ?_
  rw [show startW (["_law_rows_here", "_law_methods_here", "_law_world_here", "_law_name", "_law_bases"] : List Str).length [W.loc nrs, .loc nm] = [some (.loc nrs), some (.loc nm), none, none, none] from rfl]
  unfold m__law_world
  obtain ⟨h1, e1, f1, g1, g2, g3⟩ := init_ok h.length (h := h ++ [.ins "World" []]) get_new
  have l1 : (h ++ [Ob.ins "World" []]).length = h.length + 1 := by simp
  rw [l1] at g1 g2 g3
  have F1 : Fr [] h h1 := (Fr.app (S := [])).young f1 fun i hi => .inr (by rw [List.mem_singleton.mp hi]; exact Nat.le_refl _)
  refine wp_step (s' := [some (.loc nrs), some (.loc nm), some (.loc h.length), none, none]) (h' := h1) ?_ ?_
  · simp [e1, mkEnd]
  have wo : WO h1 h.length (h.length + 1) (h.length + 1 + 1) [] [] M := ⟨g1, ⟨[], g2, rfl, fun i r d e _ => nomatch e⟩, g3, by omega, by omega, by omega⟩
  generalize hw : h.length = nw at wo
  generalize hr : nw + 1 = nr at wo
  generalize hn : nr + 1 = nn at wo
  have e' := F1.g0 e
  have le := lt_of_get e
  refine wp_seq (M := fun s h' => s[2]? = some (some (.loc nw)) ∧ WO h' nw nr nn rows L M ∧ Fr [] h h') ?_ ?_
  · unfold sFor
    simp only [e_iSeq, e_V, List.getElem?_cons_zero, R.bind_ok, srcSeq_lst e', st_ok]
    refine for_ok0 (I := fun i s h' => ∃ y3 y4, s = [some (.loc nrs), some (.loc nm), some (.loc nw), y3, y4] ∧ WO h' nw nr nn (rows.take i) (L.take i) M ∧ Fr [] h h') ⟨_, _, rfl, wo, F1⟩ (fun i w' s h' ei I => ?_) (fun s h' I => ?_)
    · obtain ⟨y3, y4, rfl, wo', f⟩ := I
      rw [List.getElem?_map] at ei
      obtain ⟨⟨x, bs⟩, er, rfl⟩ := Option.map_eq_some_iff.mp ei
      obtain ⟨l, el, t1, t2, hx, hb, nd, hl⟩ := w.at er
      refine ⟨f.g0 e, _, by simp [rW]; rfl, ?_⟩
      have hxr : x ∈ rows.map (·.1) := List.mem_map.mpr ⟨_, List.mem_of_getElem? er, rfl⟩
      obtain ⟨kvs, ek, hk⟩ := em.fr f
      obtain ⟨d, gd, ed⟩ := hk x hxr
      have f2 : Fr [] h' (h' ++ [.dct false []]) := .app
      have wo2 := wo'.fr f2
      have i1 := lt_of_get wo'.ins
      obtain ⟨ds, er', _⟩ := wo'.rws
      have i2 := lt_of_get er'
      have i3 := lt_of_get wo'.lns
      have w2 := w.take (i + 1)
      rw [t1, t2] at w2
      obtain ⟨r, h3, e3, f3, wo3⟩ := wp_ex (perform_wp w2 (w.take i) wo2 (f2.g0 ed) (km x hxr) hx hb nd hl)
      have ca : (bCons (bTup (bCons (bC (.str "define")) (bCons (bV 3) (bCons (bV 4) (bCons (bGet2 (bV 1) (bV 3) (bDict0)) (bNil)))))) (bNil)) [some (.loc nrs), some (.loc nm), some (.loc nw), some (.str x), some (tS bs)] h' = .ok [chg x bs d] (h' ++ [.dct false []]) := by
        have s4 : (4 : Nat) ≤ Sz := by decide
        have em2 := get_app (t := [.dct false []]) ek
        have kx : keyW (.str x) = some (.inr x) := rfl
        simp [chg, tyB_dct' (b := false) ek, em2, s4, gd]
      have c := bMeV_ok (C := "World") (m := "perform") (o := bV 2) (s := [some (.loc nrs), some (.loc nm), some (.loc nw), some (.str x), some (tS bs)]) (h := h') (h1 := h') rfl wo'.ins (lk_other (by decide +kernel) (by decide +kernel)) ca (show (1 : Nat) ≤ Sz by decide) e3
      refine wp_eq (a := .nx [some (.loc nrs), some (.loc nm), some (.loc nw), some (.str x), some (tS bs)]) (h := h3) ?_ ?_
      · show sExp _ [some (.loc nrs), some (.loc nm), some (.loc nw), some (.str x), some (tS bs)] h' = _
        rw [e_exp, c]
        rfl
      · refine ⟨_, _, rfl, by rw [t1, t2]; exact wo3, ?_⟩
        exact (f.trans f2).young f3 fun j hj => .inr (by simp at hj; omega)
    · obtain ⟨y3, y4, rfl, wo', f⟩ := I
      rw [List.length_map, List.take_length, List.take_of_length_le (by rw [w.v.len]; exact Nat.le_refl _)] at wo'
      exact ⟨f.g0 e, rfl, wo', f⟩
  · rintro s h' ⟨s2, wo', f⟩
    exact wp_eq (a := .rt (.loc nw)) (h := h') (by simp [s2]) ⟨nw, nr, nn, rfl, wo', f⟩
/-- the law's own line -/
theorem law_line_wp {b : Bool} (w : WR rows L) (e : h[nl]? = some (.dct b (dL L))) (hb : ∀ b ∈ bs, b ∈ L.map (·.1)) (nd : bs.Nodup) :
    wpR (c__law_line [.loc nl, .str x, tS bs] h) (fun r h' => r = optS (lineR L x bs) ∧ Fr [] h h') NoE := by
  have oT := w.oT hb nd
  have bl : bs.length ≤ Sz := by
    have := oT.2.2
    rw [List.length_append, List.length_map] at this
    exact Nat.le_trans (show bs.length ≤ 100000 by omega) (by decide)
  refine wp_run ?_
  rw [show startW (["_law_lines_here", "_law_name", "_law_bases", "_law_found", "_law_base"] : List Str).length [W.loc nl, .str x, tS bs] = [some (.loc nl), some (.str x), some (tS bs), none, none] from rfl]
  unfold m__law_line
  obtain ⟨n, h1, e1, f1, l1, g1⟩ := linesOf_ok (h := h) (L := L) (i := 4) (s := [some (.loc nl), some (.str x), some (tS bs), none, none]) (b := false) (e := bV 2) (bs := bs) (fun w h' => rfl) (fun h' => by simp [tS]) hb bl (fun b hb' h' fr => by
    have := ixG_line (fr.g0 e) (hb b hb')
    simp [wipeG, this])
  have ll : ((bs.map (lnOf L)).map tS).length + 1 ≤ Sz := by
    have := oT.2.2
    rw [List.length_append, List.length_map] at this
    rw [List.length_map, List.length_map]
    exact Nat.le_trans (show bs.length + 1 ≤ 100000 from this) (by decide)
  have g1' := get_app (t := [.lst [tS bs]]) g1
  have q1 : (h1 ++ [.lst [tS bs]])[h1.length]? = some (.lst [tS bs]) := get_new
  have s1 : (1 : Nat) ≤ Sz := by decide
  have ad : addW (.loc n) (.loc h1.length) (h1 ++ [.lst [tS bs]]) = .ok (.loc (h1.length + 1)) (h1 ++ [.lst [tS bs], .lst ((bs.map (lnOf L) ++ [bs]).map tS)]) := by
    unfold addW
    simp only [g1', q1]
    rw [if_pos (show _ + [tS bs].length ≤ Sz from ll), List.map_append]
    simp
  have q3 : (h1 ++ [.lst [tS bs], .lst ((bs.map (lnOf L) ++ [bs]).map tS)])[h1.length + 1]? = some (.lst ((bs.map (lnOf L) ++ [bs]).map tS)) := by simp
  have f2 : Fr [] h (h1 ++ [.lst [tS bs], .lst ((bs.map (lnOf L) ++ [bs]).map tS)]) := f1.trans .app
  obtain ⟨_, h3, e3, rfl, f3⟩ := wp_ex (merged_wp q3 oT)
  have ca : (bCons (bOp addW (bLc (iSeq (bV 2)) (.nm 4) (bYes) (bOp ixG (bV 0) (bV 4)) [4]) (bLst (bCons (bV 2) (bNil)))) (bNil)) [some (.loc nl), some (.str x), some (tS bs), none, none] h = .ok [.loc (h1.length + 1)] (h1 ++ [.lst [tS bs], .lst ((bs.map (lnOf L) ++ [bs]).map tS)]) := by
    simp only [e_Cons, e_Nil, e_Op, e1, R.bind_ok, e_Lst, e_V, List.getElem?_cons_succ, List.getElem?_cons_zero, List.length_cons, List.length_nil, Nat.zero_add, s1, if_true, ad, sure_ok]
  have c := bFn_ok (n := 1) ca rfl e3
  have F := f2.trans f3
  refine wp_step (s' := [some (.loc nl), some (.str x), some (tS bs), some (optS (mrg (bs.map (lnOf L) ++ [bs]))), none]) (h' := h3) ?_ ?_
  · rw [e_set, c]
    rfl
  unfold lineR
  cases hm : mrg (bs.map (lnOf L) ++ [bs]) with
  | none =>
    refine wp_eq (a := .rt .non) (h := h3) ?_ ⟨rfl, F⟩
    simp [optS]
  | some m =>
    have lm := (mrg_Mrg hm).len
    have o2 := oT.2.1
    have lm' : m.length + 1 ≤ Sz := Nat.le_trans (show m.length + 1 ≤ 100000 by omega) (by decide)
    have lm2 : 1 + m.length ≤ Sz := by rw [Nat.add_comm]; exact lm'
    refine wp_eq (a := .rt (tS (x :: m))) (h := h3) ?_ ⟨rfl, F⟩
    simp [optS, tS, addW, s1, lm2]
end
end WS

set_option Elab.async false
set_option linter.all false
set_option maxRecDepth 100000
set_option maxHeartbeats 4000000
namespace WS
open PySem PySem.Spec L2 NB
open PyProof.Rows hiding St
theorem erase_perm {α : Type} {l : List α} {i : Nat} (h : i < l.length) : (l[i] :: l.eraseIdx i).Perm l := by
  rw [List.eraseIdx_eq_take_drop_succ]
  have e : l = l.take i ++ l[i] :: l.drop (i + 1) := by
    rw [← List.drop_eq_getElem_cons h, List.take_append_drop]
  exact List.perm_middle.symm.trans (by rw [← e])
section
variable {h : Hh} {n m B : Nat} {rows L : List (Str × List Str)} {x : Str} {bs l : List Str}
theorem source_wp {ns : List Int} {k : Nat} (hk : k ≤ 1000) : wpR (c__law_source [.rls (ns.map W.int), .int k] h) (fun r h' => ∃ n, r = .loc n ∧ h.length ≤ n ∧ Fr [] h h' ∧ Src n 3000 h') NoE := by
  refine wp_run ?_
  rw [show startW (["_law_script", "_law_k", "_law_cell"] : List Str).length [W.rls (ns.map W.int), .int k] = [some (.rls (ns.map W.int)), some (.int k), none] from rfl]
  unfold m__law_source
  have z := get_new (h := h) (o := .lst [])
  have ne := ne_nil_rls (k := 0) (rd_ints (h := h ++ [.lst []]) (l := ns)) z (by decide)
  have p18 : powW (.int 10) (.int 18) = fun h => R.ok (.int 1000000000000000000) h := by
    funext h
    rfl
  obtain ⟨v, ev⟩ : ∃ v : Int, sSet 2 (bIf (bTc (bOp neW (bV 0) (bLst (bNil)))) (bOp ixG (bV 0) (bOp modW (bV 1) (bCallS lenW (bCons (bV 0) (bNil))))) (bC (.int 1))) [some (.rls (ns.map W.int)), some (.int k), none] h = .ok (.nx [some (.rls (ns.map W.int)), some (.int k), some (.int v)]) (h ++ [.lst []]) := by
    cases ns with
    | nil =>
      refine ⟨1, ?_⟩
      simp at ne
      simp [ne]
    | cons a r =>
      have l0 : (0 : Int) < ((a :: r).length : Int) := by simp only [List.length_cons]; omega
      have i1 := Int.emod_nonneg (k : Int) (b := ((a :: r).length : Int)) (by omega)
      have i2 := Int.emod_lt_of_pos (k : Int) l0
      obtain ⟨j, ej⟩ : ∃ j : Nat, (k : Int) % ((a :: r).length : Int) = j := ⟨_, (Int.toNat_of_nonneg i1).symm⟩
      have jl : j < (a :: r).length := by omega
      refine ⟨(a :: r)[j], ?_⟩
      have ix : ixG (.rls ((a :: r).map W.int)) (.int (j : Int)) (h ++ [.lst []]) = .ok (.int (a :: r)[j]) (h ++ [.lst []]) := by
        rw [ixG_rls, NB.atI_nat, List.getElem?_map, List.getElem?_eq_getElem jl]
        rfl
      have ln : lenW [.rls ((a :: r).map W.int)] (h ++ [.lst []]) = .ok (.int ((a :: r).length : Int)) (h ++ [.lst []]) := by
        unfold lenW lenB
        simp
      have qe : (!((a :: r).map W.int).isEmpty) = true := rfl
      generalize (a :: r).map W.int = q at ne ix ln qe
      rw [qe] at ne
      simp only [e_set, e_If, e_Tc, e_Op, e_V, List.getElem?_cons_succ, List.getElem?_cons_zero, R.bind_ok, e_Lst, e_Nil, List.length_nil, Nat.zero_le, if_true, ne, sure_ok, e_CallS, e_Cons, ln, modW_int, l0, ej, ix, st_ok, List.set_cons_succ, List.set_cons_zero]
  refine wp_step ev ?_
  have f0 : Fr [] h (h ++ [.lst []]) := .app
  generalize h ++ [.lst []] = h1 at f0
  have k1 : -18446744073709551616 < (k : Int) := by omega
  have k2 : (k : Int) < 18446744073709551616 := by omega
  refine wp_eq (a := .rt (.loc h1.length)) (h := h1 ++ [.lst [.int v, .int (3 * (k : Int)), .int (if v ≥ 1000000000000000000 then v / 1000000000000000000 else 0)]]) ?_ ⟨_, rfl, f0.1, f0.trans .app, v, _, _, get_new, by omega, by omega⟩
  by_cases hv : 1000000000000000000 ≤ v
  · have s3 : (3 : Nat) ≤ Sz := by decide
    simp [p18, hv, s3, -powW_int]
  · have s3 : (3 : Nat) ≤ Sz := by decide
    simp [p18, hv, s3, -powW_int]
/-- the items in another order -/
theorem mixed_wp {l : List Str} (hs : Src n B h) (hB : B + l.length < 1000000) (e : h[m]? = some (.lst (l.map .str))) (o : ∀ z ∈ l, oS z) (hl : l.length ≤ 1000) (nm : n ≠ m) :
    wpR (c__law_mixed [.loc n, .loc m] h) (fun r h' => ∃ (k : Nat) (l' : List Str), r = .loc k ∧ h.length ≤ k ∧ h'[k]? = some (.lst (l'.map .str)) ∧ l'.Perm l ∧ Fr [n] h h' ∧ Src n (B + l.length) h') NoE := by
  refine wp_run ?_
  rw [show startW (["_law_source_here", "_law_items", "_law_rest", "_law_found"] : List Str).length [W.loc n, .loc m] = [some (.loc n), some (.loc m), none, none] from rfl]
  unfold m__law_mixed
  refine wp_step (s' := [some (.loc n), some (.loc m), some (.loc h.length), some (.loc (h.length + 1))]) (h' := h ++ [.lst (l.map .str), .lst []]) ?_ ?_
  · simp [listW_lst e]
  have g1 : (h ++ [Ob.lst (l.map .str), Ob.lst []])[h.length]? = some (.lst (l.map .str)) := by simp
  have g2 : (h ++ [Ob.lst (l.map .str), Ob.lst []])[h.length + 1]? = some (.lst []) := by simp
  have f0 : Fr [] h (h ++ [Ob.lst (l.map .str), Ob.lst []]) := .app
  have hs' := hs.fr f0 (by simp)
  have nl := hs.lt
  generalize h ++ [Ob.lst (l.map .str), Ob.lst []] = h1 at g1 g2 f0 hs'
  refine wp_seq (M := fun s h' => ∃ l' : List Str, s = [some (.loc n), some (.loc m), some (.loc h.length), some (.loc (h.length + 1))] ∧ h'[h.length + 1]? = some (.lst (l'.map .str)) ∧ l'.Perm l ∧ Fr [n] h h' ∧ Src n (B + l.length) h') ?_ ?_
  · refine wh_ok (I := fun k s h' => ∃ rest found : List Str, s = [some (.loc n), some (.loc m), some (.loc h.length), some (.loc (h.length + 1))] ∧ h'[h.length]? = some (.lst (rest.map .str)) ∧ h'[h.length + 1]? = some (.lst (found.map .str)) ∧ (found ++ rest).Perm l ∧ k = rest.length ∧ Fr [n] h h' ∧ Src n (B + found.length) h') ?_ 100000 l.length _ h1 (by omega) ⟨l, [], rfl, g1, g2, .refl _, rfl, f0.any, hs'⟩
    rintro k s h' ⟨rest, found, rfl, r1, r2, pm, rfl, f, sr⟩
    have pl : found.length + rest.length = l.length := by
      have := pm.length_eq
      rw [List.length_append] at this
      exact this
    have ec := neNil_ok (a := bV 2) (s := [some (.loc n), some (.loc m), some (.loc h.length), some (.loc (h.length + 1))]) (k := 0) rfl r1 (rd_strs fun z hz => o z (pm.subset (List.mem_append_right _ hz))) (by decide)
    refine wp_eq ec ?_
    have f1 : Fr [] h' (h' ++ [.lst []]) := .app
    generalize h' ++ [.lst []] = h2 at f1
    cases rest with
    | nil =>
      simp only [List.map_nil, List.isEmpty_nil, Bool.not_true, Bool.false_eq_true, if_false]
      simp only [List.append_nil] at pm
      refine ⟨found, trivial, f1.g0 r2, pm, f.trans f1.any, (sr.fr f1 (by simp)).up (by simp only [List.length_nil] at pl; omega)⟩
    | cons a r =>
      simp only [List.map_cons, List.isEmpty_cons, Bool.not_false, if_true]
      have q1 := f1.g0 r1
      have q2 := f1.g0 r2
      simp only [List.length_cons] at pl
      obtain ⟨i, h3, e3, il, f3, s3⟩ := next_ok (m := ((a :: r).length : Int)) (sr.fr f1 (by simp)) (by omega) (by simp only [List.length_cons]; omega) (by simp only [List.length_cons]; omega)
      have q3 := f3.get q1 (by simp; omega)
      have q4 := f3.get q2 (by simp; omega)
      have il' : i < (a :: r).length := by omega
      have pw : popW (.loc h.length) [.int (i : Int)] h3 = .ok (.str (a :: r)[i]) (h3.set h.length (.lst (((a :: r).eraseIdx i).map .str))) := by
        unfold popW
        simp only [q3]
        have i63 : -(2 ^ 63) ≤ (i : Int) ∧ (i : Int) < 2 ^ 63 := by
          simp only [List.length_cons] at il'
          omega
        rw [if_pos i63]
        have si : seqIndex? (i : Int) ((a :: r).map W.str).length = some i := by
          rw [PySem.seqIndex_of (by omega) (by rw [List.length_map]; omega), Int.toNat_natCast]
        rw [si]
        simp only [List.getElem?_map, List.getElem?_eq_getElem il', Option.map_some]
        congr 2
        rw [List.eraseIdx_eq_take_drop_succ, List.eraseIdx_eq_take_drop_succ, List.map_append, List.map_take, List.map_drop]
      have ln := lenW_lst q1
      rw [List.length_map] at ln
      have cf := bFn_ok (n := 2) (f := c__law_next) (a := bCons (bV 0) (bCons (bCallS lenW (bCons (bV 2) (bNil))) (bNil))) (s := [some (.loc n), some (.loc m), some (.loc h.length), some (.loc (h.length + 1))]) (h := h2) (h1 := h2) (xs := [.loc n, .int ((a :: r).length : Int)]) (by simp [ln]) rfl e3
      have p1 := get_set (o := .lst (((a :: r).eraseIdx i).map .str)) q3
      have p2 := get_set_ne (o := .lst (((a :: r).eraseIdx i).map W.str)) q4 (show h.length ≠ h.length + 1 by omega)
      have f4 : Fr [h.length] h3 (h3.set h.length (.lst (((a :: r).eraseIdx i).map .str))) := .set (by simp)
      have s4 := s3.fr f4 (by simp; omega)
      generalize h3.set h.length (.lst (((a :: r).eraseIdx i).map .str)) = h4 at pw p1 p2 f4 s4
      have lz : (found.map W.str).length < Sz := by
        rw [List.length_map]
        exact Nat.lt_of_le_of_lt (show found.length ≤ 1000 by omega) (by decide)
      have ap := appW_lst (w := .str (a :: r)[i]) p2 lz
      refine wp_eq (a := .nx [some (.loc n), some (.loc m), some (.loc h.length), some (.loc (h.length + 1))]) (h := h4.set (h.length + 1) (.lst (found.map .str ++ [.str (a :: r)[i]]))) ?_ ?_
      · have cp : bBm "list" popW (bV 2) (bCons (bFn 2 c__law_next [] (bCons (bV 0) (bCons (bCallS lenW (bCons (bV 2) (bNil))) (bNil)))) (bNil)) [some (.loc n), some (.loc m), some (.loc h.length), some (.loc (h.length + 1))] h2 = .ok (.str (a :: r)[i]) h4 := by
          have t := tyB_lst q1
          simp only [e_Bm, e_V, List.getElem?_cons_succ, List.getElem?_cons_zero, R.bind_ok, t, if_true, e_Cons, cf, e_Nil, pw, sure_ok]
        have t := tyB_lst q2
        simp only [e_exp, e_Bm, e_V, List.getElem?_cons_succ, List.getElem?_cons_zero, R.bind_ok, t, if_true, e_Cons, e_Nil] at cp ⊢
        rw [cp]
        simp only [R.bind_ok, ap, sure_ok, st_ok]
      · refine ⟨((a :: r).eraseIdx i).length, by rw [List.length_eraseIdx_of_lt il']; simp, (a :: r).eraseIdx i, found ++ [(a :: r)[i]], rfl, ?_, ?_, ?_, rfl, ?_, ?_⟩
        · exact get_set_ne p1 (by omega)
        · rw [get_set p2]
          simp
        · refine List.Perm.trans ?_ pm
          rw [List.append_assoc]
          exact List.Perm.append_left _ (erase_perm il')
        · have F : Fr [n] h h3 := (f.trans f1.any).trans f3
          have G := F.young f4 fun j hj => .inr (by rw [List.mem_singleton.mp hj]; exact Nat.le_refl _)
          exact G.young (.set (by simp) : Fr [h.length + 1] h4 _) fun j hj => .inr (by rw [List.mem_singleton.mp hj]; omega)
        · refine (s4.fr (.set (by simp) : Fr [h.length + 1] h4 _) (by simp; omega)).up ?_
          simp
          omega
  · rintro s h' ⟨l', rfl, e', pm, f, sr⟩
    exact wp_eq (a := .rt (.loc (h.length + 1))) (h := h') (by simp) ⟨_, l', rfl, by omega, e', pm, f, sr⟩
end
end WS

set_option Elab.async false
set_option linter.all false
set_option maxRecDepth 100000
set_option maxHeartbeats 4000000
namespace WS
open PySem PySem.Spec L2 NB
open PyProof.Rows hiding St
def names10 : List Str := ["b", "a", "d", "c", "node", "f", "e", "zz", "g", "box"]
theorem names10_ok : names10.Nodup ∧ ∀ z ∈ names10, isNb z = true := by
  constructor <;> decide +kernel
theorem cut_take (ws : List W) (m : Nat) : cutW ws none (some (m : Int)) = ws.take m := by
  unfold cutW
  rw [HT.sIx_nat, HT.sIx_none]
  simp only [List.drop_zero, Nat.sub_zero]
  by_cases h : m ≤ ws.length
  · rw [Nat.min_eq_left h]
  · rw [Nat.min_eq_right (by omega), List.take_of_length_le (Nat.le_refl _), List.take_of_length_le (by omega)]
theorem lineR_nil {L : List (Str × List Str)} {x : Str} : lineR L x [] = some [x] := by
  unfold lineR
  rw [show ([] : List Str).map (lnOf L) ++ [[]] = [[]] from rfl, mrg_nil.mrg]
  rfl
theorem WR.nil : WR [] [] := ⟨.nil, fun _ z => (nomatch z), Nat.zero_le _, fun _ _ z => (nomatch z)⟩
section
variable {h : Hh} {n m B : Nat} {rows L : List (Str × List Str)} {x : Str} {bs l : List Str}
/-- the first bases with a line -/
theorem bases_wp {kr kl kn : Nat} {mv : W} (w : WR rows L) (e : h[kl]? = some (.dct false (dL L))) (hb : ∀ b ∈ bs, b ∈ L.map (·.1)) (nd : bs.Nodup) (l3 : bs.length ≤ 3) :
    wpR (sWhile 100000 (bTc (bOp isW (bFn 3 c__law_line [] (bCons (bV 5) (bCons (bV 6) (bCons (bV 7) (bNil))))) (bC .non))) (sSet 7 (bSl (bV 7) (bO1 (bC (.int 1))) (bO0))) [some (.loc n), some mv, some (.int 3), some (.loc kn), some (.loc kr), some (.loc kl), some (.str x), some (tS bs)] h)
    (fun fl h' => ∃ bs l, fl = .nx [some (.loc n), some mv, some (.int 3), some (.loc kn), some (.loc kr), some (.loc kl), some (.str x), some (tS bs)] ∧ (∀ b ∈ bs, b ∈ L.map (·.1)) ∧ bs.Nodup ∧ bs.length ≤ 3 ∧ lineR L x bs = some l ∧ Fr [] h h') NoE := by
  refine wh_ok (I := fun k s h' => ∃ bs, s = [some (.loc n), some mv, some (.int 3), some (.loc kn), some (.loc kr), some (.loc kl), some (.str x), some (tS bs)] ∧ (∀ b ∈ bs, b ∈ L.map (·.1)) ∧ bs.Nodup ∧ bs.length ≤ 3 ∧ k = bs.length ∧ Fr [] h h') ?_ 100000 bs.length _ h (by omega) ⟨bs, rfl, hb, nd, l3, rfl, .refl⟩
  rintro k s h' ⟨bs, rfl, hb, nd, l3, rfl, f⟩
  obtain ⟨_, h1, e1, rfl, f1⟩ := wp_ex (law_line_wp (x := x) w (f.g0 e) hb nd)
  have c := bFn_ok (n := 3) (f := c__law_line) (a := bCons (bV 5) (bCons (bV 6) (bCons (bV 7) (bNil)))) (s := [some (.loc n), some mv, some (.int 3), some (.loc kn), some (.loc kr), some (.loc kl), some (.str x), some (tS bs)]) (h := h') (h1 := h') (xs := [.loc kl, .str x, tS bs]) (by simp) rfl e1
  cases hl : lineR L x bs with
  | some l =>
    rw [hl] at c
    refine wp_eq (a := false) (h := h1) ?_ ?_
    · rw [e_Tc, e_Op, c]
      simp [optS, tS]
    · exact ⟨bs, l, rfl, hb, nd, l3, hl, f.trans f1⟩
  | none =>
    rw [hl] at c
    refine wp_eq (a := true) (h := h1) ?_ ?_
    · rw [e_Tc, e_Op, c]
      simp [optS]
    · simp only [if_true]
      cases bs with
      | nil => rw [lineR_nil] at hl; cases hl
      | cons b bs =>
        refine wp_eq (a := .nx [some (.loc n), some mv, some (.int 3), some (.loc kn), some (.loc kr), some (.loc kl), some (.str x), some (tS bs)]) (h := h1) ?_ ?_
        · simp [tS, cut_tail]
        · exact ⟨bs.length, by simp, bs, rfl, fun z hz => hb z (List.mem_cons_of_mem _ hz), (List.nodup_cons.mp nd).2, by simp at l3; omega, rfl, f.trans f1⟩
theorem rows_wp {many : Nat} (hs : Src n B h) (hB : B ≤ 10000) (hm : many ≤ 10) :
    wpR (c__law_rows [.loc n, .int (many : Int), .int 3] h) (fun r h' => ∃ (k : Nat) (rows L : List (Str × List Str)), r = .loc k ∧ h.length ≤ k ∧ h'[k]? = some (.lst (rows.map rW)) ∧ WR rows L ∧ rows.length ≤ 10 ∧ (∀ x ∈ rows.map (·.1), x ∈ names10) ∧ Fr [n] h h' ∧ Src n (B + 200) h') NoE := by
  have nl := hs.lt
  refine wp_run ?_
  rw [show startW (["_law_source_here", "_law_many", "_law_most", "_law_names", "_law_rows_here", "_law_lines_here", "_law_name", "_law_bases"] : List Str).length [W.loc n, .int (many : Int), .int 3] = [some (.loc n), some (.int (many : Int)), some (.int 3), none, none, none, none, none] from rfl]
  unfold m__law_rows
  have f0 : Fr [] h (h ++ [Ob.lst (names10.map .str)]) := .app
  have gm := get_new (h := h) (o := Ob.lst (names10.map .str))
  obtain ⟨r1, h1, e1, k1, l1, rfl, lk1, g1, pm, f1, s1⟩ := wp_ex (mixed_wp (n := n) (m := h.length) (l := names10) (hs.fr f0 (by simp)) (by show B + 10 < 1000000; omega) gm (fun z hz => isN_oS (names10_ok.2 z hz)) (by decide) (by omega))
  have F1 : Fr [n] h h1 := f0.any.trans f1
  have lh1 := F1.1
  have nl1 := s1.lt
  have hk1 := lt_of_get g1
  refine wp_step (s' := [some (.loc n), some (.int (many : Int)), some (.int 3), some (.loc h1.length), some (.loc (h1.length + 1)), some (.loc (h1.length + 2)), none, none]) (h' := h1 ++ [.lst ((l1.take many).map .str), .lst [], .dct false []]) ?_ ?_
  · have ca : (bCons (bV 0) (bCons (bLst (bCons (bC (.str "b")) (bCons (bC (.str "a")) (bCons (bC (.str "d")) (bCons (bC (.str "c")) (bCons (bC (.str "node")) (bCons (bC (.str "f")) (bCons (bC (.str "e")) (bCons (bC (.str "zz")) (bCons (bC (.str "g")) (bCons (bC (.str "box")) (bNil)))))))))))) (bNil))) [some (.loc n), some (.int (many : Int)), some (.int 3), none, none, none, none, none] h = .ok [.loc n, .loc h.length] (h ++ [Ob.lst (names10.map .str)]) := by
      have s10 : (10 : Nat) ≤ Sz := by decide
      simp [s10, names10]
    have c := bFn_ok (n := 2) ca rfl e1
    have sl := slW_lst (lo := none) (hi := some (many : Int)) g1
    rw [cut_take, ← List.map_take] at sl
    simp only [e_par3, e_Cons, e_Sl, c, R.bind_ok, e_O0, e_O1, e_V, List.getElem?_cons_succ, List.getElem?_cons_zero, sl, sure_ok, e_Lst, e_Nil, List.length_nil, Nat.zero_le, if_true, e_Dict0, st_ok, List.set_cons_succ, List.set_cons_zero]
    simp
  have gn : (h1 ++ [Ob.lst ((l1.take many).map .str), Ob.lst [], Ob.dct false []])[h1.length]? = some (.lst ((l1.take many).map .str)) := by simp
  have gr : (h1 ++ [Ob.lst ((l1.take many).map .str), Ob.lst [], Ob.dct false []])[h1.length + 1]? = some (.lst []) := by simp
  have gd : (h1 ++ [Ob.lst ((l1.take many).map .str), Ob.lst [], Ob.dct false []])[h1.length + 2]? = some (.dct false []) := by simp
  have f2 : Fr [] h1 (h1 ++ [Ob.lst ((l1.take many).map .str), Ob.lst [], Ob.dct false []]) := .app
  have s2 := s1.fr f2 (by simp)
  have F2 : Fr [n] h (h1 ++ [Ob.lst ((l1.take many).map .str), Ob.lst [], Ob.dct false []]) := F1.trans f2.any
  generalize h1 ++ [Ob.lst ((l1.take many).map .str), Ob.lst [], Ob.dct false []] = h2 at gn gr gd f2 s2 F2
  generalize hkn : h1.length = kn at gn gr gd
  have nmlen : l1.length = 10 := by rw [pm.length_eq]; rfl
  have ndl : (l1.take many).Nodup := List.Nodup.sublist (List.take_sublist _ _) (pm.nodup_iff.mpr names10_ok.1)
  have inl : ∀ z ∈ l1.take many, z ∈ names10 := fun z hz => pm.subset (List.mem_of_mem_take hz)
  have ten : (l1.take many).length ≤ 10 := by rw [List.length_take]; omega
  generalize l1.take many = ns at gn ndl inl ten
  refine wp_seq (M := fun s h' => ∃ rows L, s[4]? = some (some (.loc (kn + 1))) ∧ h'[kn + 1]? = some (.lst (rows.map rW)) ∧ WR rows L ∧ rows.length ≤ 10 ∧ (∀ x ∈ rows.map (·.1), x ∈ names10) ∧ Fr [n] h h' ∧ Src n (B + 200) h') ?_ ?_
  · unfold sFor
    simp only [e_iSeq, e_V, List.getElem?_cons_succ, List.getElem?_cons_zero, R.bind_ok, srcSeq_lst gn, st_ok]
    refine for_ok0 (I := fun i s h' => ∃ rows L y6 y7, s = [some (.loc n), some (.int (many : Int)), some (.int 3), some (.loc kn), some (.loc (kn + 1)), some (.loc (kn + 2)), y6, y7] ∧ WR rows L ∧ rows.map (·.1) = ns.take i ∧ h'[kn]? = some (.lst (ns.map .str)) ∧ h'[kn + 1]? = some (.lst (rows.map rW)) ∧ h'[kn + 2]? = some (.dct false (dL L)) ∧ Fr [n] h h' ∧ Src n (B + 10 + i * 12) h') ⟨[], [], _, _, rfl, WR.nil, by simp, gn, gr, gd, F2, s2.up (by show B + 10 ≤ B + 10 + 0 * 12; omega)⟩ (fun i w' s h' ei I => ?_) (fun s h' I => ?_)
    · obtain ⟨rows, L, y6, y7, rfl, w, enm, gn', gr', gd', f, sr⟩ := I
      rw [List.getElem?_map] at ei
      obtain ⟨x, ex, rfl⟩ := Option.map_eq_some_iff.mp ei
      have il : i < ns.length := (List.getElem?_eq_some_iff.mp ex).1
      have rl : rows.length = i := by
        have := congrArg List.length enm
        rw [List.length_map, List.length_take] at this
        omega
      have Ll : L.length = i := by rw [w.v.len, rl]
      refine ⟨gn', _, by simp; rfl, ?_⟩
      -- bases
      have keys : (dL L).map (fun kv => kW kv.1) = (L.map (·.1)).map W.str := by
        unfold dL
        rw [List.map_map, List.map_map]
        rfl
      have lw := listW_dct gd'
      rw [keys] at lw
      have f3 : Fr [] h' (h' ++ [Ob.lst ((L.map (·.1)).map .str)]) := .app
      have g3 := get_new (h := h') (o := Ob.lst ((L.map (·.1)).map .str))
      have lk := lt_of_get gd'
      obtain ⟨r4, h4, e4, k4, l4, rfl, lk4, g4, pm4, f4, s4⟩ := wp_ex (mixed_wp (n := n) (m := h'.length) (l := L.map (·.1)) (sr.fr f3 (by simp)) (by rw [List.length_map]; omega) g3 (fun z hz => isN_oS (w.n z hz)) (by rw [List.length_map]; omega) (by have := sr.lt; omega))
      obtain ⟨y, h5, e5, yl, f5, s5⟩ := next_ok (m := 4) s4 (by rw [List.length_map]; omega) (by decide) (by decide)
      have k4n : k4 ≠ n := by have := sr.lt; have := f3.1; omega
      have g5 := f5.get g4 (by simpa using k4n)
      have sl := slW_lst (lo := none) (hi := some (y : Int)) g5
      rw [cut_take, ← List.map_take] at sl
      have f6 : Fr [] h5 (h5 ++ [Ob.lst ((l4.take y).map .str)]) := .app
      have g6 := get_new (h := h5) (o := Ob.lst ((l4.take y).map .str))
      have bl : (l4.take y).length ≤ 3 := by rw [List.length_take]; omega
      have tu := tupleW_lst g6 (by rw [List.length_map]; exact Nat.le_trans bl (by decide))
      have F6 : Fr [n] h' (h5 ++ [Ob.lst ((l4.take y).map .str)]) := (f3.any.trans f4).trans (f5.trans f6.any)
      have s6 := s5.fr f6 (by simp)
      have bsub : ∀ b ∈ l4.take y, b ∈ L.map (·.1) := fun b hb => pm4.subset (List.mem_of_mem_take hb)
      have bnd : (l4.take y).Nodup := List.Nodup.sublist (List.take_sublist _ _) (pm4.nodup_iff.mpr w.v.nodup)
      refine wp_step (s' := [some (.loc n), some (.int (many : Int)), some (.int 3), some (.loc kn), some (.loc (kn + 1)), some (.loc (kn + 2)), some (.str x), some (tS (l4.take y))]) (h' := h5 ++ [Ob.lst ((l4.take y).map .str)]) ?_ ?_
      · have ca : (bCons (bV 0) (bCons (bCallS listW (bCons (bV 5) (bNil))) (bNil))) [some (.loc n), some (.int (many : Int)), some (.int 3), some (.loc kn), some (.loc (kn + 1)), some (.loc (kn + 2)), some (.str x), y7] h' = .ok [.loc n, .loc h'.length] (h' ++ [Ob.lst ((L.map (·.1)).map .str)]) := by
          simp only [e_Cons, e_V, List.getElem?_cons_succ, List.getElem?_cons_zero, R.bind_ok, e_CallS, e_Nil, lw, sure_ok]
        have c := bFn_ok (n := 2) ca rfl e4
        have ca2 : (bCons (bV 0) (bCons (bOp addW (bV 2) (bC (.int 1))) (bNil))) [some (.loc n), some (.int (many : Int)), some (.int 3), some (.loc kn), some (.loc (kn + 1)), some (.loc (kn + 2)), some (.str x), y7] h4 = .ok [.loc n, .int 4] h4 := by
          simp
        have c2 := bFn_ok (n := 2) ca2 rfl e5
        show sSet 7 _ [some (.loc n), some (.int (many : Int)), some (.int 3), some (.loc kn), some (.loc (kn + 1)), some (.loc (kn + 2)), some (.str x), y7] h' = _
        simp only [e_set, e_CallS, e_Cons, e_Sl, c, R.bind_ok, e_O0, e_O1, c2, sl, sure_ok, e_Nil, tu, st_ok, List.set_cons_succ, List.set_cons_zero, tS]
      have gn6 := F6.get gn' (by simp; omega)
      have gr6 := F6.get gr' (by simp; omega)
      have gd6 := F6.get gd' (by simp; omega)
      have Fh6 := f.trans F6
      generalize h5 ++ [Ob.lst ((l4.take y).map .str)] = h6 at gn6 gr6 gd6 Fh6 s6
      -- the while
      refine wp_seq (M := fun s h7 => ∃ bs l, s = [some (.loc n), some (.int (many : Int)), some (.int 3), some (.loc kn), some (.loc (kn + 1)), some (.loc (kn + 2)), some (.str x), some (tS bs)] ∧ (∀ b ∈ bs, b ∈ L.map (·.1)) ∧ bs.Nodup ∧ bs.length ≤ 3 ∧ lineR L x bs = some l ∧ Fr [] h6 h7) ?_ ?_
      · refine wpR_mono (bases_wp w gd6 bsub bnd bl) ?_ fun _ _ z => z
        rintro fl h7 ⟨bs, l, rfl, q⟩
        exact ⟨bs, l, rfl, q⟩
      rintro s7 h7 ⟨bs, l, rfl, hb, nd, l3, hl, f7⟩
      have gn7 := f7.g0 gn6
      have gr7 := f7.g0 gr6
      have gd7 := f7.g0 gd6
      have s7 := s6.fr f7 (by simp)
      have xm : x ∈ ns := List.mem_of_getElem? ex
      have xn : x ∉ L.map (·.1) := by
        rw [w.v.names, enm]
        intro hx
        obtain ⟨j, hj, ej⟩ := List.getElem_of_mem hx
        rw [List.length_take] at hj
        rw [List.getElem_take] at ej
        have : ns[i] = x := by
          rw [List.getElem?_eq_getElem il] at ex
          exact Option.some.inj ex
        have e2 := (List.getElem_inj ndl).mp (ej.trans this.symm)
        omega
      have w2 : WR (rows ++ [(x, bs)]) (L ++ [(x, l)]) := by
        refine ⟨.snoc w.v xn hb nd hl, fun z hz => ?_, ?_, fun z b2 hz => ?_⟩
        · rw [List.map_append] at hz
          rcases List.mem_append.mp hz with hz | hz
          · exact w.n z hz
          · rw [show z = x by simpa using hz]
            exact names10_ok.2 x (inl x xm)
        · rw [List.length_append, List.length_singleton]
          omega
        · rcases List.mem_append.mp hz with hz | hz
          · exact w.b8 z b2 hz
          · simp at hz
            rw [hz.2]
            omega
      have lr : (rows.map rW).length < Sz := by
        rw [List.length_map]
        exact Nat.lt_of_le_of_lt (show rows.length ≤ 10 by omega) (by decide)
      have ap := appW_lst (w := rW (x, bs)) gr7 lr
      refine wp_step (s' := [some (.loc n), some (.int (many : Int)), some (.int 3), some (.loc kn), some (.loc (kn + 1)), some (.loc (kn + 2)), some (.str x), some (tS bs)]) (h' := h7.set (kn + 1) (.lst ((rows ++ [(x, bs)]).map rW))) ?_ ?_
      · have s2 : (2 : Nat) ≤ Sz := by decide
        simp only [rW] at ap
        simp [tyB_lst gr7, s2, ap, rW]
      have f8 : Fr [kn + 1] h7 (h7.set (kn + 1) (.lst ((rows ++ [(x, bs)]).map rW))) := .set (by simp)
      have gr8 := get_set (o := .lst ((rows ++ [(x, bs)]).map rW)) gr7
      have gn8 := f8.get gn7 (by simp)
      have gd8 := f8.get gd7 (by simp)
      have nk : n < kn := by omega
      have s8 := s7.fr f8 (by simp; omega)
      generalize h7.set (kn + 1) (.lst ((rows ++ [(x, bs)]).map rW)) = h8 at f8 gr8 gn8 gd8 s8
      obtain ⟨_, h9, e9, rfl, f9⟩ := wp_ex (law_line_wp (x := x) w gd8 hb nd)
      have c := bFn_ok (n := 3) (f := c__law_line) (a := bCons (bV 5) (bCons (bV 6) (bCons (bV 7) (bNil)))) (s := [some (.loc n), some (.int (many : Int)), some (.int 3), some (.loc kn), some (.loc (kn + 1)), some (.loc (kn + 2)), some (.str x), some (tS bs)]) (h := h8) (h1 := h8) (xs := [.loc (kn + 2), .str x, tS bs]) (by simp) rfl e9
      rw [hl] at c
      have gd9 := f9.g0 gd8
      have ndd : NdK (dL L) := by
        unfold NdK dL
        rw [List.map_map]
        have := w.v.nodup
        rw [List.nodup_iff_pairwise_ne] at this ⊢
        rw [List.pairwise_map] at this ⊢
        exact this.imp fun {a b} ne z => ne (Sum.inr.inj z)
      have lz : (dL L).length < Sz := by
        unfold dL
        rw [List.length_map]
        exact Nat.lt_of_le_of_lt (show L.length ≤ 10 by omega) (by decide)
      have sg := setG_dct (v := .str x) (w := tS l) (kk := .inr x) gd9 rfl lz ndd
      rw [putW_new (getK_dL_none xn)] at sg
      have edl : dL L ++ [(.inr x, tS l)] = dL (L ++ [(x, l)]) := by
        unfold dL
        rw [List.map_append]
        rfl
      rw [edl] at sg
      refine wp_eq (a := .nx [some (.loc n), some (.int (many : Int)), some (.int 3), some (.loc kn), some (.loc (kn + 1)), some (.loc (kn + 2)), some (.str x), some (tS bs)]) (h := h9.set (kn + 2) (.dct false (dL (L ++ [(x, l)])))) ?_ ?_
      · rw [e_put, c]
        simp [optS, sg]
      have f10 : Fr [kn + 2] h9 (h9.set (kn + 2) (.dct false (dL (L ++ [(x, l)])))) := .set (by simp)
      refine ⟨rows ++ [(x, bs)], L ++ [(x, l)], _, _, rfl, w2, ?_, f10.get (f9.g0 gn8) (by simp), f10.get (f9.g0 gr8) (by simp), get_set gd9, ?_, ?_⟩
      · rw [List.map_append, enm, List.take_succ, ex]
        rfl
      · have G7 : Fr [n] h h7 := Fh6.trans f7.any
        have G9 : Fr [n] h h9 := (G7.young f8 fun j hj => .inr (by rw [List.mem_singleton.mp hj]; omega)).trans f9.any
        exact G9.young f10 fun j hj => .inr (by rw [List.mem_singleton.mp hj]; omega)
      · refine ((s8.fr f9 (by simp)).fr f10 (by simp; omega)).up ?_
        rw [List.length_map]
        omega
    · obtain ⟨rows, L, y6, y7, rfl, w, enm, gn', gr', gd', f, sr⟩ := I
      have rl : rows.length ≤ ns.length := by
        have := congrArg List.length enm
        rw [List.length_map, List.length_take] at this
        omega
      refine ⟨gn', rows, L, rfl, gr', w, by omega, fun x hx => ?_, f, sr.up (by rw [List.length_map]; omega)⟩
      rw [enm] at hx
      exact inl x (List.mem_of_mem_take hx)
  · rintro s h' ⟨rows, L, s4, gr', w, l10, inn, f, sr⟩
    exact wp_eq (a := .rt (.loc (kn + 1))) (h := h') (by simp [s4]) ⟨_, rows, L, rfl, by omega, gr', w, l10, inn, f, sr⟩
end
end WS

set_option Elab.async false
set_option linter.all false
set_option maxRecDepth 100000
set_option maxHeartbeats 4000000
namespace WS
open PySem PySem.Spec L2 NB
open PyProof.Rows hiding St
section
variable {h : Hh} {n m B nr : Nat} {rows L : List (Str × List Str)} {x : Str} {bs l : List Str}
theorem lines_wp (w : WR rows L) (e : h[nr]? = some (.lst (rows.map rW))) :
    wpR (c__law_lines [.loc nr] h) (fun r h' => ∃ k, r = .loc k ∧ h.length ≤ k ∧ h'[k]? = some (.dct false (dL L)) ∧ Fr [] h h') NoE := by
  refine wp_run ?_
  rw [show startW (["_law_rows_here", "_law_found", "_law_name", "_law_bases"] : List Str).length [W.loc nr] = [some (.loc nr), none, none, none] from rfl]
  unfold m__law_lines
  refine wp_step (s' := [some (.loc nr), some (.loc h.length), none, none]) (h' := h ++ [.dct false []]) (by simp) ?_
  have g1 := get_new (h := h) (o := Ob.dct false [])
  have f1 : Fr [] h (h ++ [Ob.dct false []]) := .app
  generalize h ++ [Ob.dct false []] = h1 at g1 f1
  have el := lt_of_get e
  refine wp_seq (M := fun s h' => s[1]? = some (some (.loc h.length)) ∧ h'[h.length]? = some (.dct false (dL L)) ∧ Fr [] h h') ?_ ?_
  · unfold sFor
    simp only [e_iSeq, e_V, List.getElem?_cons_zero, R.bind_ok, srcSeq_lst (f1.g0 e), st_ok]
    refine for_ok0 (I := fun i s h' => ∃ y2 y3, s = [some (.loc nr), some (.loc h.length), y2, y3] ∧ h'[h.length]? = some (.dct false (dL (L.take i))) ∧ Fr [] h h') ⟨_, _, rfl, g1, f1⟩ (fun i w' s h' ei I => ?_) (fun s h' I => ?_)
    · obtain ⟨y2, y3, rfl, g, f⟩ := I
      rw [List.getElem?_map] at ei
      obtain ⟨⟨x, bs⟩, er, rfl⟩ := Option.map_eq_some_iff.mp ei
      obtain ⟨l, _, t1, t2, hx, hb, nd, hl⟩ := w.at er
      refine ⟨f.g0 e, _, by simp [rW]; rfl, ?_⟩
      have w0 := w.take i
      obtain ⟨_, h9, e9, rfl, f9⟩ := wp_ex (law_line_wp (x := x) w0 g hb nd)
      have c := bFn_ok (n := 3) (f := c__law_line) (a := bCons (bV 1) (bCons (bV 2) (bCons (bV 3) (bNil)))) (s := [some (.loc nr), some (.loc h.length), some (.str x), some (tS bs)]) (h := h') (h1 := h') (xs := [.loc h.length, .str x, tS bs]) (by simp) rfl e9
      rw [hl] at c
      have gd9 := f9.g0 g
      have ndd : NdK (dL (L.take i)) := by
        unfold NdK dL
        rw [List.map_map]
        have := w0.v.nodup
        rw [List.nodup_iff_pairwise_ne] at this ⊢
        rw [List.pairwise_map] at this ⊢
        exact this.imp fun {a b} ne z => ne (Sum.inr.inj z)
      have lz : (dL (L.take i)).length < Sz := by
        unfold dL
        rw [List.length_map, w0.v.len]
        exact Nat.lt_of_le_of_lt w0.few (by decide)
      have sg := setG_dct (v := .str x) (w := tS l) (kk := .inr x) gd9 rfl lz ndd
      rw [putW_new (getK_dL_none hx)] at sg
      have edl : dL (L.take i) ++ [(.inr x, tS l)] = dL (L.take i ++ [(x, l)]) := by
        unfold dL
        rw [List.map_append]
        rfl
      rw [edl] at sg
      refine wp_eq (a := .nx [some (.loc nr), some (.loc h.length), some (.str x), some (tS bs)]) (h := h9.set h.length (.dct false (dL (L.take i ++ [(x, l)])))) ?_ ?_
      · show sPut _ _ _ [some (.loc nr), some (.loc h.length), some (.str x), some (tS bs)] h' = _
        rw [e_put, c]
        simp [optS, sg]
      have f10 : Fr [h.length] h9 (h9.set h.length (.dct false (dL (L.take i ++ [(x, l)])))) := .set (by simp)
      exact ⟨_, _, rfl, by rw [t2]; exact get_set gd9, (f.trans f9).young f10 fun j hj => .inr (by rw [List.mem_singleton.mp hj]; exact Nat.le_refl _)⟩
    · obtain ⟨y2, y3, rfl, g, f⟩ := I
      rw [List.length_map, List.take_of_length_le (by rw [w.v.len]; exact Nat.le_refl _)] at g
      exact ⟨f.g0 e, rfl, g, f⟩
  · rintro s h' ⟨s1, g, f⟩
    exact wp_eq (a := .rt (.loc h.length)) (h := h') (by simp [s1]) ⟨_, rfl, Nat.le_refl _, g, f⟩
end
end WS

set_option Elab.async false
set_option linter.all false
set_option maxRecDepth 100000
set_option maxHeartbeats 4000000
namespace WS
open PySem PySem.Spec L2 NB
open PyProof.Rows hiding St
def uvw : List Str := ["u", "v", "w"]
def opq : List Str := ["o", "p", "q"]
theorem uvw_ok : ∀ z ∈ uvw, isNb z = true := by decide +kernel
theorem opq_ok : opq.Nodup ∧ ∀ z ∈ opq, isNb z = true := by
  constructor <;> decide +kernel
section
variable {h : Hh} {n m B : Nat}
theorem atI_nat {ws : List W} {x : Nat} (h : x < ws.length) : L2.atI ws (x : Int) = some ws[x] := by
  unfold L2.atI L2.ixN
  have h1 : ¬ ((x : Int) < 0) := by omega
  simp [h1, h]
theorem pick_wp {ws : List W} (hs : Src n B h) (hB : B < 1000000) (nm : m ≠ n) (e : h[m]? = some (.lst ws)) (l0 : 0 < ws.length) (l1 : ws.length ≤ 1000) :
    wpR (c__law_pick [.loc n, .loc m] h) (fun r h' => r ∈ ws ∧ Fr [n] h h' ∧ Src n (B + 1) h') NoE := by
  obtain ⟨x, h1, e1, lx, f1, s1⟩ := next_ok (m := (ws.length : Int)) hs (by omega) (by omega) (by omega)
  have e2 := f1.get e (by simpa using nm)
  have lx' : x < ws.length := by omega
  refine wp_run ?_
  rw [show startW (["_law_source_here", "_law_items"] : List Str).length [W.loc n, .loc m] = [some (.loc n), some (.loc m)] from rfl]
  unfold m__law_pick
  refine wp_eq (a := .rt ws[x]) (h := h1) ?_ ⟨List.getElem_mem _, f1, s1⟩
  have c := bFn_ok (n := 2) (f := c__law_next) (a := bCons (bV 0) (bCons (bCallS lenW (bCons (bV 1) (bNil))) (bNil))) (s := [some (.loc n), some (.loc m)]) (h := h) (h1 := h) (xs := [.loc n, .int ws.length]) (by simp [lenW_lst e]) rfl e1
  rw [e_ret, e_Op, e_V]
  simp only [List.getElem?_cons_succ, List.getElem?_cons_zero, R.bind_ok]
  rw [c]
  simp [ixG_lst e2, atI_nat lx']
theorem pick_ok {ws : List W} (hs : Src n B h) (hB : B < 1000000) (nm : m ≠ n) (e : h[m]? = some (.lst ws)) (l0 : 0 < ws.length) (l1 : ws.length ≤ 1000) :
    ∃ r h', c__law_pick [.loc n, .loc m] h = .ok r h' ∧ r ∈ ws ∧ Fr [n] h h' ∧ Src n (B + 1) h' := wp_ex (pick_wp hs hB nm e l0 l1)
theorem rng_get {k i : Nat} {w : W} (e : (rngW 0 k)[i]? = some w) : i < k ∧ w = .int i := by
  unfold rngW at e
  rw [List.getElem?_map] at e
  obtain ⟨j, ej, rfl⟩ := Option.map_eq_some_iff.mp e
  obtain ⟨l, q⟩ := List.getElem?_eq_some_iff.mp ej
  rw [List.length_range] at l
  rw [List.getElem_range] at q
  subst q
  exact ⟨l, by rw [Int.zero_add]⟩
theorem rng_len (k : Nat) : (rngW 0 k).length = k := by unfold rngW; rw [List.length_map, List.length_range]
theorem cc62 {x : Nat} (l : x ≤ 1000) : -(2 ^ 62) ≤ (x : Int) ∧ (x : Int) < 2 ^ 62 := by omega
theorem range_i {a : FA} {s : Sg} {h h1 : Hh} {j : Int} (e : a s h = .ok [.int j] h1) (c : -(2 ^ 62) ≤ j ∧ j < 2 ^ 62) : iRange1 a s h = .ok ⟨rngW 0 j.toNat, fun _ => True⟩ h1 := by
  unfold iRange1
  rw [e]
  exact if_pos c
theorem range_ok {a : FA} {s : Sg} {h h1 : Hh} {x : Nat} (e : a s h = .ok [.int x] h1) (l : x ≤ 1000) : iRange1 a s h = .ok ⟨rngW 0 x, fun _ => True⟩ h1 := range_i e (cc62 l)
/-- a few words -/
theorem word_row_wp {most : Nat} (hs : Src n B h) (hB : B < 100000) (hm : most ≤ 3) :
    wpR (c__law_word_row [.loc n, .int (most : Int)] h) (fun r h' => ∃ l, r = tS l ∧ WordsOk l ∧ Fr [n] h h' ∧ Src n (B + 5) h') NoE := by
  have nl := hs.lt
  refine wp_run ?_
  rw [show startW (["_law_source_here", "_law_most", "_law_turn"] : List Str).length [W.loc n, .int (most : Int)] = [some (.loc n), some (.int (most : Int)), none] from rfl]
  unfold m__law_word_row
  obtain ⟨x, h1, e1, lx, f1, s1⟩ := next_ok (m := (most : Int) + 1) hs (by omega) (by omega) (by omega)
  have x3 : x ≤ 3 := by omega
  have c := bFn_ok (n := 2) (f := c__law_next) (a := bCons (bV 0) (bCons (bOp addW (bV 1) (bC (.int 1))) (bNil))) (s := [some (.loc n), some (.int (most : Int)), none]) (h := h) (h1 := h) (xs := [.loc n, .int ((most : Int) + 1)]) (by simp) rfl e1
  obtain ⟨rs, h2, e2, ⟨l, rfl, ll, lw, f2, s2⟩⟩ := blci (it := iRange1 (bCons (bFn 2 c__law_next [] (bCons (bV 0) (bCons (bOp addW (bV 1) (bC (.int 1))) (bNil)))) (bNil))) (t := .nm 2) (c := bYes) (e := bFn 2 c__law_pick [] (bCons (bV 0) (bCons (bLst (bCons (bC (.str "u")) (bCons (bC (.str "v")) (bCons (bC (.str "w")) (bNil))))) (bNil)))) (vs := [2]) (s := [some (.loc n), some (.int (most : Int)), none])
    (fun i acc h' => ∃ l : List Str, acc = l.map .str ∧ l.length = i ∧ (∀ z ∈ l, z ∈ uvw) ∧ Fr [n] h h' ∧ Src n (B + 1 + i) h') (h := h) (h0 := h1) (ws := rngW 0 x) (ck := fun _ => True) (range_ok (by simp only [e_Cons, c, e_Nil, R.bind_ok]) (by omega)) ⟨[], rfl, rfl, fun _ z => (nomatch z), f1, s1⟩ (fun i w acc h' ei I => by
      obtain ⟨l, rfl, ll, lw, f, sr⟩ := I
      obtain ⟨li, rfl⟩ := rng_get ei
      refine ⟨trivial, _, rfl, true, h', rfl, fun z => (nomatch z), fun _ => ?_⟩
      have f3 : Fr [] h' (h' ++ [Ob.lst (uvw.map .str)]) := .app
      have g3 := get_new (h := h') (o := Ob.lst (uvw.map .str))
      have nh := sr.lt
      obtain ⟨r, h4, e4, rm, f4, s4⟩ := pick_ok (m := h'.length) (sr.fr f3 (by simp)) (by omega) (by omega) g3 (by decide) (by decide)
      obtain ⟨z, hz, rfl⟩ := List.mem_map.mp rm
      have s3 : (3 : Nat) ≤ Sz := by decide
      have ca : (bCons (bV 0) (bCons (bLst (bCons (bC (.str "u")) (bCons (bC (.str "v")) (bCons (bC (.str "w")) (bNil))))) (bNil))) [some (.loc n), some (.int (most : Int)), some (.int i)] h' = .ok [.loc n, .loc h'.length] (h' ++ [Ob.lst (uvw.map .str)]) := by
        simp [s3, uvw]
      refine ⟨.str z, h4, bFn_ok (n := 2) ca rfl e4, ?_, l ++ [z], by simp, by simp [ll], fun y hy => ?_, f.trans (f3.any.trans f4), s4.up (by omega)⟩
      · rw [List.length_map]
        exact Nat.lt_of_le_of_lt (show l.length ≤ 3 by omega) (by decide)
      · rcases List.mem_append.mp hy with y1 | y1
        · exact lw y y1
        · rw [List.mem_singleton.mp y1]
          exact hz) (fun _ _ _ => trivial)
  rw [rng_len] at ll
  rw [rng_len] at s2
  have g2 := get_new (h := h2) (o := Ob.lst (l.map .str))
  have tu := tupleW_lst g2 (by rw [List.length_map]; exact Nat.le_trans (show l.length ≤ 3 by omega) (by decide))
  have f3 : Fr [] h2 (h2 ++ [Ob.lst (l.map .str)]) := .app
  refine wp_eq (a := .rt (tS l)) (h := h2 ++ [Ob.lst (l.map .str)]) ?_ ⟨l, rfl, ⟨by omega, fun z hz => uvw_ok z (lw z hz)⟩, f2.trans f3.any, (s2.up (by omega)).fr f3 (by simp)⟩
  rw [e_ret, e_CallS, e_Cons, e2]
  simp only [R.bind_ok, e_Nil, tu, sure_ok, st_ok]
  rfl
theorem word_row_ok {most : Nat} (hs : Src n B h) (hB : B < 100000) (hm : most ≤ 3) :
    ∃ l h', c__law_word_row [.loc n, .int (most : Int)] h = .ok (tS l) h' ∧ WordsOk l ∧ Fr [n] h h' ∧ Src n (B + 5) h' := by
  obtain ⟨r, h', e, l, rfl, a, b, c⟩ := wp_ex (word_row_wp hs hB hm)
  exact ⟨l, h', e, a, b, c⟩
end
end WS

set_option Elab.async false
set_option linter.all false
set_option maxRecDepth 100000
set_option maxHeartbeats 4000000
namespace WS
open PySem PySem.Spec L2 NB
open PyProof.Rows hiding St
section
variable {h : Hh} {n m B : Nat} {s : Sg}
noncomputable def takeE (A : FA) : FE := bCallS tupleW (bCons (bSl (bFn 2 c__law_mixed [] (bCons (bV 0) (bCons (bLst (bCons (bC (.str "o")) (bCons (bC (.str "p")) (bCons (bC (.str "q")) (bNil))))) (bNil)))) (bO0) (bO1 (bFn 2 c__law_pick [] (bCons (bV 0) (bCons (bLst A) (bNil)))))) (bNil))
theorem take_ok {A : FA} {is : List Nat} (s0 : s[0]? = some (some (.loc n))) (hs : Src n B h) (hB : B < 100000) (ea : ∀ h, A s h = .ok (is.map fun (k : Nat) => W.int k) h) (l0 : 0 < is.length) (l1 : is.length ≤ 1000) :
    ∃ l h', takeE A s h = .ok (tS l) h' ∧ RowOk l ∧ Fr [n] h h' ∧ Src n (B + 4) h' := by
  have nl := hs.lt
  have f0 : Fr [] h (h ++ [Ob.lst (opq.map .str)]) := .app
  have g0 := get_new (h := h) (o := Ob.lst (opq.map .str))
  obtain ⟨r1, h1, e1, k1, l', rfl, lk, g1, pm, f1, s1⟩ := wp_ex (mixed_wp (n := n) (m := h.length) (l := opq) (hs.fr f0 (by simp)) (by show B + 3 < 1000000; omega) g0 (fun z hz => isN_oS (opq_ok.2 z hz)) (by decide) (by omega))
  have s1' : Src n (B + 3) h1 := s1
  have c1 := bFn_ok (n := 2) (f := c__law_mixed) (a := bCons (bV 0) (bCons (bLst (bCons (bC (.str "o")) (bCons (bC (.str "p")) (bCons (bC (.str "q")) (bNil))))) (bNil))) (s := s) (h := h) (h1 := h ++ [Ob.lst (opq.map .str)]) (xs := [.loc n, .loc h.length]) (by
    have s3 : (3 : Nat) ≤ Sz := by decide
    simp [s3, opq, s0]) rfl e1
  have lz : is.length ≤ Sz := Nat.le_trans l1 (by decide)
  have f2 : Fr [] h1 (h1 ++ [Ob.lst (is.map fun (k : Nat) => W.int k)]) := .app
  have g2 := get_new (h := h1) (o := Ob.lst (is.map fun (k : Nat) => W.int k))
  have nl1 := s1'.lt
  obtain ⟨r, h3, e3, rm, f3, s3⟩ := pick_ok (m := h1.length) (s1'.fr f2 (by simp)) (by omega) (by omega) g2 (by rw [List.length_map]; exact l0) (by rw [List.length_map]; exact l1)
  obtain ⟨k, hk, rfl⟩ := List.mem_map.mp rm
  have c2 := bFn_ok (n := 2) (f := c__law_pick) (a := bCons (bV 0) (bCons (bLst A) (bNil))) (s := s) (h := h1) (h1 := h1 ++ [Ob.lst (is.map fun (k : Nat) => W.int k)]) (xs := [.loc n, .loc h1.length]) (by
    simp only [e_Cons, e_V, s0, R.bind_ok, e_Lst, ea, List.length_map, lz, if_true, e_Nil]) rfl e3
  have k1n : k1 ≠ n := by
    have := f0.1
    rw [List.length_append, List.length_singleton] at lk
    omega
  have g3 := f3.get (f2.g0 g1) (by simpa using k1n)
  have sl := slW_lst (lo := none) (hi := some (k : Int)) g3
  rw [cut_take, ← List.map_take] at sl
  have f4 : Fr [] h3 (h3 ++ [Ob.lst ((l'.take k).map .str)]) := .app
  have g4 := get_new (h := h3) (o := Ob.lst ((l'.take k).map .str))
  have ll : l'.length = 3 := by rw [pm.length_eq]; rfl
  have tl : (l'.take k).length ≤ 3 := by rw [List.length_take]; omega
  have tu := tupleW_lst g4 (by rw [List.length_map]; exact Nat.le_trans tl (by decide))
  refine ⟨l'.take k, h3 ++ [Ob.lst ((l'.take k).map .str)], ?_, ⟨List.Nodup.sublist (List.take_sublist _ _) (pm.nodup_iff.mpr opq_ok.1), by omega, fun z hz => opq_ok.2 z (pm.subset (List.mem_of_mem_take hz))⟩, f0.any.trans (f1.trans (f2.any.trans (f3.trans f4.any))), s3.fr f4 (by simp)⟩
  unfold takeE
  simp only [e_CallS, e_Cons, e_Sl, c1, R.bind_ok, e_O0, e_O1, c2, sl, sure_ok, e_Nil, tu]
  rfl
theorem method_wp (hs : Src n B h) (hB : B < 50000) :
    wpR (c__law_method [.loc n] h) (fun r h' => ∃ m, r = mW m ∧ MOk m ∧ Fr [n] h h' ∧ Src n (B + 20) h') NoE := by
  refine wp_run ?_
  rw [show startW (["_law_source_here", "_law_takes", "_law_before", "_law_passes"] : List Str).length [W.loc n] = [some (.loc n), none, none, none] from rfl]
  unfold m__law_method
  obtain ⟨tk, h1, e1, r1, f1, s1⟩ := take_ok (s := [some (.loc n), none, none, none]) (A := bCons (bC (.int 0)) (bCons (bC (.int 0)) (bCons (bC (.int 0)) (bCons (bC (.int 1)) (bCons (bC (.int 1)) (bCons (bC (.int 2)) (bNil))))))) (is := [0, 0, 0, 1, 1, 2]) rfl hs (by omega) (fun h => by simp) (by decide) (by decide)
  unfold takeE at e1
  refine wp_step (s' := [some (.loc n), some (tS tk), none, none]) (h' := h1) (by rw [e_set, e1]; rfl) ?_
  obtain ⟨bf, h2, e2, r2, f2, s2⟩ := word_row_ok (most := 2) s1 (by omega) (by decide)
  have c2 := bFn_ok (n := 2) (f := c__law_word_row) (a := bCons (bV 0) (bCons (bC (.int 2)) (bNil))) (s := [some (.loc n), some (tS tk), none, none]) (h := h1) (h1 := h1) (xs := [.loc n, .int ((2 : Nat) : Int)]) (by simp) rfl e2
  refine wp_step (s' := [some (.loc n), some (tS tk), some (tS bf), none]) (h' := h2) (by rw [e_set, c2]; rfl) ?_
  obtain ⟨x, h3, e3, lx, f3, s3⟩ := next_ok (m := 5) s2 (by omega) (by decide) (by decide)
  have c3 := bFn_ok (n := 2) (f := c__law_next) (a := bCons (bV 0) (bCons (bC (.int 5)) (bNil))) (s := [some (.loc n), some (tS tk), some (tS bf), none]) (h := h2) (h1 := h2) (xs := [.loc n, .int 5]) (by simp) rfl e3
  have F3 := f1.trans (f2.trans f3)
  have s4 : (4 : Nat) ≤ Sz := by decide
  by_cases x0 : x = 0
  · subst x0
    refine wp_ret (w := mW ⟨tk, bf, none, []⟩) (h' := h3) ?_ ⟨_, rfl, ⟨r1, r2, ⟨Nat.zero_le _, fun _ z => (nomatch z)⟩, fun _ => rfl, fun _ z => (nomatch z)⟩, F3, s3.up (by omega)⟩
    rw [e_if, e_Tc, e_Op, c3]
    simp [s4, mW, optS, tS]
  refine wp_step (s' := [some (.loc n), some (tS tk), some (tS bf), none]) (h' := h3) ?_ ?_
  · rw [e_if, e_Tc, e_Op, c3]
    simp [x0]
  obtain ⟨ps, h5, e5, r5, f5, s5⟩ := take_ok (s := [some (.loc n), some (tS tk), some (tS bf), none]) (A := bCons (bC (.int 0)) (bCons (bC (.int 0)) (bCons (bC (.int 1)) (bNil)))) (is := [0, 0, 1]) rfl s3 (by omega) (fun h => by simp) (by decide) (by decide)
  unfold takeE at e5
  refine wp_step (s' := [some (.loc n), some (tS tk), some (tS bf), some (tS ps)]) (h' := h5) (by rw [e_set, e5]; rfl) ?_
  obtain ⟨af, h6, e6, r6, f6, s6⟩ := word_row_ok (most := 1) s5 (by omega) (by decide)
  have c6 := bFn_ok (n := 2) (f := c__law_word_row) (a := bCons (bV 0) (bCons (bC (.int 1)) (bNil))) (s := [some (.loc n), some (tS tk), some (tS bf), some (tS ps)]) (h := h5) (h1 := h5) (xs := [.loc n, .int ((1 : Nat) : Int)]) (by simp) rfl e6
  refine wp_eq (a := .rt (mW ⟨tk, bf, some ps, af⟩)) (h := h6) ?_ ⟨_, rfl, ⟨r1, r2, r6, fun z => (nomatch z), fun l z => by cases z; exact r5⟩, F3.trans (f5.trans f6), s6.up (by omega)⟩
  rw [e_ret, e_Tup]
  simp only [e_Cons, e_V, List.getElem?_cons_succ, List.getElem?_cons_zero, R.bind_ok, c6, e_Nil, List.length_cons, List.length_nil]
  rw [if_pos s4]
  rfl
end
end WS

set_option Elab.async false
set_option linter.all false
set_option maxRecDepth 100000
set_option maxHeartbeats 4000000
namespace WS
open PySem PySem.Spec L2 NB
open PyProof.Rows hiding St
def mn : List Str := ["m", "n"]
theorem mn_ok : mn.Nodup ∧ ∀ z ∈ mn, isNb z = true ∧ z ∉ (["name", "self"] : List Str) := by
  constructor <;> decide +kernel
def prW (p : Str × Mth) : W := .tup [.str p.1, mW p.2]
theorem pairs_pr : ∀ ms : MS, pairsW (ms.map prW) = some (dM ms)
  | [] => rfl
  | (a, m) :: r => by
    show pairsW (.tup [.str a, mW m] :: r.map prW) = _
    unfold pairsW
    have : keyW (.str a) = some (.inr a) := rfl
    simp only [this, pairs_pr r]
    rfl
theorem keys_dM (ms : MS) : (dM ms).map (·.1) = (keysM ms).map Sum.inr := by
  unfold dM keysM
  rw [List.map_map, List.map_map]
  rfl
theorem merge_new : ∀ (ms : MS) (acc : List (Key × W)), (keysM ms).Nodup → (∀ x ∈ keysM ms, getK (.inr x) acc = none) → mergeW acc (dM ms) = acc ++ dM ms
  | [], acc, _, _ => by
    show mergeW acc [] = _
    unfold mergeW
    simp [dM]
  | (a, m) :: r, acc, nd, nk => by
    have nd' := List.nodup_cons.mp (show (a :: keysM r).Nodup from nd)
    show mergeW acc ((.inr a, mW m) :: dM r) = _
    unfold mergeW
    rw [putW_new (nk a List.mem_cons_self), merge_new r _ nd'.2 (fun z hz => ?_)]
    · show (acc ++ [(.inr a, mW m)]) ++ dM r = acc ++ ((.inr a, mW m) :: dM r)
      simp
    · cases g : getK (.inr z) (acc ++ [(.inr a, mW m)]) with
      | none => rfl
      | some w =>
        have : (getK (.inr z) (acc ++ [(.inr a, mW m)])).isSome = true := by rw [g]; rfl
        have := getK_isSome.mp this
        rw [List.map_append] at this
        rcases List.mem_append.mp this with q | q
        · have := getK_isSome.mpr q
          rw [nk z (List.mem_cons_of_mem _ hz)] at this
          cases this
        · simp at q
          rw [q] at hz
          exact absurd hz nd'.1
theorem dict_pr {h : Hh} {k : Nat} {ms : MS} (e : h[k]? = some (.lst (ms.map prW))) (nd : (keysM ms).Nodup) : dictW [.loc k] h = .ok (.loc h.length) (h ++ [.dct false (dM ms)]) := by
  unfold dictW
  simp only [e, pairs_pr]
  rw [merge_new ms [] nd fun _ _ => rfl, List.nil_append]
section
variable {h : Hh} {n m B : Nat} {s : Sg}
theorem own_ok {y3 y4 y5 : Option W} {v1 v2 : W} (hs : Src n B h) (hB : B < 40000) :
    ∃ ms h', bCallS dictW (bCons (bLc (iSeq (bLst (bCons (bC (.str "m")) (bCons (bC (.str "n")) (bNil))))) (.nm 5) (bTc (bOp gtW (bFn 2 c__law_next [] (bCons (bV 0) (bCons (bC (.int 3)) (bNil)))) (bC (.int 0)))) (bTup (bCons (bV 5) (bCons (bFn 1 c__law_method [] (bCons (bV 0) (bNil))) (bNil)))) [5]) (bNil)) [some (.loc n), some v1, some v2, y3, y4, y5] h = .ok (.loc (h'.length - 1)) h' ∧ h.length < h'.length ∧ h'[h'.length - 1]? = some (.dct false (dM ms)) ∧ MsOk ms ∧ Fr [n] h h' ∧ Src n (B + 50) h' := by
  have nl := hs.lt
  have f0 : Fr [] h (h ++ [Ob.lst (mn.map .str)]) := .app
  have g0 := get_new (h := h) (o := Ob.lst (mn.map .str))
  obtain ⟨rs, h2, e2, ms, rfl, sub, ok, f2, s2⟩ := blci (it := iSeq (bLst (bCons (bC (.str "m")) (bCons (bC (.str "n")) (bNil))))) (t := .nm 5) (c := bTc (bOp gtW (bFn 2 c__law_next [] (bCons (bV 0) (bCons (bC (.int 3)) (bNil)))) (bC (.int 0)))) (e := bTup (bCons (bV 5) (bCons (bFn 1 c__law_method [] (bCons (bV 0) (bNil))) (bNil)))) (vs := [5]) (s := [some (.loc n), some v1, some v2, y3, y4, y5])
    (fun i acc h' => ∃ ms : MS, acc = ms.map prW ∧ (keysM ms).Sublist (mn.take i) ∧ (∀ p ∈ ms, MOk p.2) ∧ Fr [n] (h ++ [Ob.lst (mn.map .str)]) h' ∧ Src n (B + i * 21) h') (h := h) (h0 := h ++ [Ob.lst (mn.map .str)]) (ws := mn.map .str) (ck := fun h' => h'[h.length]? = some (.lst (mn.map .str))) (by
      have s2 : (2 : Nat) ≤ Sz := by decide
      have q := srcSeq_lst g0
      simp only [e_iSeq, e_Lst, e_Cons, e_C, e_Nil, R.bind_ok, List.length_cons, List.length_nil]
      rw [if_pos s2]
      simp only [R.bind_ok]
      show (match srcSeq (h ++ [Ob.lst (mn.map .str)]) (.loc h.length) with
        | some sr => R.ok sr (h ++ [Ob.lst (mn.map .str)])
        | none => .stk) = _
      rw [q]) ⟨[], rfl, List.nil_sublist _, fun _ z => (nomatch z), .refl, by simpa using hs.fr f0 (by simp)⟩ (fun i w acc h' ei I => by
      obtain ⟨ms, rfl, sub, ok, f, sr⟩ := I
      rw [List.getElem?_map] at ei
      obtain ⟨z, ez, rfl⟩ := Option.map_eq_some_iff.mp ei
      have i2 : i < 2 := (List.getElem?_eq_some_iff.mp ez).1
      have tk : mn.take (i + 1) = mn.take i ++ [z] := by rw [List.take_succ, ez]; rfl
      obtain ⟨x, h3, e3, lx, f3, s3⟩ := next_ok (m := 3) sr (by omega) (by decide) (by decide)
      have c3 := bFn_ok (n := 2) (f := c__law_next) (a := bCons (bV 0) (bCons (bC (.int 3)) (bNil))) (s := [some (.loc n), some v1, some v2, y3, y4, some (.str z)]) (h := h') (h1 := h') (xs := [.loc n, .int 3]) (by simp) rfl e3
      refine ⟨f.get g0 (by simp; omega), _, rfl, decide ((0 : Int) < (x : Int)), h3, ?_, fun q => ?_, fun q => ?_⟩
      · show bTc (bOp gtW (bFn 2 c__law_next [] (bCons (bV 0) (bCons (bC (.int 3)) (bNil)))) (bC (.int 0))) [some (.loc n), some v1, some v2, y3, y4, some (.str z)] h' = _
        rw [e_Tc, e_Op, c3]
        simp
      · exact ⟨ms, rfl, by rw [tk]; exact sub.trans (List.sublist_append_left _ _), ok, f.trans f3, s3.up (by omega)⟩
      · obtain ⟨_, h4, e4, m, rfl, mo, f4, s4⟩ := wp_ex (method_wp s3 (by omega))
        have c4 := bFn_ok (n := 1) (f := c__law_method) (a := bCons (bV 0) (bNil)) (s := [some (.loc n), some v1, some v2, y3, y4, some (.str z)]) (h := h3) (h1 := h3) (xs := [.loc n]) (by simp) rfl e4
        have sl := sub.length_le
        rw [keys_len, List.length_take] at sl
        refine ⟨prW (z, m), h4, ?_, ?_, ms ++ [(z, m)], by simp, ?_, fun p hp => ?_, f.trans (f3.trans f4), s4.up (by omega)⟩
        · show bTup (bCons (bV 5) (bCons (bFn 1 c__law_method [] (bCons (bV 0) (bNil))) (bNil))) [some (.loc n), some v1, some v2, y3, y4, some (.str z)] h3 = _
          have s2 : (2 : Nat) ≤ Sz := by decide
          rw [e_Tup]
          simp only [e_Cons, e_V, List.getElem?_cons_succ, List.getElem?_cons_zero, R.bind_ok, c4, e_Nil, List.length_cons, List.length_nil]
          rw [if_pos s2]
          rfl
        · rw [List.length_map]
          exact Nat.lt_of_le_of_lt (show ms.length ≤ 2 by omega) (by decide)
        · rw [tk]
          unfold keysM
          rw [List.map_append]
          exact List.Sublist.append sub (List.Sublist.refl _)
        · rcases List.mem_append.mp hp with q | q
          · exact ok p q
          · rw [List.mem_singleton.mp q]
            exact mo) (fun acc h' I => by
      obtain ⟨ms, _, _, _, f, _⟩ := I
      exact f.get g0 (by simp; omega))
  have sub' : (keysM ms).Sublist mn := sub
  have nd := List.Nodup.sublist sub' mn_ok.1
  have sl := sub'.length_le
  rw [keys_len] at sl
  have g3 := get_new (h := h2) (o := Ob.lst (ms.map prW))
  have dp := dict_pr g3 nd
  have F := (f0.any.trans f2).trans ((Fr.app (S := [n]) (t := [Ob.lst (ms.map prW)])).trans (Fr.app (S := [n]) (t := [Ob.dct false (dM ms)])))
  have lh := F.1
  refine ⟨ms, h2 ++ [Ob.lst (ms.map prW)] ++ [Ob.dct false (dM ms)], ?_, ?_, ?_, ⟨nd, Nat.le_trans sl (by decide), fun x hx => mn_ok.2 x (sub'.subset hx), ok⟩, F, ?_⟩
  · rw [e_CallS, e_Cons, e2]
    simp only [R.bind_ok, e_Nil, dp, sure_ok]
    simp
  · have := f0.1
    have := f2.1
    simp only [List.length_append, List.length_singleton] at *
    omega
  · simp
  · have : Src n (B + 42) h2 := s2
    exact ((this.fr (Fr.app (S := []) (t := [Ob.lst (ms.map prW)])) (by simp)).fr (Fr.app (S := []) (t := [Ob.dct false (dM ms)])) (by simp)).up (by omega)
end
end WS

set_option Elab.async false
set_option linter.all false
set_option maxRecDepth 100000
set_option maxHeartbeats 4000000
namespace WS
open PySem PySem.Spec L2 NB
open PyProof.Rows hiding St
section
variable {h : Hh} {n nr B : Nat} {rows L : List (Str × List Str)}
theorem names_nodup (w : WR rows L) : (rows.map (·.1)).Nodup := by
  have := w.v.nodup
  rw [w.v.names] at this
  exact this
theorem methods_wp (hs : Src n B h) (hB : B < 20000) (w : WR rows L) (e : h[nr]? = some (.lst (rows.map rW))) (ne : nr ≠ n) :
    wpR (c__law_methods [.loc n, .loc nr] h) (fun r h' => ∃ k M, r = .loc k ∧ MD h' k rows M ∧ (∀ x ∈ rows.map (·.1), MsOk (M x)) ∧ Fr [n] h h' ∧ Src n (B + 2000) h') NoE := by
  have nl := hs.lt
  have few := w.few
  have ndr := names_nodup w
  refine wp_run ?_
  rw [show startW (["_law_source_here", "_law_rows_here", "_law_found", "_law_name", "_law_bases", "_law_word"] : List Str).length [W.loc n, .loc nr] = [some (.loc n), some (.loc nr), none, none, none, none] from rfl]
  unfold m__law_methods
  refine wp_step (s' := [some (.loc n), some (.loc nr), some (.loc h.length), none, none, none]) (h' := h ++ [.dct false []]) (by simp) ?_
  have g1 := get_new (h := h) (o := Ob.dct false [])
  have f1 : Fr [] h (h ++ [Ob.dct false []]) := .app
  have s1 := hs.fr f1 (by simp)
  generalize h ++ [Ob.dct false []] = h1 at g1 f1 s1
  have el := lt_of_get e
  refine wp_seq (M := fun s h' => ∃ M, s[2]? = some (some (.loc h.length)) ∧ MD h' h.length rows M ∧ (∀ x ∈ rows.map (·.1), MsOk (M x)) ∧ Fr [n] h h' ∧ Src n (B + 2000) h') ?_ ?_
  · unfold sFor
    simp only [e_iSeq, e_V, List.getElem?_cons_succ, List.getElem?_cons_zero, R.bind_ok, srcSeq_lst (f1.g0 e), st_ok]
    refine for_ok0 (I := fun i s h' => ∃ y3 y4 y5 kvs M, s = [some (.loc n), some (.loc nr), some (.loc h.length), y3, y4, y5] ∧ h'[h.length]? = some (.dct false kvs) ∧ kvs.map (·.1) = ((rows.take i).map (·.1)).map Sum.inr ∧ (∀ x ∈ (rows.take i).map (·.1), (∃ d, getK (.inr x) kvs = some (.loc d) ∧ h.length < d ∧ h'[d]? = some (.dct false (dM (M x)))) ∧ MsOk (M x)) ∧ Fr [n] h h' ∧ Src n (B + i * 50) h') ⟨_, _, _, [], fun _ => [], rfl, g1, rfl, fun _ z => (nomatch z), f1.any, by simpa using s1⟩ (fun i w' s h' ei I => ?_) (fun s h' I => ?_)
    · obtain ⟨y3, y4, y5, kvs, M, rfl, g, kk, al, f, sr⟩ := I
      rw [List.getElem?_map] at ei
      obtain ⟨⟨x, bs⟩, er, rfl⟩ := Option.map_eq_some_iff.mp ei
      have il : i < rows.length := (List.getElem?_eq_some_iff.mp er).1
      have tk : rows.take (i + 1) = rows.take i ++ [(x, bs)] := by rw [List.take_succ, er]; rfl
      refine ⟨f.get e (by simpa using ne), _, by simp [rW]; rfl, ?_⟩
      obtain ⟨ms, h3, e3, l3, g3, ok, f3, s3⟩ := own_ok (n := n) (h := h') (y3 := some (.str x)) (y4 := some (tS bs)) (y5 := y5) (v1 := .loc nr) (v2 := .loc h.length) sr (by omega)
      have lg := lt_of_get g
      have ngn : h.length ≠ n := by omega
      have g4 := f3.get g (by simpa using ngn)
      have ndk : NdK kvs := by
        unfold NdK
        rw [kk]
        have ndt : ((rows.take i).map (·.1)).Nodup := by
          rw [List.map_take]
          exact List.Nodup.sublist (List.take_sublist _ _) ndr
        rw [List.nodup_iff_pairwise_ne] at ndt ⊢
        rw [List.pairwise_map]
        exact ndt.imp fun {a b} q z => q (Sum.inr.inj z)
      have klen : kvs.length = i := by
        have := congrArg List.length kk
        rw [List.length_map, List.length_map, List.length_map, List.length_take] at this
        omega
      have xn : x ∉ (rows.take i).map (·.1) := fun hx => by
        have nd2 : ((rows.take (i + 1)).map (·.1)).Nodup := by
          rw [List.map_take]
          exact List.Nodup.sublist (List.take_sublist _ _) ndr
        rw [tk, List.map_append, List.nodup_append] at nd2
        exact nd2.2.2 x hx x (by simp) rfl
      have xk : getK (.inr x) kvs = none := by
        cases q : getK (.inr x) kvs with
        | none => rfl
        | some w =>
          have : (getK (.inr x) kvs).isSome = true := by rw [q]; rfl
          have := getK_isSome.mp this
          rw [kk] at this
          obtain ⟨z, hz, ez⟩ := List.mem_map.mp this
          cases ez
          exact absurd hz xn
      have sg := setG_dct (v := .str x) (w := .loc (h3.length - 1)) (kk := .inr x) g4 rfl (Nat.lt_of_le_of_lt (show kvs.length ≤ 24 by omega) (by decide)) ndk
      have f5 : Fr [h.length] h3 (h3.set h.length (.dct false (putW (.inr x) (.loc (h3.length - 1)) kvs))) := .set (by simp)
      refine wp_eq (a := .nx [some (.loc n), some (.loc nr), some (.loc h.length), some (.str x), some (tS bs), y5]) (h := h3.set h.length (.dct false (putW (.inr x) (.loc (h3.length - 1)) kvs))) ?_ ?_
      · show sPut _ _ _ [some (.loc n), some (.loc nr), some (.loc h.length), some (.str x), some (tS bs), y5] h' = _
        rw [e_put, e3]
        simp [sg]
      · refine ⟨_, _, _, putW (.inr x) (.loc (h3.length - 1)) kvs, fun z => if z = x then ms else M z, rfl, get_set g4, ?_, ?_, (f.trans f3).young f5 fun j hj => .inr (by rw [List.mem_singleton.mp hj]; exact Nat.le_refl _), (s3.up (by omega)).fr f5 (by simp; omega)⟩
        · rw [putW_new xk, List.map_append, kk, tk, List.map_append, List.map_append]
          rfl
        · intro z hz
          rw [tk, List.map_append] at hz
          by_cases zx : z = x
          · subst zx
            refine ⟨⟨h3.length - 1, getK_put_same, by omega, ?_⟩, ?_⟩
            · have := f5.get g3 (by simp; omega)
              rw [this]
              simp
            · simpa using ok
          · rcases List.mem_append.mp hz with q | q
            · obtain ⟨⟨d, d1, d2, d3⟩, mo⟩ := al z q
              refine ⟨⟨d, ?_, d2, ?_⟩, ?_⟩
              · rw [getK_put_ne fun q => zx (Sum.inr.inj q).symm]
                exact d1
              · have := f5.get (f3.get d3 (by simp; omega)) (by simp; omega)
                rw [this]
                simp [zx]
              · simpa [zx] using mo
            · simp at q
              exact absurd q zx
    · obtain ⟨y3, y4, y5, kvs, M, rfl, g, kk, al, f, sr⟩ := I
      rw [List.length_map, List.take_length] at al
      refine ⟨f.get e (by simpa using ne), M, rfl, ⟨kvs, g, fun x hx => ?_⟩, fun x hx => (al x hx).2, f, sr.up (by rw [List.length_map]; omega)⟩
      obtain ⟨⟨d, d1, _, d3⟩, _⟩ := al x hx
      exact ⟨d, d1, d3⟩
  · rintro s h' ⟨M, s2, md, ok, f, sr⟩
    exact wp_eq (a := .rt (.loc h.length)) (h := h') (by simp [s2]) ⟨_, M, rfl, md, ok, f, sr⟩
end
end WS

set_option Elab.async false
set_option linter.all false
set_option maxRecDepth 100000
set_option maxHeartbeats 4000000
namespace WS
open PySem PySem.Spec L2 NB
open PyProof.Rows hiding St
theorem len_app (a b : Str) : (a ++ b).length = a.length + b.length := by
  show (a.cps ++ b.cps).size = _
  rw [Array.size_append]
  rfl
theorem str_ext {a b : Str} (h : a.cps.toList = b.cps.toList) : a = b := by
  cases a; cases b
  congr 1
  exact Array.toList_inj.mp h
theorem app_list (a b : Str) : (a ++ b).cps.toList = a.cps.toList ++ b.cps.toList := by
  show (a.cps ++ b.cps).toList = _
  rw [Array.toList_append]
theorem join_len (a : Str) : ∀ (ys : List Str) (k : Nat), (∀ y ∈ ys, y.length ≤ k) → (Txt.join a ys).length ≤ ys.length * (k + a.length)
  | ys, k, h => by
    rw [TL.join_eq]
    induction ys with
    | nil => simp [Str.join, Str.empty, Str.length]
    | cons y ys ih =>
      cases ys with
      | nil =>
        show y.length ≤ _
        have := h y List.mem_cons_self
        simp
        omega
      | cons z ys =>
        have h1 := h y List.mem_cons_self
        have h2 := ih fun q hq => h q (List.mem_cons_of_mem _ hq)
        show ((y ++ a) ++ Str.join a (z :: ys)).length ≤ _
        rw [len_app, len_app]
        rw [List.length_cons (a := y), Nat.add_mul]
        omega
theorem sum_len {k : Nat} : ∀ {ys : List Str}, (∀ y ∈ ys, y.length ≤ k) → (ys.map (·.length)).sum ≤ ys.length * k
  | [], _ => by simp
  | y :: ys, h => by
    have h1 := h y List.mem_cons_self
    have h2 := sum_len fun q hq => h q (List.mem_cons_of_mem y hq)
    rw [List.map_cons, List.sum_cons, List.length_cons, Nat.add_mul]
    omega
section
variable {h : Hh} {n m B nr : Nat} {rows L : List (Str × List Str)} {x : Str} {bs l : List Str}
theorem joinW_ok {a : Str} {w : W} {ys : List Str} (e : seqW h w = some (ys.map .str)) (k : Nat) (hk : ∀ y ∈ ys, y.length ≤ k) (b : ys.length * (k + a.length) ≤ 100000) : joinW (.str a) [w] h = .ok (.str (Txt.join a ys)) h := by
  unfold joinW
  simp only [e, strsW_strs]
  rw [if_pos]
  have := sum_len hk
  rw [Nat.mul_add] at b
  exact Nat.le_trans (show _ ≤ 100000 by omega) (by decide)
theorem len1 : (" " : Str).length = 1 := by decide +kernel
theorem len3 : (" | " : Str).length = 3 := by decide +kernel
theorem join_cons {a y : Str} : ∀ {ys : List Str}, ys ≠ [] → Txt.join a (y :: ys) = y ++ a ++ Txt.join a ys := by
  intro ys hy
  rw [TL.join_eq, TL.join_eq]
  cases ys with
  | nil => exact absurd rfl hy
  | cons z zs => rfl
theorem join_one {a y : Str} : Txt.join a [y] = y := by
  rw [TL.join_eq]
  rfl
/-! what the lines say -/
def partS (l : List Str) : Str := if l.isEmpty = true then "-" else Txt.join " " l
def thirdS : Option (List Str) → Str
  | none => "stop"
  | some [] => "+"
  | some l => "+ " ++ Txt.join " " l
def mlS (x : Str) (m : Mth) : Str := Txt.join " | " ["method " ++ x, partS m.takes, partS m.before, thirdS m.passes, partS m.after]
def clS (x : Str) (bs : List Str) : Str := Txt.join " " ("class" :: x :: bs)
theorem eq_tnil (l : List Str) (k : WordsOk l) : eqW (tS l) (.tup []) h = .ok (.bl l.isEmpty) h := by
  have o : ∀ z ∈ l, oS z := fun z hz => isN_oS (k.2 z hz)
  have := eqW_rd (h := h) (k := 1) (x := tS l) (y := .tup []) (.inl rfl) (Rd.tup (k := 0) (rd_strs o)) (Rd.tup (k := 0) (ds := []) rfl) (by decide)
  rw [this, eqv_tnil]
  cases l <;> rfl
theorem ne_tnil (l : List Str) (k : WordsOk l) : neW (tS l) (.tup []) h = .ok (.bl (!l.isEmpty)) h := by
  have o : ∀ z ∈ l, oS z := fun z hz => isN_oS (k.2 z hz)
  have := neW_rd (h := h) (k := 1) (x := tS l) (y := .tup []) (.inl rfl) (Rd.tup (k := 0) (rd_strs o)) (Rd.tup (k := 0) (ds := []) rfl) (by decide)
  rw [this, eqv_tnil]
  cases l <;> rfl
theorem RowOk.words (k : RowOk l) : WordsOk l := k.2
theorem words8 (k : WordsOk l) : ∀ z ∈ l, z.length ≤ 8 := fun z hz => (isN_len (k.2 z hz)).2
theorem join_words (k : WordsOk l) : joinW (.str " ") [tS l] h = .ok (.str (Txt.join " " l)) h :=
  joinW_ok (ys := l) rfl 8 (words8 k) (by rw [len1]; have := k.1; have : l.length * 9 ≤ 4 * 9 := Nat.mul_le_mul_right _ k.1; omega)
theorem partS_len (k : WordsOk l) : (partS l).length ≤ 36 := by
  unfold partS
  split
  · decide +kernel
  · have := join_len " " l 8 (words8 k)
    rw [len1] at this
    have : l.length * 9 ≤ 4 * 9 := Nat.mul_le_mul_right _ k.1
    omega
theorem part_ok (k : WordsOk l) : c_part_of [tS l] h = .ok (.str (partS l)) h := by
  unfold c_part_of runB m_part_of
  rw [show startW (["words"] : List Str).length [tS l] = [some (tS l)] from rfl]
  have e := eq_tnil (h := h) l k
  have j := join_words (h := h) k
  unfold partS
  cases q : l.isEmpty with
  | true =>
    rw [q] at e
    simp [e]
  | false =>
    rw [q] at e
    simp [e, j]
theorem law_part_ok (k : WordsOk l) : c__law_part [tS l] h = .ok (.str (partS l)) h := by
  unfold c__law_part runB m__law_part
  rw [show startW (["_law_words"] : List Str).length [tS l] = [some (tS l)] from rfl]
  have e := ne_tnil (h := h) l k
  have j := join_words (h := h) k
  unfold partS
  cases q : l.isEmpty with
  | true =>
    rw [q] at e
    simp [e]
  | false =>
    rw [q] at e
    simp [e, j]
theorem thirdS_len {m : Mth} (k : MOk m) : (thirdS m.passes).length ≤ 38 := by
  cases q : m.passes with
  | none => decide +kernel
  | some l =>
    have r := k.p l q
    cases l with
    | nil => decide +kernel
    | cons a l =>
      show ("+ " ++ Txt.join " " (a :: l)).length ≤ 38
      rw [len_app]
      have := join_len " " (a :: l) 8 (words8 r.words)
      rw [len1] at this
      have : (a :: l).length * 9 ≤ 4 * 9 := Nat.mul_le_mul_right _ r.2.1
      have : ("+ " : Str).length = 2 := by decide +kernel
      omega
theorem parts_len {m : Mth} (k : MOk m) (hx : x.length ≤ 8) : ∀ y ∈ ["method " ++ x, partS m.takes, partS m.before, thirdS m.passes, partS m.after], y.length ≤ 38 := by
  intro y hy
  have e : ("method " : Str).length = 7 := by decide +kernel
  have p1 := partS_len k.t.words
  have p2 := partS_len k.b
  have p3 := partS_len k.a
  have p4 := thirdS_len k
  simp only [List.mem_cons, List.not_mem_nil, or_false] at hy
  rcases hy with rfl | rfl | rfl | rfl | rfl
  · rw [len_app]; omega
  · omega
  · omega
  · omega
  · omega
theorem join_parts {w : W} {m : Mth} (k : MOk m) (hx : x.length ≤ 8) (e : seqW h w = some ((["method " ++ x, partS m.takes, partS m.before, thirdS m.passes, partS m.after] : List Str).map .str)) : joinW (.str " | ") [w] h = .ok (.str (mlS x m)) h :=
  joinW_ok e 38 (parts_len k hx) (by rw [len3]; show 5 * 41 ≤ 100000; decide)
theorem mlS_len {m : Mth} (k : MOk m) (hx : x.length ≤ 8) : (mlS x m).length ≤ 205 := by
  have := join_len " | " _ 38 (parts_len k hx)
  rw [len3] at this
  exact this
theorem clS_len (hx : x.length ≤ 8) (h8 : ∀ z ∈ bs, z.length ≤ 8) (l8 : bs.length ≤ 8) : (clS x bs).length ≤ 90 ∧ ∀ y ∈ (("class" : Str) :: x :: bs), y.length ≤ 8 := by
  have a : ∀ y ∈ (("class" : Str) :: x :: bs), y.length ≤ 8 := by
    intro y hy
    rcases List.mem_cons.mp hy with rfl | hy
    · decide +kernel
    · rcases List.mem_cons.mp hy with rfl | hy
      · exact hx
      · exact h8 y hy
  refine ⟨?_, a⟩
  have := join_len " " _ 8 a
  rw [len1] at this
  have l : (("class" : Str) :: x :: bs).length ≤ 10 := by simp; omega
  have : (("class" : Str) :: x :: bs).length * 9 ≤ 10 * 9 := Nat.mul_le_mul_right _ l
  unfold clS
  omega
theorem third_join {l : List Str} : Txt.join " " ("+" :: l) = thirdS (some l) := by
  cases l with
  | nil => exact join_one
  | cons a l =>
    rw [join_cons (by simp)]
    show "+" ++ " " ++ Txt.join " " (a :: l) = "+ " ++ Txt.join " " (a :: l)
    congr 1
theorem go_m {m : Mth} {s : Sg} {i : Nat} : True := trivial
theorem method_line_ok {m : Mth} (k : MOk m) (hx : x.length ≤ 8) : ∃ h', c_method_line [.str x, mW m] h = .ok (.str (mlS x m)) h' ∧ Fr [] h h' := by
  obtain ⟨tk, bf, ps, af⟩ := m
  have p1 : ∀ h, c_part_of [tS tk] h = .ok (.str (partS tk)) h := fun h => part_ok k.t.words
  have p2 : ∀ h, c_part_of [tS bf] h = .ok (.str (partS bf)) h := fun h => part_ok k.b
  have p3 : ∀ h, c_part_of [tS af] h = .ok (.str (partS af)) h := fun h => part_ok k.a
  have s5 : (5 : Nat) ≤ Sz := by decide
  have ml : ("method " : Str).length = 7 := by decide +kernel
  have l1 : (Str.empty ++ ("method " : Str)).length ≤ Sz := Nat.le_trans (show _ ≤ 7 by decide +kernel) (by decide)
  have e1 : Str.empty ++ ("method " : Str) ++ x = "method " ++ x := by
    congr 1
  have l2 : (Str.empty ++ ("method " : Str) ++ x).length ≤ Sz := by
    rw [e1, len_app, ml]
    exact Nat.le_trans (show 7 + x.length ≤ 15 by omega) (by decide)
  have lx : x.length ≤ Sz := Nat.le_trans hx (by decide)
  have js : ∀ (s : Sg) (h : Hh), s[0]? = some (some (.str x)) → bJs [bC (.str "method "), bFmt (bV 0)] Str.empty s h = .ok (.str ("method " ++ x)) h := fun s h e0 => by
    unfold bJs
    simp only [e_C, R.bind_ok]
    rw [if_pos l1]
    unfold bJs bFmt
    simp only [e_V, e0, R.bind_ok]
    rw [if_pos lx]
    simp only [R.bind_ok]
    rw [if_pos l2]
    unfold bJs
    rw [e1]
  have third : ∃ h', bIf (bTc (bOp isW (bV 4) (bC .non))) (bC (.str "stop")) (bBm "str" joinW (bC (.str " ")) (bCons (bLst (bCons (bC (.str "+")) (bStar (bV 4) (bNil)))) (bNil))) [some (.str x), some (mW ⟨tk, bf, ps, af⟩), some (tS tk), some (tS bf), some (optS ps), some (tS af), none] h = .ok (.str (thirdS ps)) h' ∧ Fr [] h h' := by
    cases ps with
    | none => exact ⟨h, by simp [optS, thirdS], .refl⟩
    | some l =>
      have r := k.p l rfl
      have g := get_new (h := h) (o := Ob.lst ((("+" : Str) :: l).map .str))
      have a : ∀ y ∈ ("+" : Str) :: l, y.length ≤ 8 := by
        intro y hy
        rcases List.mem_cons.mp hy with rfl | hy
        · decide +kernel
        · exact words8 r.words y hy
      have j := joinW_ok (h := h ++ [Ob.lst ((("+" : Str) :: l).map .str)]) (a := " ") (w := .loc h.length) (ys := "+" :: l) (by simp only [seqW, g]) 8 a (by
        rw [len1]
        have := r.2.1
        simp only [List.length_cons]
        omega)
      rw [third_join] at j
      have ls : l.length + 1 ≤ Sz := Nat.le_trans (show l.length + 1 ≤ 5 by have := r.2.1; omega) (by decide)
      refine ⟨h ++ [Ob.lst ((("+" : Str) :: l).map .str)], ?_, .app⟩
      simp [optS, tS, seqW, ls]
      simp only [List.map_cons] at j
      rw [j]
      simp
  obtain ⟨h1, e3, f1⟩ := third
  have g := get_new (h := h1) (o := Ob.lst ((["method " ++ x, partS tk, partS bf, thirdS ps, partS af] : List Str).map .str))
  have j := join_parts (h := h1 ++ [Ob.lst ((["method " ++ x, partS tk, partS bf, thirdS ps, partS af] : List Str).map .str)]) (w := .loc h1.length) (m := ⟨tk, bf, ps, af⟩) k hx (by simp only [seqW, g])
  refine ⟨_, ?_, f1.trans (Fr.app (t := [Ob.lst ((["method " ++ x, partS tk, partS bf, thirdS ps, partS af] : List Str).map .str)]))⟩
  unfold c_method_line runB m_method_line
  rw [show startW (["name", "method", "takes", "before", "passes", "after", "third"] : List Str).length [.str x, mW ⟨tk, bf, ps, af⟩] = [some (.str x), some (mW ⟨tk, bf, ps, af⟩), none, none, none, none, none] from rfl]
  have go : (Tg.tp [.nm 2, .nm 3, .nm 4, .nm 5]).go h (mW ⟨tk, bf, ps, af⟩) [some (.str x), some (mW ⟨tk, bf, ps, af⟩), none, none, none, none, none] = some [some (.str x), some (mW ⟨tk, bf, ps, af⟩), some (tS tk), some (tS bf), some (optS ps), some (tS af), none] := by simp [mW]
  have j0 := js [some (.str x), some (mW ⟨tk, bf, ps, af⟩), some (tS tk), some (tS bf), some (optS ps), some (tS af), some (.str (thirdS ps))] h1 rfl
  rw [e_seq, e_to, e_V]
  simp only [List.getElem?_cons_succ, List.getElem?_cons_zero, st_ok, go, R.bind_ok]
  rw [e_seq, e_set, e3]
  simp only [st_ok, R.bind_ok, List.set_cons_succ, List.set_cons_zero]
  simp [-e_set, j0, p1, p2, p3, s5]
  simp only [List.map_cons, List.map_nil] at j
  rw [j]
  rfl
theorem law_method_text_ok {m : Mth} (k : MOk m) (hx : x.length ≤ 8) : ∃ h', c__law_method_text [.str x, mW m] h = .ok (.str (mlS x m)) h' ∧ Fr [] h h' := by
  obtain ⟨tk, bf, ps, af⟩ := m
  have p1 : ∀ h, c__law_part [tS tk] h = .ok (.str (partS tk)) h := fun h => law_part_ok k.t.words
  have p2 : ∀ h, c__law_part [tS bf] h = .ok (.str (partS bf)) h := fun h => law_part_ok k.b
  have p3 : ∀ h, c__law_part [tS af] h = .ok (.str (partS af)) h := fun h => law_part_ok k.a
  have s5 : (5 : Nat) ≤ Sz := by decide
  have ml : ("method " : Str).length = 7 := by decide +kernel
  have adS : ∀ (a b : Str) (h : Hh), a.length + b.length ≤ 1000 → addW (.str a) (.str b) h = .ok (.str (a ++ b)) h := fun a b h l => by
    unfold addW
    exact if_pos (Nat.le_trans l (by decide))
  have ad1 : ∀ h, addW (.str "method ") (.str x) h = .ok (.str ("method " ++ x)) h := fun h => adS _ _ _ (by omega)
  have third : bIf (bTc (bOp isW (bV 4) (bC .non))) (bC (.str "stop")) (bIf (bTc (bOp eqW (bV 4) (bTup (bNil)))) (bC (.str "+")) (bOp addW (bC (.str "+ ")) (bBm "str" joinW (bC (.str " ")) (bCons (bV 4) (bNil))))) [some (.str x), some (mW ⟨tk, bf, ps, af⟩), some (tS tk), some (tS bf), some (optS ps), some (tS af), none, none] h = .ok (.str (thirdS ps)) h := by
    cases ps with
    | none => simp [optS, thirdS]
    | some l =>
      have r := k.p l rfl
      have e := eq_tnil (h := h) l r.words
      have j := join_words (h := h) r.words
      have jl := join_len " " l 8 (words8 r.words)
      rw [len1] at jl
      have l4 : l.length * 9 ≤ 4 * 9 := Nat.mul_le_mul_right _ r.2.1
      have e2 : ("+ " : Str).length = 2 := by decide +kernel
      have ad := adS "+ " (Txt.join " " l) h (by omega)
      have nn : isNon (tS l) = false := rfl
      cases l with
      | nil => simp [optS, nn, e, thirdS]
      | cons a l => simp [optS, nn, e, thirdS, j, ad]
  have g := get_new (h := h) (o := Ob.lst ((["method " ++ x, partS tk, partS bf, thirdS ps, partS af] : List Str).map .str))
  have j := join_parts (h := h ++ [Ob.lst ((["method " ++ x, partS tk, partS bf, thirdS ps, partS af] : List Str).map .str)]) (w := .loc h.length) (m := ⟨tk, bf, ps, af⟩) k hx (by simp only [seqW, g])
  refine ⟨_, ?_, Fr.app (t := [Ob.lst ((["method " ++ x, partS tk, partS bf, thirdS ps, partS af] : List Str).map .str)])⟩
  unfold c__law_method_text runB m__law_method_text
  rw [show startW (["_law_word", "_law_method_here", "_law_takes", "_law_before", "_law_passes", "_law_after", "_law_third", "_law_found"] : List Str).length [.str x, mW ⟨tk, bf, ps, af⟩] = [some (.str x), some (mW ⟨tk, bf, ps, af⟩), none, none, none, none, none, none] from rfl]
  have go : (Tg.tp [.nm 2, .nm 3, .nm 4, .nm 5]).go h (mW ⟨tk, bf, ps, af⟩) [some (.str x), some (mW ⟨tk, bf, ps, af⟩), none, none, none, none, none, none] = some [some (.str x), some (mW ⟨tk, bf, ps, af⟩), some (tS tk), some (tS bf), some (optS ps), some (tS af), none, none] := by simp [mW]
  rw [e_seq, e_to, e_V]
  simp only [List.getElem?_cons_succ, List.getElem?_cons_zero, st_ok, go, R.bind_ok]
  rw [e_seq, e_set, third]
  simp only [st_ok, R.bind_ok, List.set_cons_succ, List.set_cons_zero]
  simp [ad1, p1, p2, p3, s5]
  simp only [List.map_cons, List.map_nil] at j
  rw [j]
  rfl
end
end WS

set_option Elab.async false
set_option linter.all false
set_option maxRecDepth 100000
set_option maxHeartbeats 4000000
namespace WS
open PySem PySem.Spec L2 NB
open PyProof.Rows hiding St
theorem sort_sort (l : List Str) : sortS (sortS l) = sortS l := by
  have p : (sortS (sortS l)).Perm (sortS l) := sort_perm _
  have pw : ∀ l : List Str, (sortS l).Pairwise fun a b => leS a b = true := by
    intro l
    induction l with
    | nil => exact .nil
    | cons x r ih => exact ins_pw x ih
  exact p.eq_of_pairwise (fun a b _ _ h1 h2 => leS_anti h1 h2) (pw _) (pw _)
theorem mAt_srt {ms : MS} {z : Str} (h : z ∈ keysM ms) : mAt (srt ms) z = mAt ms z := by
  have m : z ∈ (srt ms).map (·.1) := by
    have := keys_srt ms
    unfold keysM at this
    rw [this]
    exact mem_sort.mpr h
  obtain ⟨v, e, q⟩ := lk_some m
  unfold srt at q
  obtain ⟨y, _, ey⟩ := List.mem_map.mp q
  cases ey
  unfold mAt
  rw [e]
  rfl
theorem srt_ok {ms : MS} (k : MsOk ms) : MsOk (srt ms) := by
  refine ⟨?_, ?_, ?_, ?_⟩
  · rw [keys_srt]
    exact (sort_perm _).nodup_iff.mpr k.nd
  · have := congrArg List.length (keys_srt ms)
    rw [keys_len, sort_len, keys_len] at this
    rw [this]
    exact k.l3
  · intro x hx
    rw [keys_srt] at hx
    exact k.nm x (mem_sort.mp hx)
  · intro p hp
    unfold srt at hp
    obtain ⟨y, hy, rfl⟩ := List.mem_map.mp hp
    exact k.ok _ (mem_mAt (mem_sort.mp hy))
/-- the lines of a class's methods -/
def mlsS (ms : MS) : List Str := (sortS (keysM ms)).map fun z => mlS z (mAt ms z)
theorem mls_srt (ms : MS) : mlsS (srt ms) = mlsS ms := by
  unfold mlsS
  rw [keys_srt, sort_sort]
  exact List.map_congr_left fun z hz => by rw [mAt_srt (mem_sort.mp hz)]
def linesS (M : Str → MS) (rows : List (Str × List Str)) : List Str := rows.flatMap fun r => clS r.1 r.2 :: mlsS (M r.1)
theorem lines_snoc {M : Str → MS} {rows : List (Str × List Str)} {r : Str × List Str} : linesS M (rows ++ [r]) = linesS M rows ++ clS r.1 r.2 :: mlsS (M r.1) := by
  unfold linesS
  rw [List.flatMap_append]
  simp
theorem mls_len {ms : MS} (k : MsOk ms) : (mlsS ms).length ≤ 3 := by
  unfold mlsS
  rw [List.length_map, sort_len, keys_len]
  exact k.l3
theorem lines_len {M : Str → MS} : ∀ {rows : List (Str × List Str)}, (∀ x ∈ rows.map (·.1), MsOk (M x)) → (linesS M rows).length ≤ 4 * rows.length
  | [], _ => by simp [linesS]
  | r :: rs, k => by
    have h1 := mls_len (k r.1 (by simp))
    have h2 := lines_len (M := M) (rows := rs) fun x hx => k x (List.mem_cons_of_mem _ hx)
    have e : linesS M (r :: rs) = clS r.1 r.2 :: mlsS (M r.1) ++ linesS M rs := by
      unfold linesS
      rw [List.flatMap_cons]
    rw [e, List.length_append, List.length_cons, List.length_cons]
    omega
section
variable {h : Hh} {nw nr nn k d : Nat} {rows L : List (Str × List Str)} {M : Str → MS} {x : Str} {bs l : List Str} {ms : MS}
theorem line_small {M : Str → MS} (w : WR rows L) (km : ∀ x ∈ rows.map (·.1), MsOk (M x)) : ∀ y ∈ linesS M rows, y.length ≤ 205 := by
  intro y hy
  unfold linesS at hy
  obtain ⟨⟨x, bs⟩, hr, hy⟩ := List.mem_flatMap.mp hy
  have hx : x ∈ rows.map (·.1) := List.mem_map.mpr ⟨_, hr, rfl⟩
  have hx' : x ∈ L.map (·.1) := by rw [w.v.names]; exact hx
  have x8 := (isN_len (w.n x hx')).2
  rcases List.mem_cons.mp hy with rfl | hy
  · have b8 := w.b8 x bs hr
    have q : ∀ z ∈ bs, z.length ≤ 8 := fun z hz => (isN_len (w.n z (by rw [w.v.names]; exact (w.v.row x bs hr).2 z hz))).2
    have := (clS_len x8 q b8).1
    exact Nat.le_trans this (by decide)
  · have k := km x hx
    unfold mlsS at hy
    obtain ⟨z, hz, rfl⟩ := List.mem_map.mp hy
    have hz' := mem_sort.mp hz
    exact mlS_len (k.ok _ (mem_mAt hz')) (isN_len (k.nm z hz').1).2
/-- a row's own lines are put behind -/
theorem inner_wp {acc : List Str} {s0 : W} {y5 : Option W} (ek : h[k]? = some (.lst (acc.map .str))) (ed : h[d]? = some (.dct false (dM (srt ms)))) (km : MsOk ms) (ne : k ≠ d) (la : acc.length ≤ 1000) :
    wpR (sFor (iSeq (bCallS sortedW (bCons (bV 4) (bNil)))) (.nm 5) (sExp (bBm "list" appW (bV 1) (bCons (bFn 2 c_method_line [] (bCons (bV 5) (bCons (bOp ixG (bV 4) (bV 5)) (bNil)))) (bNil)))) [some s0, some (.loc k), some (.str x), some (tS bs), some (.loc d), y5] h) (fun fl h' => ∃ y5, fl = .nx [some s0, some (.loc k), some (.str x), some (tS bs), some (.loc d), y5] ∧ h'[k]? = some (.lst ((acc ++ mlsS ms).map .str)) ∧ Fr [k] h h') NoE := by
  have ks := srt_ok km
  have so := sorted_dM ed ks.l3
  rw [keys_srt, sort_sort] at so
  have g := get_new (h := h) (o := .lst ((sortS (keysM ms)).map .str))
  have f1 : Fr [] h (h ++ [.lst ((sortS (keysM ms)).map .str)]) := .app
  have s1 := srcSeq_lst g
  have lk := lt_of_get ek
  have sl : (sortS (keysM ms)).length ≤ 3 := by rw [sort_len, keys_len]; exact km.l3
  unfold sFor
  simp only [e_iSeq, e_CallS, e_Cons, e_Nil, e_V, List.getElem?_cons_succ, List.getElem?_cons_zero, R.bind_ok, so, sure_ok, s1, st_ok]
  generalize h ++ [.lst ((sortS (keysM ms)).map .str)] = h1 at f1 g
  generalize hn : h.length = n at g
  refine for_ok0 (I := fun i s h' => ∃ y5, s = [some s0, some (.loc k), some (.str x), some (tS bs), some (.loc d), y5] ∧ h'[k]? = some (.lst ((acc ++ ((sortS (keysM ms)).take i).map fun z => mlS z (mAt ms z)).map .str)) ∧ Fr [k] h1 h') ⟨_, rfl, by simpa using f1.g0 ek, .refl⟩ (fun i w s h' ei I => ?_) (fun s h' I => ?_)
  · obtain ⟨y5, rfl, gk, f⟩ := I
    rw [List.getElem?_map] at ei
    obtain ⟨z, ez, rfl⟩ := Option.map_eq_some_iff.mp ei
    have hz := mem_sort.mp (List.mem_of_getElem? ez)
    refine ⟨f.get g (by simp; omega), _, rfl, ?_⟩
    have ed' := f.get (f1.g0 ed) (by simpa using fun q => ne q.symm)
    have ix := ixG_dct (y := .str z) ed' rfl
    have hz' : z ∈ keysM (srt ms) := by rw [keys_srt]; exact mem_sort.mpr hz
    rw [getK_at hz', mAt_srt hz] at ix
    have z8 := (isN_len (km.nm z hz).1).2
    obtain ⟨h3, e3, f3⟩ := method_line_ok (h := h') (km.ok _ (mem_mAt hz)) z8
    have c := bFn_ok (n := 2) (f := c_method_line) (a := bCons (bV 5) (bCons (bOp ixG (bV 4) (bV 5)) (bNil))) (s := [some s0, some (.loc k), some (.str x), some (tS bs), some (.loc d), some (.str z)]) (h := h') (h1 := h') (xs := [.str z, mW (mAt ms z)]) (by simp [ix]) rfl e3
    have gk3 := f3.g0 gk
    have lz : ((acc ++ ((sortS (keysM ms)).take i).map fun z => mlS z (mAt ms z)).map W.str).length < Sz := by
      rw [List.length_map, List.length_append, List.length_map, List.length_take]
      exact Nat.lt_of_le_of_lt (show _ ≤ 1003 by omega) (by decide)
    have ap := appW_lst (w := .str (mlS z (mAt ms z))) gk3 lz
    refine wp_eq (a := .nx [some s0, some (.loc k), some (.str x), some (tS bs), some (.loc d), some (.str z)]) (h := h3.set k (.lst ((acc ++ ((sortS (keysM ms)).take i).map fun z => mlS z (mAt ms z)).map .str ++ [.str (mlS z (mAt ms z))]))) ?_ ⟨_, rfl, ?_, f.trans (f3.any.trans (.set (by simp)))⟩
    · show sExp _ [some s0, some (.loc k), some (.str x), some (tS bs), some (.loc d), some (.str z)] h' = _
      simp only [e_exp, e_Bm, e_V, List.getElem?_cons_succ, List.getElem?_cons_zero, R.bind_ok, tyB_lst gk, if_true, e_Cons, c, e_Nil, ap, sure_ok, st_ok]
    · rw [get_set gk3, List.take_succ, ez]
      simp
  · obtain ⟨y5, rfl, gk, f⟩ := I
    rw [List.length_map, List.take_length] at gk
    exact ⟨f.get g (by simp; omega), _, rfl, gk, f1.any.trans f⟩
end
end WS

set_option Elab.async false
set_option linter.all false
set_option maxRecDepth 100000
set_option maxHeartbeats 4000000
namespace WS
open PySem PySem.Spec L2 NB
open PyProof.Rows hiding St
def textS (M : Str → MS) (rows : List (Str × List Str)) : Str := Txt.join "\n" (linesS M rows)
theorem dR_get {rows : List (Str × List Str)} {ds : List Nat} (dl : ds.length = rows.length) : ∀ {i : Nat} {w : W}, (itItems (dR rows ds))[i]? = some w → ∃ r d, rows[i]? = some r ∧ ds[i]? = some d ∧ w = .tup [.str r.1, .tup [tS r.2, .loc d]] := by
  induction rows generalizing ds with
  | nil =>
    intro i w e
    cases ds with
    | nil => simp [dR, itItems] at e
    | cons d ds => cases dl
  | cons r rs ih =>
    intro i w e
    cases ds with
    | nil => cases dl
    | cons d ds =>
      cases i with
      | zero =>
        simp [dR, itItems] at e
        exact ⟨r, d, rfl, rfl, e.symm⟩
      | succ i =>
        have e' : (itItems (dR rs ds))[i]? = some w := by simpa [dR, itItems] using e
        obtain ⟨r', d', q1, q2, q3⟩ := ih (Nat.succ.inj dl) e'
        exact ⟨r', d', by simpa using q1, by simpa using q2, q3⟩
theorem dR_len : ∀ {rows : List (Str × List Str)} {ds : List Nat}, ds.length = rows.length → (dR rows ds).length = rows.length := fun dl => by
  have := congrArg List.length (keys_dR dl)
  simpa using this
theorem nl1 : ("\n" : Str).length = 1 := by decide +kernel
section
variable {h : Hh} {nw nr nn k d : Nat} {rows L : List (Str × List Str)} {M : Str → MS} {x : Str} {bs l : List Str} {ms : MS}
theorem join_lines {M : Str → MS} {w : W} (wr : WR rows L) (km : ∀ x ∈ rows.map (·.1), MsOk (M x)) (e : seqW h w = some ((linesS M rows).map .str)) : joinW (.str "\n") [w] h = .ok (.str (textS M rows)) h :=
  joinW_ok e 205 (line_small wr km) (by
    rw [nl1]
    have := lines_len km
    have f := wr.few
    have : (linesS M rows).length * 206 ≤ 96 * 206 := Nat.mul_le_mul_right _ (by omega)
    omega)
/-- the text of a dict of rows -/
theorem text_of_wp (w : WR rows L) (km : ∀ x ∈ rows.map (·.1), MsOk (M x)) {ds : List Nat} (er : h[nr]? = some (.dct false (dR rows ds))) (dl : ds.length = rows.length) (al : ∀ (i : Nat) (r : Str × List Str) (d : Nat), rows[i]? = some r → ds[i]? = some d → h[d]? = some (.dct false (dM (srt (M r.1)))) ∧ d ≠ nr) :
    wpR (c_text_of [.loc nr] h) (fun r h' => r = .str (textS M rows) ∧ Fr [] h h') NoE := by
  refine wp_run ?_
  rw [show startW (["rows", "lines", "name", "bases", "methods", "method"] : List Str).length [W.loc nr] = [some (.loc nr), none, none, none, none, none] from rfl]
  unfold m_text_of
  refine wp_step (s' := [some (.loc nr), some (.loc h.length), none, none, none, none]) (h' := h ++ [.lst []]) (by simp) ?_
  have f1 : Fr [] h (h ++ [Ob.lst []]) := .app
  have g1 := get_new (h := h) (o := Ob.lst [])
  have er1 := f1.g0 er
  have lr := lt_of_get er
  have al1 : ∀ (i : Nat) (r : Str × List Str) (d : Nat), rows[i]? = some r → ds[i]? = some d → (h ++ [Ob.lst []])[d]? = some (.dct false (dM (srt (M r.1)))) ∧ d ≠ nr ∧ d < h.length := fun i r d e1 e2 => ⟨f1.g0 (al i r d e1 e2).1, (al i r d e1 e2).2, lt_of_get (al i r d e1 e2).1⟩
  generalize h ++ [Ob.lst []] = h1 at f1 g1 er1 al1
  have lt1 := lt_of_get g1
  generalize hk : h.length = k at g1 lt1 lr al1
  -- locked
  generalize hb : (sFor (iDct itItems (bV 0)) (.tp [.nm 2, .tp [.nm 3, .nm 4]]) (sSeq (sExp (bBm "list" appW (bV 1) (bCons (bBm "str" joinW (bC (.str " ")) (bCons (bLst (bCons (bC (.str "class")) (bCons (bV 2) (bStar (bV 3) (bNil))))) (bNil))) (bNil)))) (sFor (iSeq (bCallS sortedW (bCons (bV 4) (bNil)))) (.nm 5) (sExp (bBm "list" appW (bV 1) (bCons (bFn 2 c_method_line [] (bCons (bV 5) (bCons (bOp ixG (bV 4) (bV 5)) (bNil)))) (bNil))))))) = body
  have ef : ∃ s2 h2, body [some (.loc nr), some (.loc k), none, none, none, none] (h1.set nr (.dct true (dR rows ds))) = .ok (.nx s2) h2 ∧ s2[1]? = some (some (.loc k)) ∧ h2[k]? = some (.lst ((linesS M rows).map .str)) ∧ Fr [k] (h1.set nr (.dct true (dR rows ds))) h2 := by
    have gl := get_set (o := .dct true (dR rows ds)) er1
    have gk := get_set_ne (o := .dct true (dR rows ds)) g1 (show nr ≠ k by omega)
    have al2 : ∀ (i : Nat) (r : Str × List Str) (d : Nat), rows[i]? = some r → ds[i]? = some d → (h1.set nr (.dct true (dR rows ds)))[d]? = some (.dct false (dM (srt (M r.1)))) ∧ d ≠ k := fun i r d e1 e2 => by
      obtain ⟨a1, a2, a3⟩ := al1 i r d e1 e2
      exact ⟨get_set_ne a1 (fun z => a2 z.symm), by omega⟩
    generalize h1.set nr (.dct true (dR rows ds)) = h2 at gl gk al2
    have := wp_ex (P := fun fl h' => ∃ s2, fl = .nx s2 ∧ s2[1]? = some (some (.loc k)) ∧ h'[k]? = some (.lst ((linesS M rows).map .str)) ∧ Fr [k] h2 h') (r := body [some (.loc nr), some (.loc k), none, none, none, none] h2) (by
      rw [← hb]
      have it : iDct itItems (bV 0) [some (.loc nr), some (.loc k), none, none, none, none] h2 = .ok ⟨itItems (dR rows ds), fun h => h[nr]? = some (.dct true (dR rows ds))⟩ h2 := by
        unfold iDct
        simp [gl]
      unfold sFor
      rw [it]
      simp only [st_ok]
      refine for_ok0 (I := fun i s h' => ∃ y2 y3 y4 y5, s = [some (.loc nr), some (.loc k), y2, y3, y4, y5] ∧ h'[k]? = some (.lst ((linesS M (rows.take i)).map .str)) ∧ Fr [k] h2 h') ⟨_, _, _, _, rfl, gk, .refl⟩ (fun i w' s h' ei I => ?_) (fun s h' I => ?_)
      · obtain ⟨y2, y3, y4, y5, rfl, g, f⟩ := I
        obtain ⟨⟨x, bs⟩, d, e1, e2, rfl⟩ := dR_get dl ei
        obtain ⟨ad, dk⟩ := al2 i _ d e1 e2
        have hr := List.mem_of_getElem? e1
        have hx : x ∈ rows.map (·.1) := List.mem_map.mpr ⟨_, hr, rfl⟩
        have x8 := (isN_len (w.n x (by rw [w.v.names]; exact hx))).2
        have b8 := w.b8 x bs hr
        have q8 : ∀ z ∈ bs, z.length ≤ 8 := fun z hz => (isN_len (w.n z (by rw [w.v.names]; exact (w.v.row x bs hr).2 z hz))).2
        have il := (List.getElem?_eq_some_iff.mp e1).1
        have few := w.few
        refine ⟨f.get gl (by simp; omega), [some (.loc nr), some (.loc k), some (.str x), some (tS bs), some (.loc d), y5], by simp, ?_⟩
        have nl := lt_of_get g
        have gL := get_new (h := h') (o := Ob.lst ((("class" : Str) :: x :: bs).map .str))
        have fL : Fr [] h' (h' ++ [Ob.lst ((("class" : Str) :: x :: bs).map .str)]) := .app
        have j := joinW_ok (h := h' ++ [Ob.lst ((("class" : Str) :: x :: bs).map .str)]) (a := " ") (w := .loc h'.length) (ys := ("class" : Str) :: x :: bs) (by simp only [seqW, gL]) 8 (clS_len x8 q8 b8).2 (by
          rw [len1]
          simp only [List.length_cons]
          omega)
        have lL : (linesS M (rows.take i)).length ≤ 96 := by
          have := lines_len (M := M) (rows := rows.take i) fun x hx => km x (by rw [List.map_take] at hx; exact List.mem_of_mem_take hx)
          rw [List.length_take] at this
          omega
        have lz : ((linesS M (rows.take i)).map W.str).length < Sz := by
          rw [List.length_map]
          exact Nat.lt_of_le_of_lt lL (by decide)
        have ap := appW_lst (w := .str (clS x bs)) (fL.g0 g) lz
        have lb : bs.length + 2 ≤ Sz := Nat.le_trans (show _ ≤ 10 by omega) (by decide)
        refine wp_step (s' := [some (.loc nr), some (.loc k), some (.str x), some (tS bs), some (.loc d), y5]) (h' := (h' ++ [Ob.lst ((("class" : Str) :: x :: bs).map .str)]).set k (.lst ((linesS M (rows.take i)).map .str ++ [.str (clS x bs)]))) ?_ ?_
        · have jj : bBm "str" joinW (bC (.str " ")) (bCons (bLst (bCons (bC (.str "class")) (bCons (bV 2) (bStar (bV 3) (bNil))))) (bNil)) [some (.loc nr), some (.loc k), some (.str x), some (tS bs), some (.loc d), y5] h' = .ok (.str (clS x bs)) (h' ++ [Ob.lst ((("class" : Str) :: x :: bs).map .str)]) := by
            have ty : tyB "str" h' (.str " ") = true := tyB_str
            have ll : (W.str "class" :: W.str x :: bs.map W.str).length ≤ Sz := by simp only [List.length_cons, List.length_map]; exact lb
            have lb' : bs.length ≤ Sz := by omega
            simp only [List.map_cons] at j
            simp only [e_Bm, e_C, R.bind_ok, ty, if_true, e_Cons, e_Lst, e_V, List.getElem?_cons_succ, List.getElem?_cons_zero, e_Star, tS, seqW, e_Nil, List.append_nil, List.length_cons, List.length_map, List.map_cons]
            simp [lb, lb', j]
            rfl
          show sExp _ [some (.loc nr), some (.loc k), some (.str x), some (tS bs), some (.loc d), y5] h' = _
          simp only [e_exp]
          rw [e_Bm]
          simp only [e_V, List.getElem?_cons_succ, List.getElem?_cons_zero, R.bind_ok, tyB_lst g, if_true, e_Cons, jj, e_Nil, ap, sure_ok, st_ok]
        have f3 : Fr [k] (h' ++ [Ob.lst ((("class" : Str) :: x :: bs).map .str)]) ((h' ++ [Ob.lst ((("class" : Str) :: x :: bs).map .str)]).set k (.lst ((linesS M (rows.take i)).map .str ++ [.str (clS x bs)]))) := .set (by simp)
        have g3 := get_set (o := .lst ((linesS M (rows.take i)).map W.str ++ [.str (clS x bs)])) (fL.g0 g)
        have F3 : Fr [k] h2 ((h' ++ [Ob.lst ((("class" : Str) :: x :: bs).map .str)]).set k (.lst ((linesS M (rows.take i)).map .str ++ [.str (clS x bs)]))) := f.trans (fL.any.trans f3)
        generalize (h' ++ [Ob.lst ((("class" : Str) :: x :: bs).map .str)]).set k (.lst ((linesS M (rows.take i)).map .str ++ [.str (clS x bs)])) = h4 at g3 F3
        have g3' : h4[k]? = some (.lst ((linesS M (rows.take i) ++ [clS x bs]).map .str)) := by rw [g3]; simp
        have iw := inner_wp (s0 := .loc nr) (x := x) (bs := bs) (y5 := y5) g3' (F3.get ad (by simpa using dk)) (km x hx) (fun z => dk z.symm) (by rw [List.length_append, List.length_singleton]; omega)
        refine wpR_mono iw (fun fl h5 z => ?_) fun _ _ z => z
        obtain ⟨y5', rfl, g5, f5⟩ := z
        refine ⟨_, _, _, _, rfl, ?_, F3.trans f5⟩
        rw [g5, List.take_succ, e1]
        simp only [Option.toList_some]
        rw [lines_snoc]
        simp
      · obtain ⟨y2, y3, y4, y5, rfl, g, f⟩ := I
        have el : (itItems (dR rows ds)).length = rows.length := by unfold itItems; rw [List.length_map, dR_len dl]
        rw [el, List.take_length] at g
        exact ⟨f.get gl (by simp; omega), _, rfl, rfl, g, f⟩)
    obtain ⟨fl, h3, e3, s2, rfl, q⟩ := this
    exact ⟨s2, h3, e3, q⟩
  obtain ⟨s2, h2, e2, s21, g2, f2⟩ := ef
  have q := f2.get (get_set (o := .dct true (dR rows ds)) er1) (by simp; omega)
  refine wp_step (s' := s2) (h' := h2.set nr (.dct false (dR rows ds))) ?_ ?_
  · unfold sLock
    simp only [e_V, List.getElem?_cons_zero, er1, e2, q, if_true]
  have g3 := get_set_ne (o := .dct false (dR rows ds)) g2 (show nr ≠ k by omega)
  have F : Fr [k] h1 (h2.set nr (.dct false (dR rows ds))) := by
    refine ⟨by have := f2.1; rw [List.length_set] at this ⊢; exact this, fun i hi ni => ?_⟩
    by_cases z : nr = i
    · subst z
      rw [er1]
      exact get_set q
    · rw [List.getElem?_set_ne z]
      have := f2.2 i (by rw [List.length_set]; exact hi) ni
      rw [this, List.getElem?_set_ne z]
  refine wp_eq (a := .rt (.str (textS M rows))) (h := h2.set nr (.dct false (dR rows ds))) ?_ ⟨rfl, f1.young F fun j hj => .inr (by rw [List.mem_singleton.mp hj]; omega)⟩
  have j := join_lines (h := h2.set nr (.dct false (dR rows ds))) (w := .loc k) w km (by simp only [seqW, g3])
  simp only [e_ret, e_Bm, e_C, R.bind_ok, tyB_str, if_true, e_Cons, e_V, s21, e_Nil, j, sure_ok, st_ok]
end
end WS

set_option Elab.async false
set_option linter.all false
set_option maxRecDepth 100000
set_option maxHeartbeats 4000000
namespace WS
open PySem PySem.Spec L2 NB
open PyProof.Rows hiding St
section
variable {h : Hh} {nw nr nn k d : Nat} {rows L : List (Str × List Str)} {M : Str → MS} {x : Str} {bs l : List Str} {ms : MS}
theorem text_ok (w : WR rows L) (km : ∀ x ∈ rows.map (·.1), MsOk (M x)) (o : WO h nw nr nn rows L M) : ∃ h', c_text_of [.loc nr] h = .ok (.str (textS M rows)) h' ∧ Fr [] h h' := by
  obtain ⟨ds, er, dl, al⟩ := o.rws
  obtain ⟨_, h', e, rfl, f⟩ := wp_ex (text_of_wp w km er dl fun i r d e1 e2 => by
    obtain ⟨a1, a2⟩ := al i r d e1 e2
    exact ⟨a1, fun z => a2 (by simp [z])⟩)
  exact ⟨h', e, f⟩
theorem world_text_ok (w : WR rows L) (km : ∀ x ∈ rows.map (·.1), MsOk (M x)) (o : WO h nw nr nn rows L M) : ∃ h', c_world_text [.loc nw] h = .ok (.str (textS M rows)) h' ∧ Fr [] h h' := by
  obtain ⟨h', e, f⟩ := text_ok w km o
  refine ⟨h', ?_, f⟩
  unfold c_world_text runB m_world_text
  rw [show startW (["world"] : List Str).length [W.loc nw] = [some (.loc nw)] from rfl]
  have fr := fld_rows o.ins
  have c := bFn_ok (n := 1) (f := c_text_of) (a := bCons (bFld fc_rows "rows" (bV 0)) (bNil)) (s := [some (.loc nw)]) (h := h) (h1 := h) (xs := [.loc nr]) (by simp [fr]) rfl e
  rw [e_ret, c]
  rfl
theorem text_small (w : WR rows L) (km : ∀ x ∈ rows.map (·.1), MsOk (M x)) : (textS M rows).length ≤ 20000 := by
  have := join_len "\n" (linesS M rows) 205 (line_small w km)
  rw [nl1] at this
  have l := lines_len km
  have f := w.few
  have : (linesS M rows).length * 206 ≤ 96 * 206 := Nat.mul_le_mul_right _ (by omega)
  exact Nat.le_trans ‹(Txt.join "\n" (linesS M rows)).length ≤ _› (by omega)
theorem world_str_ok (w : WR rows L) (km : ∀ x ∈ rows.map (·.1), MsOk (M x)) (o : WO h nw nr nn rows L M) : ∃ h', c_World_str [.loc nw] h = .ok (.str (textS M rows)) h' ∧ Fr [] h h' := by
  obtain ⟨h', e, f⟩ := text_ok w km o
  refine ⟨h', ?_, f⟩
  unfold c_World_str runB m_World_str
  rw [show startW (["self"] : List Str).length [W.loc nw] = [some (.loc nw)] from rfl]
  have fr := fld_rows o.ins
  have c := bFn_ok (n := 1) (f := c_text_of) (a := bCons (bFld fc_rows "rows" (bV 0)) (bNil)) (s := [some (.loc nw)]) (h := h) (h1 := h) (xs := [.loc nr]) (by simp [fr]) rfl e
  have ts := text_small w km
  rw [e_ret, e_CallS, e_Cons, c]
  have st : strW [.str (textS M rows)] h' = .ok (.str (textS M rows)) h' := by
    unfold strW
    first | rfl | exact if_pos (Nat.le_trans ts (show (20000 : Nat) ≤ Sz by decide))
  simp only [R.bind_ok, e_Nil, st, sure_ok, st_ok]
  rfl
/-- a copy -/
theorem copy_ok (o : WO h nw nr nn rows L M) : ∃ nw2 nr2 nn2 h', c_World_copy [.loc nw] h = .ok (.loc nw2) h' ∧ WO h' nw2 nr2 nn2 rows L M ∧ Fr [] h h' := by
  obtain ⟨ds, er, dl, al⟩ := o.rws
  obtain ⟨h1, e1, f1, g1, g2, g3⟩ := init_ok h.length (h := h ++ [.ins "World" []]) get_new
  have l1 : (h ++ [Ob.ins "World" []]).length = h.length + 1 := by simp
  rw [l1] at g1 g2 g3
  have F1 : Fr [] h h1 := (Fr.app (S := [])).young f1 fun i hi => .inr (by rw [List.mem_singleton.mp hi]; exact Nat.le_refl _)
  have o1 := o.fr F1
  have lh := lt_of_get g3
  generalize hw : h.length = w2 at *
  have dr := dictW [.loc nr] h1
  have c1 : dictW [.loc nr] h1 = .ok (.loc h1.length) (h1 ++ [.dct false (dR rows ds)]) := by
    unfold dictW
    simp only [F1.g0 er]
  have f2 : Fr [] h1 (h1 ++ [Ob.dct false (dR rows ds)]) := .app
  have o2 := o1.fr f2
  have c2 : dictW [.loc nn] (h1 ++ [Ob.dct false (dR rows ds)]) = .ok (.loc (h1.length + 1)) (h1 ++ [Ob.dct false (dR rows ds), Ob.dct false (dL L)]) := by
    unfold dictW
    simp only [o2.lns]
    simp
  have fr1 := fld_rows o1.ins
  have fl2 := fld_lines o2.ins
  have m1 : ("World" : Str) ∈ fc_rows := by decide +kernel
  have m2 : ("World" : Str) ∈ fc_lines := by decide +kernel
  have p1 : putA "rows" (.loc h1.length) [(("rows" : Str), W.loc (w2 + 1)), (("lines" : Str), W.loc (w2 + 1 + 1))] = [(("rows" : Str), W.loc h1.length), (("lines" : Str), W.loc (w2 + 1 + 1))] := by
    unfold putA
    rw [if_pos rfl]
  have p2 : putA "lines" (.loc (h1.length + 1)) [(("rows" : Str), W.loc h1.length), (("lines" : Str), W.loc (w2 + 1 + 1))] = [(("rows" : Str), W.loc h1.length), (("lines" : Str), W.loc (h1.length + 1))] := by
    unfold putA
    rw [if_neg (by decide +kernel)]
    unfold putA
    rw [if_pos rfl]
  have g4 := get_app (t := [Ob.dct false (dR rows ds), Ob.dct false (dL L)]) g1
  have gr : (h1 ++ [Ob.dct false (dR rows ds), Ob.dct false (dL L)])[h1.length]? = some (.dct false (dR rows ds)) := by simp
  have gn : (h1 ++ [Ob.dct false (dR rows ds), Ob.dct false (dL L)])[h1.length + 1]? = some (.dct false (dL L)) := by simp
  have f3 : Fr [] h1 (h1 ++ [Ob.dct false (dR rows ds), Ob.dct false (dL L)]) := .app
  have F3 : Fr [] h (h1 ++ [Ob.dct false (dR rows ds), Ob.dct false (dL L)]) := F1.trans f3
  have s4 := get_set (o := .ins "World" [("rows", .loc h1.length), ("lines", .loc (w2 + 1 + 1))]) g4
  have hl := lt_of_get er
  obtain ⟨H, hH⟩ : ∃ H, H = h1 ++ [Ob.dct false (dR rows ds), Ob.dct false (dL L)] := ⟨_, rfl⟩
  have nd2 : ((["rows", "lines"] : List Str)).Nodup := by decide +kernel
  rw [← hH] at g4 gr gn f3 F3 s4
  have e5 : sAtt2 fc_rows fc_lines "rows" "lines" (bV 1) (bV 1) (bTup (bCons (bCallS dictW (bCons (bFld fc_rows "rows" (bV 0)) (bNil))) (bCons (bCallS dictW (bCons (bFld fc_lines "lines" (bV 0)) (bNil))) (bNil)))) [some (.loc nw), some (.loc w2)] h1 = .ok (.nx [some (.loc nw), some (.loc w2)]) ((H.set w2 (.ins "World" [("rows", .loc h1.length), ("lines", .loc (w2 + 1 + 1))])).set w2 (insW (.loc h1.length) (.loc (h1.length + 1)))) := by
    have t2 : (2 : Nat) ≤ Sz := by decide
    have tu : bTup (bCons (bCallS dictW (bCons (bFld fc_rows "rows" (bV 0)) (bNil))) (bCons (bCallS dictW (bCons (bFld fc_lines "lines" (bV 0)) (bNil))) (bNil))) [some (.loc nw), some (.loc w2)] h1 = .ok (.tup [.loc h1.length, .loc (h1.length + 1)]) H := by
      rw [hH]
      simp [fr1, c1, fl2, c2, t2]
    have a1 : attG fc_rows "rows" (.loc w2) (.loc h1.length) H = .ok () (H.set w2 (.ins "World" [("rows", .loc h1.length), ("lines", .loc (w2 + 1 + 1))])) := by
      unfold attG
      simp only [g4, insW]
      rw [if_pos ⟨m1, (show (2 : Nat) < 1000 by decide), nd2⟩, p1]
    have a2 : attG fc_lines "lines" (.loc w2) (.loc (h1.length + 1)) (H.set w2 (.ins "World" [("rows", .loc h1.length), ("lines", .loc (w2 + 1 + 1))])) = .ok () ((H.set w2 (.ins "World" [("rows", .loc h1.length), ("lines", .loc (w2 + 1 + 1))])).set w2 (insW (.loc h1.length) (.loc (h1.length + 1)))) := by
      unfold attG
      simp only [s4]
      rw [if_pos ⟨m2, (show (2 : Nat) < 1000 by decide), nd2⟩, p2]
      rfl
    unfold sAtt2
    rw [tu]
    simp only [st_ok, e_V, List.getElem?_cons_succ, List.getElem?_cons_zero, a1, a2]
  have ne1 : w2 ≠ h1.length := by omega
  have ne2 : w2 ≠ h1.length + 1 := by omega
  have FF : Fr [] h ((H.set w2 (.ins "World" [("rows", .loc h1.length), ("lines", .loc (w2 + 1 + 1))])).set w2 (insW (.loc h1.length) (.loc (h1.length + 1)))) := F3.young (Fr.trans (S := [w2]) (.set (by simp)) (.set (by simp))) fun i hi => .inr (by rw [List.mem_singleton.mp hi]; omega)
  refine ⟨w2, h1.length, h1.length + 1, _, ?_, ⟨get_set s4, ⟨ds, get_set_ne (get_set_ne gr ne1) ne1, dl, fun i r d e1 e2 => ?_⟩, get_set_ne (get_set_ne gn ne2) ne2, ne1, ne2, by omega⟩, FF⟩
  · unfold c_World_copy runB m_World_copy
    rw [show startW (["self", "world"] : List Str).length [W.loc nw] = [some (.loc nw), none] from rfl]
    have mk : bMk "World" 1 c_World_init [] bNil [some (.loc nw), none] h = .ok (.loc w2) h1 := by
      rw [e_Mk]
      simp [hw, e1, mkEnd]
    rw [e_seq, e_set, mk]
    simp only [st_ok, R.bind_ok, List.set_cons_succ, List.set_cons_zero]
    rw [e_seq, e5]
    simp only [R.bind_ok]
    rfl
  · obtain ⟨a1, a2⟩ := al i r d e1 e2
    have := lt_of_get a1
    exact ⟨FF.g0 a1, by simp; omega⟩
end
end WS

set_option Elab.async false
set_option linter.all false
set_option maxRecDepth 100000
set_option maxHeartbeats 4000000
namespace WS
open PySem PySem.Spec L2 NB
open PyProof.Rows hiding St
section
variable {h : Hh} {nw nr nn nm k d : Nat} {rows L : List (Str × List Str)} {M : Str → MS} {x : Str} {bs l : List Str} {ms : MS}
theorem extW_ok {ws us : List W} {m : Nat} (e1 : h[k]? = some (.lst ws)) (e2 : h[m]? = some (.lst us)) (l : ws.length + us.length ≤ Sz) : extW (.loc k) [.loc m] h = .ok .non (h.set k (.lst (ws ++ us))) := by
  unfold extW
  simp only [e1, e2]
  exact if_pos l
theorem addL_ok {as bs : List W} {i j : Nat} (e1 : h[i]? = some (.lst as)) (e2 : h[j]? = some (.lst bs)) (l : as.length + bs.length ≤ Sz) : addW (.loc i) (.loc j) h = .ok (.loc h.length) (h ++ [.lst (as ++ bs)]) := by
  unfold addW
  simp only [e1, e2]
  exact if_pos l
/-- the lines of a class's own methods, by the law -/
theorem own_lines {s : Sg} (s5 : s[5]? = some (some (.loc d))) (s7 : 6 < s.length) (ed : h[d]? = some (.dct false (dM ms))) (km : MsOk ms) :
    ∃ n h', bLc (iSeq (bCallS sortedW (bCons (bV 5) (bNil)))) (.nm 6) (bYes) (bFn 2 c__law_method_text [] (bCons (bV 6) (bCons (bOp ixG (bV 5) (bV 6)) (bNil)))) [6] s h = .ok (.loc n) h' ∧ Fr [] h h' ∧ h.length ≤ n ∧ h'[n]? = some (.lst ((mlsS ms).map .str)) := by
  have so := sorted_dM ed km.l3
  have g := get_new (h := h) (o := .lst ((sortS (keysM ms)).map .str))
  have f1 : Fr [] h (h ++ [.lst ((sortS (keysM ms)).map .str)]) := .app
  have s1 := srcSeq_lst g
  have sl : (sortS (keysM ms)).length ≤ 3 := by rw [sort_len, keys_len]; exact km.l3
  obtain ⟨rs, n, h', q, fr, l, gn, al⟩ := blc_al (it := iSeq (bCallS sortedW (bCons (bV 5) (bNil)))) (t := .nm 6) (c := bYes) (e := bFn 2 c__law_method_text [] (bCons (bV 6) (bCons (bOp ixG (bV 5) (bV 6)) (bNil)))) (vs := [6]) (s := s) (p := fun _ : Str => true) (f := fun z => mlS z (mAt ms z)) (A := fun z w => w = W.str z) (Q := fun _ y w => w = W.str y) (h := h) (h0 := h ++ [.lst ((sortS (keysM ms)).map .str)]) (ws := (sortS (keysM ms)).map .str) (ck := fun h' => h'[h.length]? = some (.lst ((sortS (keysM ms)).map .str))) (as := sortS (keysM ms)) (by
      simp only [e_iSeq, e_CallS, e_Cons, e_Nil, e_V, s5, R.bind_ok, so, sure_ok, s1]) f1 al_refl (by rw [List.length_map]; exact Nat.le_trans sl (by decide)) (fun _ _ _ _ _ z => z) (fun z hz w h' aw fr => by
    subst aw
    have hz' := mem_sort.mp hz
    have ix := ixG_dct (y := .str z) (fr.g0 (f1.g0 ed)) rfl
    rw [getK_at hz'] at ix
    obtain ⟨h3, e3, f3⟩ := law_method_text_ok (h := h') (km.ok _ (mem_mAt hz')) (isN_len (km.nm z hz').1).2
    have w5 : ((wipeG s [6]).set 6 (some (W.str z)))[5]? = some (some (.loc d)) := by
      simp [wipeG, s5]
    have w6 : ((wipeG s [6]).set 6 (some (W.str z)))[6]? = some (some (.str z)) := by
      simp [wipeG, s7]
    refine ⟨fr.g0 g, (wipeG s [6]).set 6 (some (.str z)), go_nm, h', rfl, .refl, fun _ => ⟨_, h3, bFn_ok (n := 2) (xs := [.str z, mW (mAt ms z)]) (h1 := h') (by simp [w5, w6, ix]) rfl e3, f3, rfl⟩⟩) (fun h' fr => fr.g0 g)
  rw [List.filter_eq_self.mpr fun _ _ => rfl] at al
  rw [al.eq] at gn
  exact ⟨n, h', q, fr, l, gn⟩
theorem text_lines_wp (w : WR rows L) (e : h[nr]? = some (.lst (rows.map rW))) (em : MD h nm rows M) (km : ∀ x ∈ rows.map (·.1), MsOk (M x)) :
    wpR (c__law_text_lines [.loc nr, .loc nm] h) (fun r h' => ∃ k, r = .loc k ∧ h'[k]? = some (.lst ((linesS M rows).map .str)) ∧ Fr [] h h') NoE := by
  refine wp_run ?_
  rw [show startW (["_law_rows_here", "_law_methods_here", "_law_found", "_law_name", "_law_bases", "_law_own", "_law_word"] : List Str).length [W.loc nr, .loc nm] = [some (.loc nr), some (.loc nm), none, none, none, none, none] from rfl]
  unfold m__law_text_lines
  refine wp_step (s' := [some (.loc nr), some (.loc nm), some (.loc h.length), none, none, none, none]) (h' := h ++ [.lst []]) (by simp) ?_
  have g1 := get_new (h := h) (o := Ob.lst [])
  have f1 : Fr [] h (h ++ [Ob.lst []]) := .app
  generalize h ++ [Ob.lst []] = h1 at g1 f1
  have el := lt_of_get e
  have few := w.few
  refine wp_seq (M := fun s h' => s[2]? = some (some (.loc h.length)) ∧ h'[h.length]? = some (.lst ((linesS M rows).map .str)) ∧ Fr [] h h') ?_ ?_
  · unfold sFor
    simp only [e_iSeq, e_V, List.getElem?_cons_zero, R.bind_ok, srcSeq_lst (f1.g0 e), st_ok]
    refine for_ok0 (I := fun i s h' => ∃ y3 y4 y5 y6, s = [some (.loc nr), some (.loc nm), some (.loc h.length), y3, y4, y5, y6] ∧ h'[h.length]? = some (.lst ((linesS M (rows.take i)).map .str)) ∧ Fr [] h h') ⟨_, _, _, _, rfl, g1, f1⟩ (fun i w' s h' ei I => ?_) (fun s h' I => ?_)
    · obtain ⟨y3, y4, y5, y6, rfl, g, f⟩ := I
      rw [List.getElem?_map] at ei
      obtain ⟨⟨x, bs⟩, er, rfl⟩ := Option.map_eq_some_iff.mp ei
      have il := (List.getElem?_eq_some_iff.mp er).1
      have hr := List.mem_of_getElem? er
      have hx : x ∈ rows.map (·.1) := List.mem_map.mpr ⟨_, hr, rfl⟩
      have x8 := (isN_len (w.n x (by rw [w.v.names]; exact hx))).2
      have b8 := w.b8 x bs hr
      have q8 : ∀ z ∈ bs, z.length ≤ 8 := fun z hz => (isN_len (w.n z (by rw [w.v.names]; exact (w.v.row x bs hr).2 z hz))).2
      have lL : (linesS M (rows.take i)).length ≤ 96 := by
        have := lines_len (M := M) (rows := rows.take i) fun x hx => km x (by rw [List.map_take] at hx; exact List.mem_of_mem_take hx)
        rw [List.length_take] at this
        omega
      refine ⟨f.g0 e, _, by simp [rW]; rfl, ?_⟩
      -- the class's line
      have s2 : (2 : Nat) ≤ Sz := by decide
      have lb : 2 + bs.length ≤ Sz := Nat.le_trans (show _ ≤ 10 by omega) (by decide)
      have ad := addL_ok (h := h' ++ [Ob.lst [.str "class", .str x], Ob.lst (bs.map .str)]) (i := h'.length) (j := h'.length + 1) (as := [.str "class", .str x]) (bs := bs.map .str) (by simp) (by simp) (by rw [List.length_map]; exact lb)
      have fL : Fr [] h' (h' ++ [Ob.lst [.str "class", .str x], Ob.lst (bs.map .str)] ++ [Ob.lst ([.str "class", .str x] ++ bs.map .str)]) := Fr.trans .app .app
      have gL := get_new (h := h' ++ [Ob.lst [.str "class", .str x], Ob.lst (bs.map .str)]) (o := Ob.lst ([.str "class", .str x] ++ bs.map .str))
      have j := joinW_ok (h := h' ++ [Ob.lst [.str "class", .str x], Ob.lst (bs.map .str)] ++ [Ob.lst ([.str "class", .str x] ++ bs.map .str)]) (a := " ") (w := .loc (h' ++ [Ob.lst [.str "class", .str x], Ob.lst (bs.map .str)]).length) (ys := ("class" : Str) :: x :: bs) (by simp only [seqW, gL]; rfl) 8 (clS_len x8 q8 b8).2 (by
        rw [len1]
        simp only [List.length_cons]
        omega)
      have lz : ((linesS M (rows.take i)).map W.str).length < Sz := by
        rw [List.length_map]
        exact Nat.lt_of_le_of_lt lL (by decide)
      have ap := appW_lst (w := .str (clS x bs)) (fL.g0 g) lz
      have jj : bBm "str" joinW (bC (.str " ")) (bCons (bOp addW (bLst (bCons (bC (.str "class")) (bCons (bV 3) (bNil)))) (bCallS listW (bCons (bV 4) (bNil)))) (bNil)) [some (.loc nr), some (.loc nm), some (.loc h.length), some (.str x), some (tS bs), y5, y6] h' = .ok (.str (clS x bs)) (h' ++ [Ob.lst [.str "class", .str x], Ob.lst (bs.map .str)] ++ [Ob.lst ([.str "class", .str x] ++ bs.map .str)]) := by
        have ty : tyB "str" h' (.str " ") = true := tyB_str
        have ea : bOp addW (bLst (bCons (bC (.str "class")) (bCons (bV 3) (bNil)))) (bCallS listW (bCons (bV 4) (bNil))) [some (.loc nr), some (.loc nm), some (.loc h.length), some (.str x), some (tS bs), y5, y6] h' = .ok (.loc (h' ++ [Ob.lst [.str "class", .str x], Ob.lst (bs.map .str)]).length) (h' ++ [Ob.lst [.str "class", .str x], Ob.lst (bs.map .str)] ++ [Ob.lst ([.str "class", .str x] ++ bs.map .str)]) := by
          have l2 : listW [tS bs] (h' ++ [Ob.lst [.str "class", .str x]]) = .ok (.loc (h'.length + 1)) (h' ++ [Ob.lst [.str "class", .str x], Ob.lst (bs.map .str)]) := by
            simp [tS]
          simp only [e_Op, e_Lst, e_Cons, e_C, e_V, List.getElem?_cons_succ, List.getElem?_cons_zero, R.bind_ok, e_Nil, List.length_cons, List.length_nil]
          rw [if_pos s2]
          simp only [R.bind_ok, e_CallS, e_Cons, e_V, List.getElem?_cons_succ, List.getElem?_cons_zero, e_Nil, l2, sure_ok, ad]
        rw [e_Bm]
        simp only [e_C, R.bind_ok, ty, if_true, e_Cons, ea, e_Nil, j, sure_ok]
        rfl
      refine wp_step (s' := [some (.loc nr), some (.loc nm), some (.loc h.length), some (.str x), some (tS bs), y5, y6]) (h' := (h' ++ [Ob.lst [.str "class", .str x], Ob.lst (bs.map .str)] ++ [Ob.lst ([.str "class", .str x] ++ bs.map .str)]).set h.length (.lst ((linesS M (rows.take i)).map .str ++ [.str (clS x bs)]))) ?_ ?_
      · show sExp _ [some (.loc nr), some (.loc nm), some (.loc h.length), some (.str x), some (tS bs), y5, y6] h' = _
        rw [e_exp, e_Bm]
        simp only [e_V, List.getElem?_cons_succ, List.getElem?_cons_zero, R.bind_ok, tyB_lst g, if_true, e_Cons, jj, e_Nil, ap, sure_ok, st_ok]
      have g3 := get_set (o := .lst ((linesS M (rows.take i)).map W.str ++ [.str (clS x bs)])) (fL.g0 g)
      have F3 : Fr [] h ((h' ++ [Ob.lst [.str "class", .str x], Ob.lst (bs.map .str)] ++ [Ob.lst ([.str "class", .str x] ++ bs.map .str)]).set h.length (.lst ((linesS M (rows.take i)).map .str ++ [.str (clS x bs)]))) := (f.trans fL).young (.set (S := [h.length]) (by simp)) fun j hj => .inr (by rw [List.mem_singleton.mp hj]; exact Nat.le_refl _)
      generalize (h' ++ [Ob.lst [.str "class", .str x], Ob.lst (bs.map .str)] ++ [Ob.lst ([.str "class", .str x] ++ bs.map .str)]).set h.length (.lst ((linesS M (rows.take i)).map .str ++ [.str (clS x bs)])) = h4 at g3 F3
      -- the methods' lines
      obtain ⟨kvs, ek, hk⟩ := em.fr F3
      obtain ⟨d, gd, ed⟩ := hk x hx
      have f5 : Fr [] h4 (h4 ++ [Ob.dct false []]) := .app
      refine wp_step (s' := [some (.loc nr), some (.loc nm), some (.loc h.length), some (.str x), some (tS bs), some (.loc d), y6]) (h' := h4 ++ [Ob.dct false []]) ?_ ?_
      · have ek2 := f5.g0 ek
        have kx : keyW (.str x) = some (.inr x) := rfl
        simp [tyB_dct' (b := false) ek, ek2, gd]
      obtain ⟨n, h6, e6, f6, l6, g6⟩ := own_lines (s := [some (.loc nr), some (.loc nm), some (.loc h.length), some (.str x), some (tS bs), some (.loc d), y6]) rfl (by decide : 6 < 7) (f5.g0 ed) (km x hx)
      have g7 := f6.g0 (f5.g0 g3)
      have ml := mls_len (km x hx)
      have ex := extW_ok g7 g6 (by
        rw [List.length_append, List.length_map, List.length_map, List.length_singleton]
        exact Nat.le_trans (show _ ≤ 100 by omega) (by decide))
      refine wp_eq (a := .nx [some (.loc nr), some (.loc nm), some (.loc h.length), some (.str x), some (tS bs), some (.loc d), y6]) (h := h6.set h.length (.lst (((linesS M (rows.take i)).map W.str ++ [.str (clS x bs)]) ++ (mlsS (M x)).map .str))) ?_ ?_
      · have ty := tyB_lst (f5.g0 g3)
        rw [e_exp, e_Bm]
        simp only [e_V, List.getElem?_cons_succ, List.getElem?_cons_zero, R.bind_ok, ty, if_true, e_Cons, e6, e_Nil, ex, sure_ok, st_ok]
      · refine ⟨_, _, _, _, rfl, ?_, (F3.trans (f5.trans f6)).young (.set (S := [h.length]) (by simp)) fun j hj => .inr (by rw [List.mem_singleton.mp hj]; exact Nat.le_refl _)⟩
        rw [get_set g7, List.take_succ, er]
        simp only [Option.toList_some]
        rw [lines_snoc]
        simp
    · obtain ⟨y3, y4, y5, y6, rfl, g, f⟩ := I
      rw [List.length_map, List.take_length] at g
      exact ⟨f.g0 e, rfl, g, f⟩
  · rintro s h' ⟨s2, g, f⟩
    exact wp_eq (a := .rt (.loc h.length)) (h := h') (by simp [s2]) ⟨_, rfl, g, f⟩
end
end WS

set_option Elab.async false
set_option linter.all false
set_option maxRecDepth 100000
set_option maxHeartbeats 4000000
namespace WS
open PySem PySem.Spec L2 NB
open PyProof.Rows hiding St
section
variable {h : Hh} {nw nr nn nm k d m : Nat} {rows L : List (Str × List Str)} {M : Str → MS} {x : Str} {bs l : List Str} {ms : MS}
def insM (a b : W) : Ob := .ins "Member" [("world", a), ("own_name", b)]
theorem need_class_ok (o : WO h nw nr nn rows L M) (hx : x ∈ rows.map (·.1)) (nx : isNb x = true) : ∃ h', c_World_need_class [.loc nw, .str x] h = .ok .non h' ∧ Fr [] h h' := by
  obtain ⟨h1, e1, f1⟩ := is_name_ok (z := x) (Nat.le_trans (isN_len nx).2 (by decide)) h
  rw [nx] at e1
  have o1 := o.fr f1
  obtain ⟨w, ew⟩ := row_of_ex o1 hx
  refine ⟨h1, ?_, f1⟩
  unfold c_World_need_class runB m_World_need_class
  rw [show startW (["self", "name"] : List Str).length [W.loc nw, .str x] = [some (.loc nw), some (.str x)] from rfl]
  have c1 := bFn_ok (n := 1) (f := c_is_name) (a := bCons (bV 1) bNil) (s := [some (.loc nw), some (.str x)]) (h := h) (h1 := h) (xs := [.str x]) (by simp) rfl e1
  have c2 := bMe_ok (C := "World") (m := "row_of") (n := 2) (o := bV 0) (a := bCons (bV 1) bNil) (s := [some (.loc nw), some (.str x)]) (h := h1) (h1 := h1) (h2 := h1) (xs := [.str x]) rfl o1.ins (lk_other (by decide +kernel) (by decide +kernel)) (by simp) rfl ew
  rw [e_seq, e_if, e_Not, e_T, c1]
  simp only [R.bind_ok, truB_bl, Bool.not_true, st_ok, Bool.false_eq_true, if_false, e_pass]
  rw [e_exp, c2]
  rfl
theorem mem_init_ok (e : h[m]? = some (.ins "Member" [])) : ∃ h', c_Member_init [.loc m, .loc nw, .str x] h = .ok .non h' ∧ Fr [m] h h' ∧ h'[m]? = some (insM (.loc nw) (.str x)) := by
  have m1 : ("Member" : Str) ∈ fc_world := by decide +kernel
  have m2 : ("Member" : Str) ∈ fc_own_name := by decide +kernel
  have s1 := get_set (o := .ins "Member" [("world", .loc nw)]) e
  have p1 : putA "world" (.loc nw) [] = [(("world" : Str), W.loc nw)] := rfl
  have p2 : putA "own_name" (.str x) [(("world" : Str), W.loc nw)] = [(("world" : Str), W.loc nw), (("own_name" : Str), .str x)] := by
    unfold putA
    rw [if_neg (by decide +kernel)]
    rfl
  have nd1 : ((["world"] : List Str)).Nodup := by decide +kernel
  refine ⟨(h.set m (.ins "Member" [("world", .loc nw)])).set m (insM (.loc nw) (.str x)), ?_, Fr.trans (.set (by simp)) (.set (by simp)), get_set s1⟩
  unfold c_Member_init runB m_Member_init
  rw [show startW (["self", "world", "own_name"] : List Str).length [W.loc m, .loc nw, .str x] = [some (.loc m), some (.loc nw), some (.str x)] from rfl]
  have a1 : sAtt fc_world "world" (bV 0) (bV 1) [some (.loc m), some (.loc nw), some (.str x)] h = .ok (.nx [some (.loc m), some (.loc nw), some (.str x)]) (h.set m (.ins "Member" [("world", .loc nw)])) := by
    simp [e, m1, p1]
  have a2 : sAtt fc_own_name "own_name" (bV 0) (bV 2) [some (.loc m), some (.loc nw), some (.str x)] (h.set m (.ins "Member" [("world", .loc nw)])) = .ok (.nx [some (.loc m), some (.loc nw), some (.str x)]) ((h.set m (.ins "Member" [("world", .loc nw)])).set m (insM (.loc nw) (.str x))) := by
    rw [e_att]
    simp only [st_ok, e_V, List.getElem?_cons_zero, List.getElem?_cons_succ, s1, m2, true_and, p2]
    rfl
  rw [e_seq, a1]
  simp only [R.bind_ok]
  rw [a2]
  rfl
theorem member_ok (o : WO h nw nr nn rows L M) (hx : x ∈ rows.map (·.1)) (nx : isNb x = true) : ∃ m h', c_World_member [.loc nw, .str x] h = .ok (.loc m) h' ∧ Fr [] h h' ∧ h'[m]? = some (insM (.loc nw) (.str x)) := by
  obtain ⟨h1, e1, f1⟩ := need_class_ok o hx nx
  obtain ⟨h2, e2, f2, g2⟩ := mem_init_ok (h := h1 ++ [.ins "Member" []]) (m := h1.length) (nw := nw) (x := x) get_new
  refine ⟨h1.length, h2, ?_, f1.trans ((Fr.app (S := [])).young f2 fun i hi => .inr (by rw [List.mem_singleton.mp hi]; exact Nat.le_refl _)), g2⟩
  unfold c_World_member runB m_World_member
  rw [show startW (["self", "name"] : List Str).length [W.loc nw, .str x] = [some (.loc nw), some (.str x)] from rfl]
  have c1 := bMe_ok (C := "World") (m := "need_class") (n := 2) (o := bV 0) (a := bCons (bV 1) bNil) (s := [some (.loc nw), some (.str x)]) (h := h) (h1 := h) (h2 := h) (xs := [.str x]) rfl o.ins (lk_other (by decide +kernel) (by decide +kernel)) (by simp) rfl e1
  rw [e_seq, e_exp, c1]
  simp only [st_ok, R.bind_ok]
  rw [e_ret, e_Mk]
  simp [e2, mkEnd]
theorem fld_world {a b : W} (e : h[m]? = some (insM a b)) : fldW fc_world "world" (.loc m) h = .ok a h := by
  unfold fldW
  have q : ("Member" : Str) ∈ fc_world := by decide +kernel
  have k : List.lookup ("world" : Str) [(("world" : Str), a), (("own_name" : Str), b)] = some a := by
    rw [List.lookup_cons]
    have : (("world" : Str) == ("world" : Str)) = true := by decide +kernel
    rw [this]
  simp only [e, insM, q, if_true, k]
theorem fld_own {a b : W} (e : h[m]? = some (insM a b)) : fldW fc_own_name "own_name" (.loc m) h = .ok b h := by
  unfold fldW
  have q : ("Member" : Str) ∈ fc_own_name := by decide +kernel
  have k : List.lookup ("own_name" : Str) [(("world" : Str), a), (("own_name" : Str), b)] = some b := by
    rw [List.lookup_cons, List.lookup_cons]
    have e1 : (("own_name" : Str) == ("world" : Str)) = false := by decide +kernel
    have e2 : (("own_name" : Str) == ("own_name" : Str)) = true := by decide +kernel
    rw [e1, e2]
  simp only [e, insM, q, if_true, k]
theorem mem_row (o : WO h nw nr nn rows L M) (hx : x ∈ rows.map (·.1)) (e : h[m]? = some (insM (.loc nw) (.str x))) : ∃ d bs, rows.lookup x = some bs ∧ h[d]? = some (.dct false (dM (srt (M x)))) ∧
    bMe "World" "row_of" 2 c_World_row_of [] (bFld fc_world "world" (bV 0)) (bCons (bFld fc_own_name "own_name" (bV 0)) (bNil)) [some (.loc m)] h = .ok (.tup [tS bs, .loc d]) h := by
  obtain ⟨d, bs, q1, q2, q3, _⟩ := row_of_ok o hx
  refine ⟨d, bs, q1, q3, ?_⟩
  have a := fld_world e
  have b := fld_own e
  exact bMe_ok (h1 := h) (h2 := h) (xs := [.str x]) (by simp [a]) o.ins (lk_other (by decide +kernel) (by decide +kernel)) (by simp [b]) rfl q2
theorem mem_bases_ok (o : WO h nw nr nn rows L M) (hx : x ∈ rows.map (·.1)) (e : h[m]? = some (insM (.loc nw) (.str x))) : ∃ bs, rows.lookup x = some bs ∧ c_Member_bases [.loc m] h = .ok (tS bs) h := by
  obtain ⟨d, bs, q1, q2, q3⟩ := mem_row o hx e
  refine ⟨bs, q1, ?_⟩
  unfold c_Member_bases runB m_Member_bases
  rw [show startW (["self"] : List Str).length [W.loc m] = [some (.loc m)] from rfl]
  rw [e_ret, e_Op, q3]
  simp [ixG_tup, L2.atI, L2.ixN]
theorem mem_methods_ok (o : WO h nw nr nn rows L M) (hx : x ∈ rows.map (·.1)) (e : h[m]? = some (insM (.loc nw) (.str x))) : c_Member_methods [.loc m] h = .ok (.loc h.length) (h ++ [.dct false (dM (srt (M x)))]) := by
  obtain ⟨d, bs, q1, q2, q3⟩ := mem_row o hx e
  unfold c_Member_methods runB m_Member_methods
  rw [show startW (["self"] : List Str).length [W.loc m] = [some (.loc m)] from rfl]
  have dd : dictW [.loc d] h = .ok (.loc h.length) (h ++ [.dct false (dM (srt (M x)))]) := by
    unfold dictW
    simp only [q2]
  rw [e_ret, e_CallS, e_Cons, e_Op, q3]
  simp [ixG_tup, L2.atI, L2.ixN, dd]
theorem names_ok (w : WR rows L) (o : WO h nw nr nn rows L M) : c_World_names [.loc nw] h = .ok (tS (rows.map (·.1))) h := by
  obtain ⟨ds, er, dl, al⟩ := o.rws
  unfold c_World_names runB m_World_names
  rw [show startW (["self"] : List Str).length [W.loc nw] = [some (.loc nw)] from rfl]
  have fr := fld_rows o.ins
  have few := w.few
  have kz : (dR rows ds).length ≤ Sz := by rw [dR_len dl]; exact Nat.le_trans few (by decide)
  have ks : (dR rows ds).map (fun kv => kW kv.1) = (rows.map (·.1)).map W.str := by
    have := congrArg (List.map kW) (keys_dR dl)
    rw [List.map_map, List.map_map] at this
    rw [List.map_map]
    exact this
  have tu : tupleW [.loc nr] h = .ok (tS (rows.map (·.1))) h := by
    unfold tupleW
    simp only [er, ks]
    exact if_pos kz
  rw [e_ret, e_CallS, e_Cons, e_Fld]
  simp [fr, tu]
theorem lin_ok (o : WO h nw nr nn rows L M) : c_World_linearizations [.loc nw] h = .ok (.loc h.length) (h ++ [.dct false (dL L)]) := by
  unfold c_World_linearizations runB m_World_linearizations
  rw [show startW (["self"] : List Str).length [W.loc nw] = [some (.loc nw)] from rfl]
  have fl := fld_lines o.ins
  have dd : dictW [.loc nn] h = .ok (.loc h.length) (h ++ [.dct false (dL L)]) := by
    unfold dictW
    simp only [o.lns]
  rw [e_ret, e_CallS, e_Cons, e_Fld]
  simp [fl, dd]
theorem wlen_ok (w : WR rows L) (o : WO h nw nr nn rows L M) : c_World_len [.loc nw] h = .ok (.int rows.length) h := by
  obtain ⟨ds, er, dl, al⟩ := o.rws
  unfold c_World_len runB m_World_len
  rw [show startW (["self"] : List Str).length [W.loc nw] = [some (.loc nw)] from rfl]
  have fr := fld_rows o.ins
  rw [e_ret, e_CallS, e_Cons, e_Fld]
  simp [fr, lenW_dct er, dR_len dl]
end
end WS

set_option Elab.async false
set_option linter.all false
set_option maxRecDepth 100000
set_option maxHeartbeats 4000000
namespace WS
open PySem PySem.Spec L2 NB
open PyProof.Rows hiding St
def tD (l : List Str) : PyData := .tuple (l.map .str)
def oD : Option (List Str) → PyData
  | none => .none
  | some l => tD l
def mD (m : Mth) : PyData := .tuple [tD m.takes, tD m.before, oD m.passes, tD m.after]
def dMD (ms : MS) : PyData := .dict ((ms.map fun p => ((.inr p.1 : Key), mD p.2)).map fun p => (pyKD p.1, p.2))
def dLD (L : List (Str × List Str)) : PyData := .dict ((L.map fun p => ((.inr p.1 : Key), tD p.2)).map fun p => (pyKD p.1, p.2))
def rowD (M : Str → MS) (r : Str × List Str) : PyData := .tuple [tD r.2, dMD (srt (M r.1))]
def stateD (M : Str → MS) (rows L : List (Str × List Str)) : PyData := .list ([tD (rows.map (·.1)), dLD L, .int rows.length] ++ rows.map (rowD M))
section
variable {h : Hh} {k d m : Nat} {rows L : List (Str × List Str)} {M : Str → MS} {x : Str} {bs l : List Str} {ms : MS}
theorem rp_tS (l : List Str) : Rp h 1 (tD l) (tS l) := Rp.tup (k := 0) rp_strs
theorem rp_opt : ∀ o : Option (List Str), Rp h 1 (oD o) (optS o)
  | none => .non
  | some l => rp_tS l
theorem rp_m (m : Mth) : Rp h 2 (mD m) (mW m) := Rp.tup (k := 1) ⟨_, _, rfl, rp_tS _, _, _, rfl, rp_tS _, _, _, rfl, rp_opt _, _, _, rfl, rp_tS _, rfl⟩
theorem rp_dM (e : h[d]? = some (.dct false (dM ms))) : Rp h 3 (dMD ms) (.loc d) := by
  refine Rp.dct (k := 2) (ds := ms.map fun p => ((.inr p.1 : Key), mD p.2)) e ?_ ?_
  · unfold dM
    rw [List.map_map, List.map_map]
    rfl
  · unfold dM
    clear e
    induction ms with
    | nil => rfl
    | cons p r ih => exact ⟨_, _, rfl, rp_m _, ih⟩
theorem rp_dL (e : h[d]? = some (.dct false (dL L))) : Rp h 2 (dLD L) (.loc d) := by
  refine Rp.dct (k := 1) (ds := L.map fun p => ((.inr p.1 : Key), tD p.2)) e ?_ ?_
  · unfold dL
    rw [List.map_map, List.map_map]
    rfl
  · unfold dL
    clear e
    induction L with
    | nil => rfl
    | cons p r ih => exact ⟨_, _, rfl, rp_tS _, ih⟩
/-- a row as it stands in the list -/
def RowIn (h : Hh) (k : Nat) (M : Str → MS) (r : Str × List Str) (w : W) : Prop := ∃ d, w = .tup [tS r.2, .loc d] ∧ h[d]? = some (.dct false (dM (srt (M r.1)))) ∧ d ≠ k
theorem rp_row {r : Str × List Str} {w : W} (q : RowIn h k M r w) : Rp h 4 (rowD M r) w := by
  obtain ⟨d, rfl, e, _⟩ := q
  exact Rp.tup (k := 3) ⟨_, _, rfl, (rp_tS _).up (by decide), _, _, rfl, rp_dM e, rfl⟩
theorem rp_state {ws : List W} {ld : Nat} (e : h[k]? = some (.lst ([tS (rows.map (·.1)), .loc ld, .int rows.length] ++ ws))) (el : h[ld]? = some (.dct false (dL L))) (al : Al (RowIn h k M) rows ws) : Rp h 5 (stateD M rows L) (.loc k) := by
  refine Rp.lst (k := 4) e ?_
  refine ⟨_, _, rfl, (rp_tS _).up (by decide), _, _, rfl, (rp_dL el).up (by decide), _, _, rfl, .int, ?_⟩
  exact al.conv fun a w q => rp_row q
/-! sizes -/
theorem wt_tD {n : Nat} (hl : ∀ z ∈ l, isNb z = true) (l24 : l.length ≤ n) : Wt (tD l) (n * 9) := by
  have a := WtA.all (n := 8) (ds := l.map PyData.str) (fun d hd => by
    obtain ⟨z, hz, rfl⟩ := List.mem_map.mp hd
    have sm : ∀ c ∈ z.cps.toList, c < 256 := fun c hc => by
      have q := hl z hz
      unfold isNb at q
      simp only [Bool.and_eq_true, List.all_eq_true, decide_eq_true_eq] at q
      have k : ∀ c ∈ lettersS.cps.toList, c < 256 := by decide +kernel
      exact k c (q.2 c hc)
    exact .str sm (isN_len (hl z hz)).2)
  rw [List.length_map] at a
  exact a.tup.up (Nat.mul_le_mul_right _ l24)
theorem wt_str {z : Str} (q : isNb z = true) : Wt (.str z) 8 := by
  have sm : ∀ c ∈ z.cps.toList, c < 256 := fun c hc => by
    unfold isNb at q
    simp only [Bool.and_eq_true, List.all_eq_true, decide_eq_true_eq] at q
    have k : ∀ c ∈ lettersS.cps.toList, c < 256 := by decide +kernel
    exact k c (q.2 c hc)
  exact .str sm (isN_len q).2
theorem wt_m {m : Mth} (q : MOk m) : Wt (mD m) 148 := by
  have t : Wt (tD m.takes) 36 := wt_tD q.t.2.2 q.t.2.1
  have b : Wt (tD m.before) 36 := wt_tD q.b.2 q.b.1
  have a : Wt (tD m.after) 36 := wt_tD q.a.2 q.a.1
  have p : Wt (oD m.passes) 36 := by
    cases e : m.passes with
    | none => exact .non
    | some l =>
      have r := q.p l e
      exact wt_tD r.2.2 r.2.1
  exact (WtA.cons t (.cons b (.cons p (.cons a (.nil (n := 0)))))).tup.up (by decide)
theorem wt_dM (q : MsOk ms) : Wt (dMD ms) 474 := by
  have := WtK.all (j := 8) (n := 148) (ds := (ms.map fun p => ((.inr p.1 : Key), mD p.2)).map fun p => (pyKD p.1, p.2)) (fun d hd => by
    rw [List.map_map] at hd
    obtain ⟨p, hp, rfl⟩ := List.mem_map.mp hd
    exact ⟨wt_str (q.nm p.1 (List.mem_map.mpr ⟨p, hp, rfl⟩)).1, wt_m (q.ok p hp)⟩)
  rw [List.length_map, List.length_map] at this
  exact this.dct.up (Nat.mul_le_mul_right 158 q.l3)
theorem wt_dL (w : WR rows L) : Wt (dLD L) 5424 := by
  have := WtK.all (j := 8) (n := 216) (ds := (L.map fun p => ((.inr p.1 : Key), tD p.2)).map fun p => (pyKD p.1, p.2)) (fun d hd => by
    rw [List.map_map] at hd
    obtain ⟨p, hp, rfl⟩ := List.mem_map.mp hd
    refine ⟨wt_str (w.n p.1 (List.mem_map.mpr ⟨p, hp, rfl⟩)), ?_⟩
    have ln := w.v.lines p.1 p.2 hp
    have le := (w.v.line_len hp).2
    have := w.few
    exact wt_tD (n := 24) (fun z hz => w.n z (ln.2.2 z hz)) (by omega))
  rw [List.length_map, List.length_map] at this
  have few := w.few
  have len := w.v.len
  exact this.dct.up (Nat.mul_le_mul_right 226 (show L.length ≤ 24 by omega))
theorem wt_state (w : WR rows L) (km : ∀ x ∈ rows.map (·.1), MsOk (M x)) : Wt (stateD M rows L) 30000 := by
  have few := w.few
  have a : Wt (tD (rows.map (·.1))) 216 := wt_tD (n := 24) (fun z hz => w.n z (by rw [w.v.names]; exact hz)) (by rw [List.length_map]; exact few)
  have b := WtA.all (n := 548) (ds := rows.map (rowD M)) (fun d hd => by
    obtain ⟨⟨x, bs⟩, hr, rfl⟩ := List.mem_map.mp hd
    have q1 : Wt (tD bs) 72 := wt_tD (n := 8) (fun z hz => w.n z (by rw [w.v.names]; exact (w.v.row x bs hr).2 z hz)) (w.b8 x bs hr)
    have q2 := wt_dM (srt_ok (km x (List.mem_map.mpr ⟨_, hr, rfl⟩)))
    exact (WtA.cons q1 (.cons q2 (.nil (n := 0)))).tup)
  rw [List.length_map] at b
  have b' := b.up (Nat.mul_le_mul_right (548 + 1) few)
  exact ((WtA.cons a (.cons (wt_dL w) (.cons (Wt.nat ⟨rows.length, by omega⟩) (.nil (n := 0))))).app b').lst.up (by decide)
end
end WS

set_option Elab.async false
set_option linter.all false
set_option maxRecDepth 100000
set_option maxHeartbeats 4000000
namespace WS
open PySem PySem.Spec L2 NB
open PyProof.Rows hiding St
theorem pyAll_depth {f : W → Option PyData} {n : Nat} (k : ∀ w d, f w = some d → d.depth ≤ n) : ∀ {ws : List W} {ds : List PyData}, pyAll f ws = some ds → PyData.depthAll ds ≤ n
  | [], ds, e => by
    cases e
    exact Nat.zero_le _
  | w :: ws, ds, e => by
    unfold pyAll at e
    split at e
    · rename_i d ds' e1 e2
      cases e
      simp only [PyData.depthAll]
      exact Nat.max_le.mpr ⟨k _ _ e1, pyAll_depth k e2⟩
    · cases e
theorem pyAllK_depth {f : W → Option PyData} {n : Nat} (k : ∀ w d, f w = some d → d.depth ≤ n) : ∀ {ws : List (Key × W)} {ds : List (PyData × PyData)}, pyAllK f ws = some ds → PyData.depthKv ds ≤ n
  | [], ds, e => by
    cases e
    exact Nat.zero_le _
  | (c, w) :: ws, ds, e => by
    unfold pyAllK at e
    split at e
    · rename_i d ds' e1 e2
      cases e
      simp only [PyData.depthKv]
      have k0 : (pyKD c).depth = 0 := by cases c <;> rfl
      rw [k0]
      exact Nat.max_le.mpr ⟨Nat.max_le.mpr ⟨Nat.zero_le _, k _ _ e1⟩, pyAllK_depth k e2⟩
    · cases e
theorem pyD_depth {h : Hh} : ∀ (n : Nat) (w : W) (d : PyData), pyD h n w = some d → d.depth ≤ n
  | 0, _, _, e => nomatch e
  | n + 1, w, d, e => by
    have ih := pyD_depth (h := h) n
    unfold pyD at e
    split at e
    · cases e; exact Nat.zero_le _
    · cases e; exact Nat.zero_le _
    · cases e; exact Nat.zero_le _
    · cases e; exact Nat.zero_le _
    · obtain ⟨ds, e1, rfl⟩ := Option.map_eq_some_iff.mp e
      simp only [PyData.depth]
      exact Nat.succ_le_succ (pyAll_depth ih e1)
    · obtain ⟨ds, e1, rfl⟩ := Option.map_eq_some_iff.mp e
      simp only [PyData.depth]
      exact Nat.succ_le_succ (pyAll_depth ih e1)
    · split at e
      · obtain ⟨ds, e1, rfl⟩ := Option.map_eq_some_iff.mp e
        simp only [PyData.depth]
        exact Nat.succ_le_succ (pyAll_depth ih e1)
      · obtain ⟨ds, e1, rfl⟩ := Option.map_eq_some_iff.mp e
        simp only [PyData.depth]
        exact Nat.succ_le_succ (pyAllK_depth ih e1)
      · cases e
    · cases e
theorem repr_ok {h : Hh} {k n : Nat} {d : PyData} {w : W} (r : Rp h k d w) (hk : k < 12) (t : Wt d n) (hn : n ≤ 400000) : reprD [w] h = .ok (.str d.shown) h :=
  reprD_ok r hk t hn (Nat.le_trans (pyD_depth 12 w d (r 12 hk)) (by decide))
section
variable {h : Hh} {nw nr nn nm k d m : Nat} {rows L : List (Str × List Str)} {M : Str → MS} {x : Str} {bs l : List Str} {ms : MS}
theorem c63 {n : Nat} (l : n ≤ 1000) : 0 ≤ (n : Int) ∧ (n : Int) < 2 ^ 63 := by omega
theorem lenO_ok {C : Str} {F : List W → Hh → R W} {x : W} {j : Int} {h : Hh} (e : ownW C F x h = .ok (.int j) h) (c : 0 ≤ j ∧ j < 2 ^ 63) : lenO C F [x] h = .ok (.int j) h := by
  unfold lenO
  simp only [e, R.bind_ok]
  exact if_pos c
theorem lookup_row (w : WR rows L) {i : Nat} (e : rows[i]? = some (x, bs)) : rows.lookup x = some bs := by
  have nd := names_nodup w
  clear w
  induction rows generalizing i with
  | nil => simp at e
  | cons r rs ih =>
    obtain ⟨a, b⟩ := r
    have nd' := List.nodup_cons.mp nd
    cases i with
    | zero =>
      simp at e
      obtain ⟨rfl, rfl⟩ := e
      simp
    | succ i =>
      have e' : rs[i]? = some (x, bs) := by simpa using e
      have m : x ∈ rs.map (·.1) := List.mem_map.mpr ⟨_, List.mem_of_getElem? e', rfl⟩
      have ne : (x == a) = false := by
        simp only [beq_eq_false_iff_ne]
        intro z
        subst z
        exact nd'.1 m
      rw [List.lookup_cons, ne]
      exact ih e' nd'.2
theorem RowIn.fr {h h' : Hh} {S : List Nat} {r : Str × List Str} {w : W} (q : RowIn h k M r w) (f : Fr S h h') (hs : ∀ i ∈ S, i = k) : RowIn h' k M r w := by
  obtain ⟨d, e, g, n⟩ := q
  exact ⟨d, e, f.get g (fun z => n (hs _ z)), n⟩
/-- the world's state, read by its own properties -/
theorem state_wp (w : WR rows L) (km : ∀ x ∈ rows.map (·.1), MsOk (M x)) (o : WO h nw nr nn rows L M) :
    wpR (c__law_state [.loc nw] h) (fun r h' => r = .str (stateD M rows L).shown ∧ Fr [] h h') NoE := by
  refine wp_run ?_
  rw [show startW (["_law_world_here", "_law_found", "_law_name"] : List Str).length [W.loc nw] = [some (.loc nw), none, none] from rfl]
  unfold m__law_state
  have few := w.few
  have f1 : Fr [] h (h ++ [Ob.dct false (dL L)]) := .app
  have o1 := o.fr f1
  have s3 : (3 : Nat) ≤ Sz := by decide
  have lenw : ∀ {h : Hh}, WO h nw nr nn rows L M → lenO "World" c_World_len [.loc nw] h = .ok (.int rows.length) h := fun {h} o => by
    refine lenO_ok ?_ (c63 (by omega))
    unfold ownW
    simp only [o.ins, insW]
    rw [if_pos trivial, wlen_ok w o]
    rfl
  have prop : ∀ {h h' : Hh} {F : List W → Hh → R W} {s : Sg} {v : W}, WO h nw nr nn rows L M → F [.loc nw] h = .ok v h' → s[0]? = some (some (.loc nw)) → bProp "World" F (bV 0) s h = .ok v h' := fun {h h' F s v} o e e0 => by
    unfold bProp
    simp only [e_V, e0, R.bind_ok, o.ins, insW]
    rw [if_pos trivial, e]
    rfl
  have g1 := get_new (h := h ++ [Ob.dct false (dL L)]) (o := Ob.lst [tS (rows.map (·.1)), .loc h.length, .int rows.length])
  refine wp_step (s' := [some (.loc nw), some (.loc (h ++ [Ob.dct false (dL L)]).length), none]) (h' := h ++ [Ob.dct false (dL L)] ++ [Ob.lst [tS (rows.map (·.1)), .loc h.length, .int rows.length]]) ?_ ?_
  · rw [e_set, e_Lst, e_Cons, prop o (names_ok w o) rfl]
    simp only [R.bind_ok]
    rw [e_Cons, prop o (lin_ok o) rfl]
    simp only [R.bind_ok]
    rw [e_Cons, e_CallS, e_Cons]
    simp only [e_V, List.getElem?_cons_zero, R.bind_ok, e_Nil, lenw o1, sure_ok, List.length_cons, List.length_nil]
    rw [if_pos s3]
    rfl
  have gd := get_app (t := [Ob.lst [tS (rows.map (·.1)), .loc h.length, .int rows.length]]) (get_new (h := h) (o := Ob.dct false (dL L)))
  have f2 : Fr [] h (h ++ [Ob.dct false (dL L)] ++ [Ob.lst [tS (rows.map (·.1)), .loc h.length, .int rows.length]]) := f1.trans .app
  have o2 := o.fr f2
  have hk : h.length < (h ++ [Ob.dct false (dL L)]).length := by simp
  generalize ek : (h ++ [Ob.dct false (dL L)]).length = k at g1 hk
  generalize h ++ [Ob.dct false (dL L)] ++ [Ob.lst [tS (rows.map (·.1)), .loc h.length, .int rows.length]] = h2 at g1 gd f2 o2
  refine wp_seq (M := fun s h' => ∃ ws, s[1]? = some (some (.loc k)) ∧ h'[k]? = some (.lst ([tS (rows.map (·.1)), .loc h.length, .int rows.length] ++ ws)) ∧ h'[h.length]? = some (.dct false (dL L)) ∧ Al (RowIn h' k M) rows ws ∧ Fr [] h h') ?_ ?_
  · unfold sFor
    rw [e_iSeq, prop o2 (names_ok w o2) rfl]
    simp only [R.bind_ok, tS, srcSeq_tup, st_ok]
    refine for_ok0 (I := fun i s h' => ∃ y ws, s = [some (.loc nw), some (.loc k), y] ∧ h'[k]? = some (.lst ([tS (rows.map (·.1)), .loc h.length, .int rows.length] ++ ws)) ∧ h'[h.length]? = some (.dct false (dL L)) ∧ Al (RowIn h' k M) (rows.take i) ws ∧ WO h' nw nr nn rows L M ∧ Fr [] h h') ⟨_, [], rfl, g1, gd, rfl, o2, f2⟩ (fun i w' s h' ei I => ?_) (fun s h' I => ?_)
    · obtain ⟨y, ws, rfl, gk, gl, al, o', f⟩ := I
      rw [List.map_map, List.getElem?_map] at ei
      obtain ⟨⟨x, bs⟩, er, rfl⟩ := Option.map_eq_some_iff.mp ei
      have il := (List.getElem?_eq_some_iff.mp er).1
      have hx : x ∈ rows.map (·.1) := List.mem_map.mpr ⟨_, List.mem_of_getElem? er, rfl⟩
      have nx : isNb x = true := w.n x (by rw [w.v.names]; exact hx)
      have lx := lookup_row w er
      refine ⟨trivial, _, rfl, ?_⟩
      obtain ⟨m1, h3, e3, f3, g3⟩ := member_ok o' hx nx
      have o3 := o'.fr f3
      obtain ⟨bs', q1, q2⟩ := mem_bases_ok o3 hx g3
      rw [lx] at q1
      cases q1
      obtain ⟨m2, h4, e4, f4, g4⟩ := member_ok o3 hx nx
      have o4 := o3.fr f4
      have q4 := mem_methods_ok o4 hx g4
      have f5 : Fr [] h4 (h4 ++ [Ob.dct false (dM (srt (M x)))]) := .app
      have g5 := get_new (h := h4) (o := Ob.dct false (dM (srt (M x))))
      have lk := lt_of_get (f4.g0 (f3.g0 gk))
      have f35 : Fr [] h' (h4 ++ [Ob.dct false (dM (srt (M x)))]) := f3.trans (f4.trans f5)
      have cm : ∀ {h h' : Hh} {m : Nat}, WO h nw nr nn rows L M → c_World_member [.loc nw, .str x] h = .ok (.loc m) h' → bMe "World" "member" 2 c_World_member [] (bV 0) (bCons (bV 2) (bNil)) [some (.loc nw), some (.loc k), some (.str x)] h = .ok (.loc m) h' := fun {h h' m} o e =>
        bMe_ok (h1 := h) (h2 := h) (xs := [.str x]) rfl o.ins (lk_other (by decide +kernel) (by decide +kernel)) (by simp) rfl e
      have pm : ∀ {h h1 h' : Hh} {F : List W → Hh → R W} {e : FE} {s : Sg} {v : W} {m : Nat}, e s h = .ok (.loc m) h1 → h1[m]? = some (insM (.loc nw) (.str x)) → F [.loc m] h1 = .ok v h' → bProp "Member" F e s h = .ok v h' := fun {h h1 h' F e s v m} ee g ef => by
        unfold bProp
        rw [ee]
        simp only [R.bind_ok, g, insM]
        rw [if_pos trivial, ef]
        rfl
      have s2 : (2 : Nat) ≤ Sz := by decide
      have tu : bTup (bCons (bProp "Member" c_Member_bases (bMe "World" "member" 2 c_World_member [] (bV 0) (bCons (bV 2) (bNil)))) (bCons (bProp "Member" c_Member_methods (bMe "World" "member" 2 c_World_member [] (bV 0) (bCons (bV 2) (bNil)))) (bNil))) [some (.loc nw), some (.loc k), some (.str x)] h' = .ok (.tup [tS bs, .loc h4.length]) (h4 ++ [Ob.dct false (dM (srt (M x)))]) := by
        rw [e_Tup, e_Cons, pm (cm o' e3) g3 q2]
        simp only [R.bind_ok]
        rw [e_Cons, pm (cm o3 e4) g4 q4]
        simp only [R.bind_ok, e_Nil, List.length_cons, List.length_nil]
        exact if_pos s2
      have wl : ws.length = i := by rw [al.len, List.length_take]; omega
      have ap := appW_lst (w := .tup [tS bs, .loc h4.length]) (f35.g0 gk) (by
        rw [List.length_append]
        exact Nat.lt_of_le_of_lt (show 3 + ws.length ≤ 27 by omega) (by decide))
      refine wp_eq (a := .nx [some (.loc nw), some (.loc k), some (.str x)]) (h := (h4 ++ [Ob.dct false (dM (srt (M x)))]).set k (.lst ([tS (rows.map (·.1)), .loc h.length, .int rows.length] ++ ws ++ [W.tup [tS bs, .loc h4.length]]))) ?_ ?_
      · show sExp _ [some (.loc nw), some (.loc k), some (.str x)] h' = _
        rw [e_exp, e_Bm]
        simp only [e_V, List.getElem?_cons_succ, List.getElem?_cons_zero, R.bind_ok, tyB_lst gk, if_true]
        rw [e_Cons, tu]
        simp only [R.bind_ok, e_Nil, ap, sure_ok, st_ok]
      · have fS : Fr [k] (h4 ++ [Ob.dct false (dM (srt (M x)))]) ((h4 ++ [Ob.dct false (dM (srt (M x)))]).set k (.lst ([tS (rows.map (·.1)), .loc h.length, .int rows.length] ++ ws ++ [W.tup [tS bs, .loc h4.length]]))) := .set (by simp)
        have FF := (f.trans f35).young fS fun j hj => .inr (by rw [List.mem_singleton.mp hj]; omega)
        refine ⟨_, ws ++ [W.tup [tS bs, .loc h4.length]], rfl, ?_, ?_, ?_, o.fr FF, FF⟩
        · rw [get_set (f35.g0 gk), List.append_assoc]
        · exact get_set_ne (f35.g0 gl) (show k ≠ h.length by omega)
        · rw [List.take_succ, er]
          refine Al.app (al.mono fun r w q => (q.fr f35 (fun _ z => nomatch z)).fr fS fun j hj => List.mem_singleton.mp hj) (Al.one ⟨h4.length, rfl, get_set_ne g5 (show k ≠ h4.length by omega), by omega⟩)
    · obtain ⟨y, ws, rfl, gk, gl, al, o', f⟩ := I
      rw [List.map_map, List.length_map, List.take_length] at al
      exact ⟨trivial, ws, rfl, gk, gl, al, f⟩
  · rintro s h' ⟨ws, s1, gk, gl, al, f⟩
    have rs := rp_state gk gl al
    have e := repr_ok rs (by decide) (wt_state w km) (by decide)
    exact wp_eq (a := .rt (.str (stateD M rows L).shown)) (h := h') (by simp [s1, e]) ⟨rfl, f⟩
end
end WS

set_option Elab.async false
set_option linter.all false
set_option maxRecDepth 100000
set_option maxHeartbeats 4000000
namespace WS
open PySem PySem.Spec L2 NB
open PyProof.Rows hiding St
section
variable {h : Hh} {nw nr nn nm k d m : Nat} {rows L : List (Str × List Str)} {M : Str → MS} {x : Str} {bs l : List Str} {ms : MS}
/-- a class's methods in order, by the law -/
theorem own_dict {s : Sg} (s6 : s[6]? = some (some (.loc d))) (s7 : 7 < s.length) (ed : h[d]? = some (.dct false (dM ms))) (km : MsOk ms) :
    ∃ n h', bCallS dictW (bCons (bLc (iSeq (bCallS sortedW (bCons (bV 6) (bNil)))) (.nm 7) (bYes) (bTup (bCons (bV 7) (bCons (bOp ixG (bV 6) (bV 7)) (bNil)))) [7]) (bNil)) s h = .ok (.loc n) h' ∧ Fr [] h h' ∧ h.length ≤ n ∧ h'[n]? = some (.dct false (dM (srt ms))) := by
  have so := sorted_dM ed km.l3
  have g := get_new (h := h) (o := .lst ((sortS (keysM ms)).map .str))
  have f1 : Fr [] h (h ++ [.lst ((sortS (keysM ms)).map .str)]) := .app
  have s1 := srcSeq_lst g
  have sl : (sortS (keysM ms)).length ≤ 3 := by rw [sort_len, keys_len]; exact km.l3
  have t2 : (2 : Nat) ≤ Sz := by decide
  obtain ⟨rs, n, h', q, fr, l, gn, al⟩ := blc_al (it := iSeq (bCallS sortedW (bCons (bV 6) (bNil)))) (t := .nm 7) (c := bYes) (e := bTup (bCons (bV 7) (bCons (bOp ixG (bV 6) (bV 7)) (bNil)))) (vs := [7]) (s := s) (p := fun _ : Str => true) (f := fun z => (z, mAt ms z)) (A := fun z w => w = W.str z) (Q := fun _ y w => w = prW y) (h := h) (h0 := h ++ [.lst ((sortS (keysM ms)).map .str)]) (ws := (sortS (keysM ms)).map .str) (ck := fun h' => h'[h.length]? = some (.lst ((sortS (keysM ms)).map .str))) (as := sortS (keysM ms)) (by
      simp only [e_iSeq, e_CallS, e_Cons, e_Nil, e_V, s6, R.bind_ok, so, sure_ok, s1]) f1 al_refl (by rw [List.length_map]; exact Nat.le_trans sl (by decide)) (fun _ _ _ _ _ z => z) (fun z hz w h' aw fr => by
    subst aw
    have hz' := mem_sort.mp hz
    have ix := ixG_dct (y := .str z) (fr.g0 (f1.g0 ed)) rfl
    rw [getK_at hz'] at ix
    have w6 : ((wipeG s [7]).set 7 (some (W.str z)))[6]? = some (some (.loc d)) := by
      simp [wipeG, s6]
    have w7 : ((wipeG s [7]).set 7 (some (W.str z)))[7]? = some (some (.str z)) := by
      simp [wipeG, s7]
    refine ⟨fr.g0 g, (wipeG s [7]).set 7 (some (.str z)), go_nm, h', rfl, .refl, fun _ => ⟨prW (z, mAt ms z), h', ?_, .refl, rfl⟩⟩
    simp [w6, w7, ix, t2, prW]) (fun h' fr => fr.g0 g)
  rw [List.filter_eq_self.mpr fun _ _ => rfl] at al
  rw [al.eq] at gn
  have gn' : h'[n]? = some (.lst ((srt ms).map prW)) := gn
  have nd : (keysM (srt ms)).Nodup := (srt_ok km).nd
  have dp := dict_pr gn' nd
  refine ⟨h'.length, h' ++ [.dct false (dM (srt ms))], ?_, fr.trans .app, fr.1, get_new⟩
  rw [e_CallS, e_Cons, q]
  simp only [R.bind_ok, e_Nil, dp, sure_ok]
theorem due_wp (w : WR rows L) (e : h[nr]? = some (.lst (rows.map rW))) (em : MD h nm rows M) (km : ∀ x ∈ rows.map (·.1), MsOk (M x)) :
    wpR (c__law_due_state [.loc nr, .loc nm] h) (fun r h' => r = .str (stateD M rows L).shown ∧ Fr [] h h') NoE := by
  refine wp_run ?_
  rw [show startW (["_law_rows_here", "_law_methods_here", "_law_lines_here", "_law_found", "_law_name", "_law_bases", "_law_own", "_law_word"] : List Str).length [W.loc nr, .loc nm] = [some (.loc nr), some (.loc nm), none, none, none, none, none, none] from rfl]
  unfold m__law_due_state
  have few := w.few
  obtain ⟨_, h1, e1, kl, rfl, lk, g1, f1⟩ := wp_ex (lines_wp w e)
  have c := bFn_ok (n := 1) (f := c__law_lines) (a := bCons (bV 0) (bNil)) (s := [some (.loc nr), some (.loc nm), none, none, none, none, none, none]) (h := h) (h1 := h) (xs := [.loc nr]) (by simp) rfl e1
  refine wp_step (s' := [some (.loc nr), some (.loc nm), some (.loc kl), none, none, none, none, none]) (h' := h1) (by rw [e_set, c]; rfl) ?_
  have er1 := f1.g0 e
  have rz : (rows.map rW).length ≤ Sz := by rw [List.length_map]; exact Nat.le_trans few (by decide)
  obtain ⟨rs, n, h2, q2, f2, l2, g2, al2⟩ := blc_al (it := iSeq (bV 0)) (t := .tp [.nm 4, .nm 5]) (c := bYes) (e := bV 4) (vs := [4, 5]) (s := [some (.loc nr), some (.loc nm), some (.loc kl), none, none, none, none, none]) (p := fun _ : Str × List Str => true) (f := fun r => r.1) (A := fun r w => w = rW r) (Q := fun _ y w => w = W.str y) (h := h1) (h0 := h1) (ws := rows.map rW) (ck := fun h' => h'[nr]? = some (.lst (rows.map rW))) (as := rows) (by
      simp only [e_iSeq, e_V, List.getElem?_cons_zero, R.bind_ok, srcSeq_lst er1]) .refl al_refl rz (fun _ _ _ _ _ z => z) (fun r hr w h' aw fr => by
    subst aw
    exact ⟨fr.g0 er1, [some (.loc nr), some (.loc nm), some (.loc kl), none, some (.str r.1), some (tS r.2), none, none], by simp [rW, wipeG], h', rfl, .refl, fun _ => ⟨.str r.1, h', by simp, .refl, rfl⟩⟩) (fun h' fr => fr.g0 er1)
  rw [List.filter_eq_self.mpr fun _ _ => rfl] at al2
  have al2' : rs = (rows.map (·.1)).map W.str := al2.eq
  subst al2'
  have tu := tupleW_lst g2 (by rw [List.length_map, List.length_map]; exact Nat.le_trans few (by decide))
  have er2 := f2.g0 er1
  have s3 : (3 : Nat) ≤ Sz := by decide
  have g3 := get_new (h := h2) (o := Ob.lst [tS (rows.map (·.1)), .loc kl, .int rows.length])
  have f3 : Fr [] h2 (h2 ++ [Ob.lst [tS (rows.map (·.1)), .loc kl, .int rows.length]]) := .app
  refine wp_step (s' := [some (.loc nr), some (.loc nm), some (.loc kl), some (.loc h2.length), none, none, none, none]) (h' := h2 ++ [Ob.lst [tS (rows.map (·.1)), .loc kl, .int rows.length]]) ?_ ?_
  · have ln : lenW [.loc nr] h2 = .ok (.int rows.length) h2 := by simp [lenW_lst er2]
    rw [e_set, e_Lst, e_Cons, e_CallS, e_Cons, q2]
    simp only [R.bind_ok, e_Nil, tu, sure_ok, e_Cons, e_V, List.getElem?_cons_succ, List.getElem?_cons_zero, e_CallS, ln, List.length_cons, List.length_nil]
    rw [if_pos s3]
    rfl
  have F3 : Fr [] h (h2 ++ [Ob.lst [tS (rows.map (·.1)), .loc kl, .int rows.length]]) := f1.trans (f2.trans f3)
  have gl3 := f3.g0 (f2.g0 g1)
  have hl2 : h.length ≤ h2.length := (f1.trans f2).1
  have lkl := lt_of_get (f2.g0 g1)
  generalize h2 ++ [Ob.lst [tS (rows.map (·.1)), .loc kl, .int rows.length]] = h3 at g3 F3 gl3
  generalize h2.length = k at g3 hl2 lkl
  refine wp_seq (M := fun s h' => ∃ ws, s[3]? = some (some (.loc k)) ∧ h'[k]? = some (.lst ([tS (rows.map (·.1)), .loc kl, .int rows.length] ++ ws)) ∧ h'[kl]? = some (.dct false (dL L)) ∧ Al (RowIn h' k M) rows ws ∧ Fr [] h h') ?_ ?_
  · unfold sFor
    simp only [e_iSeq, e_V, List.getElem?_cons_zero, R.bind_ok, srcSeq_lst (F3.g0 e), st_ok]
    refine for_ok0 (I := fun i s h' => ∃ y4 y5 y6 y7 ws, s = [some (.loc nr), some (.loc nm), some (.loc kl), some (.loc k), y4, y5, y6, y7] ∧ h'[k]? = some (.lst ([tS (rows.map (·.1)), .loc kl, .int rows.length] ++ ws)) ∧ h'[kl]? = some (.dct false (dL L)) ∧ Al (RowIn h' k M) (rows.take i) ws ∧ Fr [] h h') ⟨_, _, _, _, [], rfl, g3, gl3, rfl, F3⟩ (fun i w' s h' ei I => ?_) (fun s h' I => ?_)
    · obtain ⟨y4, y5, y6, y7, ws, rfl, gk, gl, al, f⟩ := I
      rw [List.getElem?_map] at ei
      obtain ⟨⟨x, bs⟩, er, rfl⟩ := Option.map_eq_some_iff.mp ei
      have il := (List.getElem?_eq_some_iff.mp er).1
      have hx : x ∈ rows.map (·.1) := List.mem_map.mpr ⟨_, List.mem_of_getElem? er, rfl⟩
      refine ⟨f.g0 e, [some (.loc nr), some (.loc nm), some (.loc kl), some (.loc k), some (.str x), some (tS bs), y6, y7], by simp [rW], ?_⟩
      obtain ⟨kvs, ek, hk⟩ := em.fr f
      obtain ⟨d, gd, ed⟩ := hk x hx
      have f5 : Fr [] h' (h' ++ [Ob.dct false []]) := .app
      refine wp_step (s' := [some (.loc nr), some (.loc nm), some (.loc kl), some (.loc k), some (.str x), some (tS bs), some (.loc d), y7]) (h' := h' ++ [Ob.dct false []]) ?_ ?_
      · have ek2 := f5.g0 ek
        have kx : keyW (.str x) = some (.inr x) := rfl
        simp [tyB_dct' (b := false) ek, ek2, gd]
      obtain ⟨n, h6, e6, f6, l6, g6⟩ := own_dict (s := [some (.loc nr), some (.loc nm), some (.loc kl), some (.loc k), some (.str x), some (tS bs), some (.loc d), y7]) rfl (by decide : 7 < 8) (f5.g0 ed) (km x hx)
      have f56 := f5.trans f6
      have lk := lt_of_get gk
      have l7 := f5.1
      have wl : ws.length = i := by rw [al.len, List.length_take]; omega
      have ap := appW_lst (w := .tup [tS bs, .loc n]) (f56.g0 gk) (by
        rw [List.length_append]
        exact Nat.lt_of_le_of_lt (show 3 + ws.length ≤ 27 by omega) (by decide))
      have t2 : (2 : Nat) ≤ Sz := by decide
      have fS : Fr [k] h6 (h6.set k (.lst ([tS (rows.map (·.1)), .loc kl, .int rows.length] ++ ws ++ [.tup [tS bs, .loc n]]))) := .set (by simp)
      have FF := (f.trans f56).young fS fun j hj => .inr (by rw [List.mem_singleton.mp hj]; omega)
      refine wp_eq (a := .nx [some (.loc nr), some (.loc nm), some (.loc kl), some (.loc k), some (.str x), some (tS bs), some (.loc d), y7]) (h := h6.set k (.lst ([tS (rows.map (·.1)), .loc kl, .int rows.length] ++ ws ++ [.tup [tS bs, .loc n]]))) ?_ ⟨_, _, _, _, ws ++ [W.tup [tS bs, .loc n]], rfl, ?_, ?_, ?_, FF⟩
      · have ty := tyB_lst (f5.g0 gk)
        rw [e_exp, e_Bm]
        simp only [e_V, List.getElem?_cons_succ, List.getElem?_cons_zero, R.bind_ok, ty, if_true]
        rw [e_Cons, e_Tup, e_Cons, e_V]
        simp only [List.getElem?_cons_succ, List.getElem?_cons_zero, R.bind_ok]
        rw [e_Cons, e6]
        simp only [R.bind_ok, e_Nil, List.length_cons, List.length_nil]
        rw [if_pos t2]
        simp only [R.bind_ok, ap, sure_ok, st_ok]
      · rw [get_set (f56.g0 gk), List.append_assoc]
      · exact get_set_ne (f56.g0 gl) (show k ≠ kl by omega)
      · rw [List.take_succ, er]
        have lh : h'.length ≤ (h' ++ [Ob.dct false []]).length := f5.1
        refine Al.app (al.mono fun r w q => (q.fr f56 (fun _ z => nomatch z)).fr fS fun j hj => List.mem_singleton.mp hj) (Al.one ⟨n, rfl, get_set_ne g6 (show k ≠ n by omega), by omega⟩)
    · obtain ⟨y4, y5, y6, y7, ws, rfl, gk, gl, al, f⟩ := I
      rw [List.length_map, List.take_length] at al
      exact ⟨f.g0 e, ws, rfl, gk, gl, al, f⟩
  · rintro s h' ⟨ws, s1, gk, gl, al, f⟩
    have rs := rp_state gk gl al
    have e := repr_ok rs (by decide) (wt_state w km) (by decide)
    exact wp_eq (a := .rt (.str (stateD M rows L).shown)) (h := h') (by simp [s1, e]) ⟨rfl, f⟩
end
end WS

set_option Elab.async false
set_option linter.all false
set_option maxRecDepth 100000
set_option maxHeartbeats 4000000
namespace W62
open PySem PySem.Spec L2 NB WS
open PyProof.Rows hiding St
theorem letters_small : ∀ c ∈ lettersS.cps.toList, c < 256 := by decide +kernel
def Sm (z : Str) : Prop := ∀ c ∈ z.cps.toList, c < 256
theorem Sm.app {a b : Str} (x : Sm a) (y : Sm b) : Sm (a ++ b) := fun c hc => by
  rw [app_list] at hc
  exact (List.mem_append.mp hc).elim (x c) (y c)
theorem Sm.join {a : Str} (x : Sm a) : ∀ {ys : List Str}, (∀ y ∈ ys, Sm y) → Sm (Txt.join a ys) := by
  intro ys h
  rw [TL.join_eq]
  induction ys with
  | nil => intro c hc; exact nomatch hc
  | cons y ys ih =>
    cases ys with
    | nil => exact h y List.mem_cons_self
    | cons z ys => exact ((h y List.mem_cons_self).app x).app (ih fun q hq => h q (List.mem_cons_of_mem _ hq))
theorem sm_of {z : Str} (h : z.cps.toList.all (fun c => decide (c < 256)) = true) : Sm z := fun c hc => by
  have := List.all_eq_true.mp h c hc
  simpa using this
theorem sm_s1 : Sm " " := sm_of (by decide +kernel)
theorem sm_nl : Sm "\n" := sm_of (by decide +kernel)
theorem sm_name {z : Str} (h : isNb z = true) : Sm z := fun c hc => by
  unfold isNb at h
  simp only [Bool.and_eq_true, List.all_eq_true, decide_eq_true_eq] at h
  exact letters_small c (h.2 c hc)
theorem sm_words {l : List Str} (k : WordsOk l) : Sm (Txt.join " " l) := Sm.join sm_s1 fun z hz => sm_name (k.2 z hz)
theorem sm_part {l : List Str} (k : WordsOk l) : Sm (partS l) := by
  unfold partS
  split
  · exact sm_of (by decide +kernel)
  · exact sm_words k
theorem sm_third {m : Mth} (k : MOk m) : Sm (thirdS m.passes) := by
  cases e : m.passes with
  | none => exact sm_of (by decide +kernel)
  | some l =>
    have r := k.p l e
    cases l with
    | nil => exact sm_of (by decide +kernel)
    | cons a l => exact Sm.app (sm_of (by decide +kernel)) (sm_words r.words)
theorem sm_ml {x : Str} {m : Mth} (hx : isNb x = true) (k : MOk m) : Sm (mlS x m) := by
  unfold mlS
  refine Sm.join (sm_of (by decide +kernel)) fun y hy => ?_
  simp only [List.mem_cons, List.not_mem_nil, or_false] at hy
  rcases hy with rfl | rfl | rfl | rfl | rfl
  · exact Sm.app (sm_of (by decide +kernel)) (sm_name hx)
  · exact sm_part k.t.words
  · exact sm_part k.b
  · exact sm_third k
  · exact sm_part k.a
section
variable {h : Hh} {n nr B : Nat} {rows L : List (Str × List Str)}
theorem text_rd (w : WR rows L) {M : Str → MS} (km : ∀ x ∈ rows.map (·.1), MsOk (M x)) : Wt (.str (textS M rows)) 20000 := by
  refine .str (Sm.join sm_nl fun y hy => ?_) (text_small w km)
  unfold linesS at hy
  obtain ⟨⟨x, bs⟩, hr, hy⟩ := List.mem_flatMap.mp hy
  have hx : x ∈ rows.map (·.1) := List.mem_map.mpr ⟨_, hr, rfl⟩
  have nm : ∀ z ∈ rows.map (·.1), isNb z = true := fun z hz => w.n z (by rw [w.v.names]; exact hz)
  rcases List.mem_cons.mp hy with rfl | hy
  · unfold clS
    refine Sm.join sm_s1 fun y hy => ?_
    rcases List.mem_cons.mp hy with rfl | hy
    · exact sm_of (by decide +kernel)
    · rcases List.mem_cons.mp hy with rfl | hy
      · exact sm_name (nm _ hx)
      · exact sm_name (nm y ((w.v.row x bs hr).2 y hy))
  · have k := km x hx
    unfold mlsS at hy
    obtain ⟨z, hz, rfl⟩ := List.mem_map.mp hy
    have hz' := mem_sort.mp hz
    exact sm_ml (k.nm z hz').1 (k.ok _ (mem_mAt hz'))
theorem right_wp (hs : Src n B h) (hB : B < 20000) (w : WR rows L) (e : h[nr]? = some (.lst (rows.map rW))) (ne : nr ≠ n) :
    wpR (c__law_right [.loc n, .loc nr] h) (fun r h' => r = .bl true) NoE := by
  refine wp_run ?_
  rw [show startW (["_law_source_here", "_law_rows_here", "_law_methods_here", "_law_world_here", "_law_due"] : List Str).length [W.loc n, .loc nr] = [some (.loc n), some (.loc nr), none, none, none] from rfl]
  unfold m__law_right
  obtain ⟨_, h1, e1, nm, M, rfl, md, km, f1, s1⟩ := wp_ex (methods_wp hs hB w e ne)
  have c1 := bFn_ok (n := 2) (f := WS.c__law_methods) (a := bCons (bV 0) (bCons (bV 1) (bNil))) (s := [some (.loc n), some (.loc nr), none, none, none]) (h := h) (h1 := h) (xs := [.loc n, .loc nr]) (by simp) rfl e1
  refine wp_step (s' := [some (.loc n), some (.loc nr), some (.loc nm), none, none]) (h' := h1) (by rw [e_set, c1]; rfl) ?_
  have er1 := f1.get e (by simpa using ne)
  obtain ⟨_, h2, e2, nw, nr2, nn, rfl, wo, f2⟩ := wp_ex (world_wp w er1 md km)
  have er2 := f2.g0 er1
  have md2 := md.fr f2
  obtain ⟨_, h3, e3, kt, rfl, g3, f3⟩ := wp_ex (text_lines_wp w er2 md2 km)
  have j3 := join_lines (h := h3) (w := .loc kt) w km (by simp only [seqW, g3])
  have c2 := bFn_ok (n := 2) (f := WS.c__law_world) (a := bCons (bV 1) (bCons (bV 2) (bNil))) (s := [some (.loc n), some (.loc nr), some (.loc nm), none, none]) (h := h1) (h1 := h1) (xs := [.loc nr, .loc nm]) (by simp) rfl e2
  have c3 := bFn_ok (n := 2) (f := WS.c__law_text_lines) (a := bCons (bV 1) (bCons (bV 2) (bNil))) (s := [some (.loc n), some (.loc nr), some (.loc nm), none, none]) (h := h2) (h1 := h2) (xs := [.loc nr, .loc nm]) (by simp) rfl e3
  refine wp_step (s' := [some (.loc n), some (.loc nr), some (.loc nm), some (.loc nw), some (.str (textS M rows))]) (h' := h3) ?_ ?_
  · rw [e_par, e_Cons, c2]
    simp only [R.bind_ok]
    rw [e_Cons, e_Bm]
    simp only [e_C, R.bind_ok, tyB_str, if_true]
    rw [e_Cons, c3]
    simp only [R.bind_ok, e_Nil, j3, sure_ok, st_ok]
    rfl
  have wo3 := wo.fr f3
  obtain ⟨h4, e4, f4⟩ := world_text_ok w km wo3
  have wo4 := wo3.fr f4
  obtain ⟨h5, e5, f5⟩ := world_str_ok w km wo4
  have wo5 := wo4.fr f5
  obtain ⟨nw2, nr3, nn3, h6, e6, wo6, f6⟩ := copy_ok wo5
  obtain ⟨h7, e7, f7⟩ := world_text_ok w km wo6
  generalize ht : textS M rows = t at e4 e5 e7
  have tw : Wt (.str t) 20000 := by rw [← ht]; exact text_rd w km
  have three : ∀ h : Hh, ∀ k, h[k]? = some (.lst [.str t, .str t, .str t]) → reprD [.loc k] h = .ok (.str (PyData.list [.str t, .str t, .str t]).shown) h := fun h k e =>
    repr_ok (k := 1) (Rp.lst (k := 0) e ⟨_, _, rfl, .str, _, _, rfl, .str, _, _, rfl, .str, rfl⟩) (by decide) ((WtA.cons tw (.cons tw (.cons tw (.nil (n := 0))))).lst) (by decide)
  have g7 := get_new (h := h7) (o := Ob.lst [.str t, .str t, .str t])
  have wo7 := (wo6.fr f7).fr (Fr.app (t := [Ob.lst [.str t, .str t, .str t]]))
  have s3 : (3 : Nat) ≤ Sz := by decide
  have s1' : (1 : Nat) ≤ Sz := by decide
  have d4 := bFn_ok (n := 1) (f := WS.c_world_text) (a := bCons (bV 3) (bNil)) (s := [some (.loc n), some (.loc nr), some (.loc nm), some (.loc nw), some (.str t)]) (h := h3) (h1 := h3) (xs := [.loc nw]) (by simp) rfl e4
  have d5 : strO "World" WS.c_World_str [.loc nw] h4 = .ok (.str t) h5 := by
    unfold strO ownW
    simp only [wo4.ins, insW]
    rw [if_pos trivial, e5]
    rfl
  have d6 := bMe_ok (C := "World") (m := "copy") (n := 1) (f := WS.c_World_copy) (o := bV 3) (a := bNil) (s := [some (.loc n), some (.loc nr), some (.loc nm), some (.loc nw), some (.str t)]) (h := h5) (h1 := h5) (h2 := h5) (xs := []) rfl wo5.ins (lk_other (by decide +kernel) (by decide +kernel)) rfl rfl e6
  have d7 := bFn_ok (n := 1) (f := WS.c_world_text) (a := bCons (bMe "World" "copy" 1 WS.c_World_copy [] (bV 3) bNil) (bNil)) (s := [some (.loc n), some (.loc nr), some (.loc nm), some (.loc nw), some (.str t)]) (h := h5) (h1 := h6) (xs := [.loc nw2]) (by rw [e_Cons, d6]; rfl) rfl e7
  obtain ⟨h8, eh8⟩ : ∃ H, H = h7 ++ [Ob.lst [.str t, .str t, .str t]] := ⟨_, rfl⟩
  have ap8 : Fr [] h7 h8 := by rw [eh8]; exact .app
  rw [← eh8] at g7
  have r8 := three _ _ g7
  have lhs : bCallS reprD (bCons (bLst (bCons (bFn 1 WS.c_world_text [] (bCons (bV 3) (bNil))) (bCons (bCallS (strO "World" WS.c_World_str) (bCons (bV 3) (bNil))) (bCons (bFn 1 WS.c_world_text [] (bCons (bMe "World" "copy" 1 WS.c_World_copy [] (bV 3) bNil) (bNil))) (bNil))))) (bNil)) [some (.loc n), some (.loc nr), some (.loc nm), some (.loc nw), some (.str t)] h3 = .ok (.str (PyData.list [.str t, .str t, .str t]).shown) h8 := by
    rw [e_CallS, e_Cons, e_Lst, e_Cons, d4]
    simp only [R.bind_ok]
    rw [e_Cons, e_CallS, e_Cons]
    simp only [e_V, List.getElem?_cons_succ, List.getElem?_cons_zero, R.bind_ok, e_Nil, d5, sure_ok]
    rw [e_Cons, d7]
    simp only [R.bind_ok, e_Nil, List.length_cons, List.length_nil]
    rw [if_pos s3, ← eh8]
    simp only [R.bind_ok, r8, sure_ok]
  obtain ⟨h9, eh9⟩ : ∃ H, H = h8 ++ [Ob.lst [.str t]] := ⟨_, rfl⟩
  have ap9 : Fr [] h8 h9 := by rw [eh9]; exact .app
  have g9 : h9[h8.length]? = some (.lst [.str t]) := by rw [eh9]; exact get_new
  have g10 := get_new (h := h9) (o := Ob.lst [.str t, .str t, .str t])
  have r10 := three _ _ g10
  have ap10 : Fr [] h9 (h9 ++ [Ob.lst [.str t, .str t, .str t]]) := .app
  have mu : mulW (.loc h8.length) (.int 3) h9 = .ok (.loc h9.length) (h9 ++ [Ob.lst [.str t, .str t, .str t]]) := by
    unfold mulW
    simp only [g9]
    exact if_pos ⟨by decide, by decide, s3⟩
  generalize h9 ++ [Ob.lst [.str t, .str t, .str t]] = h10 at r10 ap10 mu g10
  have rhs : bCallS reprD (bCons (bOp mulW (bLst (bCons (bV 4) (bNil))) (bC (.int 3))) (bNil)) [some (.loc n), some (.loc nr), some (.loc nm), some (.loc nw), some (.str t)] h8 = .ok (.str (PyData.list [.str t, .str t, .str t]).shown) h10 := by
    rw [e_CallS, e_Cons, e_Op, e_Lst, e_Cons]
    simp only [e_V, List.getElem?_cons_succ, List.getElem?_cons_zero, R.bind_ok, e_Nil, List.length_cons, List.length_nil]
    rw [if_pos s1', ← eh9]
    simp only [R.bind_ok, e_C, mu, sure_ok, r10]
  have F := f4.trans (f5.trans (f6.trans (f7.trans (ap8.trans (ap9.trans ap10)))))
  refine wp_step (s' := [some (.loc n), some (.loc nr), some (.loc nm), some (.loc nw), some (.str t)]) (h' := h10) ?_ ?_
  · rw [e_if, e_Tc, e_Op, lhs]
    simp only [R.bind_ok]
    rw [rhs]
    simp
  have FF := f3.trans F
  obtain ⟨_, h11, e11, rfl, f11⟩ := wp_ex (state_wp w km (wo3.fr F))
  obtain ⟨_, h12, e12, rfl, f12⟩ := wp_ex (due_wp w ((FF.trans f11).g0 er2) ((md2.fr FF).fr f11) km)
  have c11 := bFn_ok (n := 1) (f := WS.c__law_state) (a := bCons (bV 3) (bNil)) (s := [some (.loc n), some (.loc nr), some (.loc nm), some (.loc nw), some (.str t)]) (h := h10) (h1 := h10) (xs := [.loc nw]) (by simp) rfl e11
  have c12 := bFn_ok (n := 2) (f := WS.c__law_due_state) (a := bCons (bV 1) (bCons (bV 2) (bNil))) (s := [some (.loc n), some (.loc nr), some (.loc nm), some (.loc nw), some (.str t)]) (h := h11) (h1 := h11) (xs := [.loc nr, .loc nm]) (by simp) rfl e12
  refine wp_eq (a := .rt (.bl true)) (h := h12) ?_ rfl
  rw [e_ret, e_Op, c11]
  simp only [R.bind_ok]
  rw [c12]
  simp
end
end W62

set_option Elab.async false
set_option linter.all false
set_option maxRecDepth 100000
set_option maxHeartbeats 4000000
namespace W62
open PySem PySem.Spec L2 NB WS
open PyProof.Rows hiding St
theorem loop_wp {ns : List Int} (hn : ns.length ≤ 63) {P : Fl → Hh → Prop} (hP : ∀ y1 y2 h, P (.nx [some (.rls (ns.map W.int)), y1, y2, none, none]) h) :
    wpR (sFor (iRange1 (bCons (bCallS maxW (bCons (bC (.int 1)) (bCons (bCallS minW (bCons (bC (.int 3)) (bCons (bCallS lenW (bCons (bV 0) (bNil))) (bNil)))) (bNil)))) (bNil))) (.nm 1) (sSeq (sSet 2 (bFn 2 WS.c__law_source [] (bCons (bV 0) (bCons (bV 1) (bNil))))) (sIf (bNot (bT (bFn 2 c__law_right [] (bCons (bV 2) (bCons (bFn 3 WS.c__law_rows [] (bCons (bV 2) (bCons (bFn 2 WS.c__law_next [] (bCons (bV 2) (bCons (bC (.int 9)) (bNil)))) (bCons (bC (.int 3)) (bNil))))) (bNil)))))) (sRet (bC (.bl false))) (sPass))) [some (.rls (ns.map W.int)), none, none, none, none] []) P NoE := by
  unfold sFor
  obtain ⟨j, ej, j3⟩ : ∃ j : Nat, iRange1 (bCons (bCallS maxW (bCons (bC (.int 1)) (bCons (bCallS minW (bCons (bC (.int 3)) (bCons (bCallS lenW (bCons (bV 0) (bNil))) (bNil)))) (bNil)))) (bNil)) [some (.rls (ns.map W.int)), none, none, none, none] [] = .ok ⟨rngW 0 j, fun _ => True⟩ [] ∧ j ≤ 3 := by
    have ln : lenW [.rls (ns.map W.int)] [] = .ok (.int (ns.length : Int)) [] := by
      unfold lenW lenB
      simp
    refine ⟨(if (if (ns.length : Int) < 3 then (ns.length : Int) else 3) > 1 then (if (ns.length : Int) < 3 then (ns.length : Int) else 3) else 1).toNat, ?_, ?_⟩
    · unfold iRange1
      simp only [e_Cons, e_CallS, e_C, e_V, List.getElem?_cons_zero, R.bind_ok, e_Nil, ln, sure_ok, minW, maxW]
      rw [if_pos]
      constructor <;> split <;> split <;> omega
    · split <;> split <;> omega
  rw [ej]
  simp only [st_ok]
  refine for_ok0 (I := fun i s h' => ∃ y1 y2, s = [some (.rls (ns.map W.int)), y1, y2, none, none]) ⟨_, _, rfl⟩ (fun i w s h ei I => ?_) (fun s h' I => ?_)
  · obtain ⟨y1, y2, rfl⟩ := I
    obtain ⟨li, rfl⟩ := rng_get ei
    refine ⟨trivial, _, rfl, ?_⟩
    obtain ⟨_, h1, e1, n, rfl, ln, f1, s1⟩ := wp_ex (source_wp (h := h) (ns := ns) (k := i) (by omega))
    have c1 := bFn_ok (n := 2) (f := WS.c__law_source) (a := bCons (bV 0) (bCons (bV 1) (bNil))) (s := [some (.rls (ns.map W.int)), some (.int (i : Int)), y2, none, none]) (h := h) (h1 := h) (xs := [.rls (ns.map W.int), .int (i : Int)]) (by simp) rfl e1
    refine wp_step (s' := [some (.rls (ns.map W.int)), some (.int (i : Int)), some (.loc n), none, none]) (h' := h1) ?_ ?_
    · show sSet 2 _ [some (.rls (ns.map W.int)), some (.int (i : Int)), y2, none, none] h = _
      rw [e_set, c1]
      rfl
    obtain ⟨x, h2, e2, xl, f2, s2⟩ := next_ok (m := 9) s1 (by decide) (by decide) (by decide)
    obtain ⟨_, h3, e3, kr, rows, L, rfl, lkr, er, w, l10, _, f3, s3⟩ := wp_ex (rows_wp (many := x) s2 (by decide) (by omega))
    have nk : kr ≠ n := by have := s2.lt; omega
    obtain ⟨_, h4, e4, rfl⟩ := wp_ex (right_wp s3 (by decide) w er nk)
    have c2 := bFn_ok (n := 2) (f := WS.c__law_next) (a := bCons (bV 2) (bCons (bC (.int 9)) (bNil))) (s := [some (.rls (ns.map W.int)), some (.int (i : Int)), some (.loc n), none, none]) (h := h1) (h1 := h1) (xs := [.loc n, .int 9]) (by simp) rfl e2
    have c3 := bFn_ok (n := 3) (f := WS.c__law_rows) (a := bCons (bV 2) (bCons (bFn 2 WS.c__law_next [] (bCons (bV 2) (bCons (bC (.int 9)) (bNil)))) (bCons (bC (.int 3)) (bNil)))) (s := [some (.rls (ns.map W.int)), some (.int (i : Int)), some (.loc n), none, none]) (h := h1) (h1 := h2) (xs := [.loc n, .int (x : Int), .int 3]) (by
      simp only [e_Cons, e_V, List.getElem?_cons_succ, List.getElem?_cons_zero, R.bind_ok, c2, e_C, e_Nil]) rfl e3
    have c4 := bFn_ok (n := 2) (f := c__law_right) (a := bCons (bV 2) (bCons (bFn 3 WS.c__law_rows [] (bCons (bV 2) (bCons (bFn 2 WS.c__law_next [] (bCons (bV 2) (bCons (bC (.int 9)) (bNil)))) (bCons (bC (.int 3)) (bNil))))) (bNil))) (s := [some (.rls (ns.map W.int)), some (.int (i : Int)), some (.loc n), none, none]) (h := h1) (h1 := h3) (xs := [.loc n, .loc kr]) (by
      simp only [e_Cons, e_V, List.getElem?_cons_succ, List.getElem?_cons_zero, R.bind_ok, c3, e_Nil]) rfl e4
    refine wp_eq (a := .nx [some (.rls (ns.map W.int)), some (.int (i : Int)), some (.loc n), none, none]) (h := h4) ?_ ⟨_, _, rfl⟩
    rw [e_if, e_Not, e_T, c4]
    simp
  · obtain ⟨y1, y2, rfl⟩ := I
    exact ⟨trivial, hP _ _ _⟩
end W62

set_option Elab.async false
set_option linter.all false
set_option maxRecDepth 100000
set_option maxHeartbeats 4000000
namespace W62
open PySem PySem.Spec L2 NB WS
open PyProof.Rows hiding St
def goodM : MS := [("z", ⟨[], [], some [], []⟩), ("a", ⟨["o", "p"], ["u", "u"], none, []⟩), ("talk", ⟨["q"], [], some ["o", "q"], ["w"]⟩)]
def dueS : Str := (Txt.join "\n" [Txt.join " " ["class", "b"], Txt.join " | " ["method a", "o p", "u u", "stop", "-"], Txt.join " | " ["method talk", "q", "-", "+ o q", "w"], Txt.join " | " ["method z", "-", "-", "+", "-"]])
theorem due_text : textS (fun _ => goodM) [("b", [])] = dueS := by decide +kernel
theorem none_text {M : Str → MS} : textS M [] = "" := rfl
theorem goodRow : ∀ l ∈ ([[], ["o", "p"], ["q"], ["o", "q"]] : List (List Str)), l.Nodup ∧ l.length ≤ 4 ∧ ∀ z ∈ l, isNb z = true := by decide +kernel
theorem goodWords : ∀ l ∈ ([[], ["u", "u"], ["w"]] : List (List Str)), l.length ≤ 4 ∧ ∀ z ∈ l, isNb z = true := by decide +kernel
theorem good_ok : MsOk goodM := by
  refine ⟨by decide +kernel, by decide, by decide +kernel, fun p hp => ?_⟩
  unfold goodM at hp
  simp only [List.mem_cons, List.not_mem_nil, or_false] at hp
  rcases hp with rfl | rfl | rfl
  · exact ⟨goodRow _ (by simp), goodWords _ (by simp), goodWords _ (by simp), fun z => (nomatch z), fun l z => by cases z; exact goodRow _ (by simp)⟩
  · exact ⟨goodRow _ (by simp), goodWords _ (by simp), goodWords _ (by simp), fun _ => rfl, fun l z => nomatch z⟩
  · exact ⟨goodRow _ (by simp), goodWords _ (by simp), goodWords _ (by simp), fun z => (nomatch z), fun l z => by cases z; exact goodRow _ (by simp)⟩
end W62

set_option Elab.async false
set_option linter.all false
set_option maxRecDepth 100000
set_option maxHeartbeats 4000000
namespace W62
open PySem PySem.Spec L2 NB WS
open PyProof.Rows hiding St
theorem disp_good (s : Sg) (h : Hh) : ∃ h', bDisp [(.inr "z", bTup (bCons (bTup (bNil)) (bCons (bTup (bNil)) (bCons (bTup (bNil)) (bCons (bTup (bNil)) (bNil)))))), (.inr "a", bTup (bCons (bTup (bCons (bC (.str "o")) (bCons (bC (.str "p")) (bNil)))) (bCons (bTup (bCons (bC (.str "u")) (bCons (bC (.str "u")) (bNil)))) (bCons (bC .non) (bCons (bTup (bNil)) (bNil)))))), (.inr "talk", bTup (bCons (bTup (bCons (bC (.str "q")) (bNil))) (bCons (bTup (bNil)) (bCons (bTup (bCons (bC (.str "o")) (bCons (bC (.str "q")) (bNil)))) (bCons (bTup (bCons (bC (.str "w")) (bNil))) (bNil))))))] s h = .ok (.loc h.length) h' ∧ h'[h.length]? = some (.dct false (dM goodM)) ∧ Fr [] h h' := by
  have s0 : (0 : Nat) ≤ Sz := by decide
  have s1 : (1 : Nat) ≤ Sz := by decide
  have s2 : (2 : Nat) ≤ Sz := by decide
  have s4 : (4 : Nat) ≤ Sz := by decide
  have g := get_new (h := h) (o := Ob.dct false [])
  have mg : mergeW [] (dM goodM) = dM goodM := by
    rw [merge_new goodM [] good_ok.nd fun _ _ => rfl, List.nil_append]
  have l3 : (dM goodM).length ≤ 15 := by decide
  have q : ∀ fs : List (Key × FE), dispR s fs [] (h ++ [.dct false []]) = .ok (dM goodM) (h ++ [.dct false []]) → bDisp fs s h = .ok (.loc h.length) ((h ++ [Ob.dct false []]).set h.length (.dct false (dM goodM))) := fun fs e => by
    unfold bDisp
    rw [e]
    simp only [R.bind_ok, g]
    rw [if_pos l3, mg]
  refine ⟨_, q _ ?_, get_set g, (Fr.app (S := [])).young (.set (S := [h.length]) (by simp)) fun i hi => .inr (by rw [List.mem_singleton.mp hi]; exact Nat.le_refl _)⟩
  simp [dispR, s0, s1, s2, s4]
  rfl
end W62

set_option Elab.async false
set_option linter.all false
set_option maxRecDepth 100000
set_option maxHeartbeats 4000000
namespace W62
open PySem PySem.Spec L2 NB WS
open PyProof.Rows hiding St
theorem wr_nil : WR [] [] := ⟨.nil, fun x h => (nomatch h), by decide, fun x bs h => (nomatch h)⟩
theorem line_b : lineR ([] : List (Str × List Str)) ("b" : Str) [] = some [("b" : Str)] := by decide +kernel
theorem wr_b : WR [("b", [])] [("b", ["b"])] := by
  refine ⟨VR.snoc (rows := []) (L := []) .nil (fun h => nomatch h) (fun b h => nomatch h) List.nodup_nil line_b, fun x hx => ?_, by decide, fun x bs hb => ?_⟩
  · simp at hx
    subst hx
    decide +kernel
  · simp at hb
    rw [hb.2]
    decide
theorem law_wp {ns : List Int} (hn : ns.length ≤ 63) : wpR (c_law [.rls (ns.map W.int)] []) (fun w _ => w = .bl true) NoE := by
  refine wp_run ?_
  rw [show startW (["_law_script", "_law_k", "_law_source_here", "_law_good", "_law_due"] : List Str).length [W.rls (ns.map W.int)] = [some (.rls (ns.map W.int)), none, none, none, none] from rfl]
  unfold m_law
  refine wp_seq (M := fun s _ => ∃ y1 y2, s = [some (.rls (ns.map W.int)), y1, y2, none, none]) (loop_wp hn fun y1 y2 h => ⟨y1, y2, rfl⟩) ?_
  rintro s h ⟨y1, y2, rfl⟩
  obtain ⟨h1, e1, g1, f1⟩ := disp_good [some (.rls (ns.map W.int)), y1, y2, none, none] h
  refine wp_step (s' := [some (.rls (ns.map W.int)), y1, y2, some (.loc h.length), none]) (h' := h1) (by rw [e_set, e1]; rfl) ?_
  generalize h.length = d at g1
  refine wp_step (s' := [some (.rls (ns.map W.int)), y1, y2, some (.loc d), some (.str dueS)]) (h' := h1) rfl ?_
  have cS : (1 : Nat) ≤ Sz := by decide
  have cS2 : (2 : Nat) ≤ Sz := by decide
  -- the empty world
  obtain ⟨h2, e2, f2, i1, i2, i3⟩ := init_ok h1.length (h := h1 ++ [.ins "World" []]) get_new
  have l1 : (h1 ++ [Ob.ins "World" []]).length = h1.length + 1 := by simp
  rw [l1] at i1 i2 i3
  have F2 : Fr [] h1 h2 := (Fr.app (S := [])).young f2 fun i hi => .inr (by rw [List.mem_singleton.mp hi]; exact Nat.le_refl _)
  have wo : WO h2 h1.length (h1.length + 1) (h1.length + 1 + 1) [] [] (fun _ => goodM) := ⟨i1, ⟨[], i2, rfl, fun i r d e _ => nomatch e⟩, i3, by omega, by omega, by omega⟩
  obtain ⟨h3, e3, f3⟩ := world_text_ok wr_nil (fun x hx => nomatch hx) wo
  have mk : bMk "World" 1 WS.c_World_init [] bNil [some (.rls (ns.map W.int)), y1, y2, some (.loc d), some (.str dueS)] h1 = .ok (.loc h1.length) h2 := by
    rw [e_Mk]
    simp [e2, mkEnd]
  have c3 := bFn_ok (n := 1) (f := WS.c_world_text) (a := bCons (bMk "World" 1 WS.c_World_init [] bNil) (bNil)) (s := [some (.rls (ns.map W.int)), y1, y2, some (.loc d), some (.str dueS)]) (h := h1) (h1 := h2) (xs := [.loc h1.length]) (by rw [e_Cons, mk]; rfl) rfl e3
  have g3 := f3.g0 (F2.g0 g1)
  -- the world of b
  have ek : (h3 ++ [Ob.lst [.tup [.str "b", .tup []]]])[h3.length]? = some (.lst ([(("b" : Str), ([] : List Str))].map rW)) := get_new
  have g4 := get_app (t := [Ob.lst [.tup [.str "b", .tup []]]]) g3
  generalize hk : h3.length = k at ek
  generalize h4e : h3 ++ [Ob.lst [.tup [.str "b", .tup []]]] = h4 at ek g4
  have eb : bDisp [(.inr "b", bV 3)] [some (.rls (ns.map W.int)), y1, y2, some (.loc d), some (.str dueS)] h4 = .ok (.loc h4.length) ((h4 ++ [Ob.dct false []]).set h4.length (.dct false [(.inr "b", .loc d)])) := by
    have gn := get_new (h := h4) (o := Ob.dct false [])
    unfold bDisp dispR dispR
    simp only [e_V, List.getElem?_cons_succ, List.getElem?_cons_zero, R.bind_ok, gn]
    rfl
  have gn := get_new (h := h4) (o := Ob.dct false [])
  have gd := get_set (o := Ob.dct false [(.inr "b", .loc d)]) gn
  have F4 : Fr [] h4 ((h4 ++ [Ob.dct false []]).set h4.length (.dct false [(.inr "b", .loc d)])) := (Fr.app (S := [])).young (.set (S := [h4.length]) (by simp)) fun i hi => .inr (by rw [List.mem_singleton.mp hi]; exact Nat.le_refl _)
  generalize (h4 ++ [Ob.dct false []]).set h4.length (.dct false [(.inr "b", .loc d)]) = h5 at eb gd F4
  generalize h4.length = kd at eb gd
  have md : MD h5 kd [("b", [])] (fun _ => goodM) := ⟨_, gd, fun x hx => ⟨d, by
    simp at hx
    subst hx
    rfl, F4.g0 g4⟩⟩
  have km : ∀ x ∈ ([(("b" : Str), ([] : List Str))]).map (·.1), MsOk ((fun _ => goodM : Str → MS) x) := fun x _ => good_ok
  obtain ⟨_, h6, e6, nw, nr, nn, rfl, wo6, f6⟩ := wp_ex (world_wp wr_b (F4.g0 ek) md km)
  obtain ⟨h7, e7, f7⟩ := world_text_ok wr_b km wo6
  rw [due_text] at e7
  have el : bLst (bCons (bTup (bCons (bC (.str "b")) (bCons (bTup (bNil)) (bNil)))) (bNil)) [some (.rls (ns.map W.int)), y1, y2, some (.loc d), some (.str dueS)] h3 = .ok (.loc k) h4 := by
    rw [← h4e, ← hk]
    simp [cS, cS2]
  have c6 := bFn_ok (n := 2) (f := WS.c__law_world) (a := bCons (bLst (bCons (bTup (bCons (bC (.str "b")) (bCons (bTup (bNil)) (bNil)))) (bNil))) (bCons (bDisp [(.inr "b", bV 3)]) (bNil))) (s := [some (.rls (ns.map W.int)), y1, y2, some (.loc d), some (.str dueS)]) (h := h3) (h1 := h5) (xs := [.loc k, .loc kd]) (by
    rw [e_Cons, el]
    simp only [R.bind_ok]
    rw [e_Cons, eb]
    rfl) rfl e6
  have c7 := bFn_ok (n := 1) (f := WS.c_world_text) (a := bCons (bFn 2 WS.c__law_world [] (bCons (bLst (bCons (bTup (bCons (bC (.str "b")) (bCons (bTup (bNil)) (bNil)))) (bNil))) (bCons (bDisp [(.inr "b", bV 3)]) (bNil)))) (bNil)) (s := [some (.rls (ns.map W.int)), y1, y2, some (.loc d), some (.str dueS)]) (h := h3) (h1 := h6) (xs := [.loc nw]) (by rw [e_Cons, c6]; rfl) rfl e7
  have t0 : textS (fun _ => goodM) [] = "" := rfl
  rw [t0] at c3
  refine wp_eq (a := .rt (.bl true)) (h := h7) ?_ rfl
  rw [e_ret, e_AndV, e_Op, c3]
  simp only [R.bind_ok, e_C, eqW_str, decide_true, sure_ok, truB_bl]
  rw [e_Op, c7]
  simp
theorem plain (ns : List Int) (hn : ns.length ≤ 63) : ∃ h', c_law [.rls (ns.map W.int)] [] = .ok (.bl true) h' := by
  obtain ⟨_, h', e, rfl⟩ := wp_ex (law_wp hn)
  exact ⟨h', e⟩
end W62

set_option Elab.async false
set_option linter.all false
set_option maxRecDepth 100000
set_option maxHeartbeats 0
namespace W62
open PySem PySem.Spec L2 NB
open PyProof.Rows hiding St
def hg_World_names : GetD := ⟨"World", "names", "World.names", defArgs (inClass (top 49) 21), defBody (inClass (top 49) 21), defScope (inClass (top 49) 21)⟩
def hg_World_linearizations : GetD := ⟨"World", "linearizations", "World.linearizations", defArgs (inClass (top 49) 22), defBody (inClass (top 49) 22), defScope (inClass (top 49) 22)⟩
def hg_Member_bases : GetD := ⟨"Member", "bases", "Member.bases", defArgs (inClass (top 48) 2), defBody (inClass (top 48) 2), defScope (inClass (top 48) 2)⟩
def hg_Member_methods : GetD := ⟨"Member", "methods", "Member.methods", defArgs (inClass (top 48) 5), defBody (inClass (top 48) 5), defScope (inClass (top 48) 5)⟩
def hd_is_name : He.DefD := ⟨("is_name", none), "is_name", "is_name", defArgs (top 19), defBody (top 19), defScope (top 19), [], []⟩
def hd_are_different : He.DefD := ⟨("are_different", none), "are_different", "are_different", defArgs (top 20), defBody (top 20), defScope (top 20), [], []⟩
def hd_is_row : He.DefD := ⟨("is_row", none), "is_row", "is_row", defArgs (top 21), defBody (top 21), defScope (top 21), [], []⟩
def hd_merge_of : He.DefD := ⟨("merge_of", none), "merge_of", "merge_of", defArgs (top 23), defBody (top 23), defScope (top 23), [], []⟩
def hd_are_words : He.DefD := ⟨("are_words", none), "are_words", "are_words", defArgs (top 29), defBody (top 29), defScope (top 29), [], []⟩
def hd_is_method : He.DefD := ⟨("is_method", none), "is_method", "is_method", defArgs (top 30), defBody (top 30), defScope (top 30), [], []⟩
def hd_part_of : He.DefD := ⟨("part_of", none), "part_of", "part_of", defArgs (top 36), defBody (top 36), defScope (top 36), [], []⟩
def hd_method_line : He.DefD := ⟨("method_line", none), "method_line", "method_line", defArgs (top 37), defBody (top 37), defScope (top 37), [], []⟩
def hd_text_of : He.DefD := ⟨("text_of", none), "text_of", "text_of", defArgs (top 38), defBody (top 38), defScope (top 38), [], []⟩
def hd_world_text : He.DefD := ⟨("world_text", none), "world_text", "world_text", defArgs (top 44), defBody (top 44), defScope (top 44), [], []⟩
def hd_line_of : He.DefD := ⟨("line_of", none), "line_of", "line_of", defArgs (top 46), defBody (top 46), defScope (top 46), [], []⟩
def hd_is_change : He.DefD := ⟨("is_change", none), "is_change", "is_change", defArgs (top 47), defBody (top 47), defScope (top 47), [], []⟩
def hd_Member_init : He.DefD := ⟨("Member", some "__init__"), "__init__", "Member.__init__", defArgs (inClass (top 48) 0), defBody (inClass (top 48) 0), defScope (inClass (top 48) 0), [], []⟩
def hd_World_init : He.DefD := ⟨("World", some "__init__"), "__init__", "World.__init__", defArgs (inClass (top 49) 3), defBody (inClass (top 49) 3), defScope (inClass (top 49) 3), [], []⟩
def hd_World_row_of : He.DefD := ⟨("World", some "row_of"), "row_of", "World.row_of", defArgs (inClass (top 49) 6), defBody (inClass (top 49) 6), defScope (inClass (top 49) 6), [], []⟩
def hd_World_need_class : He.DefD := ⟨("World", some "need_class"), "need_class", "World.need_class", defArgs (inClass (top 49) 7), defBody (inClass (top 49) 7), defScope (inClass (top 49) 7), [], []⟩
def hd_World_need_bases : He.DefD := ⟨("World", some "need_bases"), "need_bases", "World.need_bases", defArgs (inClass (top 49) 10), defBody (inClass (top 49) 10), defScope (inClass (top 49) 10), [], []⟩
def hd_World_need_methods : He.DefD := ⟨("World", some "need_methods"), "need_methods", "World.need_methods", defArgs (inClass (top 49) 11), defBody (inClass (top 49) 11), defScope (inClass (top 49) 11), [], []⟩
def hd_World_add_class : He.DefD := ⟨("World", some "add_class"), "add_class", "World.add_class", defArgs (inClass (top 49) 12), defBody (inClass (top 49) 12), defScope (inClass (top 49) 12), [], []⟩
def hd_World_member : He.DefD := ⟨("World", some "member"), "member", "World.member", defArgs (inClass (top 49) 16), defBody (inClass (top 49) 16), defScope (inClass (top 49) 16), [], []⟩
def hd_World_change_by : He.DefD := ⟨("World", some "change_by"), "change_by", "World.change_by", defArgs (inClass (top 49) 17), defBody (inClass (top 49) 17), defScope (inClass (top 49) 17), [], []⟩
def hd_World_perform : He.DefD := ⟨("World", some "perform"), "perform", "World.perform", defArgs (inClass (top 49) 18), defBody (inClass (top 49) 18), defScope (inClass (top 49) 18), [], []⟩
def hd_World_copy : He.DefD := ⟨("World", some "copy"), "copy", "World.copy", defArgs (inClass (top 49) 23), defBody (inClass (top 49) 23), defScope (inClass (top 49) 23), [], []⟩
def hd_World_len : He.DefD := ⟨("World", some "__len__"), "__len__", "World.__len__", defArgs (inClass (top 49) 24), defBody (inClass (top 49) 24), defScope (inClass (top 49) 24), [], []⟩
def hd_World_str : He.DefD := ⟨("World", some "__str__"), "__str__", "World.__str__", defArgs (inClass (top 49) 29), defBody (inClass (top 49) 29), defScope (inClass (top 49) 29), [], []⟩
def hd__law_source : He.DefD := ⟨("_law_source", none), "_law_source", "_law_source", defArgs (top 51), defBody (top 51), defScope (top 51), [], []⟩
def hd__law_next : He.DefD := ⟨("_law_next", none), "_law_next", "_law_next", defArgs (top 52), defBody (top 52), defScope (top 52), [], []⟩
def hd__law_mixed : He.DefD := ⟨("_law_mixed", none), "_law_mixed", "_law_mixed", defArgs (top 53), defBody (top 53), defScope (top 53), [], []⟩
def hd__law_merged : He.DefD := ⟨("_law_merged", none), "_law_merged", "_law_merged", defArgs (top 54), defBody (top 54), defScope (top 54), [], []⟩
def hd__law_line : He.DefD := ⟨("_law_line", none), "_law_line", "_law_line", defArgs (top 55), defBody (top 55), defScope (top 55), [], []⟩
def hd__law_rows : He.DefD := ⟨("_law_rows", none), "_law_rows", "_law_rows", defArgs (top 56), defBody (top 56), defScope (top 56), [], []⟩
def hd__law_lines : He.DefD := ⟨("_law_lines", none), "_law_lines", "_law_lines", defArgs (top 57), defBody (top 57), defScope (top 57), [], []⟩
def hd__law_pick : He.DefD := ⟨("_law_pick", none), "_law_pick", "_law_pick", defArgs (top 58), defBody (top 58), defScope (top 58), [], []⟩
def hd__law_word_row : He.DefD := ⟨("_law_word_row", none), "_law_word_row", "_law_word_row", defArgs (top 59), defBody (top 59), defScope (top 59), [], []⟩
def hd__law_method : He.DefD := ⟨("_law_method", none), "_law_method", "_law_method", defArgs (top 60), defBody (top 60), defScope (top 60), [], []⟩
def hd__law_methods : He.DefD := ⟨("_law_methods", none), "_law_methods", "_law_methods", defArgs (top 61), defBody (top 61), defScope (top 61), [], []⟩
def hd__law_world : He.DefD := ⟨("_law_world", none), "_law_world", "_law_world", defArgs (top 62), defBody (top 62), defScope (top 62), [], []⟩
def hd__law_due_state : He.DefD := ⟨("_law_due_state", none), "_law_due_state", "_law_due_state", defArgs (top 63), defBody (top 63), defScope (top 63), [], []⟩
def hd__law_part : He.DefD := ⟨("_law_part", none), "_law_part", "_law_part", defArgs (top 65), defBody (top 65), defScope (top 65), [], []⟩
def hd__law_method_text : He.DefD := ⟨("_law_method_text", none), "_law_method_text", "_law_method_text", defArgs (top 66), defBody (top 66), defScope (top 66), [], []⟩
def hd__law_text_lines : He.DefD := ⟨("_law_text_lines", none), "_law_text_lines", "_law_text_lines", defArgs (top 67), defBody (top 67), defScope (top 67), [], []⟩
def hd__law_state : He.DefD := ⟨("_law_state", none), "_law_state", "_law_state", defArgs (top 64), defBody (top 64), defScope (top 64), [], []⟩
def hd__law_right : He.DefD := ⟨("_law_right", none), "_law_right", "_law_right", defArgs (top 68), defBody (top 68), defScope (top 68), [], []⟩
def hd_law : He.DefD := ⟨("law", none), "law", "law", defArgs (top 69), defBody (top 69), defScope (top 69), [], []⟩
def hfn : List He.DefD := [hd_is_name, hd_are_different, hd_is_row, hd_merge_of, hd_are_words, hd_is_method, hd_part_of, hd_method_line, hd_text_of, hd_world_text, hd_line_of, hd_is_change, hd_Member_init, hd_World_init, hd_World_row_of, hd_World_need_class, hd_World_need_bases, hd_World_need_methods, hd_World_add_class, hd_World_member, hd_World_change_by, hd_World_perform, hd_World_copy, hd_World_len, hd_World_str, hd__law_source, hd__law_next, hd__law_mixed, hd__law_merged, hd__law_line, hd__law_rows, hd__law_lines, hd__law_pick, hd__law_word_row, hd__law_method, hd__law_methods, hd__law_world, hd__law_due_state, hd__law_part, hd__law_method_text, hd__law_text_lines, hd__law_state, hd__law_right, hd_law]
def hgs : List GetD := [hg_World_names, hg_World_linearizations, hg_Member_bases, hg_Member_methods]
def hfa : List He.Fa := [.glo "is_name", .glo "are_different", .glo "is_row", .glo "merge_of", .glo "are_words", .glo "is_method", .glo "part_of", .glo "method_line", .glo "text_of", .glo "world_text", .glo "line_of", .glo "is_change", .glo "_law_source", .glo "_law_next", .glo "_law_mixed", .glo "_law_merged", .glo "_law_line", .glo "_law_rows", .glo "_law_lines", .glo "_law_pick", .glo "_law_word_row", .glo "_law_method", .glo "_law_methods", .glo "_law_world", .glo "_law_due_state", .glo "_law_part", .glo "_law_method_text", .glo "_law_text_lines", .glo "_law_state", .glo "_law_right", .glo "law", .str "LETTERS" "abcdefghijklmnopqrstuvwxyz", .int "MOST_LETTERS" 8, .int "MOST_NAMES" 4, .int "MOST_WORDS" 4, .glo "RESERVED", .free "all", .free "dict", .free "enumerate", .cls "World", .noat "World" "lines", .cls "Member", .noat "Member" "own_name", .noat "World" "rows", .noat "Member" "world", .free "isinstance", .free "len", .free "list", .free "max", .free "min", .free "range", .free "repr", .free "set", .free "sorted", .free "str", .free "tuple", .free "zip", .glo "World", .mkr "World", .glo "Member", .mkr "Member", .meth "World" "row_of", .meth "World" "need_bases", .meth "World" "need_methods", .meth "World" "add_class", .meth "World" "change_by", .meth "World" "perform", .meth "World" "need_class", .meth "World" "member", .meth "World" "copy", .meth "World" "__len__", .meth "World" "__str__"]
def hex (K : PySem.W.Frag) : Bool := (He.tupB K "RESERVED" ((["name", "self"] : List Str).map He.Dv.str) && (He.conB K "World" "MAX_BASES" (.int 8) && (He.conB K "World" "MAX_CLASSES" (.int 24) && (He.conB K "World" "MAX_METHODS" (.int 3) && true))))
abbrev R : PySem.W.OpenRow := PySem.W.OpenLaw.row PySem.Challenge.rw_nextbehind_k62_texts_of_worlds
def has : List Addr := [3, 275, 280, 287, 292, 318, 325, 326, 333, 340, 347, 385, 390, 395, 453, 657, 668, 675, 682, 687, 692, 699, 706, 713, 718, 725, 730, 737, 742, 749, 756, 763, 768, 775, 782, 274, 279, 286, 291, 317, 324, 332, 339, 346, 384, 389, 394, 452, 656, 667, 674, 681, 686, 691, 698, 705, 712, 717, 724, 729, 736, 741, 748, 755, 762, 767, 774, 781, 409, 434, 450, 471, 498, 505, 525, 532, 537, 563, 570, 575, 597, 605, 612, 619, 654, 408, 424, 449, 470, 497, 504, 524, 531, 536, 562, 569, 574, 596, 604, 611, 618, 653, 423, 448, 595, 603]
abbrev hk : PySem.W.Hook := hookE has hfa hfn hgs hex
def ob (s : PySem.W.SharedT) : AlE := obsE has hfa hfn hgs hex (HandSHeadRun.getT s)
theorem ob_eq (s : PySem.W.SharedT) : ob s = hk.obs s.abs := obsE_eq (HandSHeadRun.getT_eq s)
def loose : List PySem.Str := (["_wall", "WorldError", "BadName", "BadBases", "BadMethod", "BadChange", "BadText", "LimitError", "TooMany", "Clash", "Taken", "InUse", "MissingError", "NoClass", "LETTERS", "MOST_LETTERS", "MOST_NAMES", "is_name", "are_different", "is_row"] : List PySem.Str) ++ (["merge_of", "following", "ring_through", "shortest_ring", "MOST_WORDS", "are_words", "is_method", "CLASSES", "BASES", "METHODS", "RESERVED", "part_of", "method_line", "text_of", "words_of", "passes_of", "read_class", "read_method", "read_rows", "world_text"] : List PySem.Str) ++ (["line_of", "is_change", "Member", "World", "_law_source", "_law_next", "_law_mixed", "_law_merged", "_law_line", "_law_rows", "_law_lines", "_law_pick", "_law_word_row", "_law_method", "_law_methods", "_law_world", "_law_due_state", "_law_state", "_law_part", "_law_method_text"] : List PySem.Str) ++ (["_law_text_lines", "_law_right"] : List PySem.Str)
theorem run (w : World) : HandSHeadRun.RunEq R (PySem.W.view R.prog [69]) hk ob 16000 loose w := by
  intro os
  kernel_rfl
noncomputable def cp {w : World} {K : PySem.W.Frag} {h base : Heap} {mg : Str → Option Value} (X : K.In h) (G : h.Ns mainGlobals mg) (sb : SysB base) (c : SaysE hfa hfn hgs hex K) : Cp K mg base where
  sb := sb
  f_World_names := pgA K "World" "names"
  d_World_names := (c.gd hg_World_names (by unfold hgs; simp)).2.choose
  F_World_names := (c.gd hg_World_names (by unfold hgs; simp)).2.choose_spec
  p_World_names := prA K "World" "names"
  pr_World_names := (c.gd hg_World_names (by unfold hgs; simp)).1
  f_World_linearizations := pgA K "World" "linearizations"
  d_World_linearizations := (c.gd hg_World_linearizations (by unfold hgs; simp)).2.choose
  F_World_linearizations := (c.gd hg_World_linearizations (by unfold hgs; simp)).2.choose_spec
  p_World_linearizations := prA K "World" "linearizations"
  pr_World_linearizations := (c.gd hg_World_linearizations (by unfold hgs; simp)).1
  f_Member_bases := pgA K "Member" "bases"
  d_Member_bases := (c.gd hg_Member_bases (by unfold hgs; simp)).2.choose
  F_Member_bases := (c.gd hg_Member_bases (by unfold hgs; simp)).2.choose_spec
  p_Member_bases := prA K "Member" "bases"
  pr_Member_bases := (c.gd hg_Member_bases (by unfold hgs; simp)).1
  f_Member_methods := pgA K "Member" "methods"
  d_Member_methods := (c.gd hg_Member_methods (by unfold hgs; simp)).2.choose
  F_Member_methods := (c.gd hg_Member_methods (by unfold hgs; simp)).2.choose_spec
  p_Member_methods := prA K "Member" "methods"
  pr_Member_methods := (c.gd hg_Member_methods (by unfold hgs; simp)).1
  f_is_name := He.fAd K ("is_name", none)
  d_is_name := (c.d.def_ 0 (d := hd_is_name) rfl).choose
  F_is_name := (c.d.def_ 0 (d := hd_is_name) rfl).choose_spec
  g_is_name := He.glo_ok X G (c.d.fact 0 (f := .glo "is_name") rfl)
  f_are_different := He.fAd K ("are_different", none)
  d_are_different := (c.d.def_ 1 (d := hd_are_different) rfl).choose
  F_are_different := (c.d.def_ 1 (d := hd_are_different) rfl).choose_spec
  g_are_different := He.glo_ok X G (c.d.fact 1 (f := .glo "are_different") rfl)
  f_is_row := He.fAd K ("is_row", none)
  d_is_row := (c.d.def_ 2 (d := hd_is_row) rfl).choose
  F_is_row := (c.d.def_ 2 (d := hd_is_row) rfl).choose_spec
  g_is_row := He.glo_ok X G (c.d.fact 2 (f := .glo "is_row") rfl)
  f_merge_of := He.fAd K ("merge_of", none)
  d_merge_of := (c.d.def_ 3 (d := hd_merge_of) rfl).choose
  F_merge_of := (c.d.def_ 3 (d := hd_merge_of) rfl).choose_spec
  g_merge_of := He.glo_ok X G (c.d.fact 3 (f := .glo "merge_of") rfl)
  f_are_words := He.fAd K ("are_words", none)
  d_are_words := (c.d.def_ 4 (d := hd_are_words) rfl).choose
  F_are_words := (c.d.def_ 4 (d := hd_are_words) rfl).choose_spec
  g_are_words := He.glo_ok X G (c.d.fact 4 (f := .glo "are_words") rfl)
  f_is_method := He.fAd K ("is_method", none)
  d_is_method := (c.d.def_ 5 (d := hd_is_method) rfl).choose
  F_is_method := (c.d.def_ 5 (d := hd_is_method) rfl).choose_spec
  g_is_method := He.glo_ok X G (c.d.fact 5 (f := .glo "is_method") rfl)
  f_part_of := He.fAd K ("part_of", none)
  d_part_of := (c.d.def_ 6 (d := hd_part_of) rfl).choose
  F_part_of := (c.d.def_ 6 (d := hd_part_of) rfl).choose_spec
  g_part_of := He.glo_ok X G (c.d.fact 6 (f := .glo "part_of") rfl)
  f_method_line := He.fAd K ("method_line", none)
  d_method_line := (c.d.def_ 7 (d := hd_method_line) rfl).choose
  F_method_line := (c.d.def_ 7 (d := hd_method_line) rfl).choose_spec
  g_method_line := He.glo_ok X G (c.d.fact 7 (f := .glo "method_line") rfl)
  f_text_of := He.fAd K ("text_of", none)
  d_text_of := (c.d.def_ 8 (d := hd_text_of) rfl).choose
  F_text_of := (c.d.def_ 8 (d := hd_text_of) rfl).choose_spec
  g_text_of := He.glo_ok X G (c.d.fact 8 (f := .glo "text_of") rfl)
  f_world_text := He.fAd K ("world_text", none)
  d_world_text := (c.d.def_ 9 (d := hd_world_text) rfl).choose
  F_world_text := (c.d.def_ 9 (d := hd_world_text) rfl).choose_spec
  g_world_text := He.glo_ok X G (c.d.fact 9 (f := .glo "world_text") rfl)
  f_line_of := He.fAd K ("line_of", none)
  d_line_of := (c.d.def_ 10 (d := hd_line_of) rfl).choose
  F_line_of := (c.d.def_ 10 (d := hd_line_of) rfl).choose_spec
  g_line_of := He.glo_ok X G (c.d.fact 10 (f := .glo "line_of") rfl)
  f_is_change := He.fAd K ("is_change", none)
  d_is_change := (c.d.def_ 11 (d := hd_is_change) rfl).choose
  F_is_change := (c.d.def_ 11 (d := hd_is_change) rfl).choose_spec
  g_is_change := He.glo_ok X G (c.d.fact 11 (f := .glo "is_change") rfl)
  f_Member_init := He.fAd K ("Member", some "__init__")
  d_Member_init := (c.d.def_ 12 (d := hd_Member_init) rfl).choose
  F_Member_init := (c.d.def_ 12 (d := hd_Member_init) rfl).choose_spec
  f_World_init := He.fAd K ("World", some "__init__")
  d_World_init := (c.d.def_ 13 (d := hd_World_init) rfl).choose
  F_World_init := (c.d.def_ 13 (d := hd_World_init) rfl).choose_spec
  f_World_row_of := He.fAd K ("World", some "row_of")
  d_World_row_of := (c.d.def_ 14 (d := hd_World_row_of) rfl).choose
  F_World_row_of := (c.d.def_ 14 (d := hd_World_row_of) rfl).choose_spec
  f_World_need_class := He.fAd K ("World", some "need_class")
  d_World_need_class := (c.d.def_ 15 (d := hd_World_need_class) rfl).choose
  F_World_need_class := (c.d.def_ 15 (d := hd_World_need_class) rfl).choose_spec
  f_World_need_bases := He.fAd K ("World", some "need_bases")
  d_World_need_bases := (c.d.def_ 16 (d := hd_World_need_bases) rfl).choose
  F_World_need_bases := (c.d.def_ 16 (d := hd_World_need_bases) rfl).choose_spec
  f_World_need_methods := He.fAd K ("World", some "need_methods")
  d_World_need_methods := (c.d.def_ 17 (d := hd_World_need_methods) rfl).choose
  F_World_need_methods := (c.d.def_ 17 (d := hd_World_need_methods) rfl).choose_spec
  f_World_add_class := He.fAd K ("World", some "add_class")
  d_World_add_class := (c.d.def_ 18 (d := hd_World_add_class) rfl).choose
  F_World_add_class := (c.d.def_ 18 (d := hd_World_add_class) rfl).choose_spec
  f_World_member := He.fAd K ("World", some "member")
  d_World_member := (c.d.def_ 19 (d := hd_World_member) rfl).choose
  F_World_member := (c.d.def_ 19 (d := hd_World_member) rfl).choose_spec
  f_World_change_by := He.fAd K ("World", some "change_by")
  d_World_change_by := (c.d.def_ 20 (d := hd_World_change_by) rfl).choose
  F_World_change_by := (c.d.def_ 20 (d := hd_World_change_by) rfl).choose_spec
  f_World_perform := He.fAd K ("World", some "perform")
  d_World_perform := (c.d.def_ 21 (d := hd_World_perform) rfl).choose
  F_World_perform := (c.d.def_ 21 (d := hd_World_perform) rfl).choose_spec
  f_World_copy := He.fAd K ("World", some "copy")
  d_World_copy := (c.d.def_ 22 (d := hd_World_copy) rfl).choose
  F_World_copy := (c.d.def_ 22 (d := hd_World_copy) rfl).choose_spec
  f_World_len := He.fAd K ("World", some "__len__")
  d_World_len := (c.d.def_ 23 (d := hd_World_len) rfl).choose
  F_World_len := (c.d.def_ 23 (d := hd_World_len) rfl).choose_spec
  f_World_str := He.fAd K ("World", some "__str__")
  d_World_str := (c.d.def_ 24 (d := hd_World_str) rfl).choose
  F_World_str := (c.d.def_ 24 (d := hd_World_str) rfl).choose_spec
  f__law_source := He.fAd K ("_law_source", none)
  d__law_source := (c.d.def_ 25 (d := hd__law_source) rfl).choose
  F__law_source := (c.d.def_ 25 (d := hd__law_source) rfl).choose_spec
  g__law_source := He.glo_ok X G (c.d.fact 12 (f := .glo "_law_source") rfl)
  f__law_next := He.fAd K ("_law_next", none)
  d__law_next := (c.d.def_ 26 (d := hd__law_next) rfl).choose
  F__law_next := (c.d.def_ 26 (d := hd__law_next) rfl).choose_spec
  g__law_next := He.glo_ok X G (c.d.fact 13 (f := .glo "_law_next") rfl)
  f__law_mixed := He.fAd K ("_law_mixed", none)
  d__law_mixed := (c.d.def_ 27 (d := hd__law_mixed) rfl).choose
  F__law_mixed := (c.d.def_ 27 (d := hd__law_mixed) rfl).choose_spec
  g__law_mixed := He.glo_ok X G (c.d.fact 14 (f := .glo "_law_mixed") rfl)
  f__law_merged := He.fAd K ("_law_merged", none)
  d__law_merged := (c.d.def_ 28 (d := hd__law_merged) rfl).choose
  F__law_merged := (c.d.def_ 28 (d := hd__law_merged) rfl).choose_spec
  g__law_merged := He.glo_ok X G (c.d.fact 15 (f := .glo "_law_merged") rfl)
  f__law_line := He.fAd K ("_law_line", none)
  d__law_line := (c.d.def_ 29 (d := hd__law_line) rfl).choose
  F__law_line := (c.d.def_ 29 (d := hd__law_line) rfl).choose_spec
  g__law_line := He.glo_ok X G (c.d.fact 16 (f := .glo "_law_line") rfl)
  f__law_rows := He.fAd K ("_law_rows", none)
  d__law_rows := (c.d.def_ 30 (d := hd__law_rows) rfl).choose
  F__law_rows := (c.d.def_ 30 (d := hd__law_rows) rfl).choose_spec
  g__law_rows := He.glo_ok X G (c.d.fact 17 (f := .glo "_law_rows") rfl)
  f__law_lines := He.fAd K ("_law_lines", none)
  d__law_lines := (c.d.def_ 31 (d := hd__law_lines) rfl).choose
  F__law_lines := (c.d.def_ 31 (d := hd__law_lines) rfl).choose_spec
  g__law_lines := He.glo_ok X G (c.d.fact 18 (f := .glo "_law_lines") rfl)
  f__law_pick := He.fAd K ("_law_pick", none)
  d__law_pick := (c.d.def_ 32 (d := hd__law_pick) rfl).choose
  F__law_pick := (c.d.def_ 32 (d := hd__law_pick) rfl).choose_spec
  g__law_pick := He.glo_ok X G (c.d.fact 19 (f := .glo "_law_pick") rfl)
  f__law_word_row := He.fAd K ("_law_word_row", none)
  d__law_word_row := (c.d.def_ 33 (d := hd__law_word_row) rfl).choose
  F__law_word_row := (c.d.def_ 33 (d := hd__law_word_row) rfl).choose_spec
  g__law_word_row := He.glo_ok X G (c.d.fact 20 (f := .glo "_law_word_row") rfl)
  f__law_method := He.fAd K ("_law_method", none)
  d__law_method := (c.d.def_ 34 (d := hd__law_method) rfl).choose
  F__law_method := (c.d.def_ 34 (d := hd__law_method) rfl).choose_spec
  g__law_method := He.glo_ok X G (c.d.fact 21 (f := .glo "_law_method") rfl)
  f__law_methods := He.fAd K ("_law_methods", none)
  d__law_methods := (c.d.def_ 35 (d := hd__law_methods) rfl).choose
  F__law_methods := (c.d.def_ 35 (d := hd__law_methods) rfl).choose_spec
  g__law_methods := He.glo_ok X G (c.d.fact 22 (f := .glo "_law_methods") rfl)
  f__law_world := He.fAd K ("_law_world", none)
  d__law_world := (c.d.def_ 36 (d := hd__law_world) rfl).choose
  F__law_world := (c.d.def_ 36 (d := hd__law_world) rfl).choose_spec
  g__law_world := He.glo_ok X G (c.d.fact 23 (f := .glo "_law_world") rfl)
  f__law_due_state := He.fAd K ("_law_due_state", none)
  d__law_due_state := (c.d.def_ 37 (d := hd__law_due_state) rfl).choose
  F__law_due_state := (c.d.def_ 37 (d := hd__law_due_state) rfl).choose_spec
  g__law_due_state := He.glo_ok X G (c.d.fact 24 (f := .glo "_law_due_state") rfl)
  f__law_part := He.fAd K ("_law_part", none)
  d__law_part := (c.d.def_ 38 (d := hd__law_part) rfl).choose
  F__law_part := (c.d.def_ 38 (d := hd__law_part) rfl).choose_spec
  g__law_part := He.glo_ok X G (c.d.fact 25 (f := .glo "_law_part") rfl)
  f__law_method_text := He.fAd K ("_law_method_text", none)
  d__law_method_text := (c.d.def_ 39 (d := hd__law_method_text) rfl).choose
  F__law_method_text := (c.d.def_ 39 (d := hd__law_method_text) rfl).choose_spec
  g__law_method_text := He.glo_ok X G (c.d.fact 26 (f := .glo "_law_method_text") rfl)
  f__law_text_lines := He.fAd K ("_law_text_lines", none)
  d__law_text_lines := (c.d.def_ 40 (d := hd__law_text_lines) rfl).choose
  F__law_text_lines := (c.d.def_ 40 (d := hd__law_text_lines) rfl).choose_spec
  g__law_text_lines := He.glo_ok X G (c.d.fact 27 (f := .glo "_law_text_lines") rfl)
  f__law_state := He.fAd K ("_law_state", none)
  d__law_state := (c.d.def_ 41 (d := hd__law_state) rfl).choose
  F__law_state := (c.d.def_ 41 (d := hd__law_state) rfl).choose_spec
  g__law_state := He.glo_ok X G (c.d.fact 28 (f := .glo "_law_state") rfl)
  f__law_right := He.fAd K ("_law_right", none)
  d__law_right := (c.d.def_ 42 (d := hd__law_right) rfl).choose
  F__law_right := (c.d.def_ 42 (d := hd__law_right) rfl).choose_spec
  g__law_right := He.glo_ok X G (c.d.fact 29 (f := .glo "_law_right") rfl)
  f_law := He.fAd K ("law", none)
  d_law := (c.d.def_ 43 (d := hd_law) rfl).choose
  F_law := (c.d.def_ 43 (d := hd_law) rfl).choose_spec
  g_law := He.glo_ok X G (c.d.fact 30 (f := .glo "law") rfl)
  u_LETTERS := .str "abcdefghijklmnopqrstuvwxyz" (He.str_ok X G (c.d.fact 31 (f := .str "LETTERS" "abcdefghijklmnopqrstuvwxyz") rfl)).choose
  g_LETTERS := (He.str_ok X G (c.d.fact 31 (f := .str "LETTERS" "abcdefghijklmnopqrstuvwxyz") rfl)).choose_spec
  r_LETTERS := ⟨_, rfl⟩
  u_MOST_LETTERS := .int 8 (He.int_ok X G (c.d.fact 32 (f := .int "MOST_LETTERS" 8) rfl)).choose
  g_MOST_LETTERS := (He.int_ok X G (c.d.fact 32 (f := .int "MOST_LETTERS" 8) rfl)).choose_spec
  r_MOST_LETTERS := ⟨_, rfl⟩
  u_MOST_NAMES := .int 4 (He.int_ok X G (c.d.fact 33 (f := .int "MOST_NAMES" 4) rfl)).choose
  g_MOST_NAMES := (He.int_ok X G (c.d.fact 33 (f := .int "MOST_NAMES" 4) rfl)).choose_spec
  r_MOST_NAMES := ⟨_, rfl⟩
  u_MOST_WORDS := .int 4 (He.int_ok X G (c.d.fact 34 (f := .int "MOST_WORDS" 4) rfl)).choose
  g_MOST_WORDS := (He.int_ok X G (c.d.fact 34 (f := .int "MOST_WORDS" 4) rfl)).choose_spec
  r_MOST_WORDS := ⟨_, rfl⟩
  g_RESERVED := He.glo_ok X G (c.d.fact 35 (f := .glo "RESERVED") rfl)
  r_RESERVED := rfl
  v_RESERVED := fun H ι => tupW_ok (He.ba c.more).1 H ι
  n_all := He.free_ok X G (c.d.fact 36 (f := .free "all") rfl)
  v_MAX_BASES := (He.conB_ok (He.ba (He.ba c.more).2).1).choose
  con_MAX_BASES := (He.conB_ok (He.ba (He.ba c.more).2).1).choose_spec
  v_MAX_CLASSES := (He.conB_ok (He.ba (He.ba (He.ba c.more).2).2).1).choose
  con_MAX_CLASSES := (He.conB_ok (He.ba (He.ba (He.ba c.more).2).2).1).choose_spec
  v_MAX_METHODS := (He.conB_ok (He.ba (He.ba (He.ba (He.ba c.more).2).2).2).1).choose
  con_MAX_METHODS := (He.conB_ok (He.ba (He.ba (He.ba (He.ba c.more).2).2).2).1).choose_spec
  n_dict := He.free_ok X G (c.d.fact 37 (f := .free "dict") rfl)
  n_enumerate := He.free_ok X G (c.d.fact 38 (f := .free "enumerate") rfl)
  fld_lines := fun C hC => by
    unfold WS.fc_lines at hC
    simp only [List.mem_cons, List.not_mem_nil, or_false] at hC
    rcases hC with rfl
    · exact ⟨He.cls_ok (c.d.fact 39 (f := .cls "World") rfl), He.noat_ok (c.d.fact 40 (f := .noat "World" "lines") rfl)⟩
  fld_own_name := fun C hC => by
    unfold WS.fc_own_name at hC
    simp only [List.mem_cons, List.not_mem_nil, or_false] at hC
    rcases hC with rfl
    · exact ⟨He.cls_ok (c.d.fact 41 (f := .cls "Member") rfl), He.noat_ok (c.d.fact 42 (f := .noat "Member" "own_name") rfl)⟩
  fld_rows := fun C hC => by
    unfold WS.fc_rows at hC
    simp only [List.mem_cons, List.not_mem_nil, or_false] at hC
    rcases hC with rfl
    · exact ⟨He.cls_ok (c.d.fact 39 (f := .cls "World") rfl), He.noat_ok (c.d.fact 43 (f := .noat "World" "rows") rfl)⟩
  fld_world := fun C hC => by
    unfold WS.fc_world at hC
    simp only [List.mem_cons, List.not_mem_nil, or_false] at hC
    rcases hC with rfl
    · exact ⟨He.cls_ok (c.d.fact 41 (f := .cls "Member") rfl), He.noat_ok (c.d.fact 44 (f := .noat "Member" "world") rfl)⟩
  n_isinstance := He.free_ok X G (c.d.fact 45 (f := .free "isinstance") rfl)
  n_len := He.free_ok X G (c.d.fact 46 (f := .free "len") rfl)
  n_list := He.free_ok X G (c.d.fact 47 (f := .free "list") rfl)
  n_max := He.free_ok X G (c.d.fact 48 (f := .free "max") rfl)
  n_min := He.free_ok X G (c.d.fact 49 (f := .free "min") rfl)
  n_range := He.free_ok X G (c.d.fact 50 (f := .free "range") rfl)
  n_repr := He.free_ok X G (c.d.fact 51 (f := .free "repr") rfl)
  n_set := He.free_ok X G (c.d.fact 52 (f := .free "set") rfl)
  n_sorted := He.free_ok X G (c.d.fact 53 (f := .free "sorted") rfl)
  n_str := He.free_ok X G (c.d.fact 54 (f := .free "str") rfl)
  n_tuple := He.free_ok X G (c.d.fact 55 (f := .free "tuple") rfl)
  n_zip := He.free_ok X G (c.d.fact 56 (f := .free "zip") rfl)
  cls_World := He.cls_ok (c.d.fact 39 (f := .cls "World") rfl)
  g_World := He.glo_ok X G (c.d.fact 57 (f := .glo "World") rfl)
  mk_World := He.mkr_ok (c.d.fact 58 (f := .mkr "World") rfl)
  cls_Member := He.cls_ok (c.d.fact 41 (f := .cls "Member") rfl)
  g_Member := He.glo_ok X G (c.d.fact 59 (f := .glo "Member") rfl)
  mk_Member := He.mkr_ok (c.d.fact 60 (f := .mkr "Member") rfl)
  m_World_row_of := He.meth_ok (c.d.fact 61 (f := .meth "World" "row_of") rfl)
  m_World_need_bases := He.meth_ok (c.d.fact 62 (f := .meth "World" "need_bases") rfl)
  m_World_need_methods := He.meth_ok (c.d.fact 63 (f := .meth "World" "need_methods") rfl)
  m_World_add_class := He.meth_ok (c.d.fact 64 (f := .meth "World" "add_class") rfl)
  m_World_change_by := He.meth_ok (c.d.fact 65 (f := .meth "World" "change_by") rfl)
  m_World_perform := He.meth_ok (c.d.fact 66 (f := .meth "World" "perform") rfl)
  m_World_need_class := He.meth_ok (c.d.fact 67 (f := .meth "World" "need_class") rfl)
  m_World_member := He.meth_ok (c.d.fact 68 (f := .meth "World" "member") rfl)
  m_World_copy := He.meth_ok (c.d.fact 69 (f := .meth "World" "copy") rfl)
  m_World_len := He.meth_ok (c.d.fact 70 (f := .meth "World" "__len__") rfl)
  m_World_str := He.meth_ok (c.d.fact 71 (f := .meth "World" "__str__") rfl)
end W62

set_option Elab.async false
set_option linter.all false
set_option maxRecDepth 100000
set_option maxHeartbeats 0
open PySem PySem.W PySem.Calls PyProof.Rows
theorem PySem.Challenge.cw_nextbehind_k62_texts_of_worlds_holds : PySem.Challenge.rw_nextbehind_k62_texts_of_worlds.Holds := by
  w_on; o_law
  refine HandSHeadRun.head_any (r := OpenLaw.row PySem.Challenge.rw_nextbehind_k62_texts_of_worlds) (q := view (OpenLaw.row PySem.Challenge.rw_nextbehind_k62_texts_of_worlds).prog [69]) (H := W62.hk) (ob := W62.ob) (M := 16000) (loose := W62.loose) (d := HandSHeadRun.topDef (OpenLaw.row PySem.Challenge.rw_nextbehind_k62_texts_of_worlds).prog 69) (kwd := []) W62.ob_eq
    (by kernel_rfl) (fun s => by kernel_rfl) W62.run (by kernel_rfl) (by kernel_rfl) (by kernel_rfl) (by rfl) (by first | assumption | decide +kernel) (by decide +kernel) ⟨rfl, rfl, rfl, rfl, rfl, by decide +kernel⟩ ?hw ?hc
  case hw => w_witness2
  case hc =>
    refine NB.law_at (l := PySem.Challenge.rw_nextbehind_k62_texts_of_worlds) (n := 63) (k := 11) (x := "_law_script") rfl (by decide) (by kernel_rfl) ⟨rfl, by decide, by decide⟩ ?F
    intro w mg fa h Y G hmg0
    obtain ⟨⟨K, KX, c⟩, sy⟩ := Y
    have hmg : mg ("law" : PySem.Str) = some (.ref fa) := by
      have e : (HandSHeadRun.topDef (OpenLaw.row PySem.Challenge.rw_nextbehind_k62_texts_of_worlds).prog 69).name = ("law" : PySem.Str) := by kernel_rfl
      rw [← e]
      exact hmg0
    have e := hmg.symm.trans (W62.cp (w := w) KX G sy c).g_law
    cases e
    have b := L2.FunD.bindsA (ps := ["_law_script"]) (W62.cp (w := w) KX G sy c).F_law fun _ _ _ _ _ _ us hl => match us, hl with | [_], _ => rfl
    exact ⟨K, (W62.cp (w := w) KX G sy c).d_law, NB.spL K 1 W62.c_law, KX, sy, fun s v => b s [v] rfl, NB.law_sp W62.plain, fun base KB GB sb => W62.w_law (w := w) (W62.cp (w := w) KX G sb c)⟩

