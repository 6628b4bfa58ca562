import PyProof.Rows.All
import PySem.Str
import Wide.All
import OpenK.AllK
import Wide.FinOn
import HandS.ForMost
import HandS.Defaults
import PySem.Challenge.RW_lanerules_k70_whole_lanes_renamed
import HandS.HeadHook2
import HandS.HeadNt
import HandS.Property
import HandS.ClsMeth
import KE.KStateDown
import KE.KSuper
import HandS.Head0
import HandS.Head1
import HandS.Head2
import HandS.HeadEnd
import HandS.TupMul
import HandS.TupAny
import HandS.SetFor
import HandS.Strs
import HandS.Conv
import HandS.Star
import HandS.IsInst
import HandS.Style
import HandS.NoneIn
import HandS.Wide
import HandS.More
import KE.GoesEnum
import KE.GoesMore
import KE.GoesZip
set_option Elab.async false
namespace K70
open PySem

abbrev Rule := List (List Nat)
/-- the i-th number (nought beyond) -/
def ix (xs : List Nat) (i : Nat) : Nat := xs.getD i 0
theorem ix_mem {xs : List Nat} {i : Nat} (h : i < xs.length) : ix xs i ∈ xs := by
  unfold ix
  rw [List.getD_eq_getElem?_getD, List.getElem?_eq_getElem h]
  exact List.getElem_mem h
theorem ix_get {xs : List Nat} {i : Nat} (h : i < xs.length) : xs[i]? = some (ix xs i) := by
  unfold ix
  rw [List.getD_eq_getElem?_getD, List.getElem?_eq_getElem h]
  rfl
theorem ix_of {xs : List Nat} {i a : Nat} (h : xs[i]? = some a) : ix xs i = a := by
  unfold ix
  rw [List.getD_eq_getElem?_getD, h]
  rfl
theorem ix_left {xs ys : List Nat} {i : Nat} (h : i < xs.length) : ix (xs ++ ys) i = ix xs i := by
  unfold ix
  rw [List.getD_eq_getElem?_getD, List.getD_eq_getElem?_getD, List.getElem?_append_left h]
theorem ix_last (xs : List Nat) (a : Nat) : ix (xs ++ [a]) xs.length = a := ix_of (by simp)
theorem ix_map {f : Nat → Nat} {xs : List Nat} {i : Nat} (h : i < xs.length) : ix (xs.map f) i = f (ix xs i) := ix_of (by rw [List.getElem?_map, ix_get h]; rfl)
theorem ix_range {n i : Nat} (h : i < n) : ix (List.range n) i = i := ix_of (by simp [h])
theorem ext_ix {xs ys : List Nat} (hl : xs.length = ys.length) (h : ∀ i, i < xs.length → ix xs i = ix ys i) : xs = ys := by
  apply List.ext_getElem? 
  intro i
  by_cases hi : i < xs.length
  · rw [ix_get hi, ix_get (hl ▸ hi), h i hi]
  · rw [List.getElem?_eq_none (by omega), List.getElem?_eq_none (by omega)]

/-- a rule of n lanes -/
structure RuleOk (n : Nat) (t : Rule) : Prop where
  len : t.length = n + 1
  pos : 1 ≤ n
  top : n ≤ 6
  row : ∀ r ∈ t, r.Perm (List.range n)

structure Sc where
  t : Rule
  came : List Nat
  done : List Nat
  word : Str
  sk : List Nat
  tops : List Nat

def waiting (came done : List Nat) : List Nat := (List.range came.length).filter fun c => !done.contains c
def prefOf (t : Rule) (came done : List Nat) : List Nat :=
  match done.getLast? with
  | none => t.getD 0 []
  | some c => t.getD (1 + ix came c) []
def ownOf (came cars : List Nat) (l : Nat) : List Nat := cars.filter fun c => ix came c == l
def nextCar (t : Rule) (came done : List Nat) : Option Nat := (prefOf t came done).findSome? fun l => (ownOf came (waiting came done) l).head?

def streaks (came cars sk : List Nat) (car : Nat) : List Nat :=
  (List.range sk.length).map fun l => if !(ownOf came cars l).isEmpty && l != ix came car then ix sk l + 1 else 0
def maxes (xs ys : List Nat) : List Nat := (List.range xs.length).map fun l => max (ix xs l) (ix ys l)
def carsBut (came done : List Nat) (car : Nat) : List Nat := (waiting came done).filter fun c => c != car
def moved (s : Sc) (car : Nat) : Sc :=
  let k := streaks s.came (carsBut s.came s.done car) s.sk car
  { s with done := s.done ++ [car], word := s.word ++ "p", sk := k, tops := maxes s.tops k }

inductive Ed where
  | come (l : Nat)
  | go
  | chg (t : Rule)

def step (s : Sc) : Ed → Sc
  | .come l => { s with came := s.came ++ [l], word := s.word ++ "a" }
  | .go => match nextCar s.t s.came s.done with
    | some c => moved s c
    | none => s
  | .chg t => { s with t := t }
def steps (s : Sc) (es : List Ed) : Sc := es.foldl step s
def first (t : Rule) : Sc := ⟨t, [], [], "", List.replicate (t.length - 1) 0, List.replicate (t.length - 1) 0⟩

/-- an edit without an error -/
def Val (n : Nat) (s : Sc) : Ed → Prop
  | .come l => l < n
  | .go => s.done.length < s.came.length
  | .chg t => RuleOk n t
def ValS (n : Nat) (s : Sc) : List Ed → Prop
  | [] => True
  | e :: es => Val n s e ∧ ValS n (step s e) es

theorem steps_append (s : Sc) (a b : List Ed) : steps s (a ++ b) = steps (steps s a) b := List.foldl_append
theorem ValS.append {n : Nat} : ∀ {a b : List Ed} {s : Sc}, ValS n s a → ValS n (steps s a) b → ValS n s (a ++ b)
  | [], _, _, _, h => h
  | _ :: _, _, _, ⟨h1, h2⟩, h => ⟨h1, ValS.append h2 h⟩
theorem ValS.left {n : Nat} : ∀ {a b : List Ed} {s : Sc}, ValS n s (a ++ b) → ValS n s a
  | [], _, _, _ => trivial
  | _ :: _, _, _, ⟨h1, h2⟩ => ⟨h1, ValS.left h2⟩
theorem ValS.right {n : Nat} : ∀ {a b : List Ed} {s : Sc}, ValS n s (a ++ b) → ValS n (steps s a) b
  | [], _, _, h => h
  | e :: a, _, s, h => ValS.right (s := step s e) (a := a) h.2

/-- what holds of a crossing after valid edits; m: how many edits at most -/
structure Inv (n m : Nat) (s : Sc) : Prop where
  rule : RuleOk n s.t
  lanes : ∀ l ∈ s.came, l < n
  nd : s.done.Nodup
  dlt : ∀ c ∈ s.done, c < s.came.length
  sk : s.sk.length = n
  tops : s.tops.length = n
  word : s.word.length = s.came.length + s.done.length
  many : s.came.length + s.done.length ≤ m
  skm : ∀ k ∈ s.sk, k ≤ m
  topm : ∀ k ∈ s.tops, k ≤ m

theorem mem_waiting {came done : List Nat} {c : Nat} : c ∈ waiting came done ↔ c < came.length ∧ c ∉ done := by
  simp [waiting]
theorem nodup_waiting (came done : List Nat) : (waiting came done).Nodup := List.Pairwise.filter _ List.nodup_range
theorem length_sub2 : ∀ {xs ys : List Nat}, xs.Nodup → (∀ x ∈ xs, x ∈ ys) → xs.length ≤ ys.length
  | [], _, _, _ => Nat.zero_le _
  | x :: xs, ys, nd, h => by
    have hx : x ∈ ys := h x List.mem_cons_self
    obtain ⟨n1, n2⟩ := List.nodup_cons.mp nd
    have h2 := length_sub2 (xs := xs) (ys := ys.erase x) n2 fun y hy => by
      have ne : y ≠ x := fun e => n1 (e ▸ hy)
      exact (List.mem_erase_of_ne ne).mpr (h y (List.mem_cons_of_mem _ hy))
    have h3 := List.length_erase_of_mem hx
    have h4 := List.length_pos_of_mem hx
    simp only [List.length_cons]
    omega
theorem length_sub {xs : List Nat} {m : Nat} (nd : xs.Nodup) (lt : ∀ x ∈ xs, x < m) : xs.length ≤ m := by
  have h := length_sub2 nd (ys := List.range m) (fun x hx => List.mem_range.mpr (lt x hx))
  simpa using h
/-- nobody waits iff all have passed -/
theorem waiting_ne {came done : List Nat} (h : done.length < came.length) : ∃ c, c ∈ waiting came done := by
  by_cases e : ∃ c, c ∈ waiting came done
  · exact e
  · exfalso
    have all : ∀ c ∈ List.range came.length, c ∈ done := fun c hc => by
      by_cases hd : c ∈ done
      · exact hd
      · exact absurd ⟨c, mem_waiting.mpr ⟨List.mem_range.mp hc, hd⟩⟩ e
    have h2 := length_sub2 List.nodup_range all
    simp at h2
    omega
theorem RuleOk.mem {n : Nat} {t : Rule} (h : RuleOk n t) {r : List Nat} (hr : r ∈ t) {l : Nat} : l ∈ r ↔ l < n := by
  rw [(h.row r hr).mem_iff, List.mem_range]
theorem getD_mem {α : Type} {xs : List α} {i : Nat} {d : α} (h : i < xs.length) : xs.getD i d ∈ xs := by
  rw [List.getD_eq_getElem?_getD, List.getElem?_eq_getElem h]
  exact List.getElem_mem h
theorem Inv.laneLt {n m : Nat} {s : Sc} (I : Inv n m s) {c : Nat} (h : c < s.came.length) : ix s.came c < n := I.lanes _ (ix_mem h)
theorem prefOf_mem {n : Nat} {t : Rule} {came done : List Nat} (R : RuleOk n t) (lanes : ∀ l ∈ came, l < n) (dlt : ∀ c ∈ done, c < came.length) : prefOf t came done ∈ t := by
  unfold prefOf
  cases h : done.getLast? with
  | none => exact getD_mem (by rw [R.len]; omega)
  | some c =>
    have hc : c ∈ done := List.mem_of_getLast? h
    exact getD_mem (by rw [R.len]; have := lanes _ (ix_mem (dlt c hc)); omega)
theorem Inv.pref {n m : Nat} {s : Sc} (I : Inv n m s) : prefOf s.t s.came s.done ∈ s.t := prefOf_mem I.rule I.lanes I.dlt
/-- who passes next -/
theorem nextCar_some {n : Nat} {t : Rule} {came done : List Nat} (R : RuleOk n t) (lanes : ∀ l ∈ came, l < n) (dlt : ∀ c ∈ done, c < came.length) (h : ∃ c, c ∈ waiting came done) :
    ∃ c, nextCar t came done = some c ∧ c ∈ waiting came done := by
  obtain ⟨c, hc⟩ := h
  have hl : ix came c ∈ prefOf t came done := (R.mem (prefOf_mem R lanes dlt)).mpr (lanes _ (ix_mem (mem_waiting.mp hc).1))
  unfold nextCar
  cases e : (prefOf t came done).findSome? fun l => (ownOf came (waiting came done) l).head? with
  | none =>
    rw [List.findSome?_eq_none_iff] at e
    have := e _ hl
    rw [List.head?_eq_none_iff] at this
    have h2 : c ∈ ownOf came (waiting came done) (ix came c) := by simp [ownOf, hc]
    rw [this] at h2
    cases h2
  | some d =>
    refine ⟨d, rfl, ?_⟩
    obtain ⟨_, l, _, _, h2, _⟩ := List.findSome?_eq_some_iff.mp e
    have h3 := List.mem_of_head? h2
    exact (List.mem_filter.mp h3).1
/-- the car is the first of its lane -/
theorem nextCar_first {t : Rule} {came done : List Nat} {c : Nat} (h : nextCar t came done = some c) : (ownOf came (waiting came done) (ix came c)).head? = some c := by
  obtain ⟨_, l, _, _, h2, _⟩ := List.findSome?_eq_some_iff.mp h
  have h3 := List.mem_of_head? h2
  have e : ix came c = l := by simpa using (List.mem_filter.mp h3).2
  rw [e]; exact h2
theorem nextCar_none {t : Rule} {came done : List Nat} (h : waiting came done = []) : nextCar t came done = none := by
  unfold nextCar
  rw [List.findSome?_eq_none_iff]
  intro l _
  rw [h]; rfl
theorem waiting_empty {came done : List Nat} (nd : done.Nodup) (lt : ∀ c ∈ done, c < came.length) (h : done.length = came.length) : waiting came done = [] := by
  rw [List.eq_nil_iff_forall_not_mem]
  intro c hc
  obtain ⟨h1, h2⟩ := mem_waiting.mp hc
  have h3 : (c :: done).Nodup := List.nodup_cons.mpr ⟨h2, nd⟩
  have h4 := length_sub h3 (m := came.length) (fun x hx => by
    rcases List.mem_cons.mp hx with rfl | hx
    · exact h1
    · exact lt x hx)
  simp at h4
  omega

/-! ### the program's own ways of saying the same -/
/-- first_lane: the preference without the lanes that nobody waits on; the car by its lane's place -/
def firstLane (pref lanes : List Nat) : Option Nat := (pref.filter fun l => lanes.contains l).head?
theorem idx_first {came : List Nat} {l : Nat} : ∀ {cars : List Nat}, l ∈ cars.map (fun c => ix came c) → ∃ c, (ownOf came cars l).head? = some c ∧ cars[(cars.map fun c => ix came c).idxOf l]? = some c
  | [], h => by cases h
  | c :: cs, h => by
    by_cases e : ix came c = l
    · refine ⟨c, ?_, ?_⟩
      · simp [ownOf, e]
      · simp [e]
    · have h' : l ∈ cs.map (fun c => ix came c) := by
        rcases List.mem_cons.mp h with h | h
        · exact absurd h.symm e
        · exact h
      obtain ⟨d, h1, h2⟩ := idx_first h'
      refine ⟨d, ?_, ?_⟩
      · simp only [ownOf, List.filter_cons]
        rw [if_neg (by simpa using e)]
        exact h1
      · rw [List.map_cons, List.idxOf_cons, show (ix came c == l) = false by simpa using e]
        simpa using h2
theorem next_first {pref came cars : List Nat} {l : Nat} (h : firstLane pref (cars.map fun c => ix came c) = some l) :
    ∃ c, (pref.findSome? fun l => (ownOf came cars l).head?) = some c ∧ cars[(cars.map fun c => ix came c).idxOf l]? = some c := by
  unfold firstLane at h
  induction pref with
  | nil => cases h
  | cons p ps ih =>
    by_cases e : p ∈ cars.map (fun c => ix came c)
    · rw [List.filter_cons, if_pos (by simpa using e)] at h
      have e2 : p = l := by simpa using h
      subst e2
      obtain ⟨c, h1, h2⟩ := idx_first e
      refine ⟨c, ?_, h2⟩
      rw [List.findSome?_cons, h1]
    · rw [List.filter_cons, if_neg (by simpa using e)] at h
      obtain ⟨c, h1, h2⟩ := ih h
      refine ⟨c, ?_, h2⟩
      have e3 : ownOf came cars p = [] := by
        unfold ownOf
        rw [List.filter_eq_nil_iff]
        intro c hc hq
        exact e (List.mem_map.mpr ⟨c, hc, by simpa using hq⟩)
      rw [List.findSome?_cons, e3]
      exact h1
theorem firstLane_some {pref lanes : List Nat} (h : ∃ l, l ∈ lanes ∧ l ∈ pref) : ∃ l, firstLane pref lanes = some l ∧ l ∈ lanes := by
  obtain ⟨l, h1, h2⟩ := h
  unfold firstLane
  cases e : (pref.filter fun l => lanes.contains l).head? with
  | none =>
    rw [List.head?_eq_none_iff, List.filter_eq_nil_iff] at e
    exact absurd (by simpa using h1) (e l h2)
  | some d =>
    exact ⟨d, rfl, by simpa using (List.mem_filter.mp (List.mem_of_head? e)).2⟩

/-! ### waiting, step by step -/
theorem waiting_push (came done : List Nat) (l : Nat) (dlt : ∀ c ∈ done, c < came.length) : waiting (came ++ [l]) done = waiting came done ++ [came.length] := by
  unfold waiting
  rw [List.length_append, List.length_singleton, List.range_succ, List.filter_append]
  have h : came.length ∉ done := fun h => absurd (dlt _ h) (Nat.lt_irrefl _)
  rw [List.filter_cons, if_pos (by simpa using h)]
  rfl
theorem waiting_pass (came done : List Nat) (car : Nat) : waiting came (done ++ [car]) = carsBut came done car := by
  unfold waiting carsBut waiting
  rw [List.filter_filter]
  apply List.filter_congr
  intro c _
  by_cases h1 : c ∈ done <;> by_cases h2 : c = car <;> simp [h1, h2]

/-! ### the invariant is kept -/
theorem RuleOk.lanes {n : Nat} {t : Rule} (h : RuleOk n t) : t.length - 1 = n := by rw [h.len]; omega
theorem inv_first {n : Nat} {t : Rule} (h : RuleOk n t) : Inv n 0 (first t) where
  rule := h
  lanes := fun _ h => by cases h
  nd := List.nodup_nil
  dlt := fun _ h => by cases h
  sk := by simp [first, h.lanes]
  tops := by simp [first, h.lanes]
  word := by rfl
  many := Nat.le_refl _
  skm := fun k hk => by
    have := List.eq_of_mem_replicate hk
    omega
  topm := fun k hk => by
    have := List.eq_of_mem_replicate hk
    omega
theorem streaks_length (came cars sk : List Nat) (car : Nat) : (streaks came cars sk car).length = sk.length := by simp [streaks]
theorem maxes_length (xs ys : List Nat) : (maxes xs ys).length = xs.length := by simp [maxes]
theorem streaks_le {came cars sk : List Nat} {car m : Nat} (h : ∀ k ∈ sk, k ≤ m) : ∀ k ∈ streaks came cars sk car, k ≤ m + 1 := by
  intro k hk
  obtain ⟨l, hl, rfl⟩ := List.mem_map.mp hk
  have := h _ (ix_mem (List.mem_range.mp hl))
  split <;> omega
theorem maxes_le {xs ys : List Nat} {m : Nat} (hl : xs.length = ys.length) (h : ∀ k ∈ xs, k ≤ m) (h' : ∀ k ∈ ys, k ≤ m) : ∀ k ∈ maxes xs ys, k ≤ m := by
  intro k hk
  obtain ⟨l, hl', rfl⟩ := List.mem_map.mp hk
  have h1 := List.mem_range.mp hl'
  exact Nat.max_le.mpr ⟨h _ (ix_mem h1), h' _ (ix_mem (hl ▸ h1))⟩
theorem Inv.go {n m : Nat} {s : Sc} (I : Inv n m s) (h : s.done.length < s.came.length) : ∃ c, nextCar s.t s.came s.done = some c ∧ c ∈ waiting s.came s.done := nextCar_some I.rule I.lanes I.dlt (waiting_ne h)
theorem length_str (a b : Str) : (a ++ b).length = a.length + b.length := by
  show (a.cps ++ b.cps).size = a.cps.size + b.cps.size
  simp
theorem Inv.step {n m : Nat} {s : Sc} (I : Inv n m s) {e : Ed} (v : Val n s e) : Inv n (m + 1) (step s e) := by
  cases e with
  | come l =>
    refine ⟨I.rule, fun x hx => ?_, I.nd, fun c hc => ?_, I.sk, I.tops, ?_, ?_, fun k hk => Nat.le_succ_of_le (I.skm k hk), fun k hk => Nat.le_succ_of_le (I.topm k hk)⟩
    · rcases List.mem_append.mp hx with h | h
      · exact I.lanes x h
      · rw [List.mem_singleton.mp h]; exact v
    · show c < (s.came ++ [l]).length
      have := I.dlt c hc
      simp; omega
    · show (s.word ++ _).length = (s.came ++ [l]).length + s.done.length
      rw [length_str, I.word, List.length_append]
      show _ + 1 = _ + 1 + _
      omega
    · show (s.came ++ [l]).length + s.done.length ≤ m + 1
      have := I.many
      simp; omega
  | go =>
    obtain ⟨c, h1, h2⟩ := I.go v
    obtain ⟨h3, h4⟩ := mem_waiting.mp h2
    have e : K70.step s .go = moved s c := by simp only [K70.step, h1]
    rw [e]
    refine ⟨I.rule, I.lanes, ?_, fun x hx => ?_, ?_, ?_, ?_, ?_, ?_, ?_⟩
    · show (s.done ++ [c]).Nodup
      rw [List.nodup_append]
      exact ⟨I.nd, by simp, fun a ha b hb e => h4 (by rw [List.mem_singleton.mp hb] at e; exact e ▸ ha)⟩
    · rcases List.mem_append.mp hx with h | h
      · exact I.dlt x h
      · rw [List.mem_singleton.mp h]; exact h3
    · exact (streaks_length ..).trans I.sk
    · exact (maxes_length ..).trans I.tops
    · show (s.word ++ _).length = s.came.length + (s.done ++ [c]).length
      rw [length_str, I.word, List.length_append]
      show _ + 1 = _ + (_ + 1)
      omega
    · show s.came.length + (s.done ++ [c]).length ≤ m + 1
      have := I.many
      simp; omega
    · exact streaks_le I.skm
    · exact maxes_le (by rw [streaks_length, I.sk, I.tops]) (fun k hk => Nat.le_succ_of_le (I.topm k hk)) (streaks_le I.skm)
  | chg t => exact ⟨v, I.lanes, I.nd, I.dlt, I.sk, I.tops, I.word, Nat.le_succ_of_le I.many, fun k hk => Nat.le_succ_of_le (I.skm k hk), fun k hk => Nat.le_succ_of_le (I.topm k hk)⟩
theorem Inv.steps {n : Nat} : ∀ {es : List Ed} {m : Nat} {s : Sc}, Inv n m s → ValS n s es → Inv n (m + es.length) (steps s es)
  | [], _, _, I, _ => I
  | e :: es, m, s, I, v => by
    have h := Inv.steps (I.step v.1) v.2
    rw [show m + (e :: es).length = m + 1 + es.length by simp; omega]
    exact h

/-! ### the lanes renamed -/
structure Names (n : Nat) (nm : List Nat) : Prop where
  perm : nm.Perm (List.range n)
section
variable {n : Nat} {nm : List Nat}
theorem Names.len (N : Names n nm) : nm.length = n := by rw [N.perm.length_eq, List.length_range]
theorem Names.nd (N : Names n nm) : nm.Nodup := N.perm.nodup_iff.mpr List.nodup_range
theorem Names.lt (N : Names n nm) {l : Nat} (h : l < n) : ix nm l < n := by
  have := N.perm.mem_iff.mp (ix_mem (N.len ▸ h))
  exact List.mem_range.mp this
theorem Names.back (N : Names n nm) {l : Nat} (h : l < n) : nm.idxOf (ix nm l) = l := by
  have hl : l < nm.length := N.len ▸ h
  have e : ix nm l = nm[l] := by
    have := ix_get hl
    rw [List.getElem?_eq_getElem hl] at this
    exact (Option.some.inj this).symm
  rw [e]
  exact N.nd.idxOf_getElem l hl
theorem Names.inj (N : Names n nm) {l k : Nat} (h : l < n) (h' : k < n) (e : ix nm l = ix nm k) : l = k := by rw [← N.back h, ← N.back h', e]
theorem Names.idx (N : Names n nm) {l : Nat} (h : l < n) : nm.idxOf l < n ∧ ix nm (nm.idxOf l) = l := by
  have hm : l ∈ nm := N.perm.mem_iff.mpr (List.mem_range.mpr h)
  have h2 := List.idxOf_lt_length_iff.mpr hm
  refine ⟨N.len ▸ h2, ?_⟩
  have e := ix_get h2
  rw [List.getElem?_eq_getElem h2, List.getElem_idxOf h2] at e
  exact (Option.some.inj e).symm
theorem Names.beq (N : Names n nm) {l k : Nat} (h : l < n) (h' : k < n) : (ix nm l == ix nm k) = (l == k) := by
  by_cases e : l = k
  · subst e; simp
  · rw [beq_eq_false_iff_ne.mpr e, beq_eq_false_iff_ne.mpr fun q => e (N.inj h h' q)]
end
def ren (nm : List Nat) (t : Rule) : Rule :=
  (t.getD 0 []).map (ix nm) :: (List.range nm.length).map fun l => (t.getD (1 + nm.idxOf l) []).map (ix nm)
def renE (nm : List Nat) : Ed → Ed
  | .come l => .come (ix nm l)
  | .go => .go
  | .chg t => .chg (ren nm t)
def back (nm xs : List Nat) : List Nat := (List.range nm.length).map fun l => ix xs (nm.idxOf l)
def renS (nm : List Nat) (s : Sc) : Sc := { t := ren nm s.t, came := s.came.map (ix nm), done := s.done, word := s.word, sk := back nm s.sk, tops := back nm s.tops }
section
variable {n : Nat} {nm : List Nat}
theorem ren_len (N : Names n nm) (t : Rule) : (ren nm t).length = n + 1 := by simp [ren, N.len]
theorem ren_ok (N : Names n nm) {t : Rule} (R : RuleOk n t) : RuleOk n (ren nm t) where
  len := ren_len N t
  pos := R.pos
  top := R.top
  row := fun r hr => by
    have key : ∀ q ∈ t, (q.map (ix nm)).Perm (List.range n) := fun q hq => by
      have h1 := (R.row q hq).map (ix nm)
      refine h1.trans ?_
      have h2 : (List.range n).map (ix nm) = nm := by
        refine ext_ix (by simp [N.len]) fun i hi => ?_
        have hi' : i < n := by simpa using hi
        rw [ix_map (by simpa using hi'), ix_range hi']
      rw [h2]; exact N.perm
    rcases List.mem_cons.mp hr with rfl | hr
    · exact key _ (getD_mem (by rw [R.len]; omega))
    · obtain ⟨l, hl, rfl⟩ := List.mem_map.mp hr
      have h1 : l < n := N.len ▸ List.mem_range.mp hl
      exact key _ (getD_mem (by rw [R.len]; have := (N.idx h1).1; omega))
theorem ren_row (N : Names n nm) {t : Rule} {l : Nat} (h : l < n) : (ren nm t).getD (1 + ix nm l) [] = (t.getD (1 + l) []).map (ix nm) := by
  unfold ren
  rw [List.getD_eq_getElem?_getD, show 1 + ix nm l = ix nm l + 1 by omega, List.getElem?_cons_succ, List.getElem?_map]
  have h2 : ix nm l < nm.length := N.len.symm ▸ N.lt h
  rw [List.getElem?_range h2]
  show (t.getD (1 + nm.idxOf (ix nm l)) []).map (ix nm) = _
  rw [N.back h]
theorem pref_ren (N : Names n nm) {t : Rule} {came done : List Nat} (lanes : ∀ l ∈ came, l < n) (dlt : ∀ c ∈ done, c < came.length) :
    prefOf (ren nm t) (came.map (ix nm)) done = (prefOf t came done).map (ix nm) := by
  unfold prefOf
  cases h : done.getLast? with
  | none => rfl
  | some c =>
    have hc : c < came.length := dlt c (List.mem_of_getLast? h)
    show (ren nm t).getD (1 + ix (came.map (ix nm)) c) [] = (t.getD (1 + ix came c) []).map (ix nm)
    rw [ix_map hc, ren_row N (lanes _ (ix_mem hc))]
theorem own_ren (N : Names n nm) {came cars : List Nat} {l : Nat} (lanes : ∀ l ∈ came, l < n) (clt : ∀ c ∈ cars, c < came.length) (h : l < n) :
    ownOf (came.map (ix nm)) cars (ix nm l) = ownOf came cars l := by
  unfold ownOf
  apply List.filter_congr
  intro c hc
  rw [ix_map (clt c hc), N.beq (lanes _ (ix_mem (clt c hc))) h]
theorem waiting_map (f : Nat → Nat) (came done : List Nat) : waiting (came.map f) done = waiting came done := by unfold waiting; rw [List.length_map]
theorem next_ren (N : Names n nm) {t : Rule} {came done : List Nat} (R : RuleOk n t) (lanes : ∀ l ∈ came, l < n) (dlt : ∀ c ∈ done, c < came.length) :
    nextCar (ren nm t) (came.map (ix nm)) done = nextCar t came done := by
  unfold nextCar
  rw [pref_ren N lanes dlt, List.findSome?_map]
  have hp := prefOf_mem R lanes dlt
  have hlt : ∀ l ∈ prefOf t came done, l < n := fun l hl => (R.mem hp).mp hl
  generalize prefOf t came done = p at hlt
  induction p with
  | nil => rfl
  | cons l p ih =>
    rw [List.findSome?_cons, List.findSome?_cons]
    have h1 : ((fun l => (ownOf (came.map (ix nm)) (waiting (came.map (ix nm)) done) l).head?) ∘ ix nm) l = (ownOf came (waiting came done) l).head? := by
      show (ownOf (came.map (ix nm)) (waiting (came.map (ix nm)) done) (ix nm l)).head? = _
      rw [waiting_map, own_ren N lanes (fun c hc => (mem_waiting.mp hc).1) (hlt l List.mem_cons_self)]
    rw [h1, ih fun x hx => hlt x (List.mem_cons_of_mem _ hx)]
theorem back_len (nm xs : List Nat) : (back nm xs).length = nm.length := by simp [back]
theorem ix_back (N : Names n nm) {xs : List Nat} {l : Nat} (h : l < n) : ix (back nm xs) l = ix xs (nm.idxOf l) := by
  unfold back
  apply ix_of
  rw [List.getElem?_map, List.getElem?_range (N.len.symm ▸ h)]
  rfl
theorem streaks_ix {came cars sk : List Nat} {car l : Nat} (h : l < sk.length) : ix (streaks came cars sk car) l = if !(ownOf came cars l).isEmpty && l != ix came car then ix sk l + 1 else 0 := by
  unfold streaks
  apply ix_of
  rw [List.getElem?_map, List.getElem?_range h]
  rfl
theorem maxes_ix {xs ys : List Nat} {l : Nat} (h : l < xs.length) : ix (maxes xs ys) l = max (ix xs l) (ix ys l) := by
  unfold maxes
  apply ix_of
  rw [List.getElem?_map, List.getElem?_range h]
  rfl
theorem streaks_ren (N : Names n nm) {came cars sk : List Nat} {car : Nat} (lanes : ∀ l ∈ came, l < n) (clt : ∀ c ∈ cars, c < came.length) (hc : car < came.length) (hs : sk.length = n) :
    streaks (came.map (ix nm)) cars (back nm sk) car = back nm (streaks came cars sk car) := by
  refine ext_ix (by rw [streaks_length, back_len, back_len]) fun l hl => ?_
  have h : l < n := by rw [streaks_length, back_len, N.len] at hl; exact hl
  obtain ⟨h1, h2⟩ := N.idx h
  rw [streaks_ix (by rw [back_len, N.len]; exact h), ix_back N h, ix_back N h, streaks_ix (by rw [hs]; exact h1), ix_map hc]
  have e1 : ownOf (came.map (ix nm)) cars l = ownOf came cars (nm.idxOf l) := by
    have := own_ren N lanes clt h1
    rw [h2] at this
    exact this
  have e2 : (l != ix nm (ix came car)) = (nm.idxOf l != ix came car) := by
    have := N.beq h1 (lanes _ (ix_mem hc))
    rw [h2] at this
    simp only [bne, this]
  rw [e1, e2]
theorem maxes_ren (N : Names n nm) {xs ys : List Nat} (hx : xs.length = n) : maxes (back nm xs) (back nm ys) = back nm (maxes xs ys) := by
  refine ext_ix (by rw [maxes_length, back_len, back_len]) fun l hl => ?_
  have h : l < n := by rw [maxes_length, back_len, N.len] at hl; exact hl
  rw [maxes_ix (by rw [back_len, N.len]; exact h), ix_back N h, ix_back N h, ix_back N h, maxes_ix (by rw [hx]; exact (N.idx h).1)]
theorem step_ren (N : Names n nm) {m : Nat} {s : Sc} (I : Inv n m s) {e : Ed} (v : Val n s e) : step (renS nm s) (renE nm e) = renS nm (step s e) := by
  cases e with
  | come l =>
    show Sc.mk _ _ _ _ _ _ = Sc.mk _ _ _ _ _ _
    congr 1
    show s.came.map (ix nm) ++ [ix nm l] = (s.came ++ [l]).map (ix nm)
    rw [List.map_append]; rfl
  | chg t => rfl
  | go =>
    obtain ⟨c, h1, h2⟩ := I.go v
    have hc := (mem_waiting.mp h2).1
    have e1 : step s .go = moved s c := by simp only [step, h1]
    have e2 : step (renS nm s) (renE nm .go) = moved (renS nm s) c := by
      have : nextCar (renS nm s).t (renS nm s).came (renS nm s).done = some c := (next_ren N I.rule I.lanes I.dlt).trans h1
      simp only [renE, step, this]
    rw [e1, e2]
    have e3 : carsBut (s.came.map (ix nm)) s.done c = carsBut s.came s.done c := by unfold carsBut; rw [waiting_map]
    have clt : ∀ x ∈ carsBut s.came s.done c, x < s.came.length := fun x hx => (mem_waiting.mp (List.mem_filter.mp hx).1).1
    have e4 := streaks_ren N (sk := s.sk) (car := c) I.lanes clt hc I.sk
    show Sc.mk (ren nm s.t) (s.came.map (ix nm)) (s.done ++ [c]) (s.word ++ "p") (streaks (s.came.map (ix nm)) (carsBut (s.came.map (ix nm)) s.done c) (back nm s.sk) c) (maxes (back nm s.tops) (streaks (s.came.map (ix nm)) (carsBut (s.came.map (ix nm)) s.done c) (back nm s.sk) c)) = Sc.mk _ _ _ _ _ _
    rw [e3, e4, maxes_ren N I.tops]
    rfl
theorem val_ren (N : Names n nm) {s : Sc} {e : Ed} (v : Val n s e) : Val n (renS nm s) (renE nm e) := by
  cases e with
  | come l => exact N.lt v
  | go => show s.done.length < (s.came.map (ix nm)).length; rw [List.length_map]; exact v
  | chg t => exact ren_ok N v
theorem steps_ren (N : Names n nm) : ∀ {es : List Ed} {m : Nat} {s : Sc}, Inv n m s → ValS n s es → ValS n (renS nm s) (es.map (renE nm)) ∧ steps (renS nm s) (es.map (renE nm)) = renS nm (steps s es)
  | [], _, _, _, _ => ⟨trivial, rfl⟩
  | e :: es, m, s, I, v => by
    obtain ⟨h1, h2⟩ := steps_ren N (I.step v.1) v.2
    have h3 := step_ren N I v.1
    refine ⟨⟨val_ren N v.1, ?_⟩, ?_⟩
    · show ValS n (step (renS nm s) (renE nm e)) (es.map (renE nm))
      rw [h3]; exact h1
    · show steps (step (renS nm s) (renE nm e)) (es.map (renE nm)) = _
      rw [h3]; exact h2
theorem first_ren (N : Names n nm) {t : Rule} (R : RuleOk n t) : renS nm (first t) = first (ren nm t) := by
  have e : back nm (List.replicate n 0) = List.replicate n 0 := by
    refine ext_ix (by rw [back_len, N.len, List.length_replicate]) fun l hl => ?_
    have h : l < n := by rw [back_len, N.len] at hl; exact hl
    have z : ∀ k, k < n → ix (List.replicate n 0) k = 0 := fun k hk => ix_of (by simp [hk])
    rw [ix_back N h, z _ h, z _ (N.idx h).1]
  unfold first renS
  rw [R.lanes, ren_len N t, Nat.add_sub_cancel]
  show Sc.mk _ _ _ _ _ _ = Sc.mk _ _ _ _ _ _
  rw [e]
  rfl
/-- overs, renamed -/
theorem back_at (N : Names n nm) {xs : List Nat} (hx : xs.length = n) : (List.range nm.length).map (fun l => ix (back nm xs) (ix nm l)) = xs := by
  refine ext_ix (by simp [hx, N.len]) fun l hl => ?_
  have h : l < n := by simpa [N.len] using hl
  rw [ix_map (by simpa [N.len] using h), ix_range (N.len.symm ▸ h), ix_back N (N.lt h), N.back h]
end

/-! ### a change to the rule in force -/
theorem idle_step (s : Sc) : step s (.chg s.t) = s := rfl
theorem idle_steps (s : Sc) (a b : List Ed) : steps s (a ++ [.chg (steps s a).t] ++ b) = steps s (a ++ b) := by
  rw [steps_append, steps_append, steps_append]
  rfl
theorem idle_val {n m : Nat} {s : Sc} {a b : List Ed} (I : Inv n m s) (v : ValS n s (a ++ b)) : ValS n s (a ++ [.chg (steps s a).t] ++ b) := by
  refine ValS.append (ValS.append v.left ⟨(I.steps v.left).rule, trivial⟩) ?_
  rw [steps_append]
  exact v.right

/-! ### the cars of a lane pass in the order in which they came -/
def LaneOk (s : Sc) (l : Nat) : Prop := ownOf s.came s.done l ++ ownOf s.came (waiting s.came s.done) l = ownOf s.came (List.range s.came.length) l
theorem lane_step {n m : Nat} {s : Sc} (I : Inv n m s) {e : Ed} (v : Val n s e) {l : Nat} (h : LaneOk s l) : LaneOk (step s e) l := by
  unfold LaneOk at *
  cases e with
  | chg t => exact h
  | come k =>
    show ownOf (s.came ++ [k]) s.done l ++ ownOf (s.came ++ [k]) (waiting (s.came ++ [k]) s.done) l = ownOf (s.came ++ [k]) (List.range (s.came ++ [k]).length) l
    have key : ∀ cars : List Nat, (∀ c ∈ cars, c < s.came.length) → ownOf (s.came ++ [k]) cars l = ownOf s.came cars l := fun cars hc => by
      unfold ownOf
      exact List.filter_congr fun c h => by rw [ix_left (hc c h)]
    have app : ∀ a b : List Nat, ownOf (s.came ++ [k]) (a ++ b) l = ownOf (s.came ++ [k]) a l ++ ownOf (s.came ++ [k]) b l := fun a b => List.filter_append ..
    rw [waiting_push _ _ _ I.dlt, app, List.length_append, List.length_singleton, List.range_succ, app, key _ I.dlt, key _ (fun c hc => (mem_waiting.mp hc).1), key _ (fun c hc => List.mem_range.mp hc), ← List.append_assoc, h]
  | go =>
    obtain ⟨c, h1, h2⟩ := I.go v
    have e1 : step s .go = moved s c := by simp only [step, h1]
    rw [e1]
    show ownOf s.came (s.done ++ [c]) l ++ ownOf s.came (waiting s.came (s.done ++ [c])) l = ownOf s.came (List.range s.came.length) l
    rw [waiting_pass, ← h]
    have app : ∀ a b : List Nat, ownOf s.came (a ++ b) l = ownOf s.came a l ++ ownOf s.came b l := fun a b => List.filter_append ..
    rw [app, List.append_assoc]
    congr 1
    have hf := nextCar_first h1
    have e3 : ownOf s.came (carsBut s.came s.done c) l = (ownOf s.came (waiting s.came s.done) l).filter fun x => x != c := by
      unfold ownOf carsBut
      rw [List.filter_filter, List.filter_filter]
      exact List.filter_congr fun x _ => Bool.and_comm _ _
    rw [e3]
    by_cases hl : ix s.came c = l
    · subst hl
      have nd : (ownOf s.came (waiting s.came s.done) (ix s.came c)).Nodup := List.Pairwise.filter _ (nodup_waiting _ _)
      generalize ownOf s.came (waiting s.came s.done) (ix s.came c) = w at hf nd
      cases w with
      | nil => cases hf
      | cons x w =>
        have ex : x = c := by simpa using hf
        subst ex
        obtain ⟨n1, _⟩ := List.nodup_cons.mp nd
        have e4 : ownOf s.came [x] (ix s.came x) = [x] := by simp [ownOf]
        rw [e4, List.filter_cons, if_neg (by simp), List.filter_eq_self.mpr fun y hy => by
          have : y ≠ x := fun e => n1 (e ▸ hy)
          simpa using this]
        rfl
    · have e4 : ownOf s.came [c] l = [] := by simp [ownOf, hl]
      rw [e4, List.nil_append]
      apply List.filter_eq_self.mpr
      intro x hx
      have hx2 : ix s.came x = l := by simpa using (List.mem_filter.mp hx).2
      have : x ≠ c := fun e => hl (e ▸ hx2)
      simpa using this
theorem lane_steps {n : Nat} {l : Nat} : ∀ {es : List Ed} {m : Nat} {s : Sc}, Inv n m s → ValS n s es → LaneOk s l → LaneOk (steps s es) l
  | [], _, _, _, _, h => h
  | e :: es, m, s, I, v, h => lane_steps (es := es) (I.step v.1) v.2 (lane_step I v.1 h)
theorem lane_first (t : Rule) (l : Nat) : LaneOk (first t) l := rfl

/-! ### one lane for all -/
def single : List Ed → List Ed
  | [] => []
  | .come _ :: es => .come 0 :: single es
  | .go :: es => .go :: single es
  | .chg _ :: es => single es
def one : Rule := [[0], [0]]
theorem one_ok : RuleOk 1 one where
  len := rfl
  pos := Nat.le_refl _
  top := by decide
  row := fun r hr => by
    have : r = [0] := by
      rcases List.mem_cons.mp hr with h | h
      · exact h
      · simpa using h
    rw [this]; exact .refl _
theorem single_val {n : Nat} : ∀ {es : List Ed} {m k : Nat} {s u : Sc}, Inv n m s → Inv 1 k u → s.came.length = u.came.length → s.done.length = u.done.length → ValS n s es → ValS 1 u (single es)
  | [], _, _, _, _, _, _, _, _, _ => trivial
  | .come l :: es, m, k, s, u, I, J, h1, h2, v => by
    refine ⟨(by decide : (0 : Nat) < 1), single_val (I.step v.1) (J.step (e := .come 0) (by decide : (0 : Nat) < 1)) ?_ h2 v.2⟩
    show (s.came ++ [l]).length = (u.came ++ [0]).length
    simp [h1]
  | .go :: es, m, k, s, u, I, J, h1, h2, v => by
    have v1 : s.done.length < s.came.length := v.1
    have w1 : u.done.length < u.came.length := by omega
    obtain ⟨c, c1, _⟩ := I.go v1
    obtain ⟨d, d1, _⟩ := J.go w1
    have e1 : step s .go = moved s c := by simp only [step, c1]
    have e2 : step u .go = moved u d := by simp only [step, d1]
    refine ⟨w1, single_val (I.step v.1) (J.step (e := .go) w1) ?_ ?_ v.2⟩
    · rw [e1, e2]; exact h1
    · rw [e1, e2]
      show (s.done ++ [c]).length = (u.done ++ [d]).length
      simp [h2]
  | .chg t :: es, m, k, s, u, I, J, h1, h2, v => single_val (es := es) (I.step v.1) J h1 h2 v.2
theorem own_all {came : List Nat} (h : ∀ l ∈ came, l < 1) {cars : List Nat} (hc : ∀ c ∈ cars, c < came.length) : ownOf came cars 0 = cars := by
  unfold ownOf
  apply List.filter_eq_self.mpr
  intro c hx
  have := h _ (ix_mem (hc c hx))
  simp; omega
theorem one_order {m : Nat} {u : Sc} (J : Inv 1 m u) (h : LaneOk u 0) : u.done ++ waiting u.came u.done = List.range u.came.length := by
  unfold LaneOk at h
  rw [own_all J.lanes J.dlt, own_all J.lanes (fun c hc => (mem_waiting.mp hc).1), own_all J.lanes (fun c hc => List.mem_range.mp hc)] at h
  exact h
theorem single_len : ∀ es : List Ed, (single es).length ≤ es.length
  | [] => Nat.le_refl _
  | .come _ :: es => Nat.succ_le_succ (single_len es)
  | .go :: es => Nat.succ_le_succ (single_len es)
  | .chg _ :: es => Nat.le_succ_of_le (single_len es)
def turned (t : Rule) : Rule := t.map List.reverse
theorem turned_twice (t : Rule) : turned (turned t) = t := by
  unfold turned
  rw [List.map_map]
  conv => rhs; rw [← List.map_id t]
  apply List.map_congr_left
  intro r _
  simp
end K70
set_option Elab.async false
set_option maxRecDepth 100000
namespace K70
open PySem L2
/-! the text by places -/
def top (i : Nat) : Stmt := PySem.Challenge.pw_lanerules_k70_whole_lanes_renamed.main.body.getD i (.Pass ⟨0, 0, 0, 0⟩)
abbrev s_BadRule_init : Stmt := inClass (top 5) 0
abbrev s_NoLane_init : Stmt := inClass (top 6) 0
abbrev s_NoCar_init : Stmt := inClass (top 7) 0
abbrev s_NoCount_init : Stmt := inClass (top 8) 0
abbrev s_TooLarge_init : Stmt := inClass (top 9) 0
abbrev s_NoVersion_init : Stmt := inClass (top 12) 0
abbrev s_OtherLanes_init : Stmt := inClass (top 14) 0
abbrev s_PassedOver_init : Stmt := inClass (top 15) 0
abbrev s_is_integer : Stmt := top 17
abbrev s_is_preference : Stmt := top 18
abbrev s_rule_error : Stmt := top 19
abbrev s_is_lane : Stmt := top 20
abbrev s_preference_after : Stmt := top 21
abbrev s_first_lane : Stmt := top 22
abbrev s_is_whole : Stmt := top 27
abbrev s_check_rule : Stmt := top 28
abbrev s_waiting_cars : Stmt := top 29
abbrev s_last_lane : Stmt := top 30
abbrev s_next_car : Stmt := top 31
abbrev s_Scene_init : Stmt := inClass (top 32) 0
abbrev s_Scene_with_one : Stmt := inClass (top 32) 1
abbrev s_Scene_with_passing : Stmt := inClass (top 32) 2
abbrev s_Scene_with_rule : Stmt := inClass (top 32) 3
abbrev s_Scene_own_key : Stmt := inClass (top 32) 4
abbrev s_first_scene : Stmt := top 33
abbrev s_Crossing_init : Stmt := inClass (top 34) 1
abbrev s_Crossing_of : Stmt := inClass (top 34) 2
abbrev s_Crossing_turned : Stmt := inClass (top 34) 3
abbrev s_Crossing_cars : Stmt := inClass (top 34) 4
abbrev s_Crossing_length : Stmt := inClass (top 34) 5
abbrev s_Crossing_require_idle : Stmt := inClass (top 34) 8
abbrev s_Crossing_require_lane : Stmt := inClass (top 34) 9
abbrev s_Crossing_accept : Stmt := inClass (top 34) 11
abbrev s_Crossing_scene_with_rule : Stmt := inClass (top 34) 12
abbrev s_Crossing_scene_after : Stmt := inClass (top 34) 13
abbrev s_Crossing_perform : Stmt := inClass (top 34) 14
abbrev s_Crossing_come : Stmt := inClass (top 34) 15
abbrev s_Crossing_go : Stmt := inClass (top 34) 16
abbrev s_Crossing_change : Stmt := inClass (top 34) 17
abbrev s_Crossing_scene_at : Stmt := inClass (top 34) 24
abbrev s_Crossing_current : Stmt := inClass (top 34) 25
abbrev s_Crossing_row : Stmt := inClass (top 34) 26
abbrev s_Crossing_waiting : Stmt := inClass (top 34) 27
abbrev s_Crossing_passed : Stmt := inClass (top 34) 28
abbrev s_Crossing_edits : Stmt := inClass (top 34) 29
abbrev s_Crossing_word : Stmt := inClass (top 34) 30
abbrev s_Crossing_told : Stmt := inClass (top 34) 34
abbrev s_Crossing_call : Stmt := inClass (top 34) 35
abbrev s_Crossing_contains : Stmt := inClass (top 34) 36
abbrev s_Crossing_getitem : Stmt := inClass (top 34) 37
abbrev s_Crossing_iter : Stmt := inClass (top 34) 38
abbrev s_Crossing_bool : Stmt := inClass (top 34) 39
abbrev s_Crossing_len : Stmt := inClass (top 34) 40
abbrev s_Crossing_eq : Stmt := inClass (top 34) 41
abbrev s_Crossing_str : Stmt := inClass (top 34) 42
abbrev s_WatchedCrossing_init : Stmt := inClass (top 35) 0
abbrev s_WatchedCrossing_bound : Stmt := inClass (top 35) 1
abbrev s_WatchedCrossing_overs : Stmt := inClass (top 35) 2
abbrev s_WatchedCrossing_accept : Stmt := inClass (top 35) 3
abbrev s_WatchedCrossing_told : Stmt := inClass (top 35) 5
abbrev s_L_dice : Stmt := top 37
abbrev s_L_roll : Stmt := top 38
abbrev s_L_mixed : Stmt := top 39
abbrev s_L_rule : Stmt := top 40
abbrev s_L_whole : Stmt := top 41
abbrev s_L_rule_error : Stmt := top 42
abbrev s_L_waiting : Stmt := top 43
abbrev s_L_next : Stmt := top 44
abbrev s_L_moved : Stmt := top 45
abbrev s_L_after : Stmt := top 46
abbrev s_L_first : Stmt := top 47
abbrev s_L_call : Stmt := top 48
abbrev s_L_edit : Stmt := top 49
abbrev s_L_planned : Stmt := top 50
abbrev s_L_renamed : Stmt := top 51
abbrev s_L_renamed_edits : Stmt := top 52
abbrev s_L_done : Stmt := top 53
abbrev s_L_names_right : Stmt := top 54
abbrev s_L_idle_right : Stmt := top 55
abbrev s_L_lanes_right : Stmt := top 56
abbrev s_L_single_right : Stmt := top 57
abbrev s_law : Stmt := top 58
end K70
set_option Elab.async false
set_option maxRecDepth 100000
set_option maxHeartbeats 0
namespace K70
open PySem L2
/-! the facts by names -/
def d_is_integer : He5.DefA := ⟨fun K => He.ga K "is_integer", "is_integer", "is_integer", defArgs s_is_integer, defBody s_is_integer, defScope s_is_integer, [], []⟩
def d_is_preference : He5.DefA := ⟨fun K => He.ga K "is_preference", "is_preference", "is_preference", defArgs s_is_preference, defBody s_is_preference, defScope s_is_preference, [], []⟩
def d_rule_error : He5.DefA := ⟨fun K => He.ga K "rule_error", "rule_error", "rule_error", defArgs s_rule_error, defBody s_rule_error, defScope s_rule_error, [], []⟩
def d_is_lane : He5.DefA := ⟨fun K => He.ga K "is_lane", "is_lane", "is_lane", defArgs s_is_lane, defBody s_is_lane, defScope s_is_lane, [], []⟩
def d_preference_after : He5.DefA := ⟨fun K => He.ga K "preference_after", "preference_after", "preference_after", defArgs s_preference_after, defBody s_preference_after, defScope s_preference_after, [], []⟩
def d_first_lane : He5.DefA := ⟨fun K => He.ga K "first_lane", "first_lane", "first_lane", defArgs s_first_lane, defBody s_first_lane, defScope s_first_lane, [], []⟩
def d_is_whole : He5.DefA := ⟨fun K => He.ga K "is_whole", "is_whole", "is_whole", defArgs s_is_whole, defBody s_is_whole, defScope s_is_whole, [], []⟩
def d_check_rule : He5.DefA := ⟨fun K => He.ga K "check_rule", "check_rule", "check_rule", defArgs s_check_rule, defBody s_check_rule, defScope s_check_rule, [], []⟩
def d_waiting_cars : He5.DefA := ⟨fun K => He.ga K "waiting_cars", "waiting_cars", "waiting_cars", defArgs s_waiting_cars, defBody s_waiting_cars, defScope s_waiting_cars, [], []⟩
def d_last_lane : He5.DefA := ⟨fun K => He.ga K "last_lane", "last_lane", "last_lane", defArgs s_last_lane, defBody s_last_lane, defScope s_last_lane, [], []⟩
def d_next_car : He5.DefA := ⟨fun K => He.ga K "next_car", "next_car", "next_car", defArgs s_next_car, defBody s_next_car, defScope s_next_car, [], []⟩
def d_first_scene : He5.DefA := ⟨fun K => He.ga K "first_scene", "first_scene", "first_scene", defArgs s_first_scene, defBody s_first_scene, defScope s_first_scene, [], []⟩
def d_L_dice : He5.DefA := ⟨fun K => He.ga K "_law_dice", "_law_dice", "_law_dice", defArgs s_L_dice, defBody s_L_dice, defScope s_L_dice, [], []⟩
def d_L_roll : He5.DefA := ⟨fun K => He.ga K "_law_roll", "_law_roll", "_law_roll", defArgs s_L_roll, defBody s_L_roll, defScope s_L_roll, [], []⟩
def d_L_mixed : He5.DefA := ⟨fun K => He.ga K "_law_mixed", "_law_mixed", "_law_mixed", defArgs s_L_mixed, defBody s_L_mixed, defScope s_L_mixed, [], []⟩
def d_L_rule : He5.DefA := ⟨fun K => He.ga K "_law_rule", "_law_rule", "_law_rule", defArgs s_L_rule, defBody s_L_rule, defScope s_L_rule, [], []⟩
def d_L_whole : He5.DefA := ⟨fun K => He.ga K "_law_whole", "_law_whole", "_law_whole", defArgs s_L_whole, defBody s_L_whole, defScope s_L_whole, [], []⟩
def d_L_rule_error : He5.DefA := ⟨fun K => He.ga K "_law_rule_error", "_law_rule_error", "_law_rule_error", defArgs s_L_rule_error, defBody s_L_rule_error, defScope s_L_rule_error, [], []⟩
def d_L_waiting : He5.DefA := ⟨fun K => He.ga K "_law_waiting", "_law_waiting", "_law_waiting", defArgs s_L_waiting, defBody s_L_waiting, defScope s_L_waiting, [], []⟩
def d_L_next : He5.DefA := ⟨fun K => He.ga K "_law_next", "_law_next", "_law_next", defArgs s_L_next, defBody s_L_next, defScope s_L_next, [], []⟩
def d_L_moved : He5.DefA := ⟨fun K => He.ga K "_law_moved", "_law_moved", "_law_moved", defArgs s_L_moved, defBody s_L_moved, defScope s_L_moved, [], []⟩
def d_L_after : He5.DefA := ⟨fun K => He.ga K "_law_after", "_law_after", "_law_after", defArgs s_L_after, defBody s_L_after, defScope s_L_after, [], []⟩
def d_L_first : He5.DefA := ⟨fun K => He.ga K "_law_first", "_law_first", "_law_first", defArgs s_L_first, defBody s_L_first, defScope s_L_first, [], []⟩
def d_L_call : He5.DefA := ⟨fun K => He.ga K "_law_call", "_law_call", "_law_call", defArgs s_L_call, defBody s_L_call, defScope s_L_call, [], []⟩
def d_L_edit : He5.DefA := ⟨fun K => He.ga K "_law_edit", "_law_edit", "_law_edit", defArgs s_L_edit, defBody s_L_edit, defScope s_L_edit, [], []⟩
def d_L_planned : He5.DefA := ⟨fun K => He.ga K "_law_planned", "_law_planned", "_law_planned", defArgs s_L_planned, defBody s_L_planned, defScope s_L_planned, [], []⟩
def d_L_renamed : He5.DefA := ⟨fun K => He.ga K "_law_renamed", "_law_renamed", "_law_renamed", defArgs s_L_renamed, defBody s_L_renamed, defScope s_L_renamed, [], []⟩
def d_L_renamed_edits : He5.DefA := ⟨fun K => He.ga K "_law_renamed_edits", "_law_renamed_edits", "_law_renamed_edits", defArgs s_L_renamed_edits, defBody s_L_renamed_edits, defScope s_L_renamed_edits, [], []⟩
def d_L_done : He5.DefA := ⟨fun K => He.ga K "_law_done", "_law_done", "_law_done", defArgs s_L_done, defBody s_L_done, defScope s_L_done, [], []⟩
def d_L_names_right : He5.DefA := ⟨fun K => He.ga K "_law_names_right", "_law_names_right", "_law_names_right", defArgs s_L_names_right, defBody s_L_names_right, defScope s_L_names_right, [], []⟩
def d_L_idle_right : He5.DefA := ⟨fun K => He.ga K "_law_idle_right", "_law_idle_right", "_law_idle_right", defArgs s_L_idle_right, defBody s_L_idle_right, defScope s_L_idle_right, [], []⟩
def d_L_lanes_right : He5.DefA := ⟨fun K => He.ga K "_law_lanes_right", "_law_lanes_right", "_law_lanes_right", defArgs s_L_lanes_right, defBody s_L_lanes_right, defScope s_L_lanes_right, [], []⟩
def d_L_single_right : He5.DefA := ⟨fun K => He.ga K "_law_single_right", "_law_single_right", "_law_single_right", defArgs s_L_single_right, defBody s_L_single_right, defScope s_L_single_right, [], []⟩
def d_law : He5.DefA := ⟨fun K => He.ga K "law", "law", "law", defArgs s_law, defBody s_law, defScope s_law, [], []⟩
def d_Scene_init : He5.DefA := ⟨fun K => He.ma K (He.ga K "Scene") "__init__", "__init__", "Scene.__init__", defArgs s_Scene_init, defBody s_Scene_init, defScope s_Scene_init, [], []⟩
def d_Scene_with_one : He5.DefA := ⟨fun K => He.ma K (He.ga K "Scene") "with_one", "with_one", "Scene.with_one", defArgs s_Scene_with_one, defBody s_Scene_with_one, defScope s_Scene_with_one, [], []⟩
def d_Scene_with_passing : He5.DefA := ⟨fun K => He.ma K (He.ga K "Scene") "with_passing", "with_passing", "Scene.with_passing", defArgs s_Scene_with_passing, defBody s_Scene_with_passing, defScope s_Scene_with_passing, [], []⟩
def d_Scene_with_rule : He5.DefA := ⟨fun K => He.ma K (He.ga K "Scene") "with_rule", "with_rule", "Scene.with_rule", defArgs s_Scene_with_rule, defBody s_Scene_with_rule, defScope s_Scene_with_rule, [], []⟩
def d_Crossing_init : He5.DefA := ⟨fun K => He.ma K (He.ga K "Crossing") "__init__", "__init__", "Crossing.__init__", defArgs s_Crossing_init, defBody s_Crossing_init, defScope s_Crossing_init, [], []⟩
def d_Crossing_require_idle : He5.DefA := ⟨fun K => He.ma K (He.ga K "Crossing") "require_idle", "require_idle", "Crossing.require_idle", defArgs s_Crossing_require_idle, defBody s_Crossing_require_idle, defScope s_Crossing_require_idle, [], []⟩
def d_Crossing_require_lane : He5.DefA := ⟨fun K => He.ma K (He.ga K "Crossing") "require_lane", "require_lane", "Crossing.require_lane", defArgs s_Crossing_require_lane, defBody s_Crossing_require_lane, defScope s_Crossing_require_lane, [], []⟩
def d_Crossing_accept : He5.DefA := ⟨fun K => He.ma K (He.ga K "Crossing") "accept", "accept", "Crossing.accept", defArgs s_Crossing_accept, defBody s_Crossing_accept, defScope s_Crossing_accept, [], []⟩
def d_Crossing_scene_with_rule : He5.DefA := ⟨fun K => He.ma K (He.ga K "Crossing") "scene_with_rule", "scene_with_rule", "Crossing.scene_with_rule", defArgs s_Crossing_scene_with_rule, defBody s_Crossing_scene_with_rule, defScope s_Crossing_scene_with_rule, [], []⟩
def d_Crossing_scene_after : He5.DefA := ⟨fun K => He.ma K (He.ga K "Crossing") "scene_after", "scene_after", "Crossing.scene_after", defArgs s_Crossing_scene_after, defBody s_Crossing_scene_after, defScope s_Crossing_scene_after, [], []⟩
def d_Crossing_perform : He5.DefA := ⟨fun K => He.ma K (He.ga K "Crossing") "perform", "perform", "Crossing.perform", defArgs s_Crossing_perform, defBody s_Crossing_perform, defScope s_Crossing_perform, [], []⟩
def d_Crossing_come : He5.DefA := ⟨fun K => He.ma K (He.ga K "Crossing") "come", "come", "Crossing.come", defArgs s_Crossing_come, defBody s_Crossing_come, defScope s_Crossing_come, [], []⟩
def d_Crossing_go : He5.DefA := ⟨fun K => He.ma K (He.ga K "Crossing") "go", "go", "Crossing.go", defArgs s_Crossing_go, defBody s_Crossing_go, defScope s_Crossing_go, [], []⟩
def d_Crossing_change : He5.DefA := ⟨fun K => He.ma K (He.ga K "Crossing") "change", "change", "Crossing.change", defArgs s_Crossing_change, defBody s_Crossing_change, defScope s_Crossing_change, [], []⟩
def d_Crossing_scene_at : He5.DefA := ⟨fun K => He.ma K (He.ga K "Crossing") "scene_at", "scene_at", "Crossing.scene_at", defArgs s_Crossing_scene_at, defBody s_Crossing_scene_at, defScope s_Crossing_scene_at, [], []⟩
def d_Crossing_current : He5.DefA := ⟨fun K => He.ma K (He.ga K "Crossing") "current", "current", "Crossing.current", defArgs s_Crossing_current, defBody s_Crossing_current, defScope s_Crossing_current, [], [("version", .non)]⟩
def d_Crossing_row : He5.DefA := ⟨fun K => He.ma K (He.ga K "Crossing") "row", "row", "Crossing.row", defArgs s_Crossing_row, defBody s_Crossing_row, defScope s_Crossing_row, [], [("version", .non)]⟩
def d_Crossing_waiting : He5.DefA := ⟨fun K => He.ma K (He.ga K "Crossing") "waiting", "waiting", "Crossing.waiting", defArgs s_Crossing_waiting, defBody s_Crossing_waiting, defScope s_Crossing_waiting, [], [("version", .non)]⟩
def d_Crossing_passed : He5.DefA := ⟨fun K => He.ma K (He.ga K "Crossing") "passed", "passed", "Crossing.passed", defArgs s_Crossing_passed, defBody s_Crossing_passed, defScope s_Crossing_passed, [], [("version", .non)]⟩
def d_Crossing_word : He5.DefA := ⟨fun K => He.ma K (He.ga K "Crossing") "word", "word", "Crossing.word", defArgs s_Crossing_word, defBody s_Crossing_word, defScope s_Crossing_word, [], []⟩
def d_Crossing_len : He5.DefA := ⟨fun K => He.ma K (He.ga K "Crossing") "__len__", "__len__", "Crossing.__len__", defArgs s_Crossing_len, defBody s_Crossing_len, defScope s_Crossing_len, [], []⟩
def d_Crossing_cars : He5.DefA := ⟨fun K => He5.wf K (He.ga K "Crossing") "property" "cars", "cars", "Crossing.cars", defArgs s_Crossing_cars, defBody s_Crossing_cars, defScope s_Crossing_cars, [], []⟩
def d_Crossing_length : He5.DefA := ⟨fun K => He5.wf K (He.ga K "Crossing") "property" "length", "length", "Crossing.length", defArgs s_Crossing_length, defBody s_Crossing_length, defScope s_Crossing_length, [], []⟩
def d_Crossing_turned : He5.DefA := ⟨fun K => He5.wf K (He.ga K "Crossing") "staticmethod" "turned", "turned", "Crossing.turned", defArgs s_Crossing_turned, defBody s_Crossing_turned, defScope s_Crossing_turned, [], []⟩
def d_WatchedCrossing_overs : He5.DefA := ⟨fun K => He5.wf K (He.ga K "WatchedCrossing") "property" "overs", "overs", "WatchedCrossing.overs", defArgs s_WatchedCrossing_overs, defBody s_WatchedCrossing_overs, defScope s_WatchedCrossing_overs, [], []⟩
def d_WatchedCrossing_init : He5.DefA := ⟨fun K => He.ma K (He.ga K "WatchedCrossing") "__init__", "__init__", "WatchedCrossing.__init__", defArgs s_WatchedCrossing_init, defBody s_WatchedCrossing_init, defScope s_WatchedCrossing_init, [], [("bound", .non)]⟩
def d_WatchedCrossing_accept : He5.DefA := ⟨fun K => He.ma K (He.ga K "WatchedCrossing") "accept", "accept", "WatchedCrossing.accept", defArgs s_WatchedCrossing_accept, defBody s_WatchedCrossing_accept, defScope s_WatchedCrossing_accept, [], []⟩
def fn : List He5.DefA := [d_is_integer, d_is_preference, d_rule_error, d_is_lane, d_preference_after, d_first_lane, d_is_whole, d_check_rule, d_waiting_cars, d_last_lane, d_next_car, d_first_scene, d_L_dice, d_L_roll, d_L_mixed, d_L_rule, d_L_whole, d_L_rule_error, d_L_waiting, d_L_next, d_L_moved, d_L_after, d_L_first, d_L_call, d_L_edit, d_L_planned, d_L_renamed, d_L_renamed_edits, d_L_done, d_L_names_right, d_L_idle_right, d_L_lanes_right, d_L_single_right, d_law, d_Scene_init, d_Scene_with_one, d_Scene_with_passing, d_Scene_with_rule, d_Crossing_init, d_Crossing_require_idle, d_Crossing_require_lane, d_Crossing_accept, d_Crossing_scene_with_rule, d_Crossing_scene_after, d_Crossing_perform, d_Crossing_come, d_Crossing_go, d_Crossing_change, d_Crossing_scene_at, d_Crossing_current, d_Crossing_row, d_Crossing_waiting, d_Crossing_passed, d_Crossing_word, d_Crossing_len, d_Crossing_cars, d_Crossing_length, d_Crossing_turned, d_WatchedCrossing_overs]
def fc : List He5.DefA := [d_WatchedCrossing_init, d_WatchedCrossing_accept]
def fa : List He.Fa := [.glo "is_integer", .glo "is_preference", .glo "rule_error", .glo "is_lane", .glo "preference_after", .glo "first_lane", .glo "is_whole", .glo "check_rule", .glo "waiting_cars", .glo "last_lane", .glo "next_car", .glo "first_scene", .glo "_law_dice", .glo "_law_roll", .glo "_law_mixed", .glo "_law_rule", .glo "_law_whole", .glo "_law_rule_error", .glo "_law_waiting", .glo "_law_next", .glo "_law_moved", .glo "_law_after", .glo "_law_first", .glo "_law_call", .glo "_law_edit", .glo "_law_planned", .glo "_law_renamed", .glo "_law_renamed_edits", .glo "_law_done", .glo "_law_names_right", .glo "_law_idle_right", .glo "_law_lanes_right", .glo "_law_single_right", .glo "law", .glo "Scene", .glo "Crossing", .glo "WatchedCrossing", .free "len", .free "isinstance", .free "range", .free "tuple", .free "list", .free "set", .free "sorted", .free "all", .free "max", .free "abs", .free "enumerate", .free "zip", .free "int", .free "bool", .free "super", .int "MAX_LANES" 6, .int "MAX_CARS" 40, .str "COME" "come", .str "CHANGE" "change", .str "GO" "go", .cls "Scene", .mkr "Scene", .cls "Crossing", .mkr "Crossing", .cls "WatchedCrossing", .mkr "WatchedCrossing", .noat "Scene" "table_now", .noat "Scene" "came", .noat "Scene" "done", .noat "Scene" "letters", .noat "Scene" "streaks", .noat "Scene" "tops", .noat "Scene" "ahead", .noat "Crossing" "scenes", .noat "WatchedCrossing" "scenes", .noat "Crossing" "kept", .noat "WatchedCrossing" "kept", .noat "Crossing" "is_busy", .noat "WatchedCrossing" "is_busy", .noat "WatchedCrossing" "height", .meth "Scene" "with_one", .meth "Scene" "with_passing", .meth "Scene" "with_rule", .meth "Crossing" "__init__", .meth "WatchedCrossing" "__init__", .meth "Crossing" "require_idle", .meth "WatchedCrossing" "require_idle", .meth "Crossing" "require_lane", .meth "WatchedCrossing" "require_lane", .meth "Crossing" "accept", .meth "WatchedCrossing" "accept", .meth "Crossing" "scene_with_rule", .meth "WatchedCrossing" "scene_with_rule", .meth "Crossing" "scene_after", .meth "WatchedCrossing" "scene_after", .meth "Crossing" "perform", .meth "WatchedCrossing" "perform", .meth "Crossing" "come", .meth "WatchedCrossing" "come", .meth "Crossing" "go", .meth "WatchedCrossing" "go", .meth "Crossing" "change", .meth "WatchedCrossing" "change", .meth "Crossing" "scene_at", .meth "WatchedCrossing" "scene_at", .meth "Crossing" "current", .meth "WatchedCrossing" "current", .meth "Crossing" "row", .meth "WatchedCrossing" "row", .meth "Crossing" "waiting", .meth "WatchedCrossing" "waiting", .meth "Crossing" "passed", .meth "WatchedCrossing" "passed", .meth "Crossing" "word", .meth "WatchedCrossing" "word", .meth "Crossing" "__len__", .meth "WatchedCrossing" "__len__"]
/-- where each fact stands in the list -/
abbrev i_glo_is_integer : Nat := 0
abbrev i_glo_is_preference : Nat := 1
abbrev i_glo_rule_error : Nat := 2
abbrev i_glo_is_lane : Nat := 3
abbrev i_glo_preference_after : Nat := 4
abbrev i_glo_first_lane : Nat := 5
abbrev i_glo_is_whole : Nat := 6
abbrev i_glo_check_rule : Nat := 7
abbrev i_glo_waiting_cars : Nat := 8
abbrev i_glo_last_lane : Nat := 9
abbrev i_glo_next_car : Nat := 10
abbrev i_glo_first_scene : Nat := 11
abbrev i_glo_L_dice : Nat := 12
abbrev i_glo_L_roll : Nat := 13
abbrev i_glo_L_mixed : Nat := 14
abbrev i_glo_L_rule : Nat := 15
abbrev i_glo_L_whole : Nat := 16
abbrev i_glo_L_rule_error : Nat := 17
abbrev i_glo_L_waiting : Nat := 18
abbrev i_glo_L_next : Nat := 19
abbrev i_glo_L_moved : Nat := 20
abbrev i_glo_L_after : Nat := 21
abbrev i_glo_L_first : Nat := 22
abbrev i_glo_L_call : Nat := 23
abbrev i_glo_L_edit : Nat := 24
abbrev i_glo_L_planned : Nat := 25
abbrev i_glo_L_renamed : Nat := 26
abbrev i_glo_L_renamed_edits : Nat := 27
abbrev i_glo_L_done : Nat := 28
abbrev i_glo_L_names_right : Nat := 29
abbrev i_glo_L_idle_right : Nat := 30
abbrev i_glo_L_lanes_right : Nat := 31
abbrev i_glo_L_single_right : Nat := 32
abbrev i_glo_law : Nat := 33
abbrev i_glo_Scene : Nat := 34
abbrev i_glo_Crossing : Nat := 35
abbrev i_glo_WatchedCrossing : Nat := 36
abbrev i_free_len : Nat := 37
abbrev i_free_isinstance : Nat := 38
abbrev i_free_range : Nat := 39
abbrev i_free_tuple : Nat := 40
abbrev i_free_list : Nat := 41
abbrev i_free_set : Nat := 42
abbrev i_free_sorted : Nat := 43
abbrev i_free_all : Nat := 44
abbrev i_free_max : Nat := 45
abbrev i_free_abs : Nat := 46
abbrev i_free_enumerate : Nat := 47
abbrev i_free_zip : Nat := 48
abbrev i_free_int : Nat := 49
abbrev i_free_bool : Nat := 50
abbrev i_free_super : Nat := 51
abbrev i_int_MAX_LANES : Nat := 52
abbrev i_int_MAX_CARS : Nat := 53
abbrev i_str_COME : Nat := 54
abbrev i_str_CHANGE : Nat := 55
abbrev i_str_GO : Nat := 56
abbrev i_cls_Scene : Nat := 57
abbrev i_mkr_Scene : Nat := 58
abbrev i_cls_Crossing : Nat := 59
abbrev i_mkr_Crossing : Nat := 60
abbrev i_cls_WatchedCrossing : Nat := 61
abbrev i_mkr_WatchedCrossing : Nat := 62
abbrev i_noat_Scene_table_now : Nat := 63
abbrev i_noat_Scene_came : Nat := 64
abbrev i_noat_Scene_done : Nat := 65
abbrev i_noat_Scene_letters : Nat := 66
abbrev i_noat_Scene_streaks : Nat := 67
abbrev i_noat_Scene_tops : Nat := 68
abbrev i_noat_Scene_ahead : Nat := 69
abbrev i_noat_Crossing_scenes : Nat := 70
abbrev i_noat_WatchedCrossing_scenes : Nat := 71
abbrev i_noat_Crossing_kept : Nat := 72
abbrev i_noat_WatchedCrossing_kept : Nat := 73
abbrev i_noat_Crossing_is_busy : Nat := 74
abbrev i_noat_WatchedCrossing_is_busy : Nat := 75
abbrev i_noat_WatchedCrossing_height : Nat := 76
abbrev i_meth_Scene_with_one : Nat := 77
abbrev i_meth_Scene_with_passing : Nat := 78
abbrev i_meth_Scene_with_rule : Nat := 79
abbrev i_meth_Crossing_init : Nat := 80
abbrev i_meth_WatchedCrossing_init : Nat := 81
abbrev i_meth_Crossing_require_idle : Nat := 82
abbrev i_meth_WatchedCrossing_require_idle : Nat := 83
abbrev i_meth_Crossing_require_lane : Nat := 84
abbrev i_meth_WatchedCrossing_require_lane : Nat := 85
abbrev i_meth_Crossing_accept : Nat := 86
abbrev i_meth_WatchedCrossing_accept : Nat := 87
abbrev i_meth_Crossing_scene_with_rule : Nat := 88
abbrev i_meth_WatchedCrossing_scene_with_rule : Nat := 89
abbrev i_meth_Crossing_scene_after : Nat := 90
abbrev i_meth_WatchedCrossing_scene_after : Nat := 91
abbrev i_meth_Crossing_perform : Nat := 92
abbrev i_meth_WatchedCrossing_perform : Nat := 93
abbrev i_meth_Crossing_come : Nat := 94
abbrev i_meth_WatchedCrossing_come : Nat := 95
abbrev i_meth_Crossing_go : Nat := 96
abbrev i_meth_WatchedCrossing_go : Nat := 97
abbrev i_meth_Crossing_change : Nat := 98
abbrev i_meth_WatchedCrossing_change : Nat := 99
abbrev i_meth_Crossing_scene_at : Nat := 100
abbrev i_meth_WatchedCrossing_scene_at : Nat := 101
abbrev i_meth_Crossing_current : Nat := 102
abbrev i_meth_WatchedCrossing_current : Nat := 103
abbrev i_meth_Crossing_row : Nat := 104
abbrev i_meth_WatchedCrossing_row : Nat := 105
abbrev i_meth_Crossing_waiting : Nat := 106
abbrev i_meth_WatchedCrossing_waiting : Nat := 107
abbrev i_meth_Crossing_passed : Nat := 108
abbrev i_meth_WatchedCrossing_passed : Nat := 109
abbrev i_meth_Crossing_word : Nat := 110
abbrev i_meth_WatchedCrossing_word : Nat := 111
abbrev i_meth_Crossing_len : Nat := 112
abbrev i_meth_WatchedCrossing_len : Nat := 113
abbrev i_d_is_integer : Nat := 0
abbrev i_d_is_preference : Nat := 1
abbrev i_d_rule_error : Nat := 2
abbrev i_d_is_lane : Nat := 3
abbrev i_d_preference_after : Nat := 4
abbrev i_d_first_lane : Nat := 5
abbrev i_d_is_whole : Nat := 6
abbrev i_d_check_rule : Nat := 7
abbrev i_d_waiting_cars : Nat := 8
abbrev i_d_last_lane : Nat := 9
abbrev i_d_next_car : Nat := 10
abbrev i_d_first_scene : Nat := 11
abbrev i_d_L_dice : Nat := 12
abbrev i_d_L_roll : Nat := 13
abbrev i_d_L_mixed : Nat := 14
abbrev i_d_L_rule : Nat := 15
abbrev i_d_L_whole : Nat := 16
abbrev i_d_L_rule_error : Nat := 17
abbrev i_d_L_waiting : Nat := 18
abbrev i_d_L_next : Nat := 19
abbrev i_d_L_moved : Nat := 20
abbrev i_d_L_after : Nat := 21
abbrev i_d_L_first : Nat := 22
abbrev i_d_L_call : Nat := 23
abbrev i_d_L_edit : Nat := 24
abbrev i_d_L_planned : Nat := 25
abbrev i_d_L_renamed : Nat := 26
abbrev i_d_L_renamed_edits : Nat := 27
abbrev i_d_L_done : Nat := 28
abbrev i_d_L_names_right : Nat := 29
abbrev i_d_L_idle_right : Nat := 30
abbrev i_d_L_lanes_right : Nat := 31
abbrev i_d_L_single_right : Nat := 32
abbrev i_d_law : Nat := 33
abbrev i_d_Scene_init : Nat := 34
abbrev i_d_Scene_with_one : Nat := 35
abbrev i_d_Scene_with_passing : Nat := 36
abbrev i_d_Scene_with_rule : Nat := 37
abbrev i_d_Crossing_init : Nat := 38
abbrev i_d_Crossing_require_idle : Nat := 39
abbrev i_d_Crossing_require_lane : Nat := 40
abbrev i_d_Crossing_accept : Nat := 41
abbrev i_d_Crossing_scene_with_rule : Nat := 42
abbrev i_d_Crossing_scene_after : Nat := 43
abbrev i_d_Crossing_perform : Nat := 44
abbrev i_d_Crossing_come : Nat := 45
abbrev i_d_Crossing_go : Nat := 46
abbrev i_d_Crossing_change : Nat := 47
abbrev i_d_Crossing_scene_at : Nat := 48
abbrev i_d_Crossing_current : Nat := 49
abbrev i_d_Crossing_row : Nat := 50
abbrev i_d_Crossing_waiting : Nat := 51
abbrev i_d_Crossing_passed : Nat := 52
abbrev i_d_Crossing_word : Nat := 53
abbrev i_d_Crossing_len : Nat := 54
abbrev i_d_Crossing_cars : Nat := 55
abbrev i_d_Crossing_length : Nat := 56
abbrev i_d_Crossing_turned : Nat := 57
abbrev i_d_WatchedCrossing_overs : Nat := 58
end K70
set_option Elab.async false
set_option maxRecDepth 100000
set_option maxHeartbeats 0
namespace K70
open PySem L2
/-! ### what else is told of the written part: properties, the staticmethod, the constant, super's cells -/
abbrev cSc (K : PySem.W.Frag) : Addr := He.ga K "Scene"
abbrev cCr (K : PySem.W.Frag) : Addr := He.ga K "Crossing"
abbrev cWa (K : PySem.W.Frag) : Addr := He.ga K "WatchedCrossing"
def propB (K : PySem.W.Frag) (C : Addr) (m : Str) (g : Addr) : Bool :=
  He.eqO (PySem.W.findIn K (.ref C) m) (some (some (.ref (He.ma K C m)))) && (decide (PySem.W.specialIn K (.ref (He.ma K C m)) "__get__" = some (some (.builtin "property.__get__"))) &&
    (decide (PySem.W.takesIn K (.ref (He.ma K C m)) = some true) && (match PySem.W.recIn K (He.ma K C m) "property" with
      | some (.ref f :: _) => decide (f = g)
      | _ => false)))
theorem propB_ok {K : PySem.W.Frag} {C : Addr} {m : Str} {g : Addr} (h : propB K C m g = true) : PropOf K C m (He.ma K C m) g := by
  obtain ⟨h1, h⟩ := He.ba h
  obtain ⟨h2, h⟩ := He.ba h
  obtain ⟨h3, h4⟩ := He.ba h
  refine ⟨He.eqO_ok h1, of_decide_eq_true h2, of_decide_eq_true h3, ?_⟩
  split at h4
  · rename_i f r e
    exact ⟨r, by rw [e, of_decide_eq_true h4]⟩
  · cases h4
def conB (K : PySem.W.Frag) (C : Addr) (m : Str) (i : Int) : Bool := match PySem.W.findIn K (.ref C) m with
  | some (some (.int j t)) => decide (j = i) && (decide (PySem.W.specialIn K (.int j t) "__get__" = some none) && !PySem.W.copiedNames.contains m)
  | _ => false
theorem conB_ok {K : PySem.W.Frag} {C : Addr} {m : Str} {i : Int} (h : conB K C m i = true) : ∃ u, Con K C m (.int i) u := by
  unfold conB at h
  split at h
  · rename_i j t e
    obtain ⟨h1, h⟩ := He.ba h
    obtain ⟨h2, h3⟩ := He.ba h
    have ej := of_decide_eq_true h1
    subst ej
    exact ⟨_, e, ⟨t, rfl⟩, of_decide_eq_true h2, by simpa using h3⟩
  · cases h
/-- a function of the class D at f whose body calls super(): its cell holds D, its code stands in the text's file, super's m is the def at g -/
def supB (K : PySem.W.Frag) (file : Str) (f D : Addr) (m : Str) (g : Addr) : Bool := match K.lookup f with
  | some ⟨_, _, .func fd, _⟩ => (match fd.closure, fd.code with
    | [(_, cc)], .ref cd => (match K.lookup cc, K.lookup cd with
      | some ⟨_, _, .cell (some (.ref D')), _⟩, some ⟨_, _, .fields vs, _⟩ => decide (D' = D) && (match (vs[2]? : Option Value) with
        | some (Value.str fl _) => (file == fl) && ((PySem.W.clsIn K D).isSome && (decide (PySem.W.mroIn K D (.ref D) = some true) && (decide (PySem.W.ks_superIn K D D m = some (some (.ref g))) && (decide (PySem.W.typeIn K (.ref g) = some (.type "function")) &&
            He.eqO (PySem.W.nsIn K cStatics "thirdparty.any") (some none)))))
        | _ => false)
      | _, _ => false)
    | _, _ => false)
  | _ => false
structure SupOk (K : PySem.W.Frag) (file : Str) (f D : Addr) (m : Str) (g : Addr) : Prop where
  ex : ∃ oc od fd osl n cc cd cl cld csl ccl cdd vs ccs tf, K.lookup f = some ⟨oc, od, .func fd, osl⟩ ∧ fd.closure = [(n, cc)] ∧ fd.code = .ref cd ∧ K.lookup cc = some ⟨cl, cld, .cell (some (.ref D)), csl⟩ ∧ K.lookup cd = some ⟨ccl, cdd, .fields vs, ccs⟩ ∧ vs[2]? = some (.str file tf)
  cls : (PySem.W.clsIn K D).isSome = true
  mro : PySem.W.mroIn K D (.ref D) = some true
  sup : PySem.W.ks_superIn K D D m = some (some (.ref g))
  typ : PySem.W.typeIn K (.ref g) = some (.type "function")
  any : PySem.W.nsIn K cStatics "thirdparty.any" = some none
theorem supB_ok {K : PySem.W.Frag} {file : Str} {f D : Addr} {m : Str} {g : Addr} (h : supB K file f D m g = true) : SupOk K file f D m g := by
  unfold supB at h
  split at h
  · rename_i oc od fd osl e1
    split at h
    · rename_i n cc cd e2 e3
      split at h
      · rename_i cl cld D' csl ccl cdd vs ccs e4 e5
        obtain ⟨h1, h⟩ := He.ba h
        have eD := of_decide_eq_true h1
        subst eD
        split at h
        · rename_i fl tf e6
          obtain ⟨h2, h⟩ := He.ba h
          obtain ⟨h3, h⟩ := He.ba h
          obtain ⟨h4, h⟩ := He.ba h
          obtain ⟨h5, h⟩ := He.ba h
          obtain ⟨h6, h7⟩ := He.ba h
          have ef : file = fl := eq_of_beq h2
          subst ef
          exact ⟨⟨oc, od, fd, osl, n, cc, cd, cl, cld, csl, ccl, cdd, vs, ccs, tf, e1, e2, e3, e4, e5, e6⟩, h3, of_decide_eq_true h4, of_decide_eq_true h5, of_decide_eq_true h6, He.eqO_ok h7⟩
        · cases h
      · cases h
    · cases h
  · cases h
def inherited : List Str := ["require_idle", "require_lane", "scene_with_rule", "scene_after", "perform", "come", "go", "change", "scene_at", "current", "row", "waiting", "passed", "word", "__len__"]
def exB (file : Str) (K : PySem.W.Frag) : Bool :=
  propB K (cCr K) "cars" (He5.wf K (cCr K) "property" "cars") && (propB K (cCr K) "length" (He5.wf K (cCr K) "property" "length") && (propB K (cWa K) "cars" (He5.wf K (cCr K) "property" "cars") && (propB K (cWa K) "length" (He5.wf K (cCr K) "property" "length") &&
  (propB K (cWa K) "overs" (He5.wf K (cWa K) "property" "overs") && (He5.wrapB K (cCr K) "staticmethod" "staticmethod.__get__" "turned" && (PySem.W.readsIn K (cCr K) (.type "type") && (decide (PySem.W.specialIn K (.ref (cCr K)) "__getattribute__" = some (some (.builtin "type.__getattribute__"))) &&
  (PySem.W.fnIn K (He5.wf K (cCr K) "staticmethod" "turned") && (conB K (cCr K) "LIMIT" 60 && (conB K (cWa K) "LIMIT" 60 && (inherited.all (fun m => decide (He.ma K (cWa K) m = He.ma K (cCr K) m)) &&
  (supB K file (He.ma K (cWa K) "__init__") (cWa K) "__init__" (He.ma K (cCr K) "__init__") && supB K file (He.ma K (cWa K) "accept") (cWa K) "accept" (He.ma K (cCr K) "accept")))))))))))))
/-! ### defs with a closure -/
abbrev FnC : Type := Option (Str × Str × Arguments × FuncBody × Scope × Addr × List Str × Addr)
def fnC (K : PySem.W.Frag) (a : Addr) : FnC := match K.lookup a with
  | some ⟨_, _, .func fd, _⟩ => some (fd.name, fd.qualname, fd.params, fd.body, fd.scope, fd.globals, fd.closure.map (·.1), fd.builtins)
  | _ => none
def valC (d : He5.DefA) : FnC := some (d.name, d.qual, d.params, .stmts d.body, d.scope, mainGlobals, ["__class__"], builtinsNs)
/-! ### the Hook -/
/-- the addresses looked at: the module's names, the classes, their names, the defs and their code -/
def adr0 : List Addr := [3, 661, 660, 720, 719, 334, 333, 2, 376, 385, 393, 530, 538, 546, 554, 674, 669, 698, 229, 228, 234, 233, 241, 240]
def adr1 : List Addr := [248, 247, 255, 254, 260, 259, 267, 266, 274, 273, 279, 278, 286, 285, 291, 290, 345, 344, 727, 726, 734, 733, 741, 740]
def adr2 : List Addr := [746, 745, 753, 752, 758, 757, 763, 762, 768, 767, 773, 772, 778, 777, 785, 784, 792, 791, 799, 798, 806, 805, 811, 810]
def adr3 : List Addr := [818, 817, 825, 824, 830, 829, 837, 836, 842, 841, 849, 848, 856, 855, 305, 304, 312, 311, 317, 316, 324, 323, 359, 358]
def adr4 : List Addr := [416, 415, 423, 422, 437, 436, 444, 443, 451, 450, 458, 457, 465, 464, 472, 471, 479, 478, 529, 528, 537, 536, 545, 544]
def adr5 : List Addr := [553, 552, 561, 560, 575, 574, 644, 643, 384, 383, 392, 391, 374, 373, 697, 696, 682, 681, 704, 703]
def adr : List Addr := adr0 ++ adr1 ++ adr2 ++ adr3 ++ adr4 ++ adr5

abbrev AlK : Type := He.AlD × (Bool × List FnC)
def obsK (file : Str) (K : PySem.W.Frag) : AlK := (He5.obsA fa fn K, (exB file K && fc.all fun d => d.ok K, fc.map fun d => fnC K (d.at_ K)))
def valK : AlK := (He5.valA fn, (true, fc.map valC))
abbrev fileK : Str := "/claim/cut.py"
def SaysK (K : PySem.W.Frag) : Prop := obsK fileK K = valK
def obsKG (g : Addr → Option Obj) : AlK := obsK fileK (He.frG g adr)
def hookK : PySem.W.Hook where
  α := AlK
  obs := fun s => obsKG s.heap.get?
  val := fun _ => valK
  says := fun _ h => ∃ K : PySem.W.Frag, K.In h ∧ SaysK K
  of := fun _ _ e => ⟨_, He.frG_in, e⟩
  keeps := fun _ _ _ ⟨K, hK, c⟩ k => ⟨K, PySem.W.Frag.In.keeps hK k, c⟩
theorem obsKG_eq {g : Addr → Option Obj} {s : Shared} (h : ∀ a, g a = s.heap.get? a) : obsKG g = hookK.obs s := by
  have e : g = s.heap.get? := funext h
  rw [e] <;> rfl
theorem SaysK.a {K : PySem.W.Frag} (c : SaysK K) : He5.SaysA fa fn K := congrArg (fun z : AlK => z.1) c
theorem SaysK.ex {K : PySem.W.Frag} (c : SaysK K) : exB fileK K = true := (He.ba (show (exB fileK K && fc.all fun d => d.ok K) = true from congrArg (fun z : AlK => z.2.1) c)).1
theorem SaysK.clo {K : PySem.W.Frag} (c : SaysK K) (i : Nat) {d : He5.DefA} (h : fc[i]? = some d := by rfl) : d.ok K = true ∧ fnC K (d.at_ K) = valC d := by
  have c2 := (He.ba (show (exB fileK K && fc.all fun d => d.ok K) = true from congrArg (fun z : AlK => z.2.1) c)).2
  have e : fc.map (fun d => fnC K (d.at_ K)) = fc.map valC := congrArg (fun z : AlK => z.2.2) c
  have e2 : (fc.map fun d => fnC K (d.at_ K))[i]? = (fc.map valC)[i]? := by rw [e]
  rw [List.getElem?_map, List.getElem?_map, h] at e2
  exact ⟨List.all_eq_true.mp c2 d (List.mem_of_getElem? h), Option.some.inj e2⟩
end K70
set_option Elab.async false
set_option maxRecDepth 100000
set_option maxHeartbeats 0
namespace K70
open PySem L2
abbrev R : PySem.W.OpenRow := PySem.W.OpenLaw.row PySem.Challenge.rw_lanerules_k70_whole_lanes_renamed
def ob (s : PySem.W.SharedT) : AlK := obsKG (HandSHeadRun.getT s)
theorem ob_eq (s : PySem.W.SharedT) : ob s = hookK.obs s.abs := obsKG_eq (HandSHeadRun.getT_eq s)
def loose0 : List Str := ["_wall", "MAX_LANES", "MAX_CARS", "PassError", "BadRule", "NoLane", "NoCar", "NoCount", "TooLarge", "Empty", "TooManyEdits", "NoVersion"]
def loose1 : List Str := ["Busy", "OtherLanes", "PassedOver", "is_integer", "is_preference", "rule_error", "is_lane", "preference_after", "first_lane", "COME", "GO", "CHANGE"]
def loose2 : List Str := ["is_whole", "check_rule", "waiting_cars", "last_lane", "next_car", "Scene", "first_scene", "Crossing", "WatchedCrossing", "_law_dice", "_law_roll", "_law_mixed"]
def loose3 : List Str := ["_law_rule", "_law_whole", "_law_rule_error", "_law_waiting", "_law_next", "_law_moved", "_law_after", "_law_first", "_law_call", "_law_edit", "_law_planned", "_law_renamed"]
def loose4 : List Str := ["_law_renamed_edits", "_law_done", "_law_names_right", "_law_idle_right", "_law_lanes_right", "_law_single_right"]
theorem run (w : World) : HandSHeadRun.RunEq R (PySem.W.view R.prog [58]) hookK ob 7000 (loose0 ++ loose1 ++ loose2 ++ loose3 ++ loose4) w := by
  intro os
  kernel_rfl
end K70
set_option Elab.async false
set_option linter.all false
set_option maxRecDepth 100000
set_option maxHeartbeats 4000000
/-! rules that the hand layer lacks: t * 1, text * 0, t.index(int), t[::-1], sorted(t), set(t) of ints, enumerate and zip over tuples, a staticmethod, len by __len__, super -/
namespace K70
open PySem PySem.Spec PyProof.Rows L2
section
variable {X : Cx}
/-- t * 1 is t itself -/
theorem op_repT1 : OpR X (binaryOp .Mult) (fun x y H Q => ∃ l xs, x = .ref l ∧ y = .int 1 ∧ SqT X.K H l xs ∧ Q (.ref l) H) := by
  intro pins s σ H x y v u Q I rx ry h
  obtain ⟨l, xs, rfl, rfl, hT, q⟩ := h
  cases rx
  obtain ⟨t, rfl⟩ := ry
  obtain ⟨its, r, ⟨⟨cls, dd, data, sl⟩, ho, hc, n, hd⟩, hs⟩ := I.tuple hT
  simp only at hc hd
  subst hc hd
  refine wpAny_binaryOp_repeat_ref (T := "tuple") (U := "int") (by decide) ⟨_, ho, rfl⟩ (fun s' => typeIs_int s' 1 t) noFill_tuple_mul F.fills_int_mul F.slot_int_rmul repeat_tuple F.slot_int_index.lookup
    (call_meets F.slot_int_rmul (typeIs_int s 1 t) F.entry_int_rmul (F.args_int_rmul_2 _ _) (int_rmul_tuple 1 t l its.toArray n dd sl)
      ⟨ho, rfl, ⟨_, ho, rfl⟩, call_meets F.slot_tuple_mul ⟨_, ho, rfl⟩ F.entry_tuple_mul (F.args_tuple_mul_2 _ _) (?_ : Meets _ (fun _ R s => s.heap.get? l = some { cls := .type "tuple", dict := dd, data := .seq its.toArray n, slots := sl } ∧ R (.ok (.ret (Value.ref l))) s)) ⟨ho, ?_⟩⟩)
  · refine .of_wp fun prog w A R s h => ?_
    obtain ⟨hp, g, d, tk, os⟩ := s
    obtain ⟨hl, h⟩ := h
    have f1 := AutoSeq1.idx_int
    wp_walk using wpAny_loadPart' hl
    exact ⟨_, rfl, h⟩
  · exact ⟨.ref l, H, I, rfl, q⟩

/-- text * 0 -/
theorem op_strmul0 : OpR X (binaryOp .Mult) (fun x y H Q => ∃ z, x = .str z ∧ y = .int 0 ∧ Q (.str Str.empty) H) := by
  intro pins s σ H x y v u Q I rx ry h
  obtain ⟨z, rfl, rfl, q⟩ := h
  obtain ⟨t, rfl⟩ := rx
  obtain ⟨t', rfl⟩ := ry
  exact PySem.P.mul_str_none (by decide) (by decide) ⟨.str Str.empty, H, I.tok _, ⟨_, rfl⟩, q⟩

theorem flat_ints (ys : List Int) : (ys.map V.int).all flatV = true := by
  rw [List.all_map]
  exact List.all_eq_true.mpr fun _ _ => rfl
/-- t.index(k) of ints, the first place -/
theorem mt_tup_indexI : MtR X "tuple.index" (fun x xs H Q => ∃ (p : Addr) (ys : List Int) (z : Int) (j : Nat), x = .ref p ∧ xs = [.int z] ∧ SqT X.K H p (ys.map V.int) ∧ ys[j]? = some z ∧ (∀ m, m < j → ys[m]? ≠ some z) ∧ Q (.int (j : Nat)) H) := by
  intro pins s σ H x xs v us Q I rx rs h
  obtain ⟨p, ys, z, j, rfl, rfl, hq, hy, hno, q⟩ := h
  cases rx
  obtain ⟨u, rfl, t, rfl⟩ := vals1 rs
  obtain ⟨its, r, pl, hz⟩ := I.tuple hq
  obtain ⟨⟨cls, dd, dt, sl⟩, ho, hc, n, hd⟩ := pl
  simp only at hc hd
  subst hc
  subst hd
  have hl : its.toArray.size = ys.length := by rw [List.size_toArray, ← r.length, List.length_map]
  have hj : j < its.toArray.size := by rw [hl]; exact (List.getElem?_eq_some_iff.mp hy).1
  have at' : ∀ (m : Nat) (hm : m < its.toArray.size), ∃ y t', ys[m]? = some y ∧ its.toArray[m] = Value.int y t' := fun m hm => by
    have hm' : m < ys.length := by rw [← hl]; exact hm
    obtain ⟨w, hw, t', hw'⟩ := r.get (i := m) (x := .int ys[m]) (by simp [hm'])
    refine ⟨ys[m], t', List.getElem?_eq_getElem hm', ?_⟩
    have e := (List.getElem?_eq_some_iff.mp hw).2
    rw [← hw', ← e]
    simp
  refine call_meets PySem.F.slot_tuple_index ⟨_, ho, rfl⟩ PySem.F.entry_tuple_index (PySem.F.args_tuple_index_2 _ _) (TI.tuple_indexAt p its.toArray n dd sl (.int z t) (eqU (.int z)) j hj ?_ ?_)
    ⟨ho, fun w hw => mem_eqAt (x := .int z) ⟨t, rfl⟩ rfl r (flat_ints ys) w (by simpa using hw), ⟨.int (j : Nat), H, I.tok _, ⟨_, rfl⟩, q⟩⟩
  · obtain ⟨y, t', h1, h2⟩ := at' j hj
    rw [hy] at h1
    cases h1
    rw [h2]
    show (z == z) = true
    exact beq_self_eq_true z
  · intro m hm hmj
    obtain ⟨y, t', h1, h2⟩ := at' m hm
    rw [h2]
    show (y == z) = false
    exact beq_eq_false_iff_ne.mpr fun e => hno m hmj (e ▸ h1)

/-- sorted(t), t a tuple of ints, fewer than 64 -/
theorem sz64 {n : Nat} (h : n < 64) : n ≤ sizeLine := Nat.le_trans (Nat.le_of_lt h) (by decide)
theorem sorted_tup {prog : Program} {w : World} {A : Around} {E : Value → Shared → Prop} {s : Shared} {l : Addr} {vs : List Value} {ns : List Int} {Q : Value → Shared → Prop} (hl : IsTup s.heap l vs.toArray) (hI : IntsAre vs ns) (h64 : vs.length < 64)
    (h : ∀ (h1 h' : Heap) (ep : Nat) (out : Array Value) (ns' : List Int), IntsAre out.toList ns' → ns'.Perm ns → ns'.Pairwise (· ≤ ·) → h'.get? h1.objs.size = some { cls := .type "list", data := .seq out ep } → (∀ b o, s.heap.get? b = some o → h1.get? b = some o) →
      (∀ b o, h1.get? b = some o → h'.get? b = some o) → Q (.ref h1.objs.size) { s with heap := h' }) :
    wpAny (model prog w) A (call (.builtin "sorted") [.ref l]) Q E s := by
  obtain ⟨o, ho, hc, n, hd⟩ := hl
  refine Calls.call_function_entry kind_sorted plain_sorted entry_sorted (args_sorted1 _) ?_
  unfold Builtin.«sorted»
  refine wpAny_bind (m := checkCount "sorted" 1 1 _) (wpAny_pure ?_)
  refine wpAny_bind (wpAny_collect_seq l (.inr rfl) ho hc hd (fun h1 hk => ?_) (by rw [List.size_toArray]; exact sz64 h64))
  have e : vs.toArray.toList = vs := by simp
  rw [e]
  refine wpAny_bind (wpAny_newList ?_ (sz64 h64))
  have hoL : (h1.push (seqObj "list" vs.toArray 0)).get? h1.objs.size = some (seqObj "list" vs.toArray 0) := Heap.get?_push_size _ rfl
  show wpAny _ _ _ _ _ { s with heap := h1.push (seqObj "list" vs.toArray 0) }
  refine wpAny_bind (wpAny_holding (wpAny_call_entry slot_list_sort ⟨_, hoL, rfl⟩ entry_list_sort (list_sort_tree hoL hI h64 fun out ns' a1 a2 a3 => ⟨_, rfl, ?_⟩) (args_list_sort _)))
  obtain ⟨ep, he'⟩ := PyProof.Rows.sortedHeap_at (vs := vs) (out := out) hoL
  refine wpAny_pure ⟨_, rfl, h h1 _ ep out ns' a1 a2 a3 he' hk fun b o q => ?_⟩
  rw [PyProof.Rows.sortedHeap_old (Nat.ne_of_lt (Heap.lt_size q)) (by rw [Heap.size_push]; exact Nat.lt_succ_of_lt (Heap.lt_size q))]
  exact Heap.get?_push_of_some _ q
theorem cr_sortedTup : CallR X (.builtin "sorted") (fun vs H Q => ∃ (a : Addr) (ns : List Int), vs = [V.ref a] ∧ SqT X.K H a (ns.map V.int) ∧ ns.length < 64 ∧ ∀ (ns' : List Int) (p : Addr), ns'.Perm ns → ns'.Pairwise (· ≤ ·) → H p = none → Q (.ref p) (upd H p (.lst (ns'.map V.int)))) := by
  intro pins s σ H vs us Q I r h
  obtain ⟨a, ns, rfl, hs, h64, q⟩ := h
  obtain ⟨its, rv, hl, _⟩ := I.tuple hs
  rw [Vals.ref1 r]
  have hi := rv.ints
  refine sorted_tup hl hi (by rw [hi.length]; exact h64) fun h1 h' ep out ns' a1 a2 a3 he hk1 hk2 => ?_
  have hlen : (ns'.map V.int).length ≤ sizeLine := by rw [List.length_map, a2.length_eq]; exact small64 h64
  have I1 : L2.Inv X pins σ H { s with heap := h1 } := I.kept (t' := s.toks) hk1
  exact ⟨.ref h1.objs.size, upd H h1.objs.size (.lst (ns'.map V.int)), I1.laid (t' := s.toks) hk2 (Nat.le_refl _) ⟨hlen, out.toList, ep, vals_of_ints a1, by simpa using he⟩, rfl, q ns' _ a2 a3 (I1.hok.fresh (Nat.le_refl _))⟩

/-- set(t), t a tuple of ints -/
theorem cr_setTup (hc : X.calm = true) : CallR X (.type "set") (fun vs H Q => ∃ (l : Addr) (ns : List Int), vs = [V.ref l] ∧ SqT X.K H l (ns.map V.int) ∧ ns.length ≤ 1000 ∧
    ∀ (p : Addr) (c : Nat), H p = none → c ≤ ns.length → Q (.ref p) (upd H p (SetO X.w p (fun j => decide (j ∈ ns)) c))) := by
  intro pins s σ H vs us Q I r h
  obtain ⟨l, ns, rfl, hq, hn, q⟩ := h
  obtain ⟨its, rv, ht, _⟩ := I.tuple hq
  rw [Vals.ref1 r]
  refine call_set_tupI ns (I.ok.hd hc) ht (by simpa using rv.ints) (by unfold scanBound; omega) fun h' tk c R hle hk => ?_
  exact ⟨.ref s.heap.objs.size, upd H s.heap.objs.size (SetO X.w s.heap.objs.size (fun j => decide (j ∈ ns)) c), I.laid (t' := tk) hk (Nat.le_refl _) (setO_new R), rfl, q _ c (I.hok.fresh (Nat.le_refl _)) hle⟩
/-- how many members such a set has -/
theorem set_count {w : World} {h : Heap} {a : Addr} {ns : List Int} {c : Nat} (R : SetR w h a (fun j => decide (j ∈ ns)) c) (nd : ns.Nodup) : c = ns.length := by
  obtain ⟨o, es, ep, t, ho, hex, hd, _, hnd, hk, _, _, hn, _⟩ := R
  have hp : (es.toList.map keyOf).Perm ns := by
    rw [List.perm_ext_iff_of_nodup hnd nd]
    intro k
    rw [← hk k]
    simp
  have := hp.length_eq
  rw [List.length_map, Array.length_toList, hn] at this
  exact this
/-- len(s), s a set of ints -/
theorem call_len_setO : CallR X (.builtin "len") (fun vs H Q => ∃ (a : Addr) (ns : List Int) (c : Nat), vs = [V.ref a] ∧ H a = some (SetO X.w a (fun j => decide (j ∈ ns)) c) ∧ ns.Nodup ∧ ns.length ≤ 1000 ∧ Q (.int (ns.length : Nat)) H) := by
  intro pins s σ H vs us Q I r h
  obtain ⟨a, ns, c, rfl, ha, nd, hl, q⟩ := h
  rw [Vals.ref1 r]
  have R := setO_get I ha
  have e := set_count R nd
  obtain ⟨o, es, ep, t, ho, hex, hd, _, _, _, _, hf, hn, _⟩ := R
  exact call_len_set ho hex hd hf (by rw [hn, e]; omega) ⟨.int (ns.length : Nat), H, I.tok _, ⟨_, by rw [hn, e]⟩, q⟩

/-! ### t[::-1] -/
theorem places_rev (n : Nat) : Builtin.Slice.slicePlaces ((n : Int) - 1) (-1) (-1) = n := by
  unfold Builtin.Slice.slicePlaces
  have h1 : ¬ (-1 : Int) > 0 := by decide
  simp only [h1, if_false]
  split
  · rw [show (-(-1) : Int) = 1 by decide, Int.ediv_one]
    omega
  · omega
theorem adjust_rev (n : Nat) : Builtin.Slice.sliceAdjust none none (-1) (n : Int) = ((n : Int) - 1, -1) := by
  first
    | rfl
    | simp [Builtin.Slice.sliceAdjust]
theorem pick_rev (xs : Array Value) : ((List.range xs.size).filterMap fun (k : Nat) => xs[(((xs.size : Nat) : Int) - 1 + (k : Int) * (-1)).toNat]?).toArray = xs.toList.reverse.toArray := by
  have e : (List.range xs.size).filterMap (fun (k : Nat) => xs[(((xs.size : Nat) : Int) - 1 + (k : Int) * (-1)).toNat]?) = (((List.range xs.size).map fun k => xs.size - 1 - k).filterMap (xs[·]?)) := by
    rw [List.filterMap_map]
    have key : ∀ l : List Nat, (∀ k ∈ l, k < xs.size) → l.filterMap (fun (k : Nat) => xs[(((xs.size : Nat) : Int) - 1 + (k : Int) * (-1)).toNat]?) = l.filterMap ((fun x => xs[x]?) ∘ fun k => xs.size - 1 - k) := by
      intro l
      induction l with
      | nil => intro _; rfl
      | cons k l ih =>
        intro hl
        have e : xs[(((xs.size : Nat) : Int) - 1 + (k : Int) * (-1)).toNat]? = ((fun x => xs[x]?) ∘ fun k => xs.size - 1 - k) k := by
          have := hl k List.mem_cons_self
          show _ = xs[xs.size - 1 - k]?
          have e2 : (((xs.size : Nat) : Int) - 1 + (k : Int) * (-1)).toNat = xs.size - 1 - k := by omega
          rw [e2]
        rw [List.filterMap_cons, List.filterMap_cons, ← e, ih fun j hj => hl j (List.mem_cons_of_mem _ hj)]
    exact key _ fun k hk => List.mem_range.mp hk
  rw [e, PySem.W.krv_range, List.filterMap_reverse, PySem.W.krv_all]
theorem getItem_tuple_rev {prog : Program} {w : World} {A : Around} {E : Value → Shared → Prop} {s : Shared} {t sl : Addr} {items : Array Value} {vs : Value} {Q : Value → Shared → Prop} (ht : IsTup s.heap t items) (hs : s.heap.IsSliceOf sl .none .none vs) (ps : IsPart vs (some (-1)))
    (h : Q (.ref s.heap.objs.size) { s with heap := s.heap.push { cls := .type "tuple", data := .seq items.toList.reverse.toArray } })
    (hsz : items.size ≤ sizeLine) : wpAny (model prog w) A (getItem (.ref t) (.ref sl)) Q E s := by
  have htake : sizeOk (.seq items.toList.reverse.toArray) := by
    show items.toList.reverse.toArray.size ≤ sizeLine
    rw [List.size_toArray, List.length_reverse, Array.length_toList]
    exact hsz
  obtain ⟨os, hos, hcs, hds⟩ := id hs
  have hTs : s.TypeIs (.ref sl) "slice" := ⟨os, hos, hcs⟩
  unfold getItem
  try with_reducible refine wpAny_holding ?_
  first | refine wpAny_bind (wpAny_pure ?_) | skip
  refine wpAny_bind (wpAny_sequenceKey ht.typeIs (by decide) ?_)
  refine wpAny_bind (wpAny_callSpecial?_slot (name := Str.ofString "__getitem__") ht.typeIs PyProof.Rows.slot_tuple_getitem
    (wpAny_call_entry PyProof.Rows.slot_tuple_getitem ht.typeIs entry_tuple_getitem ?_ (args_tuple_getitem _ _)))
  show wpAny _ _ (Builtin.Tuple.tupleItemsOf (.ref t) >>= _) _ _ s
  refine wpAny_bind (tupleItemsOf_ ht ?_)
  refine wpAny_bind (wpAny_typeOf hTs ?_)
  rw [if_pos (by decide)]
  have hsa : ∀ Q' : Int × Int × Nat → Shared → Prop, Q' (((items.size : Nat) : Int) - 1, -1, items.size) s → wpAny (model prog w) A.in1 (Builtin.Slice.sliceApplied (.ref sl) (pure ((items.size : Nat) : Int))) Q' E s := fun Q' hq => by
    unfold Builtin.Slice.sliceApplied Builtin.Slice.sliceFields
    refine wpAny_bind (wpAny_bind (wpAny_field hos hds (x := .none) rfl (wpAny_bind (wpAny_field hos hds (x := .none) rfl (wpAny_bind (wpAny_field hos hds (x := vs) rfl (wpAny_pure ?_)))))))
    refine wpAny_bind (HT.slicePart_ ps ?_)
    show wpAny _ _ (if ((-1 : Int) == 0) = true then _ else _) _ _ s
    rw [if_neg (by decide)]
    refine wpAny_bind (HT.slicePart_ .none (wpAny_bind (HT.slicePart_ .none (wpAny_bind (wpAny_pure ?_)))))
    show wpAny _ _ (match Builtin.Slice.sliceAdjust none none (-1) ((items.size : Nat) : Int) with | (lo, hi) => pure (lo, (-1 : Int), Builtin.Slice.slicePlaces lo hi (-1))) _ _ s
    rw [adjust_rev]
    show wpAny _ _ (pure (((items.size : Nat) : Int) - 1, (-1 : Int), Builtin.Slice.slicePlaces (((items.size : Nat) : Int) - 1) (-1) (-1))) _ _ s
    rw [places_rev]
    exact wpAny_pure hq
  refine wpAny_bind (hsa _ ?_)
  have hno : ¬ ((((items.size : Nat) : Int) - 1 == 0 && (-1 : Int) == 1 && items.size == items.size) = true) := by
    simp
  show wpAny _ _ (if ((((items.size : Nat) : Int) - 1 == 0 && (-1 : Int) == 1 && items.size == items.size)) = true then _ else _) _ _ s
  rw [if_neg hno, pick_rev]
  first
    | exact wpAny_bind (m := Builtin.Tuple.tupleExact _) (wpAny_newObj_type (wpAny_pure ⟨_, rfl, wpAny_pure h⟩) htake)
    | exact wpAny_bind (m := Builtin.Tuple.tupleExact _) (wpAny_newObj_type (wpAny_bind (wpAny_pure (wpAny_pure ⟨_, rfl, wpAny_pure h⟩))) htake)
    | exact wpAny_bind (wpAny_bind (m := Builtin.Tuple.tupleExact _) (wpAny_newObj_type (wpAny_pure (wpAny_pure ⟨_, rfl, wpAny_pure h⟩)) htake))
    | exact wpAny_bind (wpAny_bind (m := Builtin.Tuple.tupleExact _) (wpAny_newObj_type (wpAny_pure ⟨_, rfl, wpAny_pure h⟩) htake))
def tRevT (K : PySem.W.Frag) (te : TE) : TE := fun σ H Q => te σ H fun x H1 => ∃ a xs, x = .ref a ∧ SqT K H1 a xs ∧ ∀ p, H1 p = none → Q (.ref p) (upd H1 p (.tup xs.reverse))
theorem pe_revT {e : Expr} {te : TE} {k : Nat} {p1 p2 p3 pos : Pos} (he : PE X e te) : PE X (.Subscript e (.Slice none none (some (.UnaryOp .USub (.Constant (.int 1) k p1) p2)) p3) pos) (tRevT X.K te) := by
  refine ⟨fun pins s σ H Q I h => ?_⟩
  refine Subscript_ (thn (he.run pins s σ H _ I h) fun v s1 ⟨x, H1, I1, r1, q1⟩ => ?_)
  obtain ⟨a, xs, ex, hx, q⟩ := q1
  subst ex
  cases r1
  have hst : PO X (some (.UnaryOp .USub (.Constant (.int 1) k p1) p2)) (tPart (tUn (rU fun i => .int (-i)) (tC (.int 1)))) := po_some (pe_un un_neg pe_int)
  refine wpAny_Slice (thn (po_none.run pins s1 σ H1 (fun o H2 => o = none ∧ H2 = H1) I1 ⟨rfl, rfl⟩) fun vl s2 ⟨l, H2, I2, pl, el, e2⟩ => ?_)
  subst el e2
  cases pl
  refine thn (po_none.run pins s2 σ H2 (fun o H3 => o = none ∧ H3 = H2) I2 ⟨rfl, rfl⟩) fun vu s3 ⟨u, H3, I3, pu, eu, e3⟩ => ?_
  subst eu e3
  cases pu
  refine thn (hst.run pins s3 σ H3 (fun o H4 => o = some (-1) ∧ H4 = H3) I3 ⟨1, rfl, -1, rfl, rfl, rfl⟩) fun vs s4 ⟨o, H4, I4, ps, eo, e4⟩ => ?_
  subst eo e4
  have I5 : L2.Inv X pins σ H4 { s4 with heap := s4.heap.push { cls := .type "slice", data := .fields #[.none, .none, vs] } } := I4.kept (t' := s4.toks) fun b ob q => Heap.get?_push_of_some _ q
  obtain ⟨its, r, ht, hz⟩ := I5.tuple hx
  have hlen := r.length
  show wpAny (model X.prog X.w) X.A (subscriptTail e (.Slice none none (some (.UnaryOp .USub (.Constant (.int 1) k p1) p2)) p3) (.ref a) (.ref s4.heap.objs.size)) (EP X pins σ Q) X.xe { s4 with heap := s4.heap.push { cls := .type "slice", data := .fields #[.none, .none, vs] } }
  refine tail_any (ops := [.ref a, .ref s4.heap.objs.size]) ht.typeIs (PyProof.Rows.slot_tuple_getitem.lookup) ?_ (by with_unfolding_all rfl)
  refine getItem_tuple_rev ht (Heap.IsSliceOf.new _ .none .none vs) ps ?_ (by rw [List.size_toArray]; omega)
  refine ⟨.ref _, _, I5.laid (t' := s4.toks) (o := .tup xs.reverse) (fun b ob q => Heap.get?_push_of_some _ q) (Nat.le_refl _) ?_, rfl, q _ (I5.hok.fresh (Nat.le_refl _))⟩
  exact ⟨by rw [List.length_reverse]; exact hz, _, by simpa using r.reverse, IsTup.new _ _⟩

/-! ### C.m(..), m a staticmethod -/
def tSMeth (C : Addr) (sp : Sp) (E : XK) (ta : TE) (t : TA) : TE := fun σ H Q => ta σ H fun x H1 => x = .ref C ∧ t σ H1 fun vs H2 => sp vs H2 Q E
structure SMet (K : PySem.W.Frag) (C : Addr) (m : Str) (p g : Addr) : Prop where
  rd : PySem.W.readsIn K C (.type "type") = true
  ga : PySem.W.specialIn K (.ref C) "__getattribute__" = some (some (.builtin "type.__getattribute__"))
  at_ : PySem.W.findCls K (.ref C) (.type "type") m = some (.get (.builtin "staticmethod.__get__") (.ref p) .none (.ref C))
  rc : ∃ rest, PySem.W.recIn K p "staticmethod" = some (.ref g :: rest)
  kp : PySem.W.keepIn K (.ref g) = true
theorem pe_smeth {CX : CXT} {k : Nat} {C p g : Addr} {fd : FuncData} {ps : List Str} {sp : Sp} {E : XK} {o e : Expr} {es : List Expr} {m : Str} {apos pos : Pos} {ta : TE} {t : TA} {pl : Sem Bool}
    (he : PE X o ta) (c : SMet X.K C m p g) (F : FnOk X.prog X.w X.K X.mg X.base CX k g fd ps sp) (hr : Room k X.A) (hb : Binds X.K fd ps []) (hx : Passes CX X E) (ha : PA X (e :: es) t)
    (hst : starEach (e :: es) X.env = (false, eval e X.env) :: starEach es X.env := by rfl) (hpl : (backTo pos (starEach es X.env)).any (·.1) = false := by rfl)
    (ht : eval (.Call (.Attribute o m apos) (e :: es) [] pos) X.env = (do
      let ov ← eval o X.env
      standAt apos.atName
      let (f, first) ← holding [ov] (getMethod ov m pl)
      callWith pos f first (backTo pos (starEach (e :: es) X.env)) (backToKw pos (keywordEach [] X.env))) := by rfl) :
    PE X (.Call (.Attribute o m apos) (e :: es) [] pos) (tSMeth C sp E ta t) := by
  refine ⟨fun pins s σ H Q I h => ?_⟩
  refine PySem.W.methodCall_KW (pl := pl) (thn (he.run pins s σ H _ I h) fun u s1 ⟨x, H1, I1, rx, ex, q⟩ => ?_) ht
  subst ex
  obtain rfl : u = Value.ref C := rx
  obtain ⟨rest, hp⟩ := c.rc
  refine PySem.W.method_cls I1.kIn c.ga (PySem.W.cls_bind I1.kIn c.rd c.at_ (wpAny_call (PySem.W.sm_get (s := { s1 with toks := s1.toks + 1 }) I1.kIn hp (PySem.W.handed_on rfl ?_))))
  have I2 : L2.Inv X pins σ H1 { s1 with toks := s1.toks + 1 } := I1.tok _
  refine PySem.W.callWith_K (h₀ := X.base) (first := []) I2.ok.mod.kin c.kp (thn (ha.run pos pins _ σ H1 _ I2 q) fun us s2 ⟨vs, H2, I3, r, q2⟩ => ⟨I3.kIn, ?_⟩) hst hpl
  exact run_fn F hr hb .nil hx I3 r (by rw [List.append_nil]; exact q2)

/-! ### len(o) by an own __len__ -/
theorem call_len_own {k : Nat} {C f : Addr} {fd : FuncData} {ps : List Str} {sp : Sp} (hs : PySem.W.findIn X.K (.ref C) "__len__" = some (some (.ref f))) (hf : PySem.W.isFn X.K (.ref f) = true) (F : FnOk X.prog X.w X.K X.mg X.base CX0 k f fd ps sp) (hr : Room (k + 1) X.A)
    (hb : Binds X.K fd ps []) : CallR X (.builtin "len") (fun vs H Q => ∃ a dx fs, vs = [.ref a] ∧ H a = some (.ins C dx fs) ∧ sp [.ref a] H (fun v H' => ∃ n : Nat, v = .int (n : Int) ∧ n < 2 ^ 62 ∧ Q (.int (n : Int)) H') E0) := by
  intro pins s σ H vs us Q I r h
  obtain ⟨a, dx, fs, rfl, ea, q⟩ := h
  rw [Vals.ref1 r]
  obtain ⟨m, FR⟩ := I.fr
  obtain ⟨mA, O, _⟩ := ins_get I.hok ea
  obtain ⟨od, J, _⟩ := O.look
  refine PySem.W.len_K FR I.ok.mod.kin J hs hf ?_
  have hl : (([Value.ref a] : List Value) ++ []).length = ps.length := by
    have e := F.len _ _ _ _ q
    rw [← e]; rfl
  refine wpAny_call (codeAny_mono (F.run X.A.in1 X.stack s H ⟨[.ref a], []⟩ [.ref a] [.ref a] _ E0 (hr.in1) I.env0.in1 (hb s [.ref a] I.kIn hl) (.cons rfl .nil) q) fun r s' hq => ?_)
  cases r with
  | error e => exact False.elim hq
  | ok fl =>
    cases fl with
    | ret u =>
      obtain ⟨v, H', I', rv, n, rfl, hn, q'⟩ := I.after hq
      obtain ⟨t, rfl⟩ := rv
      refine ⟨⟨by omega, by omega⟩, ?_⟩
      exact ⟨.int (n : Int), H', I'.tok _, ⟨_, rfl⟩, q'⟩
    | next => exact False.elim hq
    | brk => exact False.elim hq
    | cont => exact False.elim hq
end
/-! ### enumerate(t), t a tuple -/
def IteT (K : PySem.W.Frag) (a : Addr) : It :=
  ⟨fun i H => ∃ (xs : List V) (x : V), SqT K H a xs ∧ xs[i]? = some x, fun i H v H' => ∃ T x, v = .ref T ∧ H T = none ∧ H' = upd H T (.tup [.int (i : Nat), x]) ∧ ∀ xs, SqT K H a xs → xs[i]? = some x, fun i H => ∃ xs : List V, SqT K H a xs ∧ xs.length ≤ i⟩
theorem turn_enumT {P : Program} {w : World} {K : PySem.W.Frag} {elts : List Expr} {kk : Nat} {tpos : Pos} (a e it : Addr) :
    Turn P w K (.Tuple elts kk tpos) (IteT K a) [e, it] e (fun i h => (∃ old, IsEnum h e it (0 + ((i : Nat) : Int)) old) ∧ h.IsTupleIter it a i ∧ e ≠ it ∧ a ≠ it ∧ a ≠ e) where
  mem := by simp
  obj := fun i h st b hb => by
    obtain ⟨⟨old, he⟩, ⟨o, ho, hc, hd⟩, _⟩ := st
    have e' : b = e ∨ b = it := by simpa using hb
    rcases e' with z | z
    · rw [z]; exact ⟨_, he, fun v q => nomatch q⟩
    · rw [z]; exact ⟨o, ho, fun v q => by rw [hd] at q; cases q⟩
  keep := fun i h h' st k => let ⟨⟨old, he⟩, hi, hne⟩ := st; ⟨⟨old, k e (by simp) _ he⟩, hi.at fun o q => k it (by simp) o q, hne⟩
  item := by
    intro X hP hw hK hc i pins s σ H E I hf st hg
    subst hP hw hK
    obtain ⟨hen, hit, hne, hai, hae⟩ := st
    obtain ⟨xs, x, hq, hx⟩ := hg
    obtain ⟨its, rv, p, hz⟩ := I.tuple hq
    have hl := rv.length
    have hi : i < its.toArray.size := by
      rw [List.size_toArray, ← hl]
      exact (List.getElem?_eq_some_iff.mp hx).1
    have W := WalksT.enumFrom (A := X.A) 0 (Draws.tuple (prog := X.prog) (w := X.w) (A := X.A.in1) (I.ok.hd hc) it a hai its.toArray) e hne (by simp [hne, Ne.symm hae]) (by simp)
    refine W.item i s _ _ hi ⟨hen, hit, p⟩ fun T vals h' tk hP hT hT' hm hk => ?_
    refine ⟨_, rfl, W.go elts kk tpos i T _ _ _ hm fun h'' st'' hk'' => ?_⟩
    obtain ⟨t, v, hv, rfl⟩ := hP
    obtain ⟨u, hu, ru⟩ := rv.get hx
    have ev : v = u := by
      have h1 : its[i]? = some v := by simpa using hv
      rw [hu] at h1
      exact (Option.some.inj h1).symm
    subst ev
    obtain ⟨o, ho, hoc, n, hod⟩ := hT'
    have hT2 : h''.get? T = some o := hk'' T o (W.apart i T h' hm) ho
    have new : ObjOk X.prog X.w (upd H T (.tup [.int (i : Nat), x])) h'' T (.tup [.int (i : Nat), x]) :=
      ⟨by show 2 ≤ sizeLine; decide, [.int (0 + (i : Int)) t, v], .cons ⟨t, by rw [Int.zero_add]⟩ (.cons ru .nil), ⟨o, hT2, hoc, n, hod⟩⟩
    have I1 : L2.Inv X pins σ (upd H T (.tup [.int (i : Nat), x])) { s with heap := h'', toks := tk } :=
      I.turnedNew (ch := [e, it]) (fun b ob hb q => hk'' b ob hb (hk b ob hb q)) hf hT new
    obtain ⟨hen2, hit2, _⟩ := st''
    refine ⟨.ref T, _, I1, rfl, ⟨T, x, rfl, I.hok.fresh hT, rfl, fun ys hy => by rw [I.tuple_inj hy hq]; exact hx⟩, ⟨hen2, hit2, hne, hai, hae⟩, fun b hb => ?_⟩
    have hb' : b < s.heap.objs.size := by
      have e' : b = e ∨ b = it := by simpa using hb
      rcases e' with z | z
      · rw [z]; obtain ⟨_, q⟩ := hen; exact Heap.lt_size q
      · rw [z]; obtain ⟨_, q, _⟩ := hit; exact Heap.lt_size q
    rw [upd_ne (Nat.ne_of_lt (Nat.lt_of_lt_of_le hb' hT))]
    exact (hf b hb).1
  done := by
    intro X hP hw hK hc i pins s σ H E I hf st hg
    subst hP hw hK
    obtain ⟨hen, hit, hne, hai, hae⟩ := st
    obtain ⟨xs, hq, hx⟩ := hg
    obtain ⟨its, rv, p, hz⟩ := I.tuple hq
    obtain ⟨old, he⟩ := hen
    have hl := rv.length
    refine wpAny_pyNext_enum_endD (fp := [it, a]) (n := 0) (P := fun _ _ => True) (St := fun _ h => h.IsTupleIter it a i ∧ h.IsTuple a its.toArray) ?_ he ⟨hit, p⟩ fun h' hk => ⟨rfl, I.turnedL (t' := s.toks) (ch := [e, it]) (fun b o hb q => hk b o (fun z => hb (by simp [z])) q) hf⟩
    exact {
      live := fun _ _ st => let ⟨o, ho, _⟩ := st.1; ⟨o, ho⟩
      frame := fun _ _ _ st hk => ⟨st.1.at fun o e => hk it (by simp) o e, st.2.at fun o e => hk a (by simp) o e⟩
      item := fun j s Q E hj _ _ => absurd hj (Nat.not_lt_zero _)
      done := fun s Q E st hE => wpAny_nextOf_tuple_end (I.ok.hd hc) st.1 st.2 (by simp; omega) hE }
  self := fun A i s Q E st h => let ⟨⟨_, he⟩, _⟩ := st; wpAny_pyIter_enum he h
def iEnumT (K : PySem.W.Frag) (ta : TA) : TI := fun σ H R => ta σ H fun vs H1 => ∃ a xs, vs = [.ref a] ∧ SqT K H1 a xs ∧ R (IteT K a) H1
set_option maxHeartbeats 1000000 in
theorem meets_enumT (l : Addr) (items : Array Value) (n : Nat) (dct : Option Addr) (sl : Array (Option Value)) :
    Meets (Builtin.«enumerate.__new__» ⟨[.type "enumerate", .ref l], []⟩) (fun _ R s => s.heap.get? l = some { cls := .type "tuple", dict := dct, data := .seq items n, slots := sl } ∧
      R (.ok (.ret (.ref (s.heap.push { cls := .type "tuple_iterator", data := .fields #[.ref l, .int 0 0] }).objs.size)))
        { s with heap := (s.heap.push { cls := .type "tuple_iterator", data := .fields #[.ref l, .int 0 0] }).push { cls := .type "enumerate", data := .fields #[.none, .bool false, .ref s.heap.objs.size, rawInt 0, .none, .none] } }) :=
  .of_wp fun prog w A R s h => by
    obtain ⟨hp, g, d, tk, os⟩ := s; obtain ⟨hl, h⟩ := h
    have hsub := sub_enumerate
    have hL : Heap.IsTuple (Shared.heap ⟨hp, g, d, tk, os⟩) l items := ⟨_, hl, rfl, n, rfl⟩
    wp_walk using AutoSeq1.wpAny_loadPart' hl
    refine wpAny_stack_any fun st => wpAny_pure ?_
    split
    · rename_i c _ _ _ _ _
      cases (c == Value.type "enumerate")
      · wp_walk using AutoSeq1.wpAny_loadPart' hl, wpAny_pyIter_tuple hL
        exact ⟨_, rfl, h⟩
      · wp_walk using AutoSeq1.wpAny_loadPart' hl, wpAny_pyIter_tuple hL
        exact ⟨_, rfl, h⟩
    · wp_walk using AutoSeq1.wpAny_loadPart' hl, wpAny_pyIter_tuple hL
      exact ⟨_, rfl, h⟩
theorem call_enumT {prog : Program} {w : World} {A : Around} {E : Value → Shared → Prop} {s : Shared} {l : Addr} {items : Array Value} {Q : Value → Shared → Prop} (hL : IsTup s.heap l items)
    (h : ∀ h', IsEnum h' (s.heap.objs.size + 1) s.heap.objs.size 0 .none → h'.IsTupleIter s.heap.objs.size l 0 →
      (∀ b o, s.heap.get? b = some o → h'.get? b = some o) → Q (.ref (s.heap.objs.size + 1)) { s with heap := h' }) :
    wpAny (model prog w) A (call (.type "enumerate") [.ref l]) Q E s := by
  obtain ⟨⟨c, dct, dt, sl⟩, hl, hc, n, hd⟩ := hL
  replace hc : c = .type "tuple" := hc
  replace hd : dt = .seq items n := hd
  subst hc hd
  refine callType_new F.called_enumerate (by decide) (F.typeCall_enumerate_1 _) (F.newCall_enumerate_1 _) (fun obj => F.args_object_init_2 obj _) F.entry_enumerate_new
    (meets_enumT l items n dct sl) ⟨hl, ?_⟩
  have hz : (s.heap.push { cls := .type "tuple_iterator", data := .fields #[.ref l, .int 0 0] }).objs.size = s.heap.objs.size + 1 := Heap.size_push ..
  show _ ∧ _
  rw [hz]
  have he : IsEnum ((s.heap.push { cls := .type "tuple_iterator", data := .fields #[.ref l, .int 0 0] }).push
      { cls := .type "enumerate", data := .fields #[.none, .bool false, .ref s.heap.objs.size, rawInt 0, .none, .none] }) (s.heap.objs.size + 1) s.heap.objs.size 0 .none := by
    have := Heap.get?_push_size (s.heap.push { cls := .type "tuple_iterator", data := .fields #[.ref l, .int 0 0] })
      (o := { cls := .type "enumerate", data := .fields #[.none, .bool false, .ref s.heap.objs.size, rawInt 0, .none, .none] }) rfl
    rw [hz] at this; exact this
  refine ⟨⟨_, he, rfl⟩, h _ he ⟨_, Heap.get?_push_of_some _ (Heap.get?_push_size _ rfl), rfl, rfl⟩ fun b o x => Heap.get?_push_of_some _ (Heap.get?_push_of_some _ x)⟩
theorem pi_enumT {X : Cx} {e : Expr} {ta : TA} {p pos tpos : Pos} {elts : List Expr} {kk : Nat} (hg : Gl X "enumerate") (hm : X.mg "enumerate" = none) (ha : PA X [e] ta) (hs : starEach [e] X.env = [(false, eval e X.env)] := by rfl) :
    PI X (.Tuple elts kk tpos) (.Call (.Name "enumerate" p) [e] [] pos) (iEnumT X.K ta) := by
  refine ⟨fun pins s σ H R I h => ?_⟩
  refine Call_ (ld_blt I hg hm boot_enumerate (PyProof.Rows.callWith_type1 (thn (ha.run pos pins s σ H _ I h) fun us s1 ⟨vs, H1, I1, r1, q1⟩ => ?_) hs rfl))
  obtain ⟨a, xs, ex, hq, q⟩ := q1
  subst ex
  cases r1 with
  | cons r rr =>
    cases rr
    cases r
    obtain ⟨its, rv, p', hz⟩ := I1.tuple hq
    have ha' : a < s1.heap.objs.size := by obtain ⟨o, ho, _⟩ := p'; exact Heap.lt_size ho
    refine call_enumT p' fun h' he hit hk => wpAny_pyIter_enum he ?_
    have I2 : L2.Inv X pins σ H1 { s1 with heap := h' } := I1.kept (t' := s1.toks) hk
    refine ⟨s1.heap.objs.size + 1, [s1.heap.objs.size + 1, s1.heap.objs.size], _, _, H1, rfl, I2, turn_enumT a (s1.heap.objs.size + 1) s1.heap.objs.size, ⟨⟨.none, he⟩, hit, Nat.succ_ne_self _, Nat.ne_of_lt ha', Nat.ne_of_lt (Nat.lt_succ_of_lt ha')⟩, fun b hb => ?_, q⟩
    have hle : s1.heap.objs.size ≤ b := by
      have e' : b = s1.heap.objs.size + 1 ∨ b = s1.heap.objs.size := by simpa using hb
      rcases e' with z | z
      · rw [z]; exact Nat.le_succ _
      · rw [z]; exact Nat.le_refl _
    exact I1.fpOk hle (I1.hok.fresh hle)
/-! ### zip(t, l), a tuple and a list -/
def ItzM (K : PySem.W.Frag) (a b : Addr) : It :=
  ⟨fun i H => ∃ (xs ys : List V) (x y : V), SqT K H a xs ∧ SqL K H b ys ∧ xs[i]? = some x ∧ ys[i]? = some y,
    fun i H v H' => ∃ T x y, v = .ref T ∧ H T = none ∧ H' = upd H T (.tup [x, y]) ∧ (∀ xs, SqT K H a xs → xs[i]? = some x) ∧ ∀ ys, SqL K H b ys → ys[i]? = some y,
    fun i H => ∃ xs ys : List V, SqT K H a xs ∧ SqL K H b ys ∧ xs.length = i ∧ ys.length = i⟩
theorem sub4 {z TI TO i1 i2 b : Addr} (h : b ∈ [z, TO, i1, i2]) : b ∈ [z, TI, TO, i1, i2] := by
  have e' : b = z ∨ b = TO ∨ b = i1 ∨ b = i2 := by simpa using h
  rcases e' with q | q | q | q <;> rw [q] <;> simp
theorem turn_zipM {P : Program} {w : World} {K : PySem.W.Frag} {elts : List Expr} {kk : Nat} {tpos : Pos} {a b z TI TO i1 i2 : Addr} (S : ZipSep2 z TI TO i1 i2 [i1, a] [i2, b]) (h1a : a ≠ i1) (h2b : b ≠ i2) :
    Turn P w K (.Tuple elts kk tpos) (ItzM K a b) [z, TI, TO, i1, i2] z (fun i h => IsZip h z TI TO .none ∧ IsTupOf2 h TI (.ref i1) (.ref i2) ∧ (∃ x y, IsTupOf2 h TO x y) ∧ h.IsTupleIter i1 a i ∧ h.IsListIter i2 b i) where
  mem := by simp
  obj := fun i h st c hc => by
    obtain ⟨hz, hTI, ⟨x, y, hTO⟩, ⟨o1, e1, _, d1⟩, ⟨o2, e2, _, d2⟩⟩ := st
    have e' : c = z ∨ c = TI ∨ c = TO ∨ c = i1 ∨ c = i2 := by simpa using hc
    rcases e' with q | q | q | q | q
    · rw [q]; exact ⟨_, hz, fun v q => nomatch q⟩
    · rw [q]; exact ⟨_, hTI, fun v q => nomatch q⟩
    · rw [q]; exact ⟨_, hTO, fun v q => nomatch q⟩
    · rw [q]; exact ⟨o1, e1, fun v q => by rw [d1] at q; cases q⟩
    · rw [q]; exact ⟨o2, e2, fun v q => by rw [d2] at q; cases q⟩
  keep := fun i h h' st k => by
    obtain ⟨hz, hTI, ⟨x, y, hTO⟩, h1, h2⟩ := st
    exact ⟨k z (by simp) _ hz, k TI (by simp) _ hTI, ⟨x, y, k TO (by simp) _ hTO⟩, h1.at fun o q => k i1 (by simp) o q, h2.at fun o q => k i2 (by simp) o q⟩
  item := by
    intro X hP hw hK hc i pins s σ H E I hf st hg
    subst hP hw hK
    obtain ⟨hz, hTI, hTO, h1, h2⟩ := st
    obtain ⟨xs, ys, x, y, hqx, hqy, hx, hy⟩ := hg
    obtain ⟨its, rv, p, _⟩ := I.tuple hqx
    obtain ⟨its2, rv2, p2, _⟩ := I.list hqy
    obtain ⟨u, hu, ru⟩ := rv.get hx
    obtain ⟨u2, hu2, ru2⟩ := rv2.get hy
    have l1 := rv.length
    have l2 := rv2.length
    have hi : i < min its.toArray.size its2.toArray.size := by
      have q1 := (List.getElem?_eq_some_iff.mp hx).1
      have q2 := (List.getElem?_eq_some_iff.mp hy).1
      rw [List.size_toArray, List.size_toArray]
      omega
    have W := WalksT.zipD2 (A := X.A) S (Draws.tuple (prog := X.prog) (w := X.w) (A := X.A.in1) (I.ok.hd hc) i1 a h1a its.toArray) (Draws.list (prog := X.prog) (w := X.w) (A := X.A.in1) (I.ok.hd hc) i2 b h2b its2.toArray)
    refine W.item i s _ _ hi ⟨hz, hTI, hTO, ⟨h1, p⟩, ⟨h2, p2.isList⟩⟩ fun T vals h' tk hP hT hT' hm hk => ?_
    refine ⟨_, rfl, W.go elts kk tpos i T _ _ _ hm fun h'' st'' hk'' => ?_⟩
    obtain ⟨v, v2, hv, hv2, rfl⟩ := hP
    have ev : v = u := by
      have q1 : its[i]? = some v := by simpa using hv
      rw [hu] at q1
      exact (Option.some.inj q1).symm
    have ev2 : v2 = u2 := by
      have q1 : its2[i]? = some v2 := by simpa using hv2
      rw [hu2] at q1
      exact (Option.some.inj q1).symm
    subst ev ev2
    obtain ⟨o, ho, hoc, n, hod⟩ := hT'
    have hT2 : h''.get? T = some o := hk'' T o (W.apart i T h' hm) ho
    have new : ObjOk X.prog X.w (upd H T (.tup [x, y])) h'' T (.tup [x, y]) :=
      ⟨by show 2 ≤ sizeLine; decide, [v, v2], .cons ru (.cons ru2 .nil), ⟨o, hT2, hoc, n, hod⟩⟩
    have sub : ∀ b' ∈ [z, TO, i1, i2], b' ∈ [z, TI, TO, i1, i2] := fun b' hb => sub4 hb
    have I1 : L2.Inv X pins σ (upd H T (.tup [x, y])) { s with heap := h'', toks := tk } :=
      I.turnedNew (ch := [z, TO, i1, i2]) (fun b' ob hb q => hk'' b' ob hb (hk b' ob hb q)) (fun b' hb => hf b' (sub b' hb)) hT new
    obtain ⟨a1, a2, a3, ⟨a4, _⟩, ⟨a5, _⟩⟩ := st''
    refine ⟨.ref T, _, I1, rfl, ⟨T, x, y, rfl, I.hok.fresh hT, rfl, fun l hl => by rw [I.tuple_inj hl hqx]; exact hx, fun l hl => by rw [I.list_inj hl hqy]; exact hy⟩, ⟨a1, a2, a3, a4, a5⟩, fun c hcm => ?_⟩
    have hlt : c < s.heap.objs.size := by
      have e' : c = z ∨ c = TI ∨ c = TO ∨ c = i1 ∨ c = i2 := by simpa using hcm
      rcases e' with q | q | q | q | q
      · rw [q]; exact Heap.lt_size hz
      · rw [q]; exact Heap.lt_size hTI
      · rw [q]; obtain ⟨_, _, e0⟩ := hTO; exact Heap.lt_size e0
      · rw [q]; obtain ⟨_, e1, _⟩ := h1; exact Heap.lt_size e1
      · rw [q]; obtain ⟨_, e2, _⟩ := h2; exact Heap.lt_size e2
    rw [upd_ne (Nat.ne_of_lt (Nat.lt_of_lt_of_le hlt hT))]
    exact (hf c hcm).1
  done := by
    intro X hP hw hK hc i pins s σ H E I hf st hg
    subst hP hw hK
    obtain ⟨hz, hTI, hTO, h1, h2⟩ := st
    obtain ⟨xs, ys, hqx, hqy, e1, e2⟩ := hg
    obtain ⟨its, rv, p, _⟩ := I.tuple hqx
    obtain ⟨its2, rv2, p2, _⟩ := I.list hqy
    have l1 := rv.length
    have l2 := rv2.length
    have W := WalksT.zipD2 (A := X.A) S (Draws.tuple (prog := X.prog) (w := X.w) (A := X.A.in1) (I.ok.hd hc) i1 a h1a its.toArray) (Draws.list (prog := X.prog) (w := X.w) (A := X.A.in1) (I.ok.hd hc) i2 b h2b its2.toArray)
    have en : min its.toArray.size its2.toArray.size = i := by
      rw [List.size_toArray, List.size_toArray]
      omega
    rw [en] at W
    have sub : ∀ b' ∈ [z, TO, i1, i2], b' ∈ [z, TI, TO, i1, i2] := fun b' hb => sub4 hb
    refine W.done s _ _ ⟨hz, hTI, hTO, ⟨h1, p⟩, ⟨h2, p2.isList⟩⟩ fun h' tk hk => ⟨rfl, I.turnedL (ch := [z, TO, i1, i2]) (fun b' o hb q => hk b' o hb q) (fun b' hb => hf b' (sub b' hb))⟩
  self := fun A i s Q E st h => wpAny_pyIter_zip st.1 h
def iZipM (K : PySem.W.Frag) (ta : TA) : TI := fun σ H R => ta σ H fun vs H1 => ∃ a b xs ys, vs = [.ref a, .ref b] ∧ SqT K H1 a xs ∧ SqL K H1 b ys ∧ R (ItzM K a b) H1
theorem pi_zipM {X : Cx} {e e2 : Expr} {ta : TA} {p pos tpos : Pos} {elts : List Expr} {kk : Nat} (hg : Gl X "zip") (hm : X.mg "zip" = none) (ha : PA X [e, e2] ta)
    (hs : starEach [e, e2] X.env = (false, eval e X.env) :: starEach [e2] X.env := by rfl) (hpl : (backTo pos (starEach [e2] X.env)).any (·.1) = false := by rfl) :
    PI X (.Tuple elts kk tpos) (.Call (.Name "zip" p) [e, e2] [] pos) (iZipM X.K ta) := by
  refine ⟨fun pins s σ H R I h => ?_⟩
  refine Call_ (ld_blt I hg hm PyProof.Rows.boot_zip (PyProof.Rows.callWith_type1 (thn (ha.run pos pins s σ H _ I h) fun us s1 ⟨vs, H1, I1, r1, q1⟩ => ?_) hs hpl))
  obtain ⟨a, b, xs, ys, ex, hqx, hqy, q⟩ := q1
  subst ex
  cases r1 with
  | cons r rr =>
    cases rr with
    | cons r' rr =>
      cases rr
      cases r
      cases r'
      have fresh5 : ∀ c, c ∈ [s1.heap.objs.size + 4, s1.heap.objs.size + 2, s1.heap.objs.size + 3, s1.heap.objs.size, s1.heap.objs.size + 1] → FpOk X pins H1 c := fun c hcm => by
        have hle : s1.heap.objs.size ≤ c := by
          have e' : c = s1.heap.objs.size + 4 ∨ c = s1.heap.objs.size + 2 ∨ c = s1.heap.objs.size + 3 ∨ c = s1.heap.objs.size ∨ c = s1.heap.objs.size + 1 := by simpa using hcm
          rcases e' with z | z | z | z | z
          · rw [z]; exact Nat.le_add_right _ _
          · rw [z]; exact Nat.le_add_right _ _
          · rw [z]; exact Nat.le_add_right _ _
          · rw [z]; exact Nat.le_refl _
          · rw [z]; exact Nat.le_add_right _ _
        exact I1.fpOk hle (I1.hok.fresh hle)
      obtain ⟨its, rv, p1, _⟩ := I1.tuple hqx
      obtain ⟨its2, rv2, p2, _⟩ := I1.list hqy
      have la : a < s1.heap.objs.size := by obtain ⟨o, ho, _⟩ := p1; exact Heap.lt_size ho
      have lb : b < s1.heap.objs.size := p2.lt
      refine zip_begins2 (begins_tuple a its.toArray) (begins_list b its2.toArray) p1 p2.isList fun h' hz hTI hTO h1 h2 hsz hk => wpAny_pyIter_zip hz ?_
      have I2 : L2.Inv X pins σ H1 { s1 with heap := h' } := I1.kept (t' := s1.toks) hk
      have S : ZipSep2 (s1.heap.objs.size + 4) (s1.heap.objs.size + 2) (s1.heap.objs.size + 3) s1.heap.objs.size (s1.heap.objs.size + 1) [s1.heap.objs.size, a] [s1.heap.objs.size + 1, b] :=
        zip_sep2 (N := s1.heap.objs.size) (fp1 := [a]) (fp2 := [b]) (by simpa using la) (by simpa using lb)
      exact ⟨s1.heap.objs.size + 4, [s1.heap.objs.size + 4, s1.heap.objs.size + 2, s1.heap.objs.size + 3, s1.heap.objs.size, s1.heap.objs.size + 1], _, _, H1, rfl, I2,
        turn_zipM S (Nat.ne_of_lt la) (Nat.ne_of_lt (Nat.lt_succ_of_lt lb)), ⟨hz, hTI, ⟨_, _, hTO⟩, ⟨_, h1, rfl, rfl⟩, ⟨_, h2, rfl, rfl⟩⟩, fresh5, q⟩
end K70
set_option Elab.async false
set_option linter.all false
set_option maxRecDepth 100000
set_option maxHeartbeats 4000000
/-! data without the heap, what a value denotes, steps of the heap -/
namespace K70
open PySem PySem.Spec PyProof.Rows L2

inductive D where
  | non | bl (b : Bool) | int (i : Int) | str (s : Str) | tup (ds : List D)
  | lst (a : Addr) (ds : List D) | scn (C : Addr) (ds : List D) | raw (v : V) | fru (ns : List Nat)
  | ob (p C dx : Addr) (ks : List Str) (ds : List D)
/-- the fields of a Scene -/
def scnN : List Str := ["table_now", "came", "done", "letters", "streaks", "tops", "ahead"]
mutual
inductive At (H : Hp) : V → D → Prop where
  | non : At H .non .non
  | bl (b : Bool) : At H (.bl b) (.bl b)
  | int (i : Int) : At H (.int i) (.int i)
  | str (s : Str) : At H (.str s) (.str s)
  | tup {a : Addr} {xs : List V} {ds : List D} : Rd H a (.tup xs) → Ats H xs ds → At H (.ref a) (.tup ds)
  | fru {a : Addr} {o : Obj} {ns : List Nat} : H a = some (.frz o (.tup (ns.map fun n : Nat => V.int (n : Int)))) → o.cls = .type "tuple" → o.dict = none → At H (.ref a) (.fru ns)
  | ob {p C dx : Addr} {ks : List Str} {xs : List V} {ds : List D} : H p = some (.ins C dx (ks.zip xs)) → xs.length = ks.length → Ats H xs ds → At H (.ref p) (.ob p C dx ks ds)
  | lst {a : Addr} {xs : List V} {ds : List D} : H a = some (.lst xs) → Ats H xs ds → At H (.ref a) (.lst a ds)
  | scn {C a dx : Addr} {xs : List V} {ds : List D} : H a = some (.ins C dx (scnN.zip xs)) → xs.length = 7 → Ats H xs ds → At H (.ref a) (.scn C ds)
  | raw (v : V) : At H v (.raw v)
inductive Ats (H : Hp) : List V → List D → Prop where
  | nil : Ats H [] []
  | cons {v : V} {vs : List V} {d : D} {ds : List D} : At H v d → Ats H vs ds → Ats H (v :: vs) (d :: ds)
end
/-- what never changes: tuples, and instances of seven fields (Scenes) -/
def Fz : HO → Prop
  | .tup _ => True
  | .frz _ _ => True
  | .ins _ _ fs => fs.length = 7
  | _ => False
/-- a step: all objects but those at S are as they were, frozen ones never change -/
structure Go (S : List Addr) (H H' : Hp) : Prop where
  kp : ∀ b o, H b = some o → b ∉ S → H' b = some o
  tk : ∀ a o, H a = some o → Fz o → H' a = some o
/-- no list at one of S -/
inductive Av (S : List Addr) : D → Prop where
  | non : Av S .non
  | bl (b : Bool) : Av S (.bl b)
  | int (i : Int) : Av S (.int i)
  | str (s : Str) : Av S (.str s)
  | tup {ds : List D} : (∀ d ∈ ds, Av S d) → Av S (.tup ds)
  | lst {a : Addr} {ds : List D} : a ∉ S → (∀ d ∈ ds, Av S d) → Av S (.lst a ds)
  | scn {C : Addr} {ds : List D} : (∀ d ∈ ds, Av S d) → Av S (.scn C ds)
  | raw (v : V) : Av S (.raw v)
  | fru (ns : List Nat) : Av S (.fru ns)
  | ob {p C dx : Addr} {ks : List Str} {ds : List D} : p ∉ S → (∀ d ∈ ds, Av S d) → Av S (.ob p C dx ks ds)
section
variable {S : List Addr} {H H1 H' : Hp} {v : V} {d : D} {vs : List V} {ds : List D} {a p : Addr} {o o' : HO}
theorem goT {xs : List V} (g : Go S H H') (h : Rd H a (.tup xs)) : Rd H' a (.tup xs) := by
  rcases h with h | ⟨o, h⟩
  · exact .inl (g.tk _ _ h trivial)
  · exact .inr ⟨o, g.tk _ _ h trivial⟩
mutual
theorem At.goS (g : Go S H H') : ∀ {v : V} {d : D}, At H v d → Av S d → At H' v d
  | _, _, .non, _ => .non
  | _, _, .bl b, _ => .bl b
  | _, _, .int i, _ => .int i
  | _, _, .str s, _ => .str s
  | _, _, .tup h hs, .tup k => .tup (goT g h) (Ats.goS g hs k)
  | _, _, .lst h hs, .lst n k => .lst (g.kp _ _ h n) (Ats.goS g hs k)
  | _, _, .scn h l hs, .scn k => .scn (g.tk _ _ h (by show (List.zip scnN _).length = 7; rw [List.length_zip, l]; rfl)) l (Ats.goS g hs k)
  | _, _, .raw v, _ => .raw v
  | _, _, .fru h c n, _ => .fru (g.tk _ _ h trivial) c n
  | _, _, .ob h l hs, .ob n k => .ob (g.kp _ _ h n) l (Ats.goS g hs k)
theorem Ats.goS (g : Go S H H') : ∀ {vs : List V} {ds : List D}, Ats H vs ds → (∀ d ∈ ds, Av S d) → Ats H' vs ds
  | _, _, .nil, _ => .nil
  | _, _, .cons h hs, k => .cons (At.goS g h (k _ List.mem_cons_self)) (Ats.goS g hs fun d hd => k d (List.mem_cons_of_mem _ hd))
end
mutual
theorem At.av0 : ∀ {v : V} {d : D}, At H v d → Av [] d
  | _, _, .non => .non
  | _, _, .bl b => .bl b
  | _, _, .int i => .int i
  | _, _, .str s => .str s
  | _, _, .tup _ hs => .tup (Ats.av0 hs)
  | _, _, .lst _ hs => .lst (by simp) (Ats.av0 hs)
  | _, _, .scn _ _ hs => .scn (Ats.av0 hs)
  | _, _, .raw v => .raw v
  | _, _, .fru _ _ _ => .fru _
  | _, _, .ob _ _ hs => .ob (by simp) (Ats.av0 hs)
theorem Ats.av0 : ∀ {vs : List V} {ds : List D}, Ats H vs ds → ∀ d ∈ ds, Av [] d
  | _, _, .nil, _, hd => by cases hd
  | _, _, .cons h hs, d, hd => by
    cases hd with
    | head => exact At.av0 h
    | tail _ hd => exact Ats.av0 hs d hd
end
theorem At.go (g : Go [] H H') {v : V} {d : D} (h : At H v d) : At H' v d := h.goS g h.av0
theorem Ats.go (g : Go [] H H') {vs : List V} {ds : List D} (h : Ats H vs ds) : Ats H' vs ds := h.goS g h.av0
theorem Go.refl : Go S H H := ⟨fun _ _ h _ => h, fun _ _ h _ => h⟩
theorem Go.trans (g : Go [] H H1) (g' : Go [] H1 H') : Go [] H H' := ⟨fun b o h n => g'.kp b o (g.kp b o h n) n, fun a o h f => g'.tk a o (g.tk a o h f) f⟩
theorem Go.transS (g : Go S H H1) (g' : Go S H1 H') : Go S H H' := ⟨fun b o h n => g'.kp b o (g.kp b o h n) n, fun a o h f => g'.tk a o (g.tk a o h f) f⟩
theorem Go.wide (g : Go [] H H') : Go S H H' := ⟨fun b o h _ => g.kp b o h (by simp), g.tk⟩
theorem Go.same (g : Go [] H H') : Same H H' := fun b o h => g.kp b o h (by simp)
theorem Go.at0 (g : Go [] H H') (h : H a = some o) : H' a = some o := g.kp _ _ h (by simp)
theorem Go.new (hn : H p = none) : Go [] H (upd H p o) := ⟨fun b u h _ => by rw [upd_ne (ne_of_none h hn)]; exact h, fun b u h _ => by rw [upd_ne (ne_of_none h hn)]; exact h⟩
theorem Go.free (g : Go [] H H') (h : H' p = none) : H p = none := by
  cases e : H p with
  | none => rfl
  | some o => rw [g.at0 e] at h; cases h
theorem Go.freeS (g : Go S H H') (h : H' p = none) (hp : p ∉ S) : H p = none := by
  cases e : H p with
  | none => rfl
  | some o => rw [g.kp p o e hp] at h; cases h
/-- an object that is no tuple is changed -/
theorem Go.mut (h : H p = some o) (no : ¬ Fz o) : Go [p] H (upd H p o') := ⟨fun b u e n => by rw [upd_ne (by simpa using n)]; exact e, fun b u e f => by
  rw [upd_ne (ne_of e h (fun z => no (z ▸ f)))]; exact e⟩
theorem Go.mono {S' : List Addr} (g : Go S H H') (h : ∀ a ∈ S, a ∈ S') : Go S' H H' := ⟨fun b o e n => g.kp b o e fun z => n (h b z), g.tk⟩
theorem Go.keep (g : Go S H H') (h : H p = some o) (n : p ∉ S) : H' p = some o := g.kp p o h n
/-- a change of what was not there -/
theorem Go.loc (g : Go [] H H1) (hn : H p = none) (g' : Go [p] H1 H') : Go [] H H' := ⟨fun b o h _ => g'.kp b o (g.at0 h) (by simp; exact ne_of_none h hn), fun a o h f => g'.tk a o (g.tk a o h f) f⟩
theorem At.int_inv {i : Int} (h : At H v (.int i)) : v = .int i := by cases h; rfl
theorem At.bl_inv {b : Bool} (h : At H v (.bl b)) : v = .bl b := by cases h; rfl
theorem At.str_inv {s : Str} (h : At H v (.str s)) : v = .str s := by cases h; rfl
theorem At.non_inv (h : At H v .non) : v = .non := by cases h; rfl
theorem At.tup_inv (h : At H v (.tup ds)) : ∃ a xs, v = .ref a ∧ Rd H a (.tup xs) ∧ Ats H xs ds := by
  cases h with
  | tup h hs => exact ⟨_, _, rfl, h, hs⟩
theorem Ats.length : ∀ {vs : List V} {ds : List D}, Ats H vs ds → vs.length = ds.length
  | _, _, .nil => rfl
  | _, _, .cons _ hs => congrArg Nat.succ (Ats.length hs)
theorem Ats.get : ∀ {vs : List V} {ds : List D} {i : Nat} {d : D}, Ats H vs ds → ds[i]? = some d → ∃ v, vs[i]? = some v ∧ At H v d
  | _, _, _, _, .nil, e => by simp at e
  | _, _, 0, _, .cons h _, e => by simp at e; subst e; exact ⟨_, rfl, h⟩
  | _, _, i + 1, d, .cons _ hs, e => by
    obtain ⟨v, e1, h⟩ := Ats.get (i := i) (d := d) hs (by simpa using e)
    exact ⟨v, by simpa using e1, h⟩
theorem Ats.getV : ∀ {vs : List V} {ds : List D} {i : Nat} {v : V}, Ats H vs ds → vs[i]? = some v → ∃ d, ds[i]? = some d ∧ At H v d
  | _, _, _, _, .nil, e => by simp at e
  | _, _, 0, _, .cons h _, e => by simp at e; subst e; exact ⟨_, rfl, h⟩
  | _, _, i + 1, v, .cons _ hs, e => by
    obtain ⟨d, e1, h⟩ := Ats.getV (i := i) (v := v) hs (by simpa using e)
    exact ⟨d, by simpa using e1, h⟩
theorem Ats.append : ∀ {vs ws : List V} {ds es : List D}, Ats H vs ds → Ats H ws es → Ats H (vs ++ ws) (ds ++ es)
  | _, _, _, _, .nil, h => h
  | _, _, _, _, .cons h hs, h' => .cons h (Ats.append hs h')
theorem Ats.reverse : ∀ {vs : List V} {ds : List D}, Ats H vs ds → Ats H vs.reverse ds.reverse
  | _, _, .nil => .nil
  | _, _, .cons h hs => by
    rw [List.reverse_cons, List.reverse_cons]
    exact (Ats.reverse hs).append (.cons h .nil)
theorem Ats.take : ∀ {vs : List V} {ds : List D} (n : Nat), Ats H vs ds → Ats H (vs.take n) (ds.take n)
  | _, _, 0, _ => .nil
  | _, _, _ + 1, .nil => .nil
  | _, _, n + 1, .cons h hs => .cons h (Ats.take n hs)
theorem Ats.drop : ∀ {vs : List V} {ds : List D} (n : Nat), Ats H vs ds → Ats H (vs.drop n) (ds.drop n)
  | _, _, 0, h => h
  | _, _, _ + 1, .nil => .nil
  | _, _, n + 1, .cons _ hs => Ats.drop n hs
end
/-! ### this program's data -/
abbrev dN (n : Nat) : D := .int (n : Int)
abbrev dNs (ns : List Nat) : D := .tup (ns.map dN)
abbrev dRule (t : Rule) : D := .tup (t.map dNs)
abbrev dCar (c : Option Nat) : D := match c with
  | none => .non
  | some c => dN c
abbrev dNow (s : Sc) : D := .tup [dRule s.t, dNs s.came, dNs s.done, .str s.word, dNs s.sk, dNs s.tops]
abbrev dEd (e : Ed) : D := match e with
  | .come l => .tup [.str "come", dN l]
  | .go => .tup [.str "go"]
  | .chg t => .tup [.str "change", dRule t]
section
variable {H : Hp}
abbrev vN (n : Nat) : V := .int (n : Int)
theorem Ats.ofN : ∀ ns : List Nat, Ats H (ns.map vN) (ns.map dN)
  | [] => .nil
  | n :: ns => .cons (.int _) (Ats.ofN ns)
theorem Ats.nums : ∀ {ns : List Nat} {vs : List V}, Ats H vs (ns.map dN) → vs = ns.map vN
  | [], _, h => by cases h; rfl
  | n :: ns, _, h => by
    cases h with
    | cons h hs => rw [h.int_inv, Ats.nums hs]; rfl
theorem At.nums {v : V} {ns : List Nat} (h : At H v (dNs ns)) : ∃ a, v = .ref a ∧ Rd H a (.tup (ns.map vN)) := by
  obtain ⟨a, xs, e, h1, h2⟩ := h.tup_inv
  exact ⟨a, e, by rw [← h2.nums]; exact h1⟩
theorem At.ofNums {a : Addr} {ns : List Nat} (h : H a = some (.tup (ns.map vN))) : At H (.ref a) (dNs ns) := .tup (.inl h) (Ats.ofN ns)
theorem SqT.rd {K : PySem.W.Frag} {a : Addr} {xs : List V} (h : Rd H a (.tup xs)) : SqT K H a xs := .inl h
theorem vN_ints (ns : List Nat) : ns.map vN = (ns.map fun n : Nat => (n : Int)).map V.int := by rw [List.map_map]; rfl
end
end K70
set_option Elab.async false
set_option linter.all false
set_option maxRecDepth 100000
set_option maxHeartbeats 4000000
/-! readings step by step: one lemma a form -/
namespace K70
open PySem PySem.Spec PyProof.Rows L2
section
variable {K : PySem.W.Frag} {σ : L2.St} {H : Hp} {D : Ends} {Q : VK} {te ta tb tc : TE} {t u c : TT} {t1 t2 : TS} {g : TG} {r : R2} {v x y : V} {i : Nat} {ts tr : TA} {QB : Bool → Hp → Prop} {QA : List V → Hp → Prop} {b : Bool} {k : Int}
/-! statements -/
theorem r_seq (h : t1 { D with nx := t2 D } σ H) : tSeq t1 t2 D σ H := h
theorem r_next (h : D.nx σ H) : tNext D σ H := h
theorem r_asg (h : te σ H fun x H1 => g x σ H1 D.nx) : tAsg te g D σ H := h
theorem r_gname {Qs : L2.St → Hp → Prop} (h : Qs (σ.set i (some v)) H) : gName i v σ H Qs := h
theorem r_ret (h : te σ H D.rt) : tRet te D σ H := h
theorem r_drop (h : te σ H fun _ H1 => D.nx σ H1) : tDrop te D σ H := h
theorem r_ifS (h : c σ H fun b H1 => if b = true then t1 D σ H1 else t2 D σ H1) : tIfS c t1 t2 D σ H := h
/-! expressions -/
theorem r_var (h : σ[i]? = some (some v)) (q : Q v H) : tVar i σ H Q := ⟨v, h, q⟩
theorem r_cN {n : Nat} (e : k = (n : Int)) (q : Q (.int (n : Int)) H) : tC (.int k) σ H Q := by rw [e]; exact q
theorem r_c (q : Q v H) : tC v σ H Q := q
theorem r_op (h : ta σ H fun x H1 => tb σ H1 fun y H2 => r x y H2 Q) : tOp r ta tb σ H Q := h
theorem r_un {r : V → Hp → VK → Prop} (h : ta σ H fun x H1 => r x H1 Q) : tUn r ta σ H Q := h
theorem r_test (h : te σ H fun x H' => ∃ k, x = .bl k ∧ QB k H') : tTest te σ H QB := h
theorem r_tB (h : te σ H fun x H' => ∃ k, x = .bl k ∧ QB k H') : tB te σ H QB := h
theorem r_bl {P : Bool → Prop} (q : P b) : ∃ k, V.bl b = .bl k ∧ P k := ⟨b, rfl, q⟩
theorem r_not (h : t σ H fun c H1 => QB (!c) H1) : tNot t σ H QB := h
theorem r_and (h : t σ H fun c H1 => if c = true then u σ H1 QB else QB false H1) : tAnd t u σ H QB := h
theorem r_or (h : t σ H fun c H1 => if c = true then QB true H1 else u σ H1 QB) : tOr t u σ H QB := h
theorem r_andV (h : ta σ H fun x H1 => ∃ c, x = .bl c ∧ if c = true then tb σ H1 Q else Q (.bl false) H1) : tAndV ta tb σ H Q := h
theorem r_orV (h : ta σ H fun x H1 => ∃ c, x = .bl c ∧ if c = true then Q (.bl true) H1 else tb σ H1 Q) : tOrV ta tb σ H Q := h
theorem r_notV (h : ta σ H fun x H1 => ∃ c, x = .bl c ∧ Q (.bl (!c)) H1) : tNotV ta σ H Q := h
theorem r_if (h : t σ H fun c H1 => if c = true then ta σ H1 Q else tb σ H1 Q) : tIf t ta tb σ H Q := h
theorem r_chain {r r' : R2} (h : ta σ H fun x H1 => tb σ H1 fun y H2 => r x y H2 fun z H3 => ∃ k, z = .bl k ∧ (if k = true then tc σ H3 fun w' H4 => r' y w' H4 Q else Q (.bl false) H3)) : tChain r r' ta tb tc σ H Q := h
theorem r_nil (h : QA [] H) : tNil σ H QA := h
theorem r_cons (h : ta σ H fun x H1 => ts σ H1 fun xs H2 => QA (x :: xs) H2) : tCons ta ts σ H QA := h
theorem r_CB {r : List V → Hp → VK → Prop} (h : ts σ H fun vs H1 => r vs H1 Q) : tCB r ts σ H Q := h
theorem r_call {sp : Sp} {dvs : List V} {E : XK} (h : ts σ H fun vs H1 => sp (vs ++ dvs) H1 Q E) : tCall sp dvs E ts σ H Q := h
/-! tests that are known -/
theorem r_tt {A B : Prop} (h : A) : if true = true then A else B := iteT h
theorem r_ff {A B : Prop} (h : B) : if false = true then A else B := iteF h
theorem r_dt {p A B : Prop} [Decidable p] (hp : p) (h : A) : if decide p = true then A else B := by rw [decide_eq_true hp]; exact iteT h
theorem r_df {p A B : Prop} [Decidable p] (hp : ¬ p) (h : B) : if decide p = true then A else B := by rw [decide_eq_false hp]; exact iteF h
theorem r_nt {A B : Prop} {b : Bool} (h : if b = true then B else A) : if (!b) = true then A else B := by cases b <;> exact h
theorem r_d2 {p A B : Prop} [Decidable p] (h1 : p → A) (h2 : ¬ p → B) : if decide p = true then A else B := by
  by_cases hp : p
  · exact r_dt hp (h1 hp)
  · exact r_df hp (h2 hp)
/-! operators -/
theorem r_I0 {f : Int → Int → V} {i j : Int} (q : Q (f i j) H) : rI0 f (.int i) (.int j) H Q := ⟨i, j, rfl, rfl, q⟩
theorem r_addN {a b : Nat} (q : Q (.int ((a + b : Nat) : Int)) H) : rI0 (fun i j => .int (i + j)) (.int (a : Int)) (.int (b : Int)) H Q := ⟨_, _, rfl, rfl, by show Q (.int ((a : Int) + (b : Int))) H; rw [← Int.natCast_add]; exact q⟩
theorem r_subN {a b : Nat} (h : b ≤ a) (q : Q (.int ((a - b : Nat) : Int)) H) : rI0 (fun i j => .int (i - j)) (.int (a : Int)) (.int (b : Int)) H Q := ⟨_, _, rfl, rfl, by show Q (.int ((a : Int) - (b : Int))) H; rw [← Int.ofNat_sub h]; exact q⟩
theorem r_neg {i : Int} (q : Q (.int (-i)) H) : rU (fun i => .int (-i)) (.int i) H Q := ⟨i, rfl, q⟩
theorem r_ltN {a b : Nat} (q : Q (.bl (decide (a < b))) H) : rI0 (fun i j => .bl (decide (i < j))) (.int (a : Int)) (.int (b : Int)) H Q := ⟨_, _, rfl, rfl, by
  show Q (.bl (decide ((a : Int) < (b : Int)))) H
  rw [decide_eq_decide.mpr (Int.ofNat_lt : ((a : Nat) : Int) < b ↔ a < b)]; exact q⟩
theorem r_leN {a b : Nat} (q : Q (.bl (decide (a ≤ b))) H) : rI0 (fun i j => .bl (decide (i ≤ j))) (.int (a : Int)) (.int (b : Int)) H Q := ⟨_, _, rfl, rfl, by
  show Q (.bl (decide ((a : Int) ≤ (b : Int)))) H
  rw [decide_eq_decide.mpr (Int.ofNat_le : ((a : Nat) : Int) ≤ b ↔ a ≤ b)]; exact q⟩
theorem dec_vN {a b : Nat} : decide (V.int (a : Int) = V.int (b : Int)) = decide (a = b) := decide_eq_decide.mpr ⟨fun h => by injection h with h; omega, fun h => by rw [h]⟩
theorem r_eqN {a b : Nat} (q : Q (.bl (decide (a = b))) H) : rEq (.int (a : Int)) (.int (b : Int)) H Q := ⟨rfl, by rw [dec_vN]; exact q⟩
theorem r_neN {a b : Nat} (q : Q (.bl (!decide (a = b))) H) : rNe (.int (a : Int)) (.int (b : Int)) H Q := ⟨rfl, by rw [dec_vN]; exact q⟩
theorem dec_vS {a b : Str} : decide (V.str a = V.str b) = decide (a = b) := decide_eq_decide.mpr ⟨fun h => by injection h, fun h => by rw [h]⟩
theorem r_eqS {a b : Str} (q : Q (.bl (decide (a = b))) H) : rEq (.str a) (.str b) H Q := ⟨rfl, by rw [dec_vS]; exact q⟩
theorem r_neS {a b : Str} (q : Q (.bl (!decide (a = b))) H) : rNe (.str a) (.str b) H Q := ⟨rfl, by rw [dec_vS]; exact q⟩
theorem r_isN {x : V} (q : Q (.bl (decide (x = .non))) H) : (fun x y H (Q : VK) => y = V.non ∧ Q (.bl (decide (x = .non))) H) x .non H Q := ⟨rfl, q⟩
theorem r_notN {x : V} (q : Q (.bl (!decide (x = .non))) H) : (fun x y H (Q : VK) => y = V.non ∧ Q (.bl (!decide (x = .non))) H) x .non H Q := ⟨rfl, q⟩
/-! subscripts -/
theorem atI_N {xs : List V} {j : Nat} {v : V} (h : xs[j]? = some v) : atI xs (j : Int) = some v := at_of rfl h
theorem r_ixTup {a : Addr} {xs : List V} {j : Nat} (h : Rd H a (.tup xs)) (hj : xs[j]? = some v) (q : Q v H) : rIxT K (.ref a) (.int (j : Int)) H Q := ⟨a, xs, _, v, rfl, rfl, SqT.rd h, atI_N hj, q⟩
/-- an item of a written tuple -/
theorem r_ixD {ds : List K70.D} {d : K70.D} {j : Nat} (h : At H x (.tup ds)) (hj : ds[j]? = some d) (q : ∀ v, At H v d → Q v H) : rIxT K x (.int (j : Int)) H Q := by
  obtain ⟨a, xs, rfl, h1, h2⟩ := h.tup_inv
  obtain ⟨v, e, h3⟩ := h2.get hj
  exact r_ixTup h1 e (q v h3)
/-- .. that is a text, an int -/
theorem r_ixDS {ds : List K70.D} {s : Str} {j : Nat} (h : At H x (.tup ds)) (hj : ds[j]? = some (.str s)) (q : Q (.str s) H) : rIxT K x (.int (j : Int)) H Q := r_ixD h hj fun v hv => by rw [hv.str_inv]; exact q
theorem r_ixDI {ds : List K70.D} {n : Int} {j : Nat} (h : At H x (.tup ds)) (hj : ds[j]? = some (.int n)) (q : Q (.int n) H) : rIxT K x (.int (j : Int)) H Q := r_ixD h hj fun v hv => by rw [hv.int_inv]; exact q
/-- an item of a tuple of numbers -/
theorem r_ixN {ns : List Nat} {j : Nat} (h : At H x (dNs ns)) (hj : j < ns.length) (q : Q (.int (ix ns j : Nat)) H) : rIxT K x (.int (j : Int)) H Q :=
  r_ixDI h (by rw [List.getElem?_map, ix_get hj]; rfl) q
/-- a row of a rule -/
theorem getD_get {α : Type} {xs : List α} {j : Nat} {d : α} (h : j < xs.length) : xs[j]? = some (xs.getD j d) := by
  rw [List.getD_eq_getElem?_getD, List.getElem?_eq_getElem h]; rfl
theorem r_ixR {ru : Rule} {j : Nat} (h : At H x (dRule ru)) (hj : j < ru.length) (q : ∀ v, At H v (dNs (ru.getD j [])) → Q v H) : rIxT K x (.int (j : Int)) H Q :=
  r_ixD h (by rw [List.getElem?_map, getD_get (d := []) hj]; rfl) q
/-- the last one -/
theorem atI_neg1 {xs : List V} {v : V} (h : xs.getLast? = some v) : atI xs (-((1 : Nat) : Int)) = some v := by
  obtain ⟨ys, rfl⟩ := List.getLast?_eq_some_iff.mp h
  exact atI_last ys v
theorem r_ixLast {ns : List Nat} {m : Nat} (h : At H x (dNs ns)) (hj : ns.getLast? = some m) (q : Q (.int (m : Int)) H) : rIxT K x (.int (-((1 : Nat) : Int))) H Q := by
  obtain ⟨a, rfl, h1⟩ := h.nums
  refine ⟨a, _, _, .int (m : Int), rfl, rfl, SqT.rd h1, atI_neg1 ?_, q⟩
  rw [List.getLast?_map, hj]; rfl
/-! len, displays -/
theorem r_lenT {ds : List K70.D} {n : Nat} (h : At H x (.tup ds)) (hn : ds.length = n) (q : Q (.int (n : Int)) H) : (fun xs H (Q : VK) => ∃ p ys, xs = [V.ref p] ∧ (SqL K H p ys ∨ SqT K H p ys) ∧ Q (.int ys.length) H) [x] H Q := by
  obtain ⟨a, xs, rfl, h1, h2⟩ := h.tup_inv
  exact ⟨a, xs, rfl, .inr (SqT.rd h1), by rw [h2.length, hn]; exact q⟩
theorem r_lenL {a : Addr} {xs : List V} {n : Nat} (h : H a = some (.lst xs)) (hn : xs.length = n) (q : Q (.int (n : Int)) H) : (fun xs H (Q : VK) => ∃ p ys, xs = [V.ref p] ∧ (SqL K H p ys ∨ SqT K H p ys) ∧ Q (.int ys.length) H) [.ref a] H Q :=
  ⟨a, xs, rfl, .inl (SqL.of h), by rw [hn]; exact q⟩
theorem r_tup (h : ts σ H fun xs H1 => xs.length ≤ sizeLine ∧ ∀ p, H1 p = none → Q (.ref p) (upd H1 p (.tup xs))) : tTup ts σ H Q := h
theorem r_tupE {xs : List V} {ds : List K70.D} (h : Ats H xs ds) (hl : xs.length ≤ 1000) (q : ∀ a H', Go [] H H' → At H' (.ref a) (.tup ds) → Q (.ref a) H') : xs.length ≤ sizeLine ∧ ∀ p, H p = none → Q (.ref p) (upd H p (.tup xs)) :=
  ⟨Nat.le_trans hl (by decide), fun p hp => q p _ (Go.new hp) (.tup (.inl upd_same) (h.go (Go.new hp)))⟩
theorem r_lst (h : ts σ H fun xs H1 => xs.length ≤ sizeLine ∧ ∀ p, H1 p = none → Q (.ref p) (upd H1 p (.lst xs))) : tLst ts σ H Q := h
theorem r_lstE {xs : List V} (hl : xs.length ≤ 1000) (q : ∀ a H', Go [] H H' → H a = none → H' a = some (.lst xs) → Q (.ref a) H') : xs.length ≤ sizeLine ∧ ∀ p, H p = none → Q (.ref p) (upd H p (.lst xs)) :=
  ⟨Nat.le_trans hl (by decide), fun p hp => q p _ (Go.new hp) hp upd_same⟩
end
/-! ### a def in use -/
structure Use (P : Program) (w : World) (K : PySem.W.Frag) (mg : Str → Option Value) (base : Heap) (x : Str) (k : Nat) (ps : List Str) (sp : Sp) : Prop where
  ex : ∃ f fd, mg x = some (.ref f) ∧ PySem.W.keepIn K (.ref f) = true ∧ Binds K fd ps [] ∧ FnOk P w K mg base CX0 k f fd ps sp
theorem pe_use {X : Cx} {x : Str} {k j : Nat} {ps : List Str} {sp : Sp} {e : Expr} {es : List Expr} {p pos : Pos} {t : TA} (U : Use X.prog X.w X.K X.mg X.base x k ps sp) (hr : Room j X.A) (hk : k ≤ j) (hg : Gl X x)
    (ha : PA X (e :: es) t) (hdb : (x == ("__debug__" : Str)) = false := by decide) (he : starEach (e :: es) X.env = (false, eval e X.env) :: starEach es X.env := by rfl) (hpl : (backTo pos (starEach es X.env)).any (·.1) = false := by rfl) :
    PE X (.Call (.Name x p) (e :: es) [] pos) (tCall sp [] E0 t) := by
  obtain ⟨f, fd, hm, kp, hb, F⟩ := U.ex
  exact pe_call F (hr.mono hk) hg hm kp hb .nil pass0 ha hdb he hpl
section
variable {P : Program} {w : World} {K : PySem.W.Frag} {mg : Str → Option Value} {base : Heap}
/-- THE RULE for a def of the module -/
theorem mk_use {x : Str} {st : Stmt} {f : Addr} {N ps : List Str} {k : Nat} {sp : Sp} (F : ∃ fd, FunD K x x (defArgs st) (defBody st) (defScope st) [] [] f fd) (g : mg x = some (.ref f)) (S : FnScope N ps (defScope st))
    (hb : ∀ (kV doc pm : Value) (an : Option Addr) (cdv ct : Value) (us : List Value), us.length = ps.length → bindArgs (PySem.W.fnOf x x (defArgs st) (defBody st) (defScope st) .none kV doc pm an cdv ct) ⟨us, []⟩ = pure (ps.zip us))
    (len : ∀ vs H Q E, sp vs H Q E → vs.length = ps.length)
    (body : ∀ (cdv : Value) (A : Around) (outer : List Env) (s : Shared) (H : Hp) (vs : List V) (Q : VK) (E : XK), Room k (A.deeper (envOfC x (defScope st) s.heap.objs.size f cdv)) → sp vs H Q E →
      ∃ t, PSs (cxOf CX0 P w K mg base N x (defScope st) f cdv A outer s H E).nox (defBody st) t ∧ t { nx := fun _ H' => Q .non H', rt := Q } (start N vs) H) : Use P w K mg base x (k + 1) ps sp := by
  obtain ⟨fd, F⟩ := F
  refine ⟨f, fd, g, F.kp, F.bindsN hb, F.ok S len fun cdv A outer s H vs Q E hr h => ?_⟩
  obtain ⟨t, h1, h2⟩ := body cdv A outer s H vs Q E hr h
  exact ⟨t, h1.nox, h2⟩
end
end K70
set_option Elab.async false
set_option linter.all false
set_option maxRecDepth 100000
set_option maxHeartbeats 4000000
namespace K70
open PySem PySem.Spec PyProof.Rows L2
/-! what the top has written, by name -/
structure Tx (K : PySem.W.Frag) (mg : Str → Option Value) : Prop where
  says : SaysK K
  ex : ∃ h : Heap, K.In h ∧ h.Ns mainGlobals mg
section
variable {K : PySem.W.Frag} {mg : Str → Option Value}
theorem Tx.glo_is_integer (T : Tx K mg) : mg "is_integer" = some (.ref (He.ga K "is_integer")) := by obtain ⟨h, X, G⟩ := T.ex; exact He.glo_ok X G (T.says.a.fact i_glo_is_integer (f := .glo "is_integer") rfl)
theorem Tx.glo_is_preference (T : Tx K mg) : mg "is_preference" = some (.ref (He.ga K "is_preference")) := by obtain ⟨h, X, G⟩ := T.ex; exact He.glo_ok X G (T.says.a.fact i_glo_is_preference (f := .glo "is_preference") rfl)
theorem Tx.glo_rule_error (T : Tx K mg) : mg "rule_error" = some (.ref (He.ga K "rule_error")) := by obtain ⟨h, X, G⟩ := T.ex; exact He.glo_ok X G (T.says.a.fact i_glo_rule_error (f := .glo "rule_error") rfl)
theorem Tx.glo_is_lane (T : Tx K mg) : mg "is_lane" = some (.ref (He.ga K "is_lane")) := by obtain ⟨h, X, G⟩ := T.ex; exact He.glo_ok X G (T.says.a.fact i_glo_is_lane (f := .glo "is_lane") rfl)
theorem Tx.glo_preference_after (T : Tx K mg) : mg "preference_after" = some (.ref (He.ga K "preference_after")) := by obtain ⟨h, X, G⟩ := T.ex; exact He.glo_ok X G (T.says.a.fact i_glo_preference_after (f := .glo "preference_after") rfl)
theorem Tx.glo_first_lane (T : Tx K mg) : mg "first_lane" = some (.ref (He.ga K "first_lane")) := by obtain ⟨h, X, G⟩ := T.ex; exact He.glo_ok X G (T.says.a.fact i_glo_first_lane (f := .glo "first_lane") rfl)
theorem Tx.glo_is_whole (T : Tx K mg) : mg "is_whole" = some (.ref (He.ga K "is_whole")) := by obtain ⟨h, X, G⟩ := T.ex; exact He.glo_ok X G (T.says.a.fact i_glo_is_whole (f := .glo "is_whole") rfl)
theorem Tx.glo_check_rule (T : Tx K mg) : mg "check_rule" = some (.ref (He.ga K "check_rule")) := by obtain ⟨h, X, G⟩ := T.ex; exact He.glo_ok X G (T.says.a.fact i_glo_check_rule (f := .glo "check_rule") rfl)
theorem Tx.glo_waiting_cars (T : Tx K mg) : mg "waiting_cars" = some (.ref (He.ga K "waiting_cars")) := by obtain ⟨h, X, G⟩ := T.ex; exact He.glo_ok X G (T.says.a.fact i_glo_waiting_cars (f := .glo "waiting_cars") rfl)
theorem Tx.glo_last_lane (T : Tx K mg) : mg "last_lane" = some (.ref (He.ga K "last_lane")) := by obtain ⟨h, X, G⟩ := T.ex; exact He.glo_ok X G (T.says.a.fact i_glo_last_lane (f := .glo "last_lane") rfl)
theorem Tx.glo_next_car (T : Tx K mg) : mg "next_car" = some (.ref (He.ga K "next_car")) := by obtain ⟨h, X, G⟩ := T.ex; exact He.glo_ok X G (T.says.a.fact i_glo_next_car (f := .glo "next_car") rfl)
theorem Tx.glo_first_scene (T : Tx K mg) : mg "first_scene" = some (.ref (He.ga K "first_scene")) := by obtain ⟨h, X, G⟩ := T.ex; exact He.glo_ok X G (T.says.a.fact i_glo_first_scene (f := .glo "first_scene") rfl)
theorem Tx.glo_L_dice (T : Tx K mg) : mg "_law_dice" = some (.ref (He.ga K "_law_dice")) := by obtain ⟨h, X, G⟩ := T.ex; exact He.glo_ok X G (T.says.a.fact i_glo_L_dice (f := .glo "_law_dice") rfl)
theorem Tx.glo_L_roll (T : Tx K mg) : mg "_law_roll" = some (.ref (He.ga K "_law_roll")) := by obtain ⟨h, X, G⟩ := T.ex; exact He.glo_ok X G (T.says.a.fact i_glo_L_roll (f := .glo "_law_roll") rfl)
theorem Tx.glo_L_mixed (T : Tx K mg) : mg "_law_mixed" = some (.ref (He.ga K "_law_mixed")) := by obtain ⟨h, X, G⟩ := T.ex; exact He.glo_ok X G (T.says.a.fact i_glo_L_mixed (f := .glo "_law_mixed") rfl)
theorem Tx.glo_L_rule (T : Tx K mg) : mg "_law_rule" = some (.ref (He.ga K "_law_rule")) := by obtain ⟨h, X, G⟩ := T.ex; exact He.glo_ok X G (T.says.a.fact i_glo_L_rule (f := .glo "_law_rule") rfl)
theorem Tx.glo_L_whole (T : Tx K mg) : mg "_law_whole" = some (.ref (He.ga K "_law_whole")) := by obtain ⟨h, X, G⟩ := T.ex; exact He.glo_ok X G (T.says.a.fact i_glo_L_whole (f := .glo "_law_whole") rfl)
theorem Tx.glo_L_rule_error (T : Tx K mg) : mg "_law_rule_error" = some (.ref (He.ga K "_law_rule_error")) := by obtain ⟨h, X, G⟩ := T.ex; exact He.glo_ok X G (T.says.a.fact i_glo_L_rule_error (f := .glo "_law_rule_error") rfl)
theorem Tx.glo_L_waiting (T : Tx K mg) : mg "_law_waiting" = some (.ref (He.ga K "_law_waiting")) := by obtain ⟨h, X, G⟩ := T.ex; exact He.glo_ok X G (T.says.a.fact i_glo_L_waiting (f := .glo "_law_waiting") rfl)
theorem Tx.glo_L_next (T : Tx K mg) : mg "_law_next" = some (.ref (He.ga K "_law_next")) := by obtain ⟨h, X, G⟩ := T.ex; exact He.glo_ok X G (T.says.a.fact i_glo_L_next (f := .glo "_law_next") rfl)
theorem Tx.glo_L_moved (T : Tx K mg) : mg "_law_moved" = some (.ref (He.ga K "_law_moved")) := by obtain ⟨h, X, G⟩ := T.ex; exact He.glo_ok X G (T.says.a.fact i_glo_L_moved (f := .glo "_law_moved") rfl)
theorem Tx.glo_L_after (T : Tx K mg) : mg "_law_after" = some (.ref (He.ga K "_law_after")) := by obtain ⟨h, X, G⟩ := T.ex; exact He.glo_ok X G (T.says.a.fact i_glo_L_after (f := .glo "_law_after") rfl)
theorem Tx.glo_L_first (T : Tx K mg) : mg "_law_first" = some (.ref (He.ga K "_law_first")) := by obtain ⟨h, X, G⟩ := T.ex; exact He.glo_ok X G (T.says.a.fact i_glo_L_first (f := .glo "_law_first") rfl)
theorem Tx.glo_L_call (T : Tx K mg) : mg "_law_call" = some (.ref (He.ga K "_law_call")) := by obtain ⟨h, X, G⟩ := T.ex; exact He.glo_ok X G (T.says.a.fact i_glo_L_call (f := .glo "_law_call") rfl)
theorem Tx.glo_L_edit (T : Tx K mg) : mg "_law_edit" = some (.ref (He.ga K "_law_edit")) := by obtain ⟨h, X, G⟩ := T.ex; exact He.glo_ok X G (T.says.a.fact i_glo_L_edit (f := .glo "_law_edit") rfl)
theorem Tx.glo_L_planned (T : Tx K mg) : mg "_law_planned" = some (.ref (He.ga K "_law_planned")) := by obtain ⟨h, X, G⟩ := T.ex; exact He.glo_ok X G (T.says.a.fact i_glo_L_planned (f := .glo "_law_planned") rfl)
theorem Tx.glo_L_renamed (T : Tx K mg) : mg "_law_renamed" = some (.ref (He.ga K "_law_renamed")) := by obtain ⟨h, X, G⟩ := T.ex; exact He.glo_ok X G (T.says.a.fact i_glo_L_renamed (f := .glo "_law_renamed") rfl)
theorem Tx.glo_L_renamed_edits (T : Tx K mg) : mg "_law_renamed_edits" = some (.ref (He.ga K "_law_renamed_edits")) := by obtain ⟨h, X, G⟩ := T.ex; exact He.glo_ok X G (T.says.a.fact i_glo_L_renamed_edits (f := .glo "_law_renamed_edits") rfl)
theorem Tx.glo_L_done (T : Tx K mg) : mg "_law_done" = some (.ref (He.ga K "_law_done")) := by obtain ⟨h, X, G⟩ := T.ex; exact He.glo_ok X G (T.says.a.fact i_glo_L_done (f := .glo "_law_done") rfl)
theorem Tx.glo_L_names_right (T : Tx K mg) : mg "_law_names_right" = some (.ref (He.ga K "_law_names_right")) := by obtain ⟨h, X, G⟩ := T.ex; exact He.glo_ok X G (T.says.a.fact i_glo_L_names_right (f := .glo "_law_names_right") rfl)
theorem Tx.glo_L_idle_right (T : Tx K mg) : mg "_law_idle_right" = some (.ref (He.ga K "_law_idle_right")) := by obtain ⟨h, X, G⟩ := T.ex; exact He.glo_ok X G (T.says.a.fact i_glo_L_idle_right (f := .glo "_law_idle_right") rfl)
theorem Tx.glo_L_lanes_right (T : Tx K mg) : mg "_law_lanes_right" = some (.ref (He.ga K "_law_lanes_right")) := by obtain ⟨h, X, G⟩ := T.ex; exact He.glo_ok X G (T.says.a.fact i_glo_L_lanes_right (f := .glo "_law_lanes_right") rfl)
theorem Tx.glo_L_single_right (T : Tx K mg) : mg "_law_single_right" = some (.ref (He.ga K "_law_single_right")) := by obtain ⟨h, X, G⟩ := T.ex; exact He.glo_ok X G (T.says.a.fact i_glo_L_single_right (f := .glo "_law_single_right") rfl)
theorem Tx.glo_law (T : Tx K mg) : mg "law" = some (.ref (He.ga K "law")) := by obtain ⟨h, X, G⟩ := T.ex; exact He.glo_ok X G (T.says.a.fact i_glo_law (f := .glo "law") rfl)
theorem Tx.glo_Scene (T : Tx K mg) : mg "Scene" = some (.ref (He.ga K "Scene")) := by obtain ⟨h, X, G⟩ := T.ex; exact He.glo_ok X G (T.says.a.fact i_glo_Scene (f := .glo "Scene") rfl)
theorem Tx.glo_Crossing (T : Tx K mg) : mg "Crossing" = some (.ref (He.ga K "Crossing")) := by obtain ⟨h, X, G⟩ := T.ex; exact He.glo_ok X G (T.says.a.fact i_glo_Crossing (f := .glo "Crossing") rfl)
theorem Tx.glo_WatchedCrossing (T : Tx K mg) : mg "WatchedCrossing" = some (.ref (He.ga K "WatchedCrossing")) := by obtain ⟨h, X, G⟩ := T.ex; exact He.glo_ok X G (T.says.a.fact i_glo_WatchedCrossing (f := .glo "WatchedCrossing") rfl)
theorem Tx.free_len (T : Tx K mg) : mg "len" = none := by obtain ⟨h, X, G⟩ := T.ex; exact He.free_ok X G (T.says.a.fact i_free_len (f := .free "len") rfl)
theorem Tx.free_isinstance (T : Tx K mg) : mg "isinstance" = none := by obtain ⟨h, X, G⟩ := T.ex; exact He.free_ok X G (T.says.a.fact i_free_isinstance (f := .free "isinstance") rfl)
theorem Tx.free_range (T : Tx K mg) : mg "range" = none := by obtain ⟨h, X, G⟩ := T.ex; exact He.free_ok X G (T.says.a.fact i_free_range (f := .free "range") rfl)
theorem Tx.free_tuple (T : Tx K mg) : mg "tuple" = none := by obtain ⟨h, X, G⟩ := T.ex; exact He.free_ok X G (T.says.a.fact i_free_tuple (f := .free "tuple") rfl)
theorem Tx.free_list (T : Tx K mg) : mg "list" = none := by obtain ⟨h, X, G⟩ := T.ex; exact He.free_ok X G (T.says.a.fact i_free_list (f := .free "list") rfl)
theorem Tx.free_set (T : Tx K mg) : mg "set" = none := by obtain ⟨h, X, G⟩ := T.ex; exact He.free_ok X G (T.says.a.fact i_free_set (f := .free "set") rfl)
theorem Tx.free_sorted (T : Tx K mg) : mg "sorted" = none := by obtain ⟨h, X, G⟩ := T.ex; exact He.free_ok X G (T.says.a.fact i_free_sorted (f := .free "sorted") rfl)
theorem Tx.free_all (T : Tx K mg) : mg "all" = none := by obtain ⟨h, X, G⟩ := T.ex; exact He.free_ok X G (T.says.a.fact i_free_all (f := .free "all") rfl)
theorem Tx.free_max (T : Tx K mg) : mg "max" = none := by obtain ⟨h, X, G⟩ := T.ex; exact He.free_ok X G (T.says.a.fact i_free_max (f := .free "max") rfl)
theorem Tx.free_abs (T : Tx K mg) : mg "abs" = none := by obtain ⟨h, X, G⟩ := T.ex; exact He.free_ok X G (T.says.a.fact i_free_abs (f := .free "abs") rfl)
theorem Tx.free_enumerate (T : Tx K mg) : mg "enumerate" = none := by obtain ⟨h, X, G⟩ := T.ex; exact He.free_ok X G (T.says.a.fact i_free_enumerate (f := .free "enumerate") rfl)
theorem Tx.free_zip (T : Tx K mg) : mg "zip" = none := by obtain ⟨h, X, G⟩ := T.ex; exact He.free_ok X G (T.says.a.fact i_free_zip (f := .free "zip") rfl)
theorem Tx.free_int (T : Tx K mg) : mg "int" = none := by obtain ⟨h, X, G⟩ := T.ex; exact He.free_ok X G (T.says.a.fact i_free_int (f := .free "int") rfl)
theorem Tx.free_bool (T : Tx K mg) : mg "bool" = none := by obtain ⟨h, X, G⟩ := T.ex; exact He.free_ok X G (T.says.a.fact i_free_bool (f := .free "bool") rfl)
theorem Tx.free_super (T : Tx K mg) : mg "super" = none := by obtain ⟨h, X, G⟩ := T.ex; exact He.free_ok X G (T.says.a.fact i_free_super (f := .free "super") rfl)
theorem Tx.int_MAX_LANES (T : Tx K mg) : ∃ t, mg "MAX_LANES" = some (.int 6 t) := by obtain ⟨h, X, G⟩ := T.ex; exact He.int_ok X G (T.says.a.fact i_int_MAX_LANES (f := .int "MAX_LANES" 6) rfl)
theorem Tx.int_MAX_CARS (T : Tx K mg) : ∃ t, mg "MAX_CARS" = some (.int 40 t) := by obtain ⟨h, X, G⟩ := T.ex; exact He.int_ok X G (T.says.a.fact i_int_MAX_CARS (f := .int "MAX_CARS" 40) rfl)
theorem Tx.str_COME (T : Tx K mg) : ∃ t, mg "COME" = some (.str "come" t) := by obtain ⟨h, X, G⟩ := T.ex; exact He.str_ok X G (T.says.a.fact i_str_COME (f := .str "COME" "come") rfl)
theorem Tx.str_CHANGE (T : Tx K mg) : ∃ t, mg "CHANGE" = some (.str "change" t) := by obtain ⟨h, X, G⟩ := T.ex; exact He.str_ok X G (T.says.a.fact i_str_CHANGE (f := .str "CHANGE" "change") rfl)
theorem Tx.str_GO (T : Tx K mg) : ∃ t, mg "GO" = some (.str "go" t) := by obtain ⟨h, X, G⟩ := T.ex; exact He.str_ok X G (T.says.a.fact i_str_GO (f := .str "GO" "go") rfl)
theorem Tx.cls_Scene (T : Tx K mg) : Cls K (He.ga K "Scene") := He.cls_ok (T.says.a.fact i_cls_Scene (f := .cls "Scene") rfl)
theorem Tx.mkr_Scene (T : Tx K mg) : Mk K (He.ga K "Scene") (He.ma K (He.ga K "Scene") "__init__") := He.mkr_ok (T.says.a.fact i_mkr_Scene (f := .mkr "Scene") rfl)
theorem Tx.cls_Crossing (T : Tx K mg) : Cls K (He.ga K "Crossing") := He.cls_ok (T.says.a.fact i_cls_Crossing (f := .cls "Crossing") rfl)
theorem Tx.mkr_Crossing (T : Tx K mg) : Mk K (He.ga K "Crossing") (He.ma K (He.ga K "Crossing") "__init__") := He.mkr_ok (T.says.a.fact i_mkr_Crossing (f := .mkr "Crossing") rfl)
theorem Tx.cls_WatchedCrossing (T : Tx K mg) : Cls K (He.ga K "WatchedCrossing") := He.cls_ok (T.says.a.fact i_cls_WatchedCrossing (f := .cls "WatchedCrossing") rfl)
theorem Tx.mkr_WatchedCrossing (T : Tx K mg) : Mk K (He.ga K "WatchedCrossing") (He.ma K (He.ga K "WatchedCrossing") "__init__") := He.mkr_ok (T.says.a.fact i_mkr_WatchedCrossing (f := .mkr "WatchedCrossing") rfl)
theorem Tx.noat_Scene_table_now (T : Tx K mg) : NoAttr K (He.ga K "Scene") "table_now" := He.noat_ok (T.says.a.fact i_noat_Scene_table_now (f := .noat "Scene" "table_now") rfl)
theorem Tx.noat_Scene_came (T : Tx K mg) : NoAttr K (He.ga K "Scene") "came" := He.noat_ok (T.says.a.fact i_noat_Scene_came (f := .noat "Scene" "came") rfl)
theorem Tx.noat_Scene_done (T : Tx K mg) : NoAttr K (He.ga K "Scene") "done" := He.noat_ok (T.says.a.fact i_noat_Scene_done (f := .noat "Scene" "done") rfl)
theorem Tx.noat_Scene_letters (T : Tx K mg) : NoAttr K (He.ga K "Scene") "letters" := He.noat_ok (T.says.a.fact i_noat_Scene_letters (f := .noat "Scene" "letters") rfl)
theorem Tx.noat_Scene_streaks (T : Tx K mg) : NoAttr K (He.ga K "Scene") "streaks" := He.noat_ok (T.says.a.fact i_noat_Scene_streaks (f := .noat "Scene" "streaks") rfl)
theorem Tx.noat_Scene_tops (T : Tx K mg) : NoAttr K (He.ga K "Scene") "tops" := He.noat_ok (T.says.a.fact i_noat_Scene_tops (f := .noat "Scene" "tops") rfl)
theorem Tx.noat_Scene_ahead (T : Tx K mg) : NoAttr K (He.ga K "Scene") "ahead" := He.noat_ok (T.says.a.fact i_noat_Scene_ahead (f := .noat "Scene" "ahead") rfl)
theorem Tx.noat_Crossing_scenes (T : Tx K mg) : NoAttr K (He.ga K "Crossing") "scenes" := He.noat_ok (T.says.a.fact i_noat_Crossing_scenes (f := .noat "Crossing" "scenes") rfl)
theorem Tx.noat_WatchedCrossing_scenes (T : Tx K mg) : NoAttr K (He.ga K "WatchedCrossing") "scenes" := He.noat_ok (T.says.a.fact i_noat_WatchedCrossing_scenes (f := .noat "WatchedCrossing" "scenes") rfl)
theorem Tx.noat_Crossing_kept (T : Tx K mg) : NoAttr K (He.ga K "Crossing") "kept" := He.noat_ok (T.says.a.fact i_noat_Crossing_kept (f := .noat "Crossing" "kept") rfl)
theorem Tx.noat_WatchedCrossing_kept (T : Tx K mg) : NoAttr K (He.ga K "WatchedCrossing") "kept" := He.noat_ok (T.says.a.fact i_noat_WatchedCrossing_kept (f := .noat "WatchedCrossing" "kept") rfl)
theorem Tx.noat_Crossing_is_busy (T : Tx K mg) : NoAttr K (He.ga K "Crossing") "is_busy" := He.noat_ok (T.says.a.fact i_noat_Crossing_is_busy (f := .noat "Crossing" "is_busy") rfl)
theorem Tx.noat_WatchedCrossing_is_busy (T : Tx K mg) : NoAttr K (He.ga K "WatchedCrossing") "is_busy" := He.noat_ok (T.says.a.fact i_noat_WatchedCrossing_is_busy (f := .noat "WatchedCrossing" "is_busy") rfl)
theorem Tx.noat_WatchedCrossing_height (T : Tx K mg) : NoAttr K (He.ga K "WatchedCrossing") "height" := He.noat_ok (T.says.a.fact i_noat_WatchedCrossing_height (f := .noat "WatchedCrossing" "height") rfl)
theorem Tx.meth_Scene_with_one (T : Tx K mg) : Meth K (He.ga K "Scene") "with_one" (He.ma K (He.ga K "Scene") "with_one") := He.meth_ok (T.says.a.fact i_meth_Scene_with_one (f := .meth "Scene" "with_one") rfl)
theorem Tx.meth_Scene_with_passing (T : Tx K mg) : Meth K (He.ga K "Scene") "with_passing" (He.ma K (He.ga K "Scene") "with_passing") := He.meth_ok (T.says.a.fact i_meth_Scene_with_passing (f := .meth "Scene" "with_passing") rfl)
theorem Tx.meth_Scene_with_rule (T : Tx K mg) : Meth K (He.ga K "Scene") "with_rule" (He.ma K (He.ga K "Scene") "with_rule") := He.meth_ok (T.says.a.fact i_meth_Scene_with_rule (f := .meth "Scene" "with_rule") rfl)
theorem Tx.meth_Crossing_init (T : Tx K mg) : Meth K (He.ga K "Crossing") "__init__" (He.ma K (He.ga K "Crossing") "__init__") := He.meth_ok (T.says.a.fact i_meth_Crossing_init (f := .meth "Crossing" "__init__") rfl)
theorem Tx.meth_WatchedCrossing_init (T : Tx K mg) : Meth K (He.ga K "WatchedCrossing") "__init__" (He.ma K (He.ga K "WatchedCrossing") "__init__") := He.meth_ok (T.says.a.fact i_meth_WatchedCrossing_init (f := .meth "WatchedCrossing" "__init__") rfl)
theorem Tx.meth_Crossing_require_idle (T : Tx K mg) : Meth K (He.ga K "Crossing") "require_idle" (He.ma K (He.ga K "Crossing") "require_idle") := He.meth_ok (T.says.a.fact i_meth_Crossing_require_idle (f := .meth "Crossing" "require_idle") rfl)
theorem Tx.meth_WatchedCrossing_require_idle (T : Tx K mg) : Meth K (He.ga K "WatchedCrossing") "require_idle" (He.ma K (He.ga K "WatchedCrossing") "require_idle") := He.meth_ok (T.says.a.fact i_meth_WatchedCrossing_require_idle (f := .meth "WatchedCrossing" "require_idle") rfl)
theorem Tx.meth_Crossing_require_lane (T : Tx K mg) : Meth K (He.ga K "Crossing") "require_lane" (He.ma K (He.ga K "Crossing") "require_lane") := He.meth_ok (T.says.a.fact i_meth_Crossing_require_lane (f := .meth "Crossing" "require_lane") rfl)
theorem Tx.meth_WatchedCrossing_require_lane (T : Tx K mg) : Meth K (He.ga K "WatchedCrossing") "require_lane" (He.ma K (He.ga K "WatchedCrossing") "require_lane") := He.meth_ok (T.says.a.fact i_meth_WatchedCrossing_require_lane (f := .meth "WatchedCrossing" "require_lane") rfl)
theorem Tx.meth_Crossing_accept (T : Tx K mg) : Meth K (He.ga K "Crossing") "accept" (He.ma K (He.ga K "Crossing") "accept") := He.meth_ok (T.says.a.fact i_meth_Crossing_accept (f := .meth "Crossing" "accept") rfl)
theorem Tx.meth_WatchedCrossing_accept (T : Tx K mg) : Meth K (He.ga K "WatchedCrossing") "accept" (He.ma K (He.ga K "WatchedCrossing") "accept") := He.meth_ok (T.says.a.fact i_meth_WatchedCrossing_accept (f := .meth "WatchedCrossing" "accept") rfl)
theorem Tx.meth_Crossing_scene_with_rule (T : Tx K mg) : Meth K (He.ga K "Crossing") "scene_with_rule" (He.ma K (He.ga K "Crossing") "scene_with_rule") := He.meth_ok (T.says.a.fact i_meth_Crossing_scene_with_rule (f := .meth "Crossing" "scene_with_rule") rfl)
theorem Tx.meth_WatchedCrossing_scene_with_rule (T : Tx K mg) : Meth K (He.ga K "WatchedCrossing") "scene_with_rule" (He.ma K (He.ga K "WatchedCrossing") "scene_with_rule") := He.meth_ok (T.says.a.fact i_meth_WatchedCrossing_scene_with_rule (f := .meth "WatchedCrossing" "scene_with_rule") rfl)
theorem Tx.meth_Crossing_scene_after (T : Tx K mg) : Meth K (He.ga K "Crossing") "scene_after" (He.ma K (He.ga K "Crossing") "scene_after") := He.meth_ok (T.says.a.fact i_meth_Crossing_scene_after (f := .meth "Crossing" "scene_after") rfl)
theorem Tx.meth_WatchedCrossing_scene_after (T : Tx K mg) : Meth K (He.ga K "WatchedCrossing") "scene_after" (He.ma K (He.ga K "WatchedCrossing") "scene_after") := He.meth_ok (T.says.a.fact i_meth_WatchedCrossing_scene_after (f := .meth "WatchedCrossing" "scene_after") rfl)
theorem Tx.meth_Crossing_perform (T : Tx K mg) : Meth K (He.ga K "Crossing") "perform" (He.ma K (He.ga K "Crossing") "perform") := He.meth_ok (T.says.a.fact i_meth_Crossing_perform (f := .meth "Crossing" "perform") rfl)
theorem Tx.meth_WatchedCrossing_perform (T : Tx K mg) : Meth K (He.ga K "WatchedCrossing") "perform" (He.ma K (He.ga K "WatchedCrossing") "perform") := He.meth_ok (T.says.a.fact i_meth_WatchedCrossing_perform (f := .meth "WatchedCrossing" "perform") rfl)
theorem Tx.meth_Crossing_come (T : Tx K mg) : Meth K (He.ga K "Crossing") "come" (He.ma K (He.ga K "Crossing") "come") := He.meth_ok (T.says.a.fact i_meth_Crossing_come (f := .meth "Crossing" "come") rfl)
theorem Tx.meth_WatchedCrossing_come (T : Tx K mg) : Meth K (He.ga K "WatchedCrossing") "come" (He.ma K (He.ga K "WatchedCrossing") "come") := He.meth_ok (T.says.a.fact i_meth_WatchedCrossing_come (f := .meth "WatchedCrossing" "come") rfl)
theorem Tx.meth_Crossing_go (T : Tx K mg) : Meth K (He.ga K "Crossing") "go" (He.ma K (He.ga K "Crossing") "go") := He.meth_ok (T.says.a.fact i_meth_Crossing_go (f := .meth "Crossing" "go") rfl)
theorem Tx.meth_WatchedCrossing_go (T : Tx K mg) : Meth K (He.ga K "WatchedCrossing") "go" (He.ma K (He.ga K "WatchedCrossing") "go") := He.meth_ok (T.says.a.fact i_meth_WatchedCrossing_go (f := .meth "WatchedCrossing" "go") rfl)
theorem Tx.meth_Crossing_change (T : Tx K mg) : Meth K (He.ga K "Crossing") "change" (He.ma K (He.ga K "Crossing") "change") := He.meth_ok (T.says.a.fact i_meth_Crossing_change (f := .meth "Crossing" "change") rfl)
theorem Tx.meth_WatchedCrossing_change (T : Tx K mg) : Meth K (He.ga K "WatchedCrossing") "change" (He.ma K (He.ga K "WatchedCrossing") "change") := He.meth_ok (T.says.a.fact i_meth_WatchedCrossing_change (f := .meth "WatchedCrossing" "change") rfl)
theorem Tx.meth_Crossing_scene_at (T : Tx K mg) : Meth K (He.ga K "Crossing") "scene_at" (He.ma K (He.ga K "Crossing") "scene_at") := He.meth_ok (T.says.a.fact i_meth_Crossing_scene_at (f := .meth "Crossing" "scene_at") rfl)
theorem Tx.meth_WatchedCrossing_scene_at (T : Tx K mg) : Meth K (He.ga K "WatchedCrossing") "scene_at" (He.ma K (He.ga K "WatchedCrossing") "scene_at") := He.meth_ok (T.says.a.fact i_meth_WatchedCrossing_scene_at (f := .meth "WatchedCrossing" "scene_at") rfl)
theorem Tx.meth_Crossing_current (T : Tx K mg) : Meth K (He.ga K "Crossing") "current" (He.ma K (He.ga K "Crossing") "current") := He.meth_ok (T.says.a.fact i_meth_Crossing_current (f := .meth "Crossing" "current") rfl)
theorem Tx.meth_WatchedCrossing_current (T : Tx K mg) : Meth K (He.ga K "WatchedCrossing") "current" (He.ma K (He.ga K "WatchedCrossing") "current") := He.meth_ok (T.says.a.fact i_meth_WatchedCrossing_current (f := .meth "WatchedCrossing" "current") rfl)
theorem Tx.meth_Crossing_row (T : Tx K mg) : Meth K (He.ga K "Crossing") "row" (He.ma K (He.ga K "Crossing") "row") := He.meth_ok (T.says.a.fact i_meth_Crossing_row (f := .meth "Crossing" "row") rfl)
theorem Tx.meth_WatchedCrossing_row (T : Tx K mg) : Meth K (He.ga K "WatchedCrossing") "row" (He.ma K (He.ga K "WatchedCrossing") "row") := He.meth_ok (T.says.a.fact i_meth_WatchedCrossing_row (f := .meth "WatchedCrossing" "row") rfl)
theorem Tx.meth_Crossing_waiting (T : Tx K mg) : Meth K (He.ga K "Crossing") "waiting" (He.ma K (He.ga K "Crossing") "waiting") := He.meth_ok (T.says.a.fact i_meth_Crossing_waiting (f := .meth "Crossing" "waiting") rfl)
theorem Tx.meth_WatchedCrossing_waiting (T : Tx K mg) : Meth K (He.ga K "WatchedCrossing") "waiting" (He.ma K (He.ga K "WatchedCrossing") "waiting") := He.meth_ok (T.says.a.fact i_meth_WatchedCrossing_waiting (f := .meth "WatchedCrossing" "waiting") rfl)
theorem Tx.meth_Crossing_passed (T : Tx K mg) : Meth K (He.ga K "Crossing") "passed" (He.ma K (He.ga K "Crossing") "passed") := He.meth_ok (T.says.a.fact i_meth_Crossing_passed (f := .meth "Crossing" "passed") rfl)
theorem Tx.meth_WatchedCrossing_passed (T : Tx K mg) : Meth K (He.ga K "WatchedCrossing") "passed" (He.ma K (He.ga K "WatchedCrossing") "passed") := He.meth_ok (T.says.a.fact i_meth_WatchedCrossing_passed (f := .meth "WatchedCrossing" "passed") rfl)
theorem Tx.meth_Crossing_word (T : Tx K mg) : Meth K (He.ga K "Crossing") "word" (He.ma K (He.ga K "Crossing") "word") := He.meth_ok (T.says.a.fact i_meth_Crossing_word (f := .meth "Crossing" "word") rfl)
theorem Tx.meth_WatchedCrossing_word (T : Tx K mg) : Meth K (He.ga K "WatchedCrossing") "word" (He.ma K (He.ga K "WatchedCrossing") "word") := He.meth_ok (T.says.a.fact i_meth_WatchedCrossing_word (f := .meth "WatchedCrossing" "word") rfl)
theorem Tx.meth_Crossing_len (T : Tx K mg) : Meth K (He.ga K "Crossing") "__len__" (He.ma K (He.ga K "Crossing") "__len__") := He.meth_ok (T.says.a.fact i_meth_Crossing_len (f := .meth "Crossing" "__len__") rfl)
theorem Tx.meth_WatchedCrossing_len (T : Tx K mg) : Meth K (He.ga K "WatchedCrossing") "__len__" (He.ma K (He.ga K "WatchedCrossing") "__len__") := He.meth_ok (T.says.a.fact i_meth_WatchedCrossing_len (f := .meth "WatchedCrossing" "__len__") rfl)
theorem Tx.f_is_integer (T : Tx K mg) : ∃ fd, FunD K "is_integer" "is_integer" (defArgs s_is_integer) (defBody s_is_integer) (defScope s_is_integer) [] [] (He.ga K "is_integer") fd := T.says.a.def_ i_d_is_integer (d := d_is_integer) rfl
theorem Tx.f_is_preference (T : Tx K mg) : ∃ fd, FunD K "is_preference" "is_preference" (defArgs s_is_preference) (defBody s_is_preference) (defScope s_is_preference) [] [] (He.ga K "is_preference") fd := T.says.a.def_ i_d_is_preference (d := d_is_preference) rfl
theorem Tx.f_rule_error (T : Tx K mg) : ∃ fd, FunD K "rule_error" "rule_error" (defArgs s_rule_error) (defBody s_rule_error) (defScope s_rule_error) [] [] (He.ga K "rule_error") fd := T.says.a.def_ i_d_rule_error (d := d_rule_error) rfl
theorem Tx.f_is_lane (T : Tx K mg) : ∃ fd, FunD K "is_lane" "is_lane" (defArgs s_is_lane) (defBody s_is_lane) (defScope s_is_lane) [] [] (He.ga K "is_lane") fd := T.says.a.def_ i_d_is_lane (d := d_is_lane) rfl
theorem Tx.f_preference_after (T : Tx K mg) : ∃ fd, FunD K "preference_after" "preference_after" (defArgs s_preference_after) (defBody s_preference_after) (defScope s_preference_after) [] [] (He.ga K "preference_after") fd := T.says.a.def_ i_d_preference_after (d := d_preference_after) rfl
theorem Tx.f_first_lane (T : Tx K mg) : ∃ fd, FunD K "first_lane" "first_lane" (defArgs s_first_lane) (defBody s_first_lane) (defScope s_first_lane) [] [] (He.ga K "first_lane") fd := T.says.a.def_ i_d_first_lane (d := d_first_lane) rfl
theorem Tx.f_is_whole (T : Tx K mg) : ∃ fd, FunD K "is_whole" "is_whole" (defArgs s_is_whole) (defBody s_is_whole) (defScope s_is_whole) [] [] (He.ga K "is_whole") fd := T.says.a.def_ i_d_is_whole (d := d_is_whole) rfl
theorem Tx.f_check_rule (T : Tx K mg) : ∃ fd, FunD K "check_rule" "check_rule" (defArgs s_check_rule) (defBody s_check_rule) (defScope s_check_rule) [] [] (He.ga K "check_rule") fd := T.says.a.def_ i_d_check_rule (d := d_check_rule) rfl
theorem Tx.f_waiting_cars (T : Tx K mg) : ∃ fd, FunD K "waiting_cars" "waiting_cars" (defArgs s_waiting_cars) (defBody s_waiting_cars) (defScope s_waiting_cars) [] [] (He.ga K "waiting_cars") fd := T.says.a.def_ i_d_waiting_cars (d := d_waiting_cars) rfl
theorem Tx.f_last_lane (T : Tx K mg) : ∃ fd, FunD K "last_lane" "last_lane" (defArgs s_last_lane) (defBody s_last_lane) (defScope s_last_lane) [] [] (He.ga K "last_lane") fd := T.says.a.def_ i_d_last_lane (d := d_last_lane) rfl
theorem Tx.f_next_car (T : Tx K mg) : ∃ fd, FunD K "next_car" "next_car" (defArgs s_next_car) (defBody s_next_car) (defScope s_next_car) [] [] (He.ga K "next_car") fd := T.says.a.def_ i_d_next_car (d := d_next_car) rfl
theorem Tx.f_first_scene (T : Tx K mg) : ∃ fd, FunD K "first_scene" "first_scene" (defArgs s_first_scene) (defBody s_first_scene) (defScope s_first_scene) [] [] (He.ga K "first_scene") fd := T.says.a.def_ i_d_first_scene (d := d_first_scene) rfl
theorem Tx.f_L_dice (T : Tx K mg) : ∃ fd, FunD K "_law_dice" "_law_dice" (defArgs s_L_dice) (defBody s_L_dice) (defScope s_L_dice) [] [] (He.ga K "_law_dice") fd := T.says.a.def_ i_d_L_dice (d := d_L_dice) rfl
theorem Tx.f_L_roll (T : Tx K mg) : ∃ fd, FunD K "_law_roll" "_law_roll" (defArgs s_L_roll) (defBody s_L_roll) (defScope s_L_roll) [] [] (He.ga K "_law_roll") fd := T.says.a.def_ i_d_L_roll (d := d_L_roll) rfl
theorem Tx.f_L_mixed (T : Tx K mg) : ∃ fd, FunD K "_law_mixed" "_law_mixed" (defArgs s_L_mixed) (defBody s_L_mixed) (defScope s_L_mixed) [] [] (He.ga K "_law_mixed") fd := T.says.a.def_ i_d_L_mixed (d := d_L_mixed) rfl
theorem Tx.f_L_rule (T : Tx K mg) : ∃ fd, FunD K "_law_rule" "_law_rule" (defArgs s_L_rule) (defBody s_L_rule) (defScope s_L_rule) [] [] (He.ga K "_law_rule") fd := T.says.a.def_ i_d_L_rule (d := d_L_rule) rfl
theorem Tx.f_L_whole (T : Tx K mg) : ∃ fd, FunD K "_law_whole" "_law_whole" (defArgs s_L_whole) (defBody s_L_whole) (defScope s_L_whole) [] [] (He.ga K "_law_whole") fd := T.says.a.def_ i_d_L_whole (d := d_L_whole) rfl
theorem Tx.f_L_rule_error (T : Tx K mg) : ∃ fd, FunD K "_law_rule_error" "_law_rule_error" (defArgs s_L_rule_error) (defBody s_L_rule_error) (defScope s_L_rule_error) [] [] (He.ga K "_law_rule_error") fd := T.says.a.def_ i_d_L_rule_error (d := d_L_rule_error) rfl
theorem Tx.f_L_waiting (T : Tx K mg) : ∃ fd, FunD K "_law_waiting" "_law_waiting" (defArgs s_L_waiting) (defBody s_L_waiting) (defScope s_L_waiting) [] [] (He.ga K "_law_waiting") fd := T.says.a.def_ i_d_L_waiting (d := d_L_waiting) rfl
theorem Tx.f_L_next (T : Tx K mg) : ∃ fd, FunD K "_law_next" "_law_next" (defArgs s_L_next) (defBody s_L_next) (defScope s_L_next) [] [] (He.ga K "_law_next") fd := T.says.a.def_ i_d_L_next (d := d_L_next) rfl
theorem Tx.f_L_moved (T : Tx K mg) : ∃ fd, FunD K "_law_moved" "_law_moved" (defArgs s_L_moved) (defBody s_L_moved) (defScope s_L_moved) [] [] (He.ga K "_law_moved") fd := T.says.a.def_ i_d_L_moved (d := d_L_moved) rfl
theorem Tx.f_L_after (T : Tx K mg) : ∃ fd, FunD K "_law_after" "_law_after" (defArgs s_L_after) (defBody s_L_after) (defScope s_L_after) [] [] (He.ga K "_law_after") fd := T.says.a.def_ i_d_L_after (d := d_L_after) rfl
theorem Tx.f_L_first (T : Tx K mg) : ∃ fd, FunD K "_law_first" "_law_first" (defArgs s_L_first) (defBody s_L_first) (defScope s_L_first) [] [] (He.ga K "_law_first") fd := T.says.a.def_ i_d_L_first (d := d_L_first) rfl
theorem Tx.f_L_call (T : Tx K mg) : ∃ fd, FunD K "_law_call" "_law_call" (defArgs s_L_call) (defBody s_L_call) (defScope s_L_call) [] [] (He.ga K "_law_call") fd := T.says.a.def_ i_d_L_call (d := d_L_call) rfl
theorem Tx.f_L_edit (T : Tx K mg) : ∃ fd, FunD K "_law_edit" "_law_edit" (defArgs s_L_edit) (defBody s_L_edit) (defScope s_L_edit) [] [] (He.ga K "_law_edit") fd := T.says.a.def_ i_d_L_edit (d := d_L_edit) rfl
theorem Tx.f_L_planned (T : Tx K mg) : ∃ fd, FunD K "_law_planned" "_law_planned" (defArgs s_L_planned) (defBody s_L_planned) (defScope s_L_planned) [] [] (He.ga K "_law_planned") fd := T.says.a.def_ i_d_L_planned (d := d_L_planned) rfl
theorem Tx.f_L_renamed (T : Tx K mg) : ∃ fd, FunD K "_law_renamed" "_law_renamed" (defArgs s_L_renamed) (defBody s_L_renamed) (defScope s_L_renamed) [] [] (He.ga K "_law_renamed") fd := T.says.a.def_ i_d_L_renamed (d := d_L_renamed) rfl
theorem Tx.f_L_renamed_edits (T : Tx K mg) : ∃ fd, FunD K "_law_renamed_edits" "_law_renamed_edits" (defArgs s_L_renamed_edits) (defBody s_L_renamed_edits) (defScope s_L_renamed_edits) [] [] (He.ga K "_law_renamed_edits") fd := T.says.a.def_ i_d_L_renamed_edits (d := d_L_renamed_edits) rfl
theorem Tx.f_L_done (T : Tx K mg) : ∃ fd, FunD K "_law_done" "_law_done" (defArgs s_L_done) (defBody s_L_done) (defScope s_L_done) [] [] (He.ga K "_law_done") fd := T.says.a.def_ i_d_L_done (d := d_L_done) rfl
theorem Tx.f_L_names_right (T : Tx K mg) : ∃ fd, FunD K "_law_names_right" "_law_names_right" (defArgs s_L_names_right) (defBody s_L_names_right) (defScope s_L_names_right) [] [] (He.ga K "_law_names_right") fd := T.says.a.def_ i_d_L_names_right (d := d_L_names_right) rfl
theorem Tx.f_L_idle_right (T : Tx K mg) : ∃ fd, FunD K "_law_idle_right" "_law_idle_right" (defArgs s_L_idle_right) (defBody s_L_idle_right) (defScope s_L_idle_right) [] [] (He.ga K "_law_idle_right") fd := T.says.a.def_ i_d_L_idle_right (d := d_L_idle_right) rfl
theorem Tx.f_L_lanes_right (T : Tx K mg) : ∃ fd, FunD K "_law_lanes_right" "_law_lanes_right" (defArgs s_L_lanes_right) (defBody s_L_lanes_right) (defScope s_L_lanes_right) [] [] (He.ga K "_law_lanes_right") fd := T.says.a.def_ i_d_L_lanes_right (d := d_L_lanes_right) rfl
theorem Tx.f_L_single_right (T : Tx K mg) : ∃ fd, FunD K "_law_single_right" "_law_single_right" (defArgs s_L_single_right) (defBody s_L_single_right) (defScope s_L_single_right) [] [] (He.ga K "_law_single_right") fd := T.says.a.def_ i_d_L_single_right (d := d_L_single_right) rfl
theorem Tx.f_law (T : Tx K mg) : ∃ fd, FunD K "law" "law" (defArgs s_law) (defBody s_law) (defScope s_law) [] [] (He.ga K "law") fd := T.says.a.def_ i_d_law (d := d_law) rfl
theorem Tx.f_Scene_init (T : Tx K mg) : ∃ fd, FunD K "__init__" "Scene.__init__" (defArgs s_Scene_init) (defBody s_Scene_init) (defScope s_Scene_init) [] [] (He.ma K (He.ga K "Scene") "__init__") fd := T.says.a.def_ i_d_Scene_init (d := d_Scene_init) rfl
theorem Tx.f_Scene_with_one (T : Tx K mg) : ∃ fd, FunD K "with_one" "Scene.with_one" (defArgs s_Scene_with_one) (defBody s_Scene_with_one) (defScope s_Scene_with_one) [] [] (He.ma K (He.ga K "Scene") "with_one") fd := T.says.a.def_ i_d_Scene_with_one (d := d_Scene_with_one) rfl
theorem Tx.f_Scene_with_passing (T : Tx K mg) : ∃ fd, FunD K "with_passing" "Scene.with_passing" (defArgs s_Scene_with_passing) (defBody s_Scene_with_passing) (defScope s_Scene_with_passing) [] [] (He.ma K (He.ga K "Scene") "with_passing") fd := T.says.a.def_ i_d_Scene_with_passing (d := d_Scene_with_passing) rfl
theorem Tx.f_Scene_with_rule (T : Tx K mg) : ∃ fd, FunD K "with_rule" "Scene.with_rule" (defArgs s_Scene_with_rule) (defBody s_Scene_with_rule) (defScope s_Scene_with_rule) [] [] (He.ma K (He.ga K "Scene") "with_rule") fd := T.says.a.def_ i_d_Scene_with_rule (d := d_Scene_with_rule) rfl
theorem Tx.f_Crossing_init (T : Tx K mg) : ∃ fd, FunD K "__init__" "Crossing.__init__" (defArgs s_Crossing_init) (defBody s_Crossing_init) (defScope s_Crossing_init) [] [] (He.ma K (He.ga K "Crossing") "__init__") fd := T.says.a.def_ i_d_Crossing_init (d := d_Crossing_init) rfl
theorem Tx.f_Crossing_require_idle (T : Tx K mg) : ∃ fd, FunD K "require_idle" "Crossing.require_idle" (defArgs s_Crossing_require_idle) (defBody s_Crossing_require_idle) (defScope s_Crossing_require_idle) [] [] (He.ma K (He.ga K "Crossing") "require_idle") fd := T.says.a.def_ i_d_Crossing_require_idle (d := d_Crossing_require_idle) rfl
theorem Tx.f_Crossing_require_lane (T : Tx K mg) : ∃ fd, FunD K "require_lane" "Crossing.require_lane" (defArgs s_Crossing_require_lane) (defBody s_Crossing_require_lane) (defScope s_Crossing_require_lane) [] [] (He.ma K (He.ga K "Crossing") "require_lane") fd := T.says.a.def_ i_d_Crossing_require_lane (d := d_Crossing_require_lane) rfl
theorem Tx.f_Crossing_accept (T : Tx K mg) : ∃ fd, FunD K "accept" "Crossing.accept" (defArgs s_Crossing_accept) (defBody s_Crossing_accept) (defScope s_Crossing_accept) [] [] (He.ma K (He.ga K "Crossing") "accept") fd := T.says.a.def_ i_d_Crossing_accept (d := d_Crossing_accept) rfl
theorem Tx.f_Crossing_scene_with_rule (T : Tx K mg) : ∃ fd, FunD K "scene_with_rule" "Crossing.scene_with_rule" (defArgs s_Crossing_scene_with_rule) (defBody s_Crossing_scene_with_rule) (defScope s_Crossing_scene_with_rule) [] [] (He.ma K (He.ga K "Crossing") "scene_with_rule") fd := T.says.a.def_ i_d_Crossing_scene_with_rule (d := d_Crossing_scene_with_rule) rfl
theorem Tx.f_Crossing_scene_after (T : Tx K mg) : ∃ fd, FunD K "scene_after" "Crossing.scene_after" (defArgs s_Crossing_scene_after) (defBody s_Crossing_scene_after) (defScope s_Crossing_scene_after) [] [] (He.ma K (He.ga K "Crossing") "scene_after") fd := T.says.a.def_ i_d_Crossing_scene_after (d := d_Crossing_scene_after) rfl
theorem Tx.f_Crossing_perform (T : Tx K mg) : ∃ fd, FunD K "perform" "Crossing.perform" (defArgs s_Crossing_perform) (defBody s_Crossing_perform) (defScope s_Crossing_perform) [] [] (He.ma K (He.ga K "Crossing") "perform") fd := T.says.a.def_ i_d_Crossing_perform (d := d_Crossing_perform) rfl
theorem Tx.f_Crossing_come (T : Tx K mg) : ∃ fd, FunD K "come" "Crossing.come" (defArgs s_Crossing_come) (defBody s_Crossing_come) (defScope s_Crossing_come) [] [] (He.ma K (He.ga K "Crossing") "come") fd := T.says.a.def_ i_d_Crossing_come (d := d_Crossing_come) rfl
theorem Tx.f_Crossing_go (T : Tx K mg) : ∃ fd, FunD K "go" "Crossing.go" (defArgs s_Crossing_go) (defBody s_Crossing_go) (defScope s_Crossing_go) [] [] (He.ma K (He.ga K "Crossing") "go") fd := T.says.a.def_ i_d_Crossing_go (d := d_Crossing_go) rfl
theorem Tx.f_Crossing_change (T : Tx K mg) : ∃ fd, FunD K "change" "Crossing.change" (defArgs s_Crossing_change) (defBody s_Crossing_change) (defScope s_Crossing_change) [] [] (He.ma K (He.ga K "Crossing") "change") fd := T.says.a.def_ i_d_Crossing_change (d := d_Crossing_change) rfl
theorem Tx.f_Crossing_scene_at (T : Tx K mg) : ∃ fd, FunD K "scene_at" "Crossing.scene_at" (defArgs s_Crossing_scene_at) (defBody s_Crossing_scene_at) (defScope s_Crossing_scene_at) [] [] (He.ma K (He.ga K "Crossing") "scene_at") fd := T.says.a.def_ i_d_Crossing_scene_at (d := d_Crossing_scene_at) rfl
theorem Tx.f_Crossing_current (T : Tx K mg) : ∃ fd, FunD K "current" "Crossing.current" (defArgs s_Crossing_current) (defBody s_Crossing_current) (defScope s_Crossing_current) [] [("version", V.non)] (He.ma K (He.ga K "Crossing") "current") fd := T.says.a.def_ i_d_Crossing_current (d := d_Crossing_current) rfl
theorem Tx.f_Crossing_row (T : Tx K mg) : ∃ fd, FunD K "row" "Crossing.row" (defArgs s_Crossing_row) (defBody s_Crossing_row) (defScope s_Crossing_row) [] [("version", V.non)] (He.ma K (He.ga K "Crossing") "row") fd := T.says.a.def_ i_d_Crossing_row (d := d_Crossing_row) rfl
theorem Tx.f_Crossing_waiting (T : Tx K mg) : ∃ fd, FunD K "waiting" "Crossing.waiting" (defArgs s_Crossing_waiting) (defBody s_Crossing_waiting) (defScope s_Crossing_waiting) [] [("version", V.non)] (He.ma K (He.ga K "Crossing") "waiting") fd := T.says.a.def_ i_d_Crossing_waiting (d := d_Crossing_waiting) rfl
theorem Tx.f_Crossing_passed (T : Tx K mg) : ∃ fd, FunD K "passed" "Crossing.passed" (defArgs s_Crossing_passed) (defBody s_Crossing_passed) (defScope s_Crossing_passed) [] [("version", V.non)] (He.ma K (He.ga K "Crossing") "passed") fd := T.says.a.def_ i_d_Crossing_passed (d := d_Crossing_passed) rfl
theorem Tx.f_Crossing_word (T : Tx K mg) : ∃ fd, FunD K "word" "Crossing.word" (defArgs s_Crossing_word) (defBody s_Crossing_word) (defScope s_Crossing_word) [] [] (He.ma K (He.ga K "Crossing") "word") fd := T.says.a.def_ i_d_Crossing_word (d := d_Crossing_word) rfl
theorem Tx.f_Crossing_len (T : Tx K mg) : ∃ fd, FunD K "__len__" "Crossing.__len__" (defArgs s_Crossing_len) (defBody s_Crossing_len) (defScope s_Crossing_len) [] [] (He.ma K (He.ga K "Crossing") "__len__") fd := T.says.a.def_ i_d_Crossing_len (d := d_Crossing_len) rfl
theorem Tx.f_Crossing_cars (T : Tx K mg) : ∃ fd, FunD K "cars" "Crossing.cars" (defArgs s_Crossing_cars) (defBody s_Crossing_cars) (defScope s_Crossing_cars) [] [] (He5.wf K (He.ga K "Crossing") "property" "cars") fd := T.says.a.def_ i_d_Crossing_cars (d := d_Crossing_cars) rfl
theorem Tx.f_Crossing_length (T : Tx K mg) : ∃ fd, FunD K "length" "Crossing.length" (defArgs s_Crossing_length) (defBody s_Crossing_length) (defScope s_Crossing_length) [] [] (He5.wf K (He.ga K "Crossing") "property" "length") fd := T.says.a.def_ i_d_Crossing_length (d := d_Crossing_length) rfl
theorem Tx.f_Crossing_turned (T : Tx K mg) : ∃ fd, FunD K "turned" "Crossing.turned" (defArgs s_Crossing_turned) (defBody s_Crossing_turned) (defScope s_Crossing_turned) [] [] (He5.wf K (He.ga K "Crossing") "staticmethod" "turned") fd := T.says.a.def_ i_d_Crossing_turned (d := d_Crossing_turned) rfl
theorem Tx.f_WatchedCrossing_overs (T : Tx K mg) : ∃ fd, FunD K "overs" "WatchedCrossing.overs" (defArgs s_WatchedCrossing_overs) (defBody s_WatchedCrossing_overs) (defScope s_WatchedCrossing_overs) [] [] (He5.wf K (He.ga K "WatchedCrossing") "property" "overs") fd := T.says.a.def_ i_d_WatchedCrossing_overs (d := d_WatchedCrossing_overs) rfl
end
end K70
set_option Elab.async false
set_option linter.all false
set_option maxRecDepth 100000
set_option maxHeartbeats 4000000
/-! readings as evaluation to data: slots of data in, data out, the heap only grows -/
namespace K70
open PySem PySem.Spec PyProof.Rows L2
abbrev Rho := List (Option K70.D)
structure Sd (H : Hp) (σ : L2.St) (ρ : Rho) : Prop where
  len : σ.length = ρ.length
  at_ : ∀ (i : Nat) (d : K70.D), ρ[i]? = some (some d) → ∃ v, σ[i]? = some (some v) ∧ At H v d
section
variable {H H' : Hp} {σ : L2.St} {ρ ρ' ρ1 : Rho} {v : V} {d d1 d2 d3 : K70.D} {ds es : List K70.D} {S : List Addr} {i : Nat}
theorem Sd.go (g : Go [] H H') (s : Sd H σ ρ) : Sd H' σ ρ := ⟨s.len, fun i d h => let ⟨v, e, a⟩ := s.at_ i d h; ⟨v, e, a.go g⟩⟩
theorem Sd.goS (g : Go S H H') (s : Sd H σ ρ) (k : ∀ (i : Nat) (d : K70.D), ρ[i]? = some (some d) → Av S d) : Sd H' σ ρ := ⟨s.len, fun i d h => let ⟨v, e, a⟩ := s.at_ i d h; ⟨v, e, a.goS g (k i d h)⟩⟩
theorem Sd.set (s : Sd H σ ρ) (a : At H v d) : Sd H (σ.set i (some v)) (ρ.set i (some d)) := by
  refine ⟨by rw [List.length_set, List.length_set, s.len], fun j e h => ?_⟩
  by_cases hj : i = j
  · subst hj
    have hl : i < ρ.length := by
      have := (List.getElem?_eq_some_iff.mp h).1
      simpa using this
    rw [List.getElem?_set_self hl] at h
    cases h
    exact ⟨v, List.getElem?_set_self (by rw [s.len]; exact hl), a⟩
  · rw [List.getElem?_set_ne hj] at h ⊢
    exact s.at_ j e h
def wipeD (ρ : Rho) : List Nat → Rho
  | [] => ρ
  | v :: vs => (wipeD ρ vs).set v none
theorem Sd.unset (s : Sd H σ ρ) : Sd H (σ.set i none) (ρ.set i none) := by
  refine ⟨by rw [List.length_set, List.length_set, s.len], fun j e h => ?_⟩
  by_cases hj : i = j
  · subst hj
    by_cases hl : i < ρ.length
    · rw [List.getElem?_set_self hl] at h; cases h
    · rw [List.getElem?_eq_none (by simpa using hl)] at h; cases h
  · rw [List.getElem?_set_ne hj] at h ⊢
    exact s.at_ j e h
theorem Sd.wipe (s : Sd H σ ρ) : ∀ vs : List Nat, Sd H (wipe σ vs) (wipeD ρ vs)
  | [] => s
  | v :: vs => (Sd.wipe s vs).unset
theorem wipe_set (σ : L2.St) {i : Nat} {x : Option V} : ∀ {vs : List Nat}, i ∈ vs → wipe (σ.set i x) vs = wipe σ vs
  | [], h => by cases h
  | v :: vs, h => by
    show (wipe (σ.set i x) vs).set v none = (wipe σ vs).set v none
    by_cases hm : i ∈ vs
    · rw [wipe_set σ hm]
    · have hv : i = v := by
        rcases List.mem_cons.mp h with e | e
        · exact e
        · exact absurd e hm
      subst hv
      have key : ∀ (ws : List Nat), i ∉ ws → wipe (σ.set i x) ws = (wipe σ ws).set i x := by
        intro ws
        induction ws with
        | nil => intro _; rfl
        | cons w ws ih =>
          intro hn
          have h1 : i ≠ w := fun e => hn (e ▸ List.mem_cons_self)
          have h2 : i ∉ ws := fun e => hn (List.mem_cons_of_mem _ e)
          show (wipe (σ.set i x) ws).set w none = ((wipe σ ws).set w none).set i x
          rw [ih h2, List.set_comm _ _ h1]
      rw [key vs hm, List.set_set]
theorem wipe_wipe (σ : L2.St) (vs : List Nat) : ∀ ws : List Nat, (∀ w ∈ ws, w ∈ vs) → wipe (wipe σ ws) vs = wipe σ vs
  | [], _ => rfl
  | w :: ws, h => by
    show wipe ((wipe σ ws).set w none) vs = wipe σ vs
    rw [wipe_set _ (h w List.mem_cons_self), wipe_wipe σ vs ws fun x hx => h x (List.mem_cons_of_mem _ hx)]
def startD (N : List Str) (ds : List K70.D) : Rho := ds.map some ++ List.replicate (N.length - ds.length) none
theorem Ats.at : ∀ {vs : List V} {ds : List K70.D}, Ats H vs ds → ∀ {i : Nat} {d : K70.D}, ds[i]? = some d → ∃ v, vs[i]? = some v ∧ At H v d := fun h _ _ e => h.get e
theorem Sd.start {vs : List V} (h : Ats H vs ds) (N : List Str) : Sd H (start N vs) (startD N ds) := by
  refine ⟨by simp [L2.start, startD, h.length], fun i d e => ?_⟩
  unfold startD at e
  by_cases hi : i < ds.length
  · rw [List.getElem?_append_left (by simpa using hi), List.getElem?_map] at e
    cases q : ds[i]? with
    | none => rw [q] at e; cases e
    | some d' =>
      rw [q] at e
      have e2 : d' = d := by simpa using e
      subst e2
      obtain ⟨v, h1, h2⟩ := h.get q
      refine ⟨v, ?_, h2⟩
      unfold L2.start
      rw [List.getElem?_append_left (by simpa [h.length] using hi), List.getElem?_map, h1]
      rfl
  · rw [List.getElem?_append_right (by simpa using hi)] at e
    have := List.mem_of_getElem? e
    have := List.eq_of_mem_replicate this
    cases this
/-! judgements -/
def Dv (t : TE) (ρ : Rho) (d : K70.D) : Prop := ∀ (σ : L2.St) (H : Hp) (Q : VK), Sd H σ ρ → (∀ v H', Go [] H H' → At H' v d → Q v H') → t σ H Q
def DvL (t : TE) (ρ : Rho) (ds : List K70.D) : Prop := ∀ (σ : L2.St) (H : Hp) (Q : VK), Sd H σ ρ → (∀ a H', Go [] H H' → H a = none → At H' (.ref a) (.lst a ds) → Q (.ref a) H') → t σ H Q
def Da (t : TA) (ρ : Rho) (ds : List K70.D) : Prop := ∀ (σ : L2.St) (H : Hp) (Q : List V → Hp → Prop), Sd H σ ρ → (∀ vs H', Go [] H H' → Ats H' vs ds → Q vs H') → t σ H Q
def Dt (t : TT) (ρ : Rho) (b : Bool) : Prop := ∀ (σ : L2.St) (H : Hp) (Q : Bool → Hp → Prop), Sd H σ ρ → (∀ H', Go [] H H' → Q b H') → t σ H Q
def Dn (t : TS) (ρ ρ' : Rho) : Prop := ∀ (σ : L2.St) (H : Hp) (E : Ends), Sd H σ ρ → (∀ σ' H', Go [] H H' → Sd H' σ' ρ' → E.nx σ' H') → t E σ H
def Db (t : TS) (ρ : Rho) (d : K70.D) : Prop := ∀ (σ : L2.St) (H : Hp) (E : Ends), Sd H σ ρ → (∀ v H', Go [] H H' → At H' v d → E.rt v H') → t E σ H
def Df (t : TS) (ρ : Rho) (d : K70.D) : Prop := ∀ (σ : L2.St) (H : Hp) (Q : VK), Sd H σ ρ → (∀ v H', Go [] H H' → At H' v d → Q v H') → t { nx := fun _ H' => Q .non H', rt := Q } σ H
theorem Da.to {t : TA} {ρ : Rho} {d d' : List K70.D} (h : Da t ρ d) (e : d = d') : Da t ρ d' := e ▸ h
theorem Dv.to {t : TE} {ρ : Rho} {d d' : K70.D} (h : Dv t ρ d) (e : d = d') : Dv t ρ d' := e ▸ h
theorem DvL.to {t : TE} {ρ : Rho} {d d' : List K70.D} (h : DvL t ρ d) (e : d = d') : DvL t ρ d' := e ▸ h
theorem Dt.to {t : TT} {ρ : Rho} {b b' : Bool} (h : Dt t ρ b) (e : b = b') : Dt t ρ b' := e ▸ h
theorem df_b {t : TS} (h : Db t ρ d) : Df t ρ d := fun σ H Q s q => h σ H _ s q
theorem df_n {t : TS} (h : Dn t ρ ρ') : Df t ρ .non := fun σ H Q s q => h σ H _ s fun _ H' g _ => q _ H' g .non
variable {K : PySem.W.Frag} {te ta tb tc : TE} {t u c : TT} {t1 t2 t3 : TS} {g : TG} {r r' : R2} {ts tr : TA} {b b1 b2 : Bool} {n m : Nat}
/-! expressions -/
theorem dv_var (h : ρ[i]? = some (some d)) : Dv (tVar i) ρ d := fun σ H Q s q => let ⟨v, e, a⟩ := s.at_ i d h; ⟨v, e, q v H .refl a⟩
theorem dv_cN {k : Int} (e : k = (n : Int)) : Dv (tC (.int k)) ρ (dN n) := fun σ H Q s q => q _ H .refl (e ▸ .int _)
theorem dv_cI {k : Int} : Dv (tC (.int k)) ρ (.int k) := fun σ H Q s q => q _ H .refl (.int _)
theorem dv_cS {x : Str} : Dv (tC (.str x)) ρ (.str x) := fun σ H Q s q => q _ H .refl (.str _)
theorem dv_cB {x : Bool} : Dv (tC (.bl x)) ρ (.bl x) := fun σ H Q s q => q _ H .refl (.bl _)
theorem dv_c0 : Dv (tC .non) ρ .non := fun σ H Q s q => q _ H .refl .non
/-- an operator, by values that are data -/
def Rd2 (r : R2) (d1 d2 d : K70.D) : Prop := ∀ (x y : V) (H : Hp) (Q : VK), At H x d1 → At H y d2 → (∀ v H', Go [] H H' → At H' v d → Q v H') → r x y H Q
theorem dv_op (h : Rd2 r d1 d2 d) (ha : Dv ta ρ d1) (hb : Dv tb ρ d2) : Dv (tOp r ta tb) ρ d := fun σ H Q s q =>
  ha σ H _ s fun x H1 g1 a1 => hb σ H1 _ (s.go g1) fun y H2 g2 a2 => h x y H2 Q (a1.go g2) a2 fun v H' g3 a3 => q v H' (g1.trans (g2.trans g3)) a3
theorem rd_pure (h : ∀ (x y : V) (H : Hp) (Q : VK), At H x d1 → At H y d2 → (∀ v, At H v d → Q v H) → r x y H Q) : Rd2 r d1 d2 d := fun x y H Q a1 a2 q => h x y H Q a1 a2 fun v a => q v H .refl a
theorem rd_addN : Rd2 (rI0 fun i j => .int (i + j)) (dN n) (dN m) (dN (n + m)) := rd_pure fun x y H Q a1 a2 q => by
  rw [a1.int_inv, a2.int_inv]; exact r_addN (q _ (.int _))
theorem rd_subN (h : m ≤ n) : Rd2 (rI0 fun i j => .int (i - j)) (dN n) (dN m) (dN (n - m)) := rd_pure fun x y H Q a1 a2 q => by
  rw [a1.int_inv, a2.int_inv]; exact r_subN h (q _ (.int _))
theorem rd_ltN : Rd2 (rI0 fun i j => .bl (decide (i < j))) (dN n) (dN m) (.bl (decide (n < m))) := rd_pure fun x y H Q a1 a2 q => by
  rw [a1.int_inv, a2.int_inv]; exact r_ltN (q _ (.bl _))
theorem rd_leN : Rd2 (rI0 fun i j => .bl (decide (i ≤ j))) (dN n) (dN m) (.bl (decide (n ≤ m))) := rd_pure fun x y H Q a1 a2 q => by
  rw [a1.int_inv, a2.int_inv]; exact r_leN (q _ (.bl _))
theorem rd_gtN : Rd2 (rI0 fun i j => .bl (decide (j < i))) (dN n) (dN m) (.bl (decide (m < n))) := rd_pure fun x y H Q a1 a2 q => by
  rw [a1.int_inv, a2.int_inv]; exact ⟨_, _, rfl, rfl, by
    show Q (.bl (decide ((m : Int) < (n : Int)))) H
    rw [decide_eq_decide.mpr (Int.ofNat_lt : ((m : Nat) : Int) < n ↔ m < n)]; exact q _ (.bl _)⟩
theorem rd_eqN : Rd2 rEq (dN n) (dN m) (.bl (decide (n = m))) := rd_pure fun x y H Q a1 a2 q => by
  rw [a1.int_inv, a2.int_inv]; exact r_eqN (q _ (.bl _))
theorem rd_neN : Rd2 rNe (dN n) (dN m) (.bl (!decide (n = m))) := rd_pure fun x y H Q a1 a2 q => by
  rw [a1.int_inv, a2.int_inv]; exact r_neN (q _ (.bl _))
theorem rd_eqS {x y : Str} : Rd2 rEq (.str x) (.str y) (.bl (decide (x = y))) := rd_pure fun x y H Q a1 a2 q => by
  rw [a1.str_inv, a2.str_inv]; exact r_eqS (q _ (.bl _))
theorem rd_addS {x y : Str} (h : x.length + y.length ≤ 1000) : Rd2 (fun x y H (Q : VK) => ∃ i j, x = V.str i ∧ y = V.str j ∧ i.length + j.length ≤ sizeLine ∧ Q (.str (i ++ j)) H) (.str x) (.str y) (.str (x ++ y)) := rd_pure fun x y H Q a1 a2 q => by
  rw [a1.str_inv, a2.str_inv]; exact ⟨_, _, rfl, rfl, Nat.le_trans h (by decide), q _ (.str _)⟩
def K70.D.isNon : K70.D → Bool
  | .non => true
  | _ => false
theorem At.non_iff {v : V} {d : K70.D} (h : At H v d) (hr : ∀ w, d ≠ .raw w) : decide (v = .non) = K70.D.isNon d := by
  cases h with
  | raw v => exact absurd rfl (hr v)
  | _ => rfl
theorem rd_isN (hr : ∀ w, d ≠ .raw w) : Rd2 (fun x y H (Q : VK) => y = V.non ∧ Q (.bl (decide (x = .non))) H) d .non (.bl (K70.D.isNon d)) := rd_pure fun x y H Q a1 a2 q => by
  refine ⟨a2.non_inv, ?_⟩
  rw [a1.non_iff hr]; exact q _ (.bl _)
theorem rd_notN (hr : ∀ w, d ≠ .raw w) : Rd2 (fun x y H (Q : VK) => y = V.non ∧ Q (.bl (!decide (x = .non))) H) d .non (.bl (!K70.D.isNon d)) := rd_pure fun x y H Q a1 a2 q => by
  refine ⟨a2.non_inv, ?_⟩
  rw [a1.non_iff hr]; exact q _ (.bl _)
/-! subscripts -/
theorem rd_ix {j : Nat} (h : ds[j]? = some d) : Rd2 (rIxT K) (.tup ds) (dN j) d := rd_pure fun x y H Q a1 a2 q => by
  rw [a2.int_inv]; exact r_ixD a1 h q
theorem rd_ixN {ns : List Nat} {j : Nat} (h : j < ns.length) : Rd2 (rIxT K) (dNs ns) (dN j) (dN (ix ns j)) := rd_ix (by rw [List.getElem?_map, ix_get h]; rfl)
theorem rd_ixR {ru : Rule} {j : Nat} (h : j < ru.length) : Rd2 (rIxT K) (dRule ru) (dN j) (dNs (ru.getD j [])) := rd_ix (by rw [List.getElem?_map, getD_get (d := []) h]; rfl)
theorem rd_ixLast {ns : List Nat} {m : Nat} (h : ns.getLast? = some m) : Rd2 (rIxT K) (dNs ns) (.int (-1)) (dN m) := rd_pure fun x y H Q a1 a2 q => by
  rw [a2.int_inv]; exact r_ixLast a1 h (q _ (.int _))
theorem dv_neg1 : Dv (tUn (rU fun i => .int (-i)) (tC (.int 1))) ρ (.int (-1)) := fun σ H Q s q => ⟨1, rfl, q _ H .refl (.int _)⟩
theorem rd_ixL {a : Addr} {j : Nat} (h : ds[j]? = some d) : Rd2 (rIxL K) (.lst a ds) (dN j) d := rd_pure fun x y H Q a1 a2 q => by
  cases a1 with
  | lst h1 h2 =>
    obtain ⟨v, e, h3⟩ := h2.get h
    rw [a2.int_inv]
    exact ⟨_, _, _, v, rfl, rfl, SqL.of h1, atI_N e, q _ h3⟩
/-! and, or, not, if -/
theorem dv_andV (ha : Dv ta ρ (.bl b1)) (hb : b1 = true → Dv tb ρ (.bl b2)) : Dv (tAndV ta tb) ρ (.bl (b1 && b2)) := fun σ H Q s q =>
  ha σ H _ s fun x H1 g1 a1 => ⟨b1, a1.bl_inv, by
    cases b1 with
    | true => exact iteT (hb rfl σ H1 Q (s.go g1) fun v H' g a => q v H' (g1.trans g) (by simpa using a))
    | false => exact iteF (q _ H1 g1 (.bl _))⟩
theorem dv_orV (ha : Dv ta ρ (.bl b1)) (hb : b1 = false → Dv tb ρ (.bl b2)) : Dv (tOrV ta tb) ρ (.bl (b1 || b2)) := fun σ H Q s q =>
  ha σ H _ s fun x H1 g1 a1 => ⟨b1, a1.bl_inv, by
    cases b1 with
    | true => exact iteT (q _ H1 g1 (.bl _))
    | false => exact iteF (hb rfl σ H1 Q (s.go g1) fun v H' g a => q v H' (g1.trans g) (by simpa using a))⟩
theorem dv_notV (ha : Dv ta ρ (.bl b)) : Dv (tNotV ta) ρ (.bl (!b)) := fun σ H Q s q => ha σ H _ s fun x H1 g1 a1 => ⟨b, a1.bl_inv, q _ H1 g1 (.bl _)⟩
theorem dt_test (h : Dv te ρ (.bl b)) : Dt (tTest te) ρ b := fun σ H Q s q => h σ H _ s fun x H1 g1 a1 => ⟨b, a1.bl_inv, q H1 g1⟩
theorem dt_tB (h : Dv te ρ (.bl b)) : Dt (tB te) ρ b := fun σ H Q s q => h σ H _ s fun x H1 g1 a1 => ⟨b, a1.bl_inv, q H1 g1⟩
theorem dt_yes : Dt tYes ρ true := fun σ H Q s q => q H .refl
theorem dt_not (h : Dt t ρ b) : Dt (tNot t) ρ (!b) := fun σ H Q s q => h σ H _ s fun H1 g1 => q H1 g1
theorem dt_and (ha : Dt t ρ b1) (hb : b1 = true → Dt u ρ b2) : Dt (tAnd t u) ρ (b1 && b2) := fun σ H Q s q => ha σ H _ s fun H1 g1 => by
  cases b1 with
  | true => exact iteT (hb rfl σ H1 Q (s.go g1) fun H' g => q H' (g1.trans g))
  | false => exact iteF (q H1 g1)
theorem dt_or (ha : Dt t ρ b1) (hb : b1 = false → Dt u ρ b2) : Dt (tOr t u) ρ (b1 || b2) := fun σ H Q s q => ha σ H _ s fun H1 g1 => by
  cases b1 with
  | true => exact iteT (q H1 g1)
  | false => exact iteF (hb rfl σ H1 Q (s.go g1) fun H' g => q H' (g1.trans g))
theorem dv_if (hc : Dt c ρ b) (ha : b = true → Dv ta ρ d) (hb : b = false → Dv tb ρ d) : Dv (tIf c ta tb) ρ d := fun σ H Q s q => hc σ H _ s fun H1 g1 => by
  cases b with
  | true => exact iteT (ha rfl σ H1 Q (s.go g1) fun v H' g a => q v H' (g1.trans g) a)
  | false => exact iteF (hb rfl σ H1 Q (s.go g1) fun v H' g a => q v H' (g1.trans g) a)
theorem dl_if (hc : Dt c ρ b) (ha : b = true → DvL ta ρ ds) (hb : b = false → DvL tb ρ ds) : DvL (tIf c ta tb) ρ ds := fun σ H Q s q => hc σ H _ s fun H1 g1 => by
  cases b with
  | true => exact iteT (ha rfl σ H1 Q (s.go g1) fun v H' g n a => q v H' (g1.trans g) (g1.free n) a)
  | false => exact iteF (hb rfl σ H1 Q (s.go g1) fun v H' g n a => q v H' (g1.trans g) (g1.free n) a)
theorem dv_chain (h1 : Rd2 r d1 d2 (.bl b1)) (h2 : Rd2 r' d2 d3 (.bl b2)) (ha : Dv ta ρ d1) (hb : Dv tb ρ d2) (hc : Dv tc ρ d3) : Dv (tChain r r' ta tb tc) ρ (.bl (b1 && b2)) := fun σ H Q s q =>
  ha σ H _ s fun x H1 g1 a1 => hb σ H1 _ (s.go g1) fun y H2 g2 a2 => h1 x y H2 _ (a1.go g2) a2 fun z H3 g3 a3 => ⟨b1, a3.bl_inv, by
    cases b1 with
    | true => exact iteT (hc σ H3 _ (((s.go g1).go g2).go g3) fun w H4 g4 a4 => h2 y w H4 Q ((a2.go g3).go g4) a4 fun v H' g a => q v H' (g1.trans (g2.trans (g3.trans (g4.trans g)))) (by simpa using a))
    | false => exact iteF (q _ H3 (g1.trans (g2.trans g3)) (.bl _))⟩
/-! arguments, displays -/
theorem da_nil : Da tNil ρ [] := fun σ H Q s q => q [] H .refl .nil
theorem da_cons (ha : Dv ta ρ d) (hs : Da ts ρ ds) : Da (tCons ta ts) ρ (d :: ds) := fun σ H Q s q =>
  ha σ H _ s fun x H1 g1 a1 => hs σ H1 _ (s.go g1) fun xs H2 g2 a2 => q _ H2 (g1.trans g2) (.cons (a1.go g2) a2)
theorem da_starT (ha : Dv ta ρ (.tup ds)) (hs : Da ts ρ es) : Da (StX.tStar K ta ts) ρ (ds ++ es) := fun σ H Q s q =>
  ha σ H _ s fun x H1 g1 a1 => by
    obtain ⟨a, xs, rfl, h1, h2⟩ := a1.tup_inv
    exact ⟨a, xs, rfl, .inl (SqT.rd h1), hs σ H1 _ (s.go g1) fun ys H2 g2 a2 => q _ H2 (g1.trans g2) ((h2.go g2).append a2)⟩
theorem da_starL {a : Addr} (ha : Dv ta ρ (.lst a ds)) (hs : Da ts ρ es) : Da (StX.tStar K ta ts) ρ (ds ++ es) := fun σ H Q s q =>
  ha σ H _ s fun x H1 g1 a1 => by
    cases a1 with
    | lst h1 h2 => exact ⟨a, _, rfl, .inr (SqL.of h1), hs σ H1 _ (s.go g1) fun ys H2 g2 a2 => q _ H2 (g1.trans g2) ((h2.go g2).append a2)⟩
theorem dv_tup (h : Da ts ρ ds) (hl : ds.length ≤ 1000) : Dv (tTup ts) ρ (.tup ds) := fun σ H Q s q =>
  h σ H _ s fun xs H1 g1 a1 => r_tupE a1 (by rw [a1.length]; exact hl) fun a H' g2 a2 => q _ H' (g1.trans g2) a2
theorem go_at (a1 : Ats H ws ds) {p : Addr} (hp : H p = none) : At (upd H p (.lst ws)) (.ref p) (.lst p ds) := .lst upd_same (a1.go (Go.new hp))
theorem dl_lst (h : Da ts ρ ds) (hl : ds.length ≤ 1000) : DvL (tLst ts) ρ ds := fun σ H Q s q =>
  h σ H _ s fun xs H1 g1 a1 => ⟨Nat.le_trans (by rw [a1.length]; exact hl) (by decide), fun p hp => q p _ (g1.trans (Go.new hp)) (g1.free hp) (go_at a1 hp)⟩
/-! calls of built-ins -/
theorem dv_tupL (h : DvL te ρ ds) : Dv (tCB (fun xs H (Q : VK) => ∃ p ys, xs = [V.ref p] ∧ ((SqL K H p ys ∧ ∀ l, H l = none → Q (.ref l) (upd H l (.tup ys))) ∨ (SqT K H p ys ∧ Q (.ref p) H))) (tCons te tNil)) ρ (.tup ds) := fun σ H Q s q =>
  h σ H _ s fun a H1 g1 n a1 => by
    cases a1 with
    | lst h1 h2 => exact ⟨a, _, rfl, .inl ⟨SqL.of h1, fun l hl => q _ _ (g1.trans (Go.new hl)) (.tup (.inl upd_same) (h2.go (Go.new hl)))⟩⟩
theorem dv_tupLv {a : Addr} (h : Dv te ρ (.lst a ds)) : Dv (tCB (fun xs H (Q : VK) => ∃ p ys, xs = [V.ref p] ∧ ((SqL K H p ys ∧ ∀ l, H l = none → Q (.ref l) (upd H l (.tup ys))) ∨ (SqT K H p ys ∧ Q (.ref p) H))) (tCons te tNil)) ρ (.tup ds) := fun σ H Q s q =>
  h σ H _ s fun v H1 g1 a1 => by
    cases a1 with
    | lst h1 h2 => exact ⟨a, _, rfl, .inl ⟨SqL.of h1, fun l hl => q _ _ (g1.trans (Go.new hl)) (.tup (.inl upd_same) (h2.go (Go.new hl)))⟩⟩
theorem dv_tupT (h : Dv te ρ (.tup ds)) : Dv (tCB (fun xs H (Q : VK) => ∃ p ys, xs = [V.ref p] ∧ ((SqL K H p ys ∧ ∀ l, H l = none → Q (.ref l) (upd H l (.tup ys))) ∨ (SqT K H p ys ∧ Q (.ref p) H))) (tCons te tNil)) ρ (.tup ds) := fun σ H Q s q =>
  h σ H _ s fun v H1 g1 a1 => by
    obtain ⟨a, xs, rfl, h1, h2⟩ := a1.tup_inv
    exact ⟨a, xs, rfl, .inr ⟨SqT.rd h1, q _ H1 g1 (.tup h1 h2)⟩⟩
theorem dl_listT (h : Dv te ρ (.tup ds)) : DvL (tCB (fun xs H (Q : VK) => ∃ p ys, xs = [V.ref p] ∧ (SqL K H p ys ∨ SqT K H p ys) ∧ ∀ l, H l = none → Q (.ref l) (upd H l (.lst ys))) (tCons te tNil)) ρ ds := fun σ H Q s q =>
  h σ H _ s fun v H1 g1 a1 => by
    obtain ⟨a, xs, rfl, h1, h2⟩ := a1.tup_inv
    exact ⟨a, xs, rfl, .inr (SqT.rd h1), fun l hl => q l _ (g1.trans (Go.new hl)) (g1.free hl) (go_at h2 hl)⟩
theorem ats_bls : ∀ {bs : List Bool} {vs : List V}, Ats H vs (bs.map K70.D.bl) → vs = bs.map V.bl
  | [], _, h => by cases h; rfl
  | b :: bs, _, h => by
    cases h with
    | cons h hs => rw [h.bl_inv, ats_bls hs]; rfl
theorem dv_all {bs : List Bool} (h : DvL te ρ (bs.map K70.D.bl)) : Dv (tCB (rAll K) (tCons te tNil)) ρ (.bl (bs.all id)) := fun σ H Q s q =>
  h σ H _ s fun a H1 g1 n a1 => by
    cases a1 with
    | lst h1 h2 => rw [ats_bls h2] at h1; exact ⟨a, bs, rfl, SqL.of h1, q _ H1 g1 (.bl _)⟩
theorem dv_lenT (h : Dv te ρ (.tup ds)) (hn : ds.length = n) : Dv (tCB (fun xs H (Q : VK) => ∃ p ys, xs = [V.ref p] ∧ (SqL K H p ys ∨ SqT K H p ys) ∧ Q (.int ys.length) H) (tCons te tNil)) ρ (dN n) := fun σ H Q s q =>
  h σ H _ s fun v H1 g1 a1 => r_lenT a1 hn (q _ H1 g1 (.int _))
theorem dv_lenN {ns : List Nat} (h : Dv te ρ (dNs ns)) : Dv (tCB (fun xs H (Q : VK) => ∃ p ys, xs = [V.ref p] ∧ (SqL K H p ys ∨ SqT K H p ys) ∧ Q (.int ys.length) H) (tCons te tNil)) ρ (dN ns.length) := dv_lenT h (by simp)
theorem dv_lenR {ru : Rule} (h : Dv te ρ (dRule ru)) : Dv (tCB (fun xs H (Q : VK) => ∃ p ys, xs = [V.ref p] ∧ (SqL K H p ys ∨ SqT K H p ys) ∧ Q (.int ys.length) H) (tCons te tNil)) ρ (dN ru.length) := dv_lenT h (by simp)
theorem dv_lenL {a : Addr} (h : Dv te ρ (.lst a ds)) (hn : ds.length = n) : Dv (tCB (fun xs H (Q : VK) => ∃ p ys, xs = [V.ref p] ∧ (SqL K H p ys ∨ SqT K H p ys) ∧ Q (.int ys.length) H) (tCons te tNil)) ρ (dN n) := fun σ H Q s q =>
  h σ H _ s fun v H1 g1 a1 => by
    cases a1 with
    | lst h1 h2 => exact r_lenL h1 (by rw [h2.length]; exact hn) (q _ H1 g1 (.int _))
theorem dv_max (ha : Dv ta ρ (dN n)) (hb : Dv tb ρ (dN m)) : Dv (tCB (fun xs H (Q : VK) => ∃ i j, xs = [V.int i, V.int j] ∧ Q (.int (if j > i then j else i)) H) (tCons ta (tCons tb tNil))) ρ (dN (max n m)) := fun σ H Q s q =>
  ha σ H _ s fun x H1 g1 a1 => hb σ H1 _ (s.go g1) fun y H2 g2 a2 => ⟨n, m, by rw [a1.int_inv, a2.int_inv], by
    have e : (if (m : Int) > (n : Int) then (m : Int) else (n : Int)) = ((max n m : Nat) : Int) := by split <;> omega
    rw [e]; exact q _ H2 (g1.trans g2) (.int _)⟩
/-- an attribute of a Scene -/
theorem lookup_zip : ∀ {ks : List Str} {vs : List V} {ds : List K70.D} {f : Str} {d : K70.D}, Ats H vs ds → (ks.zip ds).lookup f = some d → ∃ v, (ks.zip vs).lookup f = some v ∧ At H v d
  | [], _, _, _, _, _, h => by cases h
  | k :: ks, _, _, f, d, .nil, h => by cases h
  | k :: ks, v :: vs, e :: ds, f, d, .cons h1 h2, h => by
    simp only [List.zip_cons_cons, List.lookup_cons] at h ⊢
    cases q : f == k with
    | true =>
      simp only [q] at h ⊢
      cases h
      exact ⟨v, rfl, h1⟩
    | false =>
      simp only [q] at h ⊢
      exact lookup_zip h2 h
theorem dv_fld {C : Addr} {f : Str} (cl : Cls K C) (nf : NoAttr K C f) (hl : (scnN.zip ds).lookup f = some d) (h : Dv ta ρ (.scn C ds)) : Dv (tFld K ta f) ρ d := fun σ H Q s q =>
  h σ H _ s fun v H1 g1 a1 => by
    cases a1 with
    | scn h1 h2 h3 =>
      obtain ⟨w, e, a⟩ := lookup_zip h3 hl
      exact ⟨_, C, _, _, w, rfl, h1, cl, nf, e, q _ H1 g1 a⟩
/-! a pure promise -/
def spP (rel : List K70.D → K70.D → Prop) : Sp := fun vs H Q _ => ∃ ds d, Ats H vs ds ∧ rel ds d ∧ ∀ v H', Go [] H H' → At H' v d → Q v H'
theorem dv_call {rel : List K70.D → K70.D → Prop} {E : XK} (ha : Da ts ρ ds) (hr : rel ds d) : Dv (tCall (spP rel) [] E ts) ρ d := fun σ H Q s q =>
  ha σ H _ s fun vs H1 g1 a1 => ⟨ds, d, by rw [List.append_nil]; exact a1, hr, fun v H' g a => q v H' (g1.trans g) a⟩
/-! targets -/
def Dg (g : TG) (d : K70.D) (ρ ρ' : Rho) (sl : List Nat) : Prop := ∀ (σ : L2.St) (H : Hp) (v : V) (Q : L2.St → Hp → Prop), Sd H σ ρ → At H v d → (∀ σ', Sd H σ' ρ' → (∀ vs, (∀ s ∈ sl, s ∈ vs) → wipe σ' vs = wipe σ vs) → Q σ' H) → g v σ H Q
def Dgs (g : TGs) (ds : List K70.D) (ρ ρ' : Rho) (sl : List Nat) : Prop := ∀ (σ : L2.St) (H : Hp) (vs : List V) (Q : L2.St → Hp → Prop), Sd H σ ρ → Ats H vs ds → (∀ σ', Sd H σ' ρ' → (∀ vs, (∀ s ∈ sl, s ∈ vs) → wipe σ' vs = wipe σ vs) → Q σ' H) → g vs σ H Q
theorem dg_name : Dg (gName i) d ρ (ρ.set i (some d)) [i] := fun σ H v Q s a q => q _ (s.set a) fun vs h => wipe_set σ (h i (by simp))
theorem dgs_nil : Dgs gNil [] ρ ρ [] := fun σ H vs Q s a q => by
  cases a
  exact ⟨rfl, q σ s fun _ _ => rfl⟩
theorem dgs_cons {tg : TG} {tgs : TGs} {sl sl' : List Nat} (h : Dg tg d ρ ρ1 sl) (hs : Dgs tgs ds ρ1 ρ' sl') : Dgs (gCons tg tgs) (d :: ds) ρ ρ' (sl ++ sl') := fun σ H vs Q s a q => by
  cases a with
  | cons a1 a2 => exact ⟨_, _, rfl, h σ H _ _ s a1 fun σ1 s1 w1 => hs σ1 H _ Q s1 a2 fun σ2 s2 w2 => q σ2 s2 fun vs hv => (w2 vs fun x hx => hv x (List.mem_append_right _ hx)).trans (w1 vs fun x hx => hv x (List.mem_append_left _ hx))⟩
theorem dg_tup {tgs : TGs} {sl : List Nat} (h : Dgs tgs ds ρ ρ' sl) (hn : ds.length = n) : Dg (gTup K n tgs) (.tup ds) ρ ρ' sl := fun σ H v Q s a q => by
  obtain ⟨p, xs, rfl, h1, h2⟩ := a.tup_inv
  exact ⟨p, xs, rfl, SqT.rd h1, by rw [h2.length]; exact hn, h σ H xs Q s h2 q⟩
/-! what is walked -/
def Yl (S : List Addr) (J : It) (H : Hp) (src : List K70.D) : Prop := ∀ H', Go S H H' → ∀ i, (∀ d, src[i]? = some d → J.go i H' ∧ ∀ x H'', J.yld i H' x H'' → Go [] H' H'' ∧ At H'' x d) ∧ (i = src.length → J.stop i H')
def Di (S : List Addr) (wi : TI) (ρ : Rho) (src : List K70.D) : Prop := ∀ (σ : L2.St) (H : Hp) (R : It → Hp → Prop), Sd H σ ρ → (∀ J H', Go [] H H' → Yl S J H' src → R J H') → wi σ H R
theorem yl_tup {a : Addr} {xs : List V} (h1 : Rd H a (.tup xs)) (h2 : Ats H xs ds) (hv : ∀ d ∈ ds, Av S d) : Yl S (Itt K a) H ds := fun H' g i => by
  have k1 := goT g h1
  have k2 := h2.goS g hv
  refine ⟨fun d e => ?_, fun e => ⟨xs, SqT.rd k1, by rw [e, h2.length]; exact Nat.le_refl _⟩⟩
  obtain ⟨v, e1, a1⟩ := k2.get e
  exact ⟨⟨xs, v, SqT.rd k1, e1⟩, fun x H'' y => by
    obtain ⟨rfl, y⟩ := y
    have e2 := y xs (SqT.rd k1)
    rw [e1] at e2
    cases e2
    exact ⟨.refl, a1⟩⟩
theorem yl_lst {a : Addr} {xs : List V} (h1 : H a = some (.lst xs)) (h2 : Ats H xs ds) (hv : ∀ d ∈ ds, Av S d) (ha : a ∉ S) : Yl S (Itl K a) H ds := fun H' g i => by
  have k1 := g.kp _ _ h1 ha
  have k2 := h2.goS g hv
  refine ⟨fun d e => ?_, fun e => ⟨xs, SqL.of k1, by rw [e, h2.length]; exact Nat.le_refl _⟩⟩
  obtain ⟨v, e1, a1⟩ := k2.get e
  exact ⟨⟨xs, v, SqL.of k1, e1⟩, fun x H'' y => by
    obtain ⟨rfl, y⟩ := y
    have e2 := y xs (SqL.of k1)
    rw [e1] at e2
    cases e2
    exact ⟨.refl, a1⟩⟩
theorem yl_rng : Yl S (Itr 0 n) H ((List.range n).map dN) := fun H' g i => by
  refine ⟨fun d e => ?_, fun e => by show n ≤ i; simp at e; omega⟩
  have hi : i < n := by
    have := (List.getElem?_eq_some_iff.mp e).1
    simpa using this
  have hd : d = dN i := by
    rw [List.getElem?_map, List.getElem?_range hi] at e
    exact (Option.some.inj e).symm
  subst hd
  exact ⟨hi, fun x H'' y => by
    obtain ⟨rfl, rfl⟩ := y
    rw [Int.zero_add]
    exact ⟨.refl, .int _⟩⟩
theorem di_tup (h : Dv te ρ (.tup ds)) : Di [] (iTup K te) ρ ds := fun σ H R s q => h σ H _ s fun v H1 g1 a1 => by
  obtain ⟨a, xs, rfl, h1, h2⟩ := a1.tup_inv
  exact ⟨a, rfl, ⟨xs, SqT.rd h1⟩, q _ H1 g1 (yl_tup h1 h2 h2.av0)⟩
theorem di_lst {a : Addr} (h : Dv te ρ (.lst a ds)) : Di [] (iList K te) ρ ds := fun σ H R s q => h σ H _ s fun v H1 g1 a1 => by
  cases a1 with
  | lst h1 h2 => exact ⟨a, rfl, ⟨_, SqL.of h1⟩, q _ H1 g1 (yl_lst h1 h2 h2.av0 (by simp))⟩
theorem di_tupS (h : Dv te ρ (.tup ds)) (hv : ∀ d ∈ ds, Av S d) : Di S (iTup K te) ρ ds := fun σ H R s q => h σ H _ s fun v H1 g1 a1 => by
  obtain ⟨a, xs, rfl, h1, h2⟩ := a1.tup_inv
  exact ⟨a, rfl, ⟨xs, SqT.rd h1⟩, q _ H1 g1 (yl_tup h1 h2 hv)⟩
theorem di_lstS {a : Addr} (h : Dv te ρ (.lst a ds)) (hv : ∀ d ∈ ds, Av S d) (ha : a ∉ S) : Di S (iList K te) ρ ds := fun σ H R s q => h σ H _ s fun v H1 g1 a1 => by
  cases a1 with
  | lst h1 h2 => exact ⟨a, rfl, ⟨_, SqL.of h1⟩, q _ H1 g1 (yl_lst h1 h2 hv ha)⟩
theorem di_rng1 (h : Da ts ρ [dN n]) (hn : n ≤ 1000) : Di S (iRng1 ts) ρ ((List.range n).map dN) := fun σ H R s q => h σ H _ s fun vs H1 g1 a1 => by
  cases a1 with
  | cons a1 a2 =>
    cases a2
    rw [a1.int_inv]
    exact ⟨n, rfl, by omega, by omega, by rw [Int.toNat_natCast]; exact q _ H1 g1 yl_rng⟩
theorem di_enum (h : Da ts ρ [.tup ds]) : Di [] (iEnumT K ts) ρ (ds.zipIdx.map fun p => .tup [dN p.2, p.1]) := fun σ H R s q => h σ H _ s fun vs H1 g1 a1 => by
  cases a1 with
  | cons a1 a2 =>
    cases a2
    obtain ⟨a, xs, rfl, h1, h2⟩ := a1.tup_inv
    refine ⟨a, xs, rfl, SqT.rd h1, q _ H1 g1 fun H' g i => ?_⟩
    have k1 := goT g h1
    have k2 := h2.go g
    refine ⟨fun d e => ?_, fun e => ⟨xs, SqT.rd k1, by rw [h2.length, e]; simp⟩⟩
    rw [List.getElem?_map, List.getElem?_zipIdx] at e
    cases q1 : ds[i]? with
    | none => rw [q1] at e; cases e
    | some d' =>
      rw [q1] at e
      have e' : K70.D.tup [dN (0 + i), d'] = d := Option.some.inj e
      subst e'
      obtain ⟨v, e1, a1⟩ := k2.get q1
      refine ⟨⟨xs, v, SqT.rd k1, e1⟩, fun x H'' y => ?_⟩
      obtain ⟨T, x', rfl, hT, rfl, y⟩ := y
      have e2 := y xs (SqT.rd k1)
      rw [e1] at e2
      cases e2
      rw [Nat.zero_add]
      exact ⟨Go.new hT, .tup (.inl upd_same) (.cons (.int _) (.cons (a1.go (Go.new hT)) .nil))⟩
theorem di_zip {a : Addr} (h : Da ts ρ [.tup ds, .lst a es]) (hl : ds.length = es.length) : Di [] (iZipM K ts) ρ ((ds.zip es).map fun p => .tup [p.1, p.2]) := fun σ H R s q => h σ H _ s fun vs H1 g1 a1 => by
  cases a1 with
  | cons a1 a2 =>
    cases a2 with
    | cons a2 a3 =>
      cases a3
      obtain ⟨p, xs, rfl, h1, h2⟩ := a1.tup_inv
      cases a2 with
      | lst m1 m2 =>
        rename_i ys
        refine ⟨p, a, xs, ys, rfl, SqT.rd h1, SqL.of m1, q _ H1 g1 fun H' g i => ?_⟩
        have k1 := goT g h1
        have k2 := h2.go g
        have l1 := g.at0 m1
        have l2 := m2.go g
        refine ⟨fun d e => ?_, fun e => ⟨xs, ys, SqT.rd k1, SqL.of l1, by rw [h2.length, e]; simp [hl], by rw [m2.length, e]; simp [hl]⟩⟩
        rw [List.getElem?_map] at e
        cases q1 : (ds.zip es)[i]? with
        | none => rw [q1] at e; cases e
        | some pr =>
          rw [q1] at e
          have e' : K70.D.tup [pr.1, pr.2] = d := Option.some.inj e
          subst e'
          rw [List.getElem?_zip_eq_some] at q1
          obtain ⟨v, e1, b1⟩ := k2.get q1.1
          obtain ⟨w, e2, b2⟩ := l2.get q1.2
          refine ⟨⟨xs, ys, v, w, SqT.rd k1, SqL.of l1, e1, e2⟩, fun x H'' y => ?_⟩
          obtain ⟨T, x', y', rfl, hT, rfl, y1, y2⟩ := y
          have f1 := y1 xs (SqT.rd k1)
          have f2 := y2 ys (SqL.of l1)
          rw [e1] at f1
          rw [e2] at f2
          cases f1
          cases f2
          exact ⟨Go.new hT, .tup (.inl upd_same) (.cons (b1.go (Go.new hT)) (.cons (b2.go (Go.new hT)) .nil))⟩
/-! a comprehension -/
theorem dl_lc {α : Type} {wi : TI} {te : TE} {vs sl : List Nat} {xs : List α} {emb f : α → K70.D} {p : α → Bool} {ρi : α → Rho} (hi : Di [] wi ρ (xs.map emb)) (hsz : xs.length ≤ 1000) (hg : ∀ x ∈ xs, Dg g (emb x) (wipeD ρ vs) (ρi x) sl) (hsl : ∀ s ∈ sl, s ∈ vs)
    (hf : ∀ x S, Av S (f x)) (ht : ∀ x ∈ xs, Dt t (ρi x) (p x)) (he : ∀ x ∈ xs, p x = true → Dv te (ρi x) (f x)) : DvL (tLc wi g t te vs) ρ ((xs.filter p).map f) := fun σ H Q s q => by
  refine hi σ H _ s fun J H1 g1 y => fun D hD => ?_
  refine ⟨fun i m H' => m = xs.length - i ∧ i ≤ xs.length ∧ ∃ acc, H' D = some (.lst acc) ∧ Go [] H1 H' ∧ Ats H' acc (((xs.take i).filter p).map f), ⟨xs.length, by simp, Nat.zero_le _, [], upd_same, Go.new hD, by rw [List.take_zero]; exact .nil⟩, ?_⟩
  rintro i m H2 ⟨rfl, hle, acc, hDa, g2, ha⟩
  by_cases hlt : i < xs.length
  · obtain ⟨y1, _⟩ := y H2 g2 i
    have hx : xs[i]? = some xs[i] := List.getElem?_eq_getElem hlt
    have hmem : xs[i] ∈ xs := List.getElem_mem hlt
    obtain ⟨y2, y3⟩ := y1 (emb xs[i]) (by rw [List.getElem?_map, hx]; rfl)
    have htake : xs.take (i + 1) = xs.take i ++ [xs[i]] := by rw [List.take_succ, hx]; rfl
    refine .inr ⟨y2, fun H' => i + 1 ≤ xs.length ∧ ∃ acc, H' D = some (.lst acc) ∧ Go [] H1 H' ∧ Ats H' acc (((xs.take (i + 1)).filter p).map f), fun H' h => ⟨xs.length - (i + 1), by omega, rfl, h⟩, fun x H3 yd => ?_⟩
    obtain ⟨g3, a3⟩ := y3 x H3 yd
    have s3 : Sd H3 (wipe σ vs) (wipeD ρ vs) := (((s.go g1).go g2).go g3).wipe vs
    refine hg _ hmem (wipe σ vs) H3 x _ s3 a3 fun σ' s' w => ⟨(w vs hsl).trans (wipe_wipe σ vs vs fun _ h => h), ?_⟩
    refine ht _ hmem σ' H3 _ s' fun H4 g4 => ?_
    cases hp : p xs[i] with
    | true =>
      refine iteT (he _ hmem hp σ' H4 _ (s'.go g4) fun v H5 g5 a5 => ?_)
      have h5 : H5 D = some (.lst acc) := g5.at0 (g4.at0 (g3.at0 hDa))
      have hal : acc.length = (((xs.take i).filter p).map f).length := ha.length
      have gg : Go [] H1 H5 := g2.trans (g3.trans (g4.trans g5))
      have gm : Go [D] H5 (upd H5 D (.lst (acc ++ [v]))) := Go.mut h5 (fun z => z)
      refine ⟨acc, h5, ?_, hlt, acc ++ [v], upd_same, gg.loc hD gm, ?_⟩
      · rw [hal, List.length_map]
        have h1 : ((xs.take i).filter p).length ≤ (xs.take i).length := List.length_filter_le ..
        rw [List.length_take] at h1
        exact Nat.lt_of_lt_of_le (show _ < 1001 by omega) (by decide)
      · rw [htake, List.filter_append, List.map_append, List.filter_cons, if_pos hp]
        have h6 : Ats (upd H5 D (.lst (acc ++ [v]))) acc (((xs.take i).filter p).map f) := (((ha.go g3).go g4).go g5).goS gm fun d hd => by
          obtain ⟨z, _, rfl⟩ := List.mem_map.mp hd
          exact hf z _
        exact h6.append (.cons (a5.goS gm (hf _ _)) .nil)
    | false =>
      refine iteF ⟨hlt, acc, g4.at0 (g3.at0 hDa), g2.trans (g3.trans g4), ?_⟩
      rw [htake, List.filter_append, List.filter_cons, if_neg (by rw [hp]; exact Bool.false_ne_true)]
      rw [List.filter_nil, List.append_nil]
      exact (ha.go g3).go g4
  · have e : i = xs.length := by omega
    subst e
    refine .inl ⟨(y H2 g2 _).2 (by simp), q D H2 (g1.trans g2) (g1.free hD) (.lst hDa ?_)⟩
    rw [List.take_length] at ha
    exact ha
/-! statements -/
theorem db_ret (h : Dv te ρ d) : Db (tRet te) ρ d := fun σ H E s q => h σ H _ s q
theorem db_seq (h : Dn t1 ρ ρ1) (h2 : Db t2 ρ1 d) : Db (tSeq t1 t2) ρ d := fun σ H E s q => h σ H { E with nx := t2 E } s fun σ' H' g s' => h2 σ' H' E s' fun v H2 g2 a => q v H2 (g.trans g2) a
theorem db_now (h : Db t1 ρ d) : Db (tSeq t1 t2) ρ d := fun σ H E s q => h σ H { E with nx := t2 E } s q
theorem dn_seq (h : Dn t1 ρ ρ1) (h2 : Dn t2 ρ1 ρ') : Dn (tSeq t1 t2) ρ ρ' := fun σ H E s q => h σ H { E with nx := t2 E } s fun σ' H' g s' => h2 σ' H' E s' fun σ2 H2 g2 a => q σ2 H2 (g.trans g2) a
theorem dn_next : Dn tNext ρ ρ := fun σ H E s q => q σ H .refl s
theorem dn_asg (h : Dv te ρ d) : Dn (tAsg te (gName i)) ρ (ρ.set i (some d)) := fun σ H E s q => h σ H _ s fun v H' g a => q _ H' g ((s.go g).set a)
theorem dn_asgT {sl : List Nat} (h : Dv te ρ d) (hg : Dg g d ρ ρ' sl) : Dn (tAsg te g) ρ ρ' := fun σ H E s q => h σ H _ s fun v H' g a => hg σ H' v _ (s.go g) a fun σ' s' _ => q σ' H' g s'
theorem db_asgL (h : DvL te ρ ds) (h2 : ∀ a, Db t2 (ρ.set i (some (.lst a ds))) d) : Db (tSeq (tAsg te (gName i)) t2) ρ d := fun σ H E s q => h σ H _ s fun a H' g n k => h2 a _ H' E ((s.go g).set k) fun v H2 g2 z => q v H2 (g.trans g2) z
theorem dn_par {j : Nat} (h : Da ts ρ [d1, d2]) : Dn (tPar i j ts) ρ ((ρ.set i (some d1)).set j (some d2)) := fun σ H E s q => h σ H _ s fun vs H' g a => by
  cases a with
  | cons a1 a2 =>
    cases a2 with
    | cons a2 a3 =>
      cases a3
      exact ⟨_, _, rfl, q _ H' g (((s.go g).set a1).set a2)⟩
theorem dn_drop (h : Dv te ρ d) : Dn (tDrop te) ρ ρ := fun σ H E s q => h σ H _ s fun v H' g a => q σ H' g (s.go g)
theorem dn_ifT (hc : Dt c ρ true) (h : Dn t1 ρ ρ') : Dn (tIfS c t1 t2) ρ ρ' := fun σ H E s q => hc σ H _ s fun H1 g1 => iteT (h σ H1 E (s.go g1) fun σ' H' g s' => q σ' H' (g1.trans g) s')
theorem dn_ifF (hc : Dt c ρ false) (h : Dn t2 ρ ρ') : Dn (tIfS c t1 t2) ρ ρ' := fun σ H E s q => hc σ H _ s fun H1 g1 => iteF (h σ H1 E (s.go g1) fun σ' H' g s' => q σ' H' (g1.trans g) s')
theorem dn_skip (hc : Dt c ρ false) : Dn (tIfS c t1 tNext) ρ ρ := dn_ifF hc dn_next
theorem db_ifT (hc : Dt c ρ true) (h : Db t1 ρ d) : Db (tIfS c t1 t2) ρ d := fun σ H E s q => hc σ H _ s fun H1 g1 => iteT (h σ H1 E (s.go g1) fun v H' g a => q v H' (g1.trans g) a)
theorem db_ifF (hc : Dt c ρ false) (h : Db t2 ρ d) : Db (tIfS c t1 t2) ρ d := fun σ H E s q => hc σ H _ s fun H1 g1 => iteF (h σ H1 E (s.go g1) fun v H' g a => q v H' (g1.trans g) a)
/-- a loop that neither returns nor changes an object -/
theorem dn_for {wi : TI} {tb : TS} {src : List K70.D} {ρi ρg : Nat → Rho} {sl : Nat → List Nat} (hi : Di [] wi (ρi 0) src) (hg : ∀ i d, src[i]? = some d → Dg g d (ρi i) (ρg i) (sl i)) (hb : ∀ i d, src[i]? = some d → Dn tb (ρg i) (ρi (i + 1))) : Dn (tFor wi g tb) (ρi 0) (ρi src.length) := fun σ H E s q => by
  refine hi σ H _ s fun J H1 g1 y => ?_
  refine ⟨fun i m σ' H' => m = src.length - i ∧ i ≤ src.length ∧ Go [] H1 H' ∧ Sd H' σ' (ρi i), ⟨src.length, by simp, Nat.zero_le _, .refl, s.go g1⟩, ?_⟩
  rintro i m σ' H' ⟨rfl, hle, g2, s2⟩
  by_cases hlt : i < src.length
  · obtain ⟨y1, _⟩ := y H' g2 i
    have hx : src[i]? = some src[i] := List.getElem?_eq_getElem hlt
    obtain ⟨y2, y3⟩ := y1 _ hx
    refine .inr ⟨y2, fun σ' H' => i + 1 ≤ src.length ∧ Go [] H1 H' ∧ Sd H' σ' (ρi (i + 1)), fun σ' H' h => ⟨src.length - (i + 1), by omega, rfl, h⟩, fun x H3 yd => ?_⟩
    obtain ⟨g3, a3⟩ := y3 x H3 yd
    exact hg i _ hx σ' H3 x _ (s2.go g3) a3 fun σ4 s4 _ => hb i _ hx σ4 H3 _ s4 fun σ5 H5 g5 s5 => ⟨hlt, g2.trans (g3.trans g5), s5⟩
  · have e : i = src.length := by omega
    subst e
    exact .inl ⟨(y H' g2 _).2 rfl, q σ' H' (g1.trans g2) s2⟩
/-- a loop that returns at its k-th turn -/
theorem db_for {wi : TI} {tb : TS} {src : List K70.D} {ρi ρg : Nat → Rho} {sl : Nat → List Nat} {k : Nat} (hk : k < src.length) (hi : Di [] wi (ρi 0) src) (hg : ∀ i d, src[i]? = some d → Dg g d (ρi i) (ρg i) (sl i)) (hb : ∀ i d, i < k → src[i]? = some d → Dn tb (ρg i) (ρi (i + 1))) (hr : ∀ e, src[k]? = some e → Db tb (ρg k) d) : Db (tFor wi g tb) (ρi 0) d := fun σ H E s q => by
  refine hi σ H _ s fun J H1 g1 y => ?_
  refine ⟨fun i m σ' H' => m = k - i ∧ i ≤ k ∧ Go [] H1 H' ∧ Sd H' σ' (ρi i), ⟨k, by simp, Nat.zero_le _, .refl, s.go g1⟩, ?_⟩
  rintro i m σ' H' ⟨rfl, hle, g2, s2⟩
  obtain ⟨y1, _⟩ := y H' g2 i
  have hlt : i < src.length := by omega
  have hx : src[i]? = some src[i] := List.getElem?_eq_getElem hlt
  obtain ⟨y2, y3⟩ := y1 _ hx
  refine .inr ⟨y2, fun σ' H' => i + 1 ≤ k ∧ Go [] H1 H' ∧ Sd H' σ' (ρi (i + 1)), fun σ' H' h => ⟨k - (i + 1), by omega, rfl, h⟩, fun x H3 yd => ?_⟩
  obtain ⟨g3, a3⟩ := y3 x H3 yd
  refine hg i _ hx σ' H3 x _ (s2.go g3) a3 fun σ4 s4 _ => ?_
  by_cases hik : i < k
  · exact hb i _ hik hx σ4 H3 _ s4 fun σ5 H5 g5 s5 => ⟨hik, g2.trans (g3.trans g5), s5⟩
  · have e : i = k := by omega
    subst e
    exact hr _ hx σ4 H3 _ s4 fun v H5 g5 a5 => q v H5 (g1.trans (g2.trans (g3.trans g5))) a5
end
section
variable {P : Program} {w : World} {K : PySem.W.Frag} {mg : Str → Option Value} {base : Heap}
/-- THE RULE for a pure def of the module -/
theorem mk_pure {x : Str} {st : Stmt} {f : Addr} {N ps : List Str} {k : Nat} {rel : List K70.D → K70.D → Prop} (F : ∃ fd, FunD K x x (defArgs st) (defBody st) (defScope st) [] [] f fd) (g : mg x = some (.ref f)) (S : FnScope N ps (defScope st))
    (hb : ∀ (kV doc pm : Value) (an : Option Addr) (cdv ct : Value) (us : List Value), us.length = ps.length → bindArgs (PySem.W.fnOf x x (defArgs st) (defBody st) (defScope st) .none kV doc pm an cdv ct) ⟨us, []⟩ = pure (ps.zip us))
    (len : ∀ ds d, rel ds d → ds.length = ps.length)
    (body : ∀ (cdv : Value) (A : Around) (outer : List Env) (s : Shared) (H : Hp) (E : XK) (ds : List K70.D) (d : K70.D), Room k (A.deeper (envOfC x (defScope st) s.heap.objs.size f cdv)) → rel ds d →
      ∃ t, PSs (cxOf CX0 P w K mg base N x (defScope st) f cdv A outer s H E).nox (defBody st) t ∧ Df t (startD N ds) d) : Use P w K mg base x (k + 1) ps (spP rel) := by
  refine mk_use F g S hb (fun vs H Q E ⟨ds, d, h1, h2, _⟩ => by rw [h1.length]; exact len ds d h2) fun cdv A outer s H vs Q E hr ⟨ds, d, h1, h2, q⟩ => ?_
  obtain ⟨t, a, b⟩ := body cdv A outer s H E ds d hr h2
  exact ⟨t, a, b _ H Q (Sd.start h1 N) q⟩
end
end K70
set_option Elab.async false
set_option linter.all false
set_option maxRecDepth 100000
set_option maxHeartbeats 4000000
/-! more operators on data: in, ==, +, *, slices, isinstance, sorted, sets -/
namespace K70
open PySem PySem.Spec PyProof.Rows L2
section
variable {X : Cx} {K : PySem.W.Frag} {H H' : Hp} {ρ ρ' ρ1 : Rho} {v : V} {d d1 d2 d3 : K70.D} {ds es : List K70.D} {te ta tb tc : TE} {ts tr : TA} {r r' : R2} {n m : Nat} {a : Addr} {w : World}
/-! plain data: no list in it -/
theorem av_N {S : List Addr} {n : Nat} : Av S (dN n) := .int _
theorem av_map {α : Type} {S : List Addr} {f : α → K70.D} {xs : List α} (h : ∀ x, Av S (f x)) : ∀ d ∈ xs.map f, Av S d := fun d hd => by
  obtain ⟨x, _, rfl⟩ := List.mem_map.mp hd
  exact h x
theorem av_Ns {S : List Addr} {ns : List Nat} : Av S (dNs ns) := .tup (av_map fun _ => .int _)
theorem av_R {S : List Addr} {t : Rule} : Av S (dRule t) := .tup (av_map fun _ => av_Ns)
theorem av_nil {S : List Addr} : ∀ d ∈ ([] : List K70.D), Av S d := fun _ h => by cases h
theorem av_cons {S : List Addr} (h : Av S d) (hs : ∀ e ∈ ds, Av S e) : ∀ e ∈ d :: ds, Av S e := fun e he => by
  rcases List.mem_cons.mp he with rfl | he
  · exact h
  · exact hs e he
theorem av_Now {S : List Addr} {s : Sc} : Av S (dNow s) := .tup (av_cons av_R (av_cons av_Ns (av_cons av_Ns (av_cons (.str _) (av_cons av_Ns (av_cons av_Ns av_nil))))))
theorem av_Ed {S : List Addr} {e : Ed} : Av S (dEd e) := by
  cases e with
  | come l => exact .tup (av_cons (.str _) (av_cons (.int _) av_nil))
  | go => exact .tup (av_cons (.str _) av_nil)
  | chg t => exact .tup (av_cons (.str _) (av_cons av_R av_nil))
/-! in, not in -/
theorem inV_N (x : Nat) (xs : List Nat) : inV (V.int x) (xs.map vN) = xs.contains x := by
  unfold inV
  rw [List.any_map]
  induction xs with
  | nil => rfl
  | cons y ys ih =>
    rw [List.any_cons, List.contains_cons, ih]
    congr 1
    show ((y : Int) == (x : Int)) = (x == y)
    rw [Bool.eq_iff_iff, beq_iff_eq, beq_iff_eq]
    omega
theorem flat_N (xs : List Nat) : (xs.map vN).all flatV = true := by
  rw [List.all_map]
  exact List.all_eq_true.mpr fun _ _ => rfl
theorem rd_in {xs : List Nat} : Rd2 (rIn K false) (dN n) (dNs xs) (.bl (xs.contains n)) := rd_pure fun x y H Q a1 a2 q => by
  obtain ⟨p, rfl, h⟩ := a2.nums
  rw [a1.int_inv]
  refine ⟨p, _, rfl, .inr (SqT.rd h), rfl, flat_N xs, ?_⟩
  simp only [Bool.false_eq_true, if_false]
  rw [inV_N]; exact q _ (.bl _)
theorem rd_notin {xs : List Nat} : Rd2 (rIn K true) (dN n) (dNs xs) (.bl (!xs.contains n)) := rd_pure fun x y H Q a1 a2 q => by
  obtain ⟨p, rfl, h⟩ := a2.nums
  rw [a1.int_inv]
  refine ⟨p, _, rfl, .inr (SqT.rd h), rfl, flat_N xs, ?_⟩
  simp only [if_true]
  rw [inV_N]; exact q _ (.bl _)
theorem At.numsL {v : V} {ns : List Nat} (h : At H v (.lst a (ns.map dN))) : v = .ref a ∧ H a = some (.lst (ns.map vN)) := by
  cases h with
  | lst h1 h2 => exact ⟨rfl, by rw [h1, h2.nums]⟩
theorem rd_inL {xs : List Nat} : Rd2 (rIn K false) (dN n) (.lst a (xs.map dN)) (.bl (xs.contains n)) := rd_pure fun x y H Q a1 a2 q => by
  obtain ⟨rfl, h⟩ := a2.numsL
  rw [a1.int_inv]
  refine ⟨a, _, rfl, .inl (SqL.of h), rfl, flat_N xs, ?_⟩
  simp only [Bool.false_eq_true, if_false]
  rw [inV_N]; exact q _ (.bl _)
/-! == and != of data -/
mutual
inductive Py : K70.D → PyData → Prop where
  | non : Py .non .none
  | bl (b : Bool) : Py (.bl b) (.bool b)
  | int (i : Int) : Py (.int i) (.int i)
  | str (s : Str) : Py (.str s) (.str s)
  | tup {ds : List K70.D} {ps : List PyData} : Pys ds ps → Py (.tup ds) (.tuple ps)
  | lst {a : Addr} {ds : List K70.D} {ps : List PyData} : Pys ds ps → Py (.lst a ds) (.list ps)
inductive Pys : List K70.D → List PyData → Prop where
  | nil : Pys [] []
  | cons {d : K70.D} {ds : List K70.D} {p : PyData} {ps : List PyData} : Py d p → Pys ds ps → Pys (d :: ds) (p :: ps)
end
mutual
theorem Py.dp : ∀ {d : K70.D} {p : PyData}, Py d p → ∀ {v : V}, At H v d → Dp K H v p
  | _, _, .non, v, h => by cases h; exact .non
  | _, _, .bl b, v, h => by cases h; exact .bl b
  | _, _, .int i, v, h => by cases h; exact .int i
  | _, _, .str s, v, h => by cases h; exact .str s
  | _, _, .tup k, v, h => by
    cases h with
    | tup h hs => exact .tup (SqT.rd h) (Pys.dp k hs)
  | _, _, .lst k, v, h => by
    cases h with
    | lst h hs => exact .lst (SqL.of h) (Pys.dp k hs)
theorem Pys.dp : ∀ {ds : List K70.D} {ps : List PyData}, Pys ds ps → ∀ {vs : List V}, Ats H vs ds → DpAll K H vs ps
  | _, _, .nil, vs, h => by cases h; exact .nil
  | _, _, .cons k ks, vs, h => by
    cases h with
    | cons h hs => exact .cons (Py.dp k h) (Pys.dp ks hs)
end
theorem At.dp {v : V} {d : K70.D} {p : PyData} (h : At H v d) (k : Py d p) : Dp K H v p := k.dp h
mutual
inductive Sh : Nat → PyData → Prop where
  | non {n : Nat} : Sh n .none
  | bl {n : Nat} (b : Bool) : Sh n (.bool b)
  | int {n : Nat} (i : Int) : Sh n (.int i)
  | str {n : Nat} {s : Str} : PyData.canLay0 (.str s) = true → Sh n (.str s)
  | tup {n : Nat} {ps : List PyData} : Shs n ps → Sh (n + 1) (.tuple ps)
  | lst {n : Nat} {ps : List PyData} : Shs n ps → Sh (n + 1) (.list ps)
inductive Shs : Nat → List PyData → Prop where
  | nil {n : Nat} : Shs n []
  | cons {n : Nat} {p : PyData} {ps : List PyData} : Sh n p → Shs n ps → Shs n (p :: ps)
end
mutual
theorem Sh.ok : ∀ {n : Nat} {p : PyData}, Sh n p → PyData.canLay0 p = true ∧ p.depth ≤ n
  | _, _, .non => ⟨rfl, Nat.zero_le _⟩
  | _, _, .bl b => ⟨rfl, Nat.zero_le _⟩
  | _, _, .int i => ⟨rfl, Nat.zero_le _⟩
  | _, _, .str h => ⟨h, Nat.zero_le _⟩
  | _, _, .tup h => let ⟨a, b⟩ := Shs.ok h; ⟨a, Nat.succ_le_succ b⟩
  | _, _, .lst h => let ⟨a, b⟩ := Shs.ok h; ⟨a, Nat.succ_le_succ b⟩
theorem Shs.ok : ∀ {n : Nat} {ps : List PyData}, Shs n ps → PyData.canLayAll0 ps = true ∧ PyData.depthAll ps ≤ n
  | _, _, .nil => ⟨rfl, Nat.zero_le _⟩
  | _, _, .cons h hs => let ⟨a, b⟩ := Sh.ok h; let ⟨a', b'⟩ := Shs.ok hs; ⟨by rw [PyData.canLayAll0, a, a']; rfl, Nat.max_le.mpr ⟨b, b'⟩⟩
end
theorem Sh.shaped {p : PyData} (h : Sh 64 p) : SeqAt.shaped p = true := by
  obtain ⟨a, b⟩ := h.ok
  unfold SeqAt.shaped
  rw [a, decide_eq_true b]; rfl
/-- comparable data, and what it reads -/
structure Cm (n : Nat) (d : K70.D) (p : PyData) : Prop where
  py : Py d p
  sh : Sh n p
structure Cms (n : Nat) (ds : List K70.D) (ps : List PyData) : Prop where
  py : Pys ds ps
  sh : Shs n ps
theorem cm_N {k : Nat} : Cm k (dN n) (.int n) := ⟨.int _, .int _⟩
theorem cm_S {k : Nat} {s : Str} (h : PyData.canLay0 (.str s) = true) : Cm k (.str s) (.str s) := ⟨.str _, .str h⟩
theorem cm_tup {k : Nat} {ps : List PyData} (h : Cms k ds ps) : Cm (k + 1) (.tup ds) (.tuple ps) := ⟨.tup h.py, .tup h.sh⟩
theorem cm_lst {k : Nat} {ps : List PyData} (h : Cms k ds ps) : Cm (k + 1) (.lst a ds) (.list ps) := ⟨.lst h.py, .lst h.sh⟩
theorem cms_nil {k : Nat} : Cms k [] [] := ⟨.nil, .nil⟩
theorem cms_cons {k : Nat} {p : PyData} {ps : List PyData} (h : Cm k d p) (hs : Cms k ds ps) : Cms k (d :: ds) (p :: ps) := ⟨.cons h.py hs.py, .cons h.sh hs.sh⟩
theorem cms_map {α : Type} {k : Nat} {f : α → K70.D} {g : α → PyData} (h : ∀ x, Cm k (f x) (g x)) : ∀ xs : List α, Cms k (xs.map f) (xs.map g)
  | [] => cms_nil
  | x :: xs => cms_cons (h x) (cms_map h xs)
theorem cms_N {k : Nat} (ns : List Nat) : Cms k (ns.map dN) (ns.map fun n : Nat => PyData.int (n : Int)) := cms_map (fun _ => cm_N) ns
theorem cm_Ns {k : Nat} (ns : List Nat) : Cm (k + 1) (dNs ns) (.tuple (ns.map fun n : Nat => PyData.int (n : Int))) := cm_tup (cms_N ns)
theorem cm_R {k : Nat} (t : Rule) : Cm (k + 2) (dRule t) (.tuple (t.map fun ns => PyData.tuple (ns.map fun n : Nat => PyData.int (n : Int)))) := cm_tup (cms_map (fun ns => cm_Ns ns) t)
theorem rd_eqD {p1 p2 : PyData} (h1 : Cm 64 d1 p1) (h2 : Cm 64 d2 p2) : Rd2 (rEqD K) d1 d2 (.bl (PyData.eqv p1 p2)) := rd_pure fun x y H Q a1 a2 q =>
  ⟨p1, p2, a1.dp h1.py, a2.dp h2.py, h1.sh.shaped, h2.sh.shaped, q _ (.bl _)⟩
theorem rd_neD {p1 p2 : PyData} (h1 : Cm 64 d1 p1) (h2 : Cm 64 d2 p2) : Rd2 (rNeD K) d1 d2 (.bl (!PyData.eqv p1 p2)) := rd_pure fun x y H Q a1 a2 q =>
  ⟨p1, p2, a1.dp h1.py, a2.dp h2.py, h1.sh.shaped, h2.sh.shaped, q _ (.bl _)⟩
theorem rd_eqSame {p : PyData} (h1 : Cm 64 d1 p) (h2 : Cm 64 d2 p) : Rd2 (rEqD K) d1 d2 (.bl true) := by
  have := rd_eqD (K := K) h1 h2
  rwa [SeqAt.eqv_refl p h1.sh.ok.1] at this
theorem rd_neSame {p : PyData} (h1 : Cm 64 d1 p) (h2 : Cm 64 d2 p) : Rd2 (rNeD K) d1 d2 (.bl false) := by
  have := rd_neD (K := K) h1 h2
  rwa [SeqAt.eqv_refl p h1.sh.ok.1] at this
theorem eqvAll_nil {α : Type} {g : α → PyData} (xs : List α) : PyData.eqvAll (xs.map g) [] = xs.isEmpty := by cases xs <;> rfl
theorem rd_eq0 {ns : List Nat} : Rd2 (rEqD K) (dNs ns) (.tup []) (.bl ns.isEmpty) := by
  have := rd_eqD (K := K) (cm_Ns (k := 63) ns) (cm_tup (k := 63) cms_nil)
  rwa [PyData.eqv, eqvAll_nil] at this
theorem rd_ne0 {ns : List Nat} : Rd2 (rNeD K) (dNs ns) (.tup []) (.bl (!ns.isEmpty)) := by
  have := rd_neD (K := K) (cm_Ns (k := 63) ns) (cm_tup (k := 63) cms_nil)
  rwa [PyData.eqv, eqvAll_nil] at this
theorem rd_ne0L {a b : Addr} {ns : List Nat} : Rd2 (rNeD K) (.lst a (ns.map dN)) (.lst b []) (.bl (!ns.isEmpty)) := by
  have := rd_neD (K := K) (cm_lst (a := a) (cms_N (k := 63) ns)) (cm_lst (k := 63) (a := b) cms_nil)
  rwa [PyData.eqv, eqvAll_nil] at this
/-! operators one side of which is a new list -/
theorem dv_opLL {f1 f2 : List K70.D} (h : ∀ a b, Rd2 r (.lst a f1) (.lst b f2) d) (ha : DvL ta ρ f1) (hb : DvL tb ρ f2) : Dv (tOp r ta tb) ρ d := fun σ H Q s q =>
  ha σ H _ s fun x H1 g1 _ a1 => hb σ H1 _ (s.go g1) fun y H2 g2 _ a2 => h x y _ _ H2 Q (a1.go g2) a2 fun v H' g3 a3 => q v H' (g1.trans (g2.trans g3)) a3
theorem dv_opVL {f2 : List K70.D} (h : ∀ b, Rd2 r d1 (.lst b f2) d) (ha : Dv ta ρ d1) (hb : DvL tb ρ f2) : Dv (tOp r ta tb) ρ d := fun σ H Q s q =>
  ha σ H _ s fun x H1 g1 a1 => hb σ H1 _ (s.go g1) fun y H2 g2 _ a2 => h y _ _ H2 Q (a1.go g2) a2 fun v H' g3 a3 => q v H' (g1.trans (g2.trans g3)) a3
theorem dv_opLV {f1 : List K70.D} (h : ∀ a, Rd2 r (.lst a f1) d2 d) (ha : DvL ta ρ f1) (hb : Dv tb ρ d2) : Dv (tOp r ta tb) ρ d := fun σ H Q s q =>
  ha σ H _ s fun x H1 g1 _ a1 => hb σ H1 _ (s.go g1) fun y H2 g2 a2 => h x _ _ H2 Q (a1.go g2) a2 fun v H' g3 a3 => q v H' (g1.trans (g2.trans g3)) a3
/-- + of lists -/
theorem dl_cat {f1 f2 : List K70.D} (ha : DvL ta ρ f1) (hb : DvL tb ρ f2) (hl : f1.length + f2.length ≤ 1000) : DvL (tOp rCat ta tb) ρ (f1 ++ f2) := fun σ H Q s q =>
  ha σ H _ s fun x H1 g1 n1 a1 => hb σ H1 _ (s.go g1) fun y H2 g2 n2 a2 => by
    have a1' := a1.go g2
    cases a1' with
    | lst h1 h2 =>
      cases a2 with
      | lst k1 k2 => exact ⟨x, y, _, _, rfl, rfl, h1, k1, Nat.le_trans (by rw [h2.length, k2.length]; exact hl) (by decide), fun p hp => q p _ (g1.trans (g2.trans (Go.new hp))) ((g1.trans g2).free hp) (go_at (h2.append k2) hp)⟩
theorem dl_catVL {a : Addr} {f1 f2 : List K70.D} (ha : Dv ta ρ (.lst a f1)) (hb : DvL tb ρ f2) (hl : f1.length + f2.length ≤ 1000) : DvL (tOp rCat ta tb) ρ (f1 ++ f2) := fun σ H Q s q =>
  ha σ H _ s fun x H1 g1 a1 => hb σ H1 _ (s.go g1) fun y H2 g2 n2 a2 => by
    have a1' := a1.go g2
    cases a1' with
    | lst h1 h2 =>
      cases a2 with
      | lst k1 k2 => exact ⟨a, y, _, _, rfl, rfl, h1, k1, Nat.le_trans (by rw [h2.length, k2.length]; exact hl) (by decide), fun p hp => q p _ (g1.trans (g2.trans (Go.new hp))) ((g1.trans g2).free hp) (go_at (h2.append k2) hp)⟩
theorem dl_catVV {a b : Addr} {f1 f2 : List K70.D} (ha : Dv ta ρ (.lst a f1)) (hb : Dv tb ρ (.lst b f2)) (hl : f1.length + f2.length ≤ 1000) : DvL (tOp rCat ta tb) ρ (f1 ++ f2) := fun σ H Q s q =>
  ha σ H _ s fun x H1 g1 a1 => hb σ H1 _ (s.go g1) fun y H2 g2 a2 => by
    have a1' := a1.go g2
    cases a1' with
    | lst h1 h2 =>
      cases a2 with
      | lst k1 k2 => exact ⟨a, b, _, _, rfl, rfl, h1, k1, Nat.le_trans (by rw [h2.length, k2.length]; exact hl) (by decide), fun p hp => q p _ (g1.trans (g2.trans (Go.new hp))) ((g1.trans g2).free hp) (go_at (h2.append k2) hp)⟩
/-- an item of a new list -/
theorem dv_ixL {f1 : List K70.D} {j : Nat} (ha : DvL ta ρ f1) (hb : Dv tb ρ (dN j)) (h : f1[j]? = some d) : Dv (tOp (rIxL K) ta tb) ρ d := dv_opLV (fun a => rd_ixL h) ha hb
/-- + of tuples -/
theorem rd_catT (hl : ds.length + es.length ≤ 1000) : Rd2 (rCatA K) (.tup ds) (.tup es) (.tup (ds ++ es)) := fun x y H Q a1 a2 q => by
  obtain ⟨a, xs, rfl, h1, h2⟩ := a1.tup_inv
  obtain ⟨b, ys, rfl, k1, k2⟩ := a2.tup_inv
  refine ⟨a, b, xs, ys, rfl, rfl, SqT.rd h1, SqT.rd k1, Nat.le_trans (by rw [h2.length, k2.length]; exact hl) (by decide), fun e => ?_, fun _ e => ?_, fun _ _ p hp => ?_⟩
  · subst e
    cases h2
    exact q _ H .refl (.tup k1 k2)
  · subst e
    cases k2
    rw [List.append_nil] at q
    exact q _ H .refl (.tup h1 h2)
  · exact q _ _ (Go.new hp) (.tup (.inl upd_same) ((h2.append k2).go (Go.new hp)))
/-- (x,) * k, k at least 1 -/
def rRep (K : PySem.W.Frag) : R2 := fun x y H Q => (∃ l xs, x = .ref l ∧ y = .int 1 ∧ SqT K H l xs ∧ Q (.ref l) H) ∨ rRepT K x y H Q
theorem op_rep1 : OpR X (binaryOp .Mult) (rRep X.K) := by
  intro pins s σ H x y v u Q I rx ry h
  rcases h with h | h
  · exact op_repT1 pins s σ H x y v u Q I rx ry h
  · exact op_repT pins s σ H x y v u Q I rx ry h
theorem ats_flat {v : V} (h : At H v d) : ∀ n : Nat, Ats H (List.replicate n [v]).flatten (List.replicate n d)
  | 0 => .nil
  | n + 1 => by
    rw [List.replicate_succ, List.replicate_succ, List.flatten_cons]
    exact .cons h (ats_flat h n)
theorem rd_rep (h1 : 1 ≤ n) (h2 : n ≤ 1000) : Rd2 (rRep K) (.tup [d]) (dN n) (.tup (List.replicate n d)) := fun x y H Q a1 a2 q => by
  obtain ⟨a, xs, rfl, k1, k2⟩ := a1.tup_inv
  cases k2 with
  | cons k2 k3 =>
    cases k3
    rw [a2.int_inv]
    by_cases e : n = 1
    · subst e
      exact .inl ⟨a, _, rfl, rfl, SqT.rd k1, q _ H .refl (.tup k1 (.cons k2 .nil))⟩
    · refine .inr ⟨a, (n : Int), _, rfl, rfl, SqT.rd k1, by simp, by omega, by omega, by simp, fun p hp => q _ _ (Go.new hp) (.tup (.inl upd_same) ?_)⟩
      rw [Int.toNat_natCast]
      exact (ats_flat k2 n).go (Go.new hp)
/-! isinstance -/
theorem dv_isi {c : V} {t u : Value} {b : Bool} (hc : ClsV c u) (ht : ∀ v H, At H v d → TyX K H v t) (hk : PySem.W.kitOne K t u = some b) (ha : Dv ta ρ d) : Dv (tCB (rIsi K) (tCons ta (tCons (tC c) tNil))) ρ (.bl b) := fun σ H Q s q =>
  ha σ H _ s fun x H1 g1 a1 => ⟨x, c, t, u, b, rfl, hc, ht x H1 a1, hk, q _ H1 g1 (.bl _)⟩
theorem ty_N : ∀ (v : V) (H : Hp), At H v (dN n) → TyX K H v (.type "int") := fun v H h => by rw [h.int_inv]; exact .base (.int _)
theorem ty_T : ∀ (v : V) (H : Hp), At H v (.tup ds) → TyX K H v (.type "tuple") := fun v H h => by
  obtain ⟨a, xs, rfl, h1, _⟩ := h.tup_inv
  rcases h1 with h1 | ⟨o, h1⟩
  · exact .base (.tup h1)
  · exact .fTuple h1
/-! sets of ints, sorted -/
theorem mem_ints {ns : List Nat} {k : Nat} : ((k : Int) ∈ ns.map fun n : Nat => (n : Int)) ↔ k ∈ ns := by
  rw [List.mem_map]
  constructor
  · rintro ⟨j, hj, e⟩
    have : j = k := by omega
    rw [← this]; exact hj
  · exact fun h => ⟨k, h, rfl⟩
theorem nodup_ints {ns : List Nat} (h : ns.Nodup) : (ns.map fun n : Nat => (n : Int)).Nodup := by
  unfold List.Nodup at h ⊢
  rw [List.pairwise_map]
  refine List.Pairwise.imp ?_ h
  intro a b hab e
  have e' : (a : Int) = (b : Int) := e
  exact hab (by omega)
abbrev rSetT (K : PySem.W.Frag) (w : World) : List V → Hp → VK → Prop := fun vs H Q => ∃ (l : Addr) (ns : List Int), vs = [V.ref l] ∧ SqT K H l (ns.map V.int) ∧ ns.length ≤ 1000 ∧
    ∀ (p : Addr) (c : Nat), H p = none → c ≤ ns.length → Q (.ref p) (upd H p (SetO w p (fun j => decide (j ∈ ns)) c))
abbrev rLenS (w : World) : List V → Hp → VK → Prop := fun vs H Q => ∃ (a : Addr) (ns : List Int) (c : Nat), vs = [V.ref a] ∧ H a = some (SetO w a (fun j => decide (j ∈ ns)) c) ∧ ns.Nodup ∧ ns.length ≤ 1000 ∧ Q (.int (ns.length : Nat)) H
/-- len(set(t)), t of different ints -/
theorem dv_lenSet {ns : List Nat} (h : Dv te ρ (dNs ns)) (nd : ns.Nodup) (hl : ns.length ≤ 1000) : Dv (tCB (rLenS w) (tCons (tCB (rSetT K w) (tCons te tNil)) tNil)) ρ (dN ns.length) := fun σ H Q s q =>
  h σ H _ s fun v H1 g1 a1 => by
    obtain ⟨a, rfl, h1⟩ := a1.nums
    refine ⟨a, ns.map fun n : Nat => (n : Int), rfl, SqT.rd (by rw [← vN_ints]; exact h1), by simpa using hl, fun p c hp hc => ?_⟩
    refine ⟨p, ns.map fun n : Nat => (n : Int), c, rfl, upd_same, nodup_ints nd, by simpa using hl, ?_⟩
    rw [List.length_map]
    exact q _ _ (g1.trans (Go.new hp)) (.int _)
theorem sorted_unique : ∀ {xs ys : List Int}, xs.Pairwise (· < ·) → ys.Pairwise (· < ·) → (∀ k, k ∈ xs ↔ k ∈ ys) → xs = ys
  | [], [], _, _, _ => rfl
  | [], y :: ys, _, _, h => by have := (h y).mpr List.mem_cons_self; cases this
  | x :: xs, [], _, _, h => by have := (h x).mp List.mem_cons_self; cases this
  | x :: xs, y :: ys, h1, h2, h => by
    obtain ⟨a1, a2⟩ := List.pairwise_cons.mp h1
    obtain ⟨b1, b2⟩ := List.pairwise_cons.mp h2
    have e : x = y := by
      rcases List.mem_cons.mp ((h x).mp List.mem_cons_self) with e | e
      · exact e
      · rcases List.mem_cons.mp ((h y).mpr List.mem_cons_self) with e' | e'
        · exact e'.symm
        · have := a1 y e'
          have := b1 x e
          omega
    subst e
    congr 1
    refine sorted_unique a2 b2 fun k => ⟨fun hk => ?_, fun hk => ?_⟩
    · rcases List.mem_cons.mp ((h k).mp (List.mem_cons_of_mem _ hk)) with e | e
      · have := a1 k hk; omega
      · exact e
    · rcases List.mem_cons.mp ((h k).mpr (List.mem_cons_of_mem _ hk)) with e | e
      · have := b1 k hk; omega
      · exact e
/-- sorted(t), t a permutation of range -/
theorem range_sorted (n : Nat) : ((List.range n).map fun k : Nat => (k : Int)).Pairwise (· < ·) := by
  rw [List.pairwise_map]
  refine List.Pairwise.imp ?_ (List.pairwise_lt_range (n := n))
  intro a b hab
  show (a : Int) < (b : Int)
  omega
abbrev rSortT (K : PySem.W.Frag) : List V → Hp → VK → Prop := fun vs H Q => ∃ (a : Addr) (ns : List Int), vs = [V.ref a] ∧ SqT K H a (ns.map V.int) ∧ ns.length < 64 ∧ ∀ (ns' : List Int) (p : Addr), ns'.Perm ns → ns'.Pairwise (· ≤ ·) → H p = none → Q (.ref p) (upd H p (.lst (ns'.map V.int)))
theorem dl_sortT {ns : List Nat} (h : Dv te ρ (dNs ns)) (hp : ns.Perm (List.range n)) (hn : n < 64) : DvL (tCB (rSortT K) (tCons te tNil)) ρ ((List.range n).map dN) := fun σ H Q s q =>
  h σ H _ s fun v H1 g1 a1 => by
    obtain ⟨a, rfl, h1⟩ := a1.nums
    have hlen : ns.length = n := by rw [hp.length_eq]; simp
    refine ⟨a, ns.map fun n : Nat => (n : Int), rfl, SqT.rd (by rw [← vN_ints]; exact h1), by simpa [hlen] using hn, fun ns' p p1 p2 hp' => ?_⟩
    have perm : ns'.Perm ((List.range n).map fun k : Nat => (k : Int)) := p1.trans (hp.map _)
    have nd : ns'.Nodup := perm.nodup_iff.mpr (nodup_ints List.nodup_range)
    have lt : ns'.Pairwise (· < ·) := by
      unfold List.Nodup at nd
      refine List.Pairwise.imp ?_ (p2.and nd)
      intro a b hab
      have h1 := hab.1
      have h2 : a ≠ b := hab.2
      omega
    have e : ns' = (List.range n).map fun k : Nat => (k : Int) := sorted_unique lt (range_sorted n) fun k => perm.mem_iff
    rw [e, ← vN_ints]
    exact q p _ (g1.trans (Go.new hp')) (g1.free hp') (go_at (Ats.ofN _) hp')
/-- sorted(set(t)) -/
theorem dl_sortSet {ns : List Nat} (h : Dv te ρ (dNs ns)) (hl : ns.length < 64) : ∀ (σ : L2.St) (H : Hp) (Q : VK), Sd H σ ρ →
    (∀ (a : Addr) (ms : List Nat) (H' : Hp), Go [] H H' → H a = none → At H' (.ref a) (.lst a (ms.map dN)) → (∀ k, k ∈ ms → k ∈ ns) → ms.length ≤ 64 → Q (.ref a) H') → tCB (rSortedSet w) (tCons (tCB (rSetT K w) (tCons te tNil)) tNil) σ H Q := fun σ H Q s q =>
  h σ H _ s fun v H1 g1 a1 => by
    obtain ⟨a, rfl, h1⟩ := a1.nums
    refine ⟨a, ns.map fun n : Nat => (n : Int), rfl, SqT.rd (by rw [← vN_ints]; exact h1), by simp; omega, fun p c hp hc => ?_⟩
    have hc' : c ≤ ns.length := by simpa using hc
    refine ⟨p, _, c, rfl, upd_same, by omega, fun xs p2 _ mem len hp2 => ?_⟩
    have key : ∀ x ∈ xs, ∃ k : Nat, x = (k : Int) ∧ k ∈ ns := fun x hx => by
      have := (mem x).mp hx
      have h3 : x ∈ ns.map fun n : Nat => (n : Int) := of_decide_eq_true this
      obtain ⟨k, hk, e⟩ := List.mem_map.mp h3
      exact ⟨k, e.symm, hk⟩
    have e : xs = (xs.map Int.toNat).map fun k : Nat => (k : Int) := by
      rw [List.map_map]
      conv => lhs; rw [← List.map_id xs]
      apply List.map_congr_left
      intro x hx
      obtain ⟨k, rfl, _⟩ := key x hx
      simp
    have gg : Go [] H (upd (upd H1 p (SetO w p (fun j => decide (j ∈ ns.map fun n : Nat => (n : Int))) c)) p2 (.lst (xs.map V.int))) := g1.trans ((Go.new hp).trans (Go.new hp2))
    refine q p2 (xs.map Int.toNat) _ gg ((g1.trans (Go.new hp)).free hp2) (.lst (xs := (xs.map Int.toNat).map vN) (by rw [upd_same, vN_ints, ← e]) (Ats.ofN _)) ?_ (by simp [len]; omega)
    intro k hk
    obtain ⟨x, hx, e2⟩ := List.mem_map.mp hk
    obtain ⟨j, rfl, hj⟩ := key x hx
    simp at e2
    exact e2 ▸ hj
/-! list(range(n)) -/
theorem rgV_N (n : Nat) : rgV 0 (n : Int) = (List.range n).map vN := by
  unfold rgV
  rw [show ((n : Int) - 0).toNat = n by omega]
  apply List.map_congr_left
  intro i _
  rw [Int.zero_add]
theorem dl_range (h : Dv ta ρ (dN n)) (hn : n ≤ 1000) : DvL (tLstRg (tRg1 ta)) ρ ((List.range n).map dN) := fun σ H Q s q =>
  h σ H _ s fun v H1 g1 a1 => ⟨n, a1.int_inv, RgOk.of_le (by omega) (by omega) (by omega) (by omega), fun p hp => by
    rw [rgV_N]
    exact q p _ (g1.trans (Go.new hp)) (g1.free hp) (go_at (Ats.ofN _) hp)⟩
/-! slices -/
theorem cutV_take (xs : List V) (k : Nat) (h : k ≤ xs.length) : cutV xs none (some (k : Int)) = xs.take k := by
  unfold cutV
  rw [HT.sIx_none, HT.sIx_nat, List.drop_zero, Nat.sub_zero, Nat.min_eq_left h]
theorem cutV_drop (xs : List V) (k : Nat) (h : k ≤ xs.length) : cutV xs (some (k : Int)) none = xs.drop k := by
  unfold cutV
  rw [HT.sIx_none, HT.sIx_nat, Nat.min_eq_left h]
  apply List.take_of_length_le
  rw [List.length_drop]
  omega
theorem dv_sl3 {j : Nat} (h : Dv te ρ (.tup ds)) (hk : Dv ta ρ (dN j)) (hj : j < ds.length) : Dv (tSl (rSlA K) te tNoPart (tPart ta)) ρ (.tup (ds.take j)) := fun σ H Q s q =>
  h σ H _ s fun v H1 g1 a1 => hk σ H1 _ (s.go g1) fun u H2 g2 a2 => by
    obtain ⟨a, xs, rfl, h1, h2⟩ := (a1.go g2).tup_inv
    refine ⟨j, a2.int_inv, a, xs, rfl, SqT.rd h1, fun z => ?_, fun _ p hp => ?_⟩
    · exfalso
      have := z.2
      rw [HT.sIx_nat, h2.length] at this
      omega
    · rw [cutV_take xs j (by rw [h2.length]; omega)]
      exact q _ _ (g1.trans (g2.trans (Go.new hp))) (.tup (.inl upd_same) ((h2.take j).go (Go.new hp)))
theorem dl_slTo {a : Addr} {j : Nat} (h : Dv te ρ (.lst a ds)) (hk : Dv ta ρ (dN j)) (hj : j ≤ ds.length) : DvL (tSl (rSlL K) te tNoPart (tPart ta)) ρ (ds.take j) := fun σ H Q s q =>
  h σ H _ s fun v H1 g1 a1 => hk σ H1 _ (s.go g1) fun u H2 g2 a2 => by
    have a1' := a1.go g2
    cases a1' with
    | lst h1 h2 => exact ⟨j, a2.int_inv, a, _, rfl, SqL.of h1, fun p hp => by
        rw [cutV_take _ j (by rw [h2.length]; exact hj)]
        exact q p _ (g1.trans (g2.trans (Go.new hp))) ((g1.trans g2).free hp) (go_at (h2.take j) hp)⟩
theorem dl_slFrom {a : Addr} {j : Nat} (h : Dv te ρ (.lst a ds)) (hk : Dv ta ρ (dN j)) (hj : j ≤ ds.length) : DvL (tSl (rSlL K) te (tPart ta) tNoPart) ρ (ds.drop j) := fun σ H Q s q =>
  h σ H _ s fun v H1 g1 a1 => hk σ H1 _ (s.go g1) fun u H2 g2 a2 => by
    have a1' := a1.go g2
    cases a1' with
    | lst h1 h2 => exact ⟨j, a2.int_inv, a, _, rfl, SqL.of h1, fun p hp => by
        rw [cutV_drop _ j (by rw [h2.length]; exact hj)]
        exact q p _ (g1.trans (g2.trans (Go.new hp))) ((g1.trans g2).free hp) (go_at (h2.drop j) hp)⟩
theorem dv_rev (h : Dv te ρ (.tup ds)) : Dv (tRevT K te) ρ (.tup ds.reverse) := fun σ H Q s q =>
  h σ H _ s fun v H1 g1 a1 => by
    obtain ⟨a, xs, rfl, h1, h2⟩ := a1.tup_inv
    exact ⟨a, xs, rfl, SqT.rd h1, fun p hp => q _ _ (g1.trans (Go.new hp)) (.tup (.inl upd_same) (h2.reverse.go (Go.new hp)))⟩
/-! xs.index(k) -/
theorem idx_spec {ns : List Nat} {k : Nat} (h : k ∈ ns) : ns[ns.idxOf k]? = some k ∧ ∀ m, m < ns.idxOf k → ns[m]? ≠ some k := by
  refine ⟨?_, fun m hm e => ?_⟩
  · rw [List.getElem?_eq_getElem (List.idxOf_lt_length_of_mem h)]
    exact congrArg some (List.getElem_idxOf (List.idxOf_lt_length_of_mem h))
  · obtain ⟨h1, h2⟩ := List.getElem?_eq_some_iff.mp e
    have key : ∀ (xs : List Nat) (m : Nat) (h : m < xs.length), xs[m] = k → xs.idxOf k ≤ m := by
      intro xs
      induction xs with
      | nil => intro m h; cases h
      | cons x xs ih =>
        intro m h e
        rw [List.idxOf_cons]
        cases m with
        | zero => have e' : x = k := e; rw [e']; simp
        | succ m =>
          have := ih m (by simpa using h) (by simpa using e)
          cases (x == k)
          · simp only [cond_false]; omega
          · simp only [cond_true]; omega
    have := key ns m h1 h2
    omega
theorem dv_indexL {ns : List Nat} {a : Addr} {k : Nat} (h : Dv te ρ (.lst a (ns.map dN))) (hk : Dv ta ρ (dN k)) (hm : k ∈ ns) : Dv (tBM K "list" (rIndex K) te (tCons ta tNil)) ρ (dN (ns.idxOf k)) := fun σ H Q s q =>
  h σ H _ s fun v H1 g1 a1 => by
    obtain ⟨rfl, h1⟩ := a1.numsL
    refine ⟨.inl ⟨rfl, _, SqL.of h1⟩, hk σ H1 _ (s.go g1) fun u H2 g2 a2 => ?_⟩
    obtain ⟨e1, e2⟩ := idx_spec hm
    refine ⟨a, _, .int (k : Nat), ns.idxOf k, .int (k : Nat), rfl, by rw [a2.int_inv], SqL.of (g2.at0 h1), rfl, flat_N ns, by rw [List.getElem?_map, e1]; rfl, by show ((k : Int) == (k : Int)) = true; simp, fun m z hm2 hz => ?_, q _ H2 (g1.trans g2) (.int _)⟩
    rw [List.getElem?_map] at hz
    cases e3 : ns[m]? with
    | none => rw [e3] at hz; cases hz
    | some j =>
      rw [e3] at hz
      have hz' : V.int (j : Nat) = z := Option.some.inj hz
      rw [← hz']
      show ((j : Int) == (k : Int)) = false
      have : j ≠ k := fun e => e2 m hm2 (e ▸ e3)
      rw [beq_eq_false_iff_ne]
      omega
abbrev rTupIndex (K : PySem.W.Frag) : V → List V → Hp → VK → Prop := fun x xs H Q => ∃ (p : Addr) (ys : List Int) (z : Int) (j : Nat), x = .ref p ∧ xs = [.int z] ∧ SqT K H p (ys.map V.int) ∧ ys[j]? = some z ∧ (∀ m, m < j → ys[m]? ≠ some z) ∧ Q (.int (j : Nat)) H
end
end K70
set_option Elab.async false
set_option linter.all false
set_option maxRecDepth 100000
set_option maxHeartbeats 4000000
namespace K70
open PySem PySem.Spec PyProof.Rows L2
section
variable {X : Cx} {K : PySem.W.Frag} {e a b : Expr} {te ta tb : TE} {pos : Pos} {w : World}
/-! the same rules with the written part named (within a comprehension the context is another one, its K the same) -/
theorem op_inK (h : X.K = K := by rfl) : OpR X (compareOp .In) (rIn K false) := by subst h; exact op_in_seq
theorem op_notInK (h : X.K = K := by rfl) : OpR X (compareOp .NotIn) (rIn K true) := by subst h; exact op_notIn_seq
theorem ix_tupK (h : X.K = K := by rfl) : IxR X (rIxT K) := by subst h; exact ix_tup
theorem ix_listK (h : X.K = K := by rfl) : IxR X (rIxL K) := by subst h; exact ix_list
theorem op_eqDK (hu : X.A.units + 64 < cLine) (h : X.K = K := by rfl) : OpR X (compareOp .Eq) (rEqD K) := by subst h; exact op_eqD hu
theorem op_neDK (hu : X.A.units + 64 < cLine) (h : X.K = K := by rfl) : OpR X (compareOp .NotEq) (rNeD K) := by subst h; exact op_neD hu
theorem op_catK (h : X.K = K := by rfl) : OpR X (binaryOp .Add) (rCatA K) := by subst h; exact op_catA
theorem op_repK (h : X.K = K := by rfl) : OpR X (binaryOp .Mult) (rRep K) := by subst h; exact op_rep1
theorem call_tupK (h : X.K = K := by rfl) : CallR X (.type "tuple") (fun xs H (Q : VK) => ∃ p ys, xs = [V.ref p] ∧ ((SqL K H p ys ∧ ∀ l, H l = none → Q (.ref l) (upd H l (.tup ys))) ∨ (SqT K H p ys ∧ Q (.ref p) H))) := by subst h; exact call_tuple_of
theorem call_listK (h : X.K = K := by rfl) : CallR X (.type "list") (fun xs H (Q : VK) => ∃ p ys, xs = [V.ref p] ∧ (SqL K H p ys ∨ SqT K H p ys) ∧ ∀ l, H l = none → Q (.ref l) (upd H l (.lst ys))) := by subst h; exact call_list_of
theorem call_lenK (h : X.K = K := by rfl) : CallR X (.builtin "len") (fun xs H (Q : VK) => ∃ p ys, xs = [V.ref p] ∧ (SqL K H p ys ∨ SqT K H p ys) ∧ Q (.int ys.length) H) := by subst h; exact call_len_seq
theorem call_isiK (h : X.K = K := by rfl) : CallR X (.builtin "isinstance") (rIsi K) := by subst h; exact call_isi
theorem cr_allK (hc : X.calm = true := by rfl) (h : X.K = K := by rfl) : CallR X (.builtin "all") (rAll K) := by subst h; exact cr_all hc
theorem cr_setK (hc : X.calm = true := by rfl) (h : X.K = K := by rfl) (hw : X.w = w := by rfl) : CallR X (.type "set") (rSetT K w) := by subst h hw; exact cr_setTup hc
theorem cr_lenSetK (hw : X.w = w := by rfl) : CallR X (.builtin "len") (rLenS w) := by subst hw; exact call_len_setO
theorem cr_sortTK (h : X.K = K := by rfl) : CallR X (.builtin "sorted") (rSortT K) := by subst h; exact cr_sortedTup
theorem cr_sortSetK (hc : X.calm = true := by rfl) (hw : X.w = w := by rfl) : CallR X (.builtin "sorted") (rSortedSet w) := by subst hw; exact cr_sortedSet hc
theorem mt_indexK (h : X.K = K := by rfl) : MtR X "list.index" (rIndex K) := by subst h; exact mt_index
theorem mt_tupIndexK (h : X.K = K := by rfl) : MtR X "tuple.index" (rTupIndex K) := by subst h; exact mt_tup_indexI
theorem sl_tupK (h : X.K = K := by rfl) : SlR X (rSlA K) := by subst h; exact sl_tupA
theorem sl_listK (h : X.K = K := by rfl) : SlR X (rSlL K) := by subst h; exact sl_list
theorem pe_revK (he : PE X e te) {k : Nat} {p1 p2 p3 pos : Pos} (h : X.K = K := by rfl) : PE X (.Subscript e (.Slice none none (some (.UnaryOp .USub (.Constant (.int 1) k p1) p2)) p3) pos) (tRevT K te) := by subst h; exact pe_revT he
theorem pe_fldK {f : Str} (he : PE X e te) (hb : attributeBase e f X.env (eval e X.env) = eval e X.env := by rfl) (h : X.K = K := by rfl) : PE X (.Attribute e f pos) (tFld K te f) := by subst h; exact pe_fld he hb
theorem pi_tupK {tg l : Expr} {tl : TE} (hl : PE X l tl) (h : X.K = K := by rfl) : PI X tg l (iTup K tl) := by subst h; exact pi_tup hl
theorem pi_listK {tg l : Expr} {tl : TE} (hl : PE X l tl) (h : X.K = K := by rfl) : PI X tg l (iList K tl) := by subst h; exact pi_list hl
end
end K70
set_option Elab.async false
set_option linter.all false
set_option maxRecDepth 100000
set_option maxHeartbeats 4000000
namespace K70
open PySem PySem.Spec PyProof.Rows L2
section
variable {K : PySem.W.Frag} {H H' : Hp} {σ : L2.St} {ρ ρ' ρ1 : Rho} {v : V} {d d1 d2 : K70.D} {ds es : List K70.D} {te ta tb : TE} {ts : TA} {t u c : TT} {t1 t2 : TS} {g : TG} {i n : Nat} {b : Bool}
/-! fewer slots known -/
structure Le (ρ ρ' : Rho) : Prop where
  len : ρ.length = ρ'.length
  le : ∀ (i : Nat) (d : K70.D), ρ'[i]? = some (some d) → ρ[i]? = some (some d)
theorem Le.refl : Le ρ ρ := ⟨rfl, fun _ _ h => h⟩
theorem Le.trans (h : Le ρ ρ1) (h' : Le ρ1 ρ') : Le ρ ρ' := ⟨h.len.trans h'.len, fun i d e => h.le i d (h'.le i d e)⟩
theorem Le.set {x : Option K70.D} (h : ρ[i]? = some none) : Le (ρ.set i x) ρ := by
  refine ⟨List.length_set .., fun j d e => ?_⟩
  by_cases hj : i = j
  · subst hj
    rw [h] at e; cases e
  · rw [List.getElem?_set_ne hj]; exact e
theorem Sd.weak (s : Sd H σ ρ) (h : Le ρ ρ') : Sd H σ ρ' := ⟨s.len.trans h.len, fun i d e => s.at_ i d (h.le i d e)⟩
theorem Dn.weak {t : TS} (h : Dn t ρ ρ1) (l : Le ρ1 ρ') : Dn t ρ ρ' := fun σ H E s q => h σ H E s fun σ' H' g s' => q σ' H' g (s'.weak l)
theorem Dn.pre {t : TS} (l : Le ρ ρ1) (h : Dn t ρ1 ρ') : Dn t ρ ρ' := fun σ H E s q => h σ H E (s.weak l) q
theorem Db.pre {t : TS} (l : Le ρ ρ1) (h : Db t ρ1 d) : Db t ρ d := fun σ H E s q => h σ H E (s.weak l) q
/-- a loop that neither returns nor changes an object; its own names are forgotten -/
theorem dn_forC {wi : TI} {tb : TS} {src : List K70.D} (hi : Di [] wi ρ src) (hb : ∀ (i : Nat) (d : K70.D), src[i]? = some d → ∃ ρ1 ρ2 sl, Dg g d ρ ρ1 sl ∧ Dn tb ρ1 ρ2 ∧ Le ρ2 ρ) : Dn (tFor wi g tb) ρ ρ := fun σ H E s q => by
  refine hi σ H _ s fun J H1 g1 y => ?_
  refine ⟨fun i m σ' H' => m = src.length - i ∧ i ≤ src.length ∧ Go [] H1 H' ∧ Sd H' σ' ρ, ⟨src.length, by simp, Nat.zero_le _, .refl, s.go g1⟩, ?_⟩
  rintro i m σ' H' ⟨rfl, hle, g2, s2⟩
  by_cases hlt : i < src.length
  · obtain ⟨y1, _⟩ := y H' g2 i
    have hx : src[i]? = some src[i] := List.getElem?_eq_getElem hlt
    obtain ⟨y2, y3⟩ := y1 _ hx
    refine .inr ⟨y2, fun σ' H' => i + 1 ≤ src.length ∧ Go [] H1 H' ∧ Sd H' σ' ρ, fun σ' H' h => ⟨src.length - (i + 1), by omega, rfl, h⟩, fun x H3 yd => ?_⟩
    obtain ⟨g3, a3⟩ := y3 x H3 yd
    obtain ⟨ρ1, ρ2, sl, h1, h2, h3⟩ := hb i _ hx
    exact h1 σ' H3 x _ (s2.go g3) a3 fun σ4 s4 _ => h2 σ4 H3 _ s4 fun σ5 H5 g5 s5 => ⟨hlt, g2.trans (g3.trans g5), s5.weak h3⟩
  · have e : i = src.length := by omega
    subst e
    exact .inl ⟨(y H' g2 _).2 rfl, q σ' H' (g1.trans g2) s2⟩
/-- .. that returns at its k-th turn -/
theorem db_forC {wi : TI} {tb : TS} {src : List K70.D} {k : Nat} (hk : k < src.length) (hi : Di [] wi ρ src) (hb : ∀ (i : Nat) (d : K70.D), i < k → src[i]? = some d → ∃ ρ1 ρ2 sl, Dg g d ρ ρ1 sl ∧ Dn tb ρ1 ρ2 ∧ Le ρ2 ρ) (hr : ∀ (e : K70.D), src[k]? = some e → ∃ ρ1 sl, Dg g e ρ ρ1 sl ∧ Db tb ρ1 d) : Db (tFor wi g tb) ρ d := fun σ H E s q => by
  refine hi σ H _ s fun J H1 g1 y => ?_
  refine ⟨fun i m σ' H' => m = k - i ∧ i ≤ k ∧ Go [] H1 H' ∧ Sd H' σ' ρ, ⟨k, by simp, Nat.zero_le _, .refl, s.go g1⟩, ?_⟩
  rintro i m σ' H' ⟨rfl, hle, g2, s2⟩
  obtain ⟨y1, _⟩ := y H' g2 i
  have hlt : i < src.length := by omega
  have hx : src[i]? = some src[i] := List.getElem?_eq_getElem hlt
  obtain ⟨y2, y3⟩ := y1 _ hx
  refine .inr ⟨y2, fun σ' H' => i + 1 ≤ k ∧ Go [] H1 H' ∧ Sd H' σ' ρ, fun σ' H' h => ⟨k - (i + 1), by omega, rfl, h⟩, fun x H3 yd => ?_⟩
  obtain ⟨g3, a3⟩ := y3 x H3 yd
  by_cases hik : i < k
  · obtain ⟨ρ1, ρ2, sl, h1, h2, h3⟩ := hb i _ hik hx
    exact h1 σ' H3 x _ (s2.go g3) a3 fun σ4 s4 _ => h2 σ4 H3 _ s4 fun σ5 H5 g5 s5 => ⟨hik, g2.trans (g3.trans g5), s5.weak h3⟩
  · have e : i = k := by omega
    subst e
    obtain ⟨ρ1, sl, h1, h2⟩ := hr _ hx
    exact h1 σ' H3 x _ (s2.go g3) a3 fun σ4 s4 _ => h2 σ4 H3 _ s4 fun v H5 g5 a5 => q v H5 (g1.trans (g2.trans (g3.trans g5))) a5
/-! a def that hands back a new list -/
def DbL (t : TS) (ρ : Rho) (ds : List K70.D) : Prop := ∀ (σ : L2.St) (H : Hp) (E : Ends), Sd H σ ρ → (∀ a H', Go [] H H' → H a = none → At H' (.ref a) (.lst a ds) → E.rt (.ref a) H') → t E σ H
theorem dbl_ret (h : DvL te ρ ds) : DbL (tRet te) ρ ds := fun σ H E s q => h σ H _ s q
theorem dbl_seq (h : Dn t1 ρ ρ1) (h2 : DbL t2 ρ1 ds) : DbL (tSeq t1 t2) ρ ds := fun σ H E s q => h σ H { E with nx := t2 E } s fun σ' H' g s' => h2 σ' H' E s' fun v H2 g2 n a => q v H2 (g.trans g2) (g.free n) a
theorem dbl_now (h : DbL t1 ρ ds) : DbL (tSeq t1 t2) ρ ds := fun σ H E s q => h σ H { E with nx := t2 E } s q
theorem dbl_ifT (hc : Dt c ρ true) (h : DbL t1 ρ ds) : DbL (tIfS c t1 t2) ρ ds := fun σ H E s q => hc σ H _ s fun H1 g1 => iteT (h σ H1 E (s.go g1) fun v H' g n a => q v H' (g1.trans g) (g1.free n) a)
theorem dbl_asgL (h : DvL te ρ ds) (h2 : ∀ a, DbL t2 (ρ.set i (some (.lst a ds))) es) : DbL (tSeq (tAsg te (gName i)) t2) ρ es := fun σ H E s q => h σ H _ s fun a H' g n k => h2 a _ H' E ((s.go g).set k) fun v H2 g2 n2 z => q v H2 (g.trans g2) (g.free n2) z
def spL (rel : List K70.D → List K70.D → Prop) : Sp := fun vs H Q _ => ∃ ds es, Ats H vs ds ∧ rel ds es ∧ ∀ a H', Go [] H H' → H a = none → At H' (.ref a) (.lst a es) → Q (.ref a) H'
theorem dl_call {rel : List K70.D → List K70.D → Prop} {E : XK} (ha : Da ts ρ ds) (hr : rel ds es) : DvL (tCall (spL rel) [] E ts) ρ es := fun σ H Q s q =>
  ha σ H _ s fun vs H1 g1 a1 => ⟨ds, es, by rw [List.append_nil]; exact a1, hr, fun v H' g n a => q v H' (g1.trans g) (g1.free n) a⟩
end
section
variable {P : Program} {w : World} {K : PySem.W.Frag} {mg : Str → Option Value} {base : Heap}
theorem mk_list {x : Str} {st : Stmt} {f : Addr} {N ps : List Str} {k : Nat} {rel : List K70.D → List K70.D → Prop} (F : ∃ fd, FunD K x x (defArgs st) (defBody st) (defScope st) [] [] f fd) (g : mg x = some (.ref f)) (S : FnScope N ps (defScope st))
    (hb : ∀ (kV doc pm : Value) (an : Option Addr) (cdv ct : Value) (us : List Value), us.length = ps.length → bindArgs (PySem.W.fnOf x x (defArgs st) (defBody st) (defScope st) .none kV doc pm an cdv ct) ⟨us, []⟩ = pure (ps.zip us))
    (len : ∀ ds es, rel ds es → ds.length = ps.length)
    (body : ∀ (cdv : Value) (A : Around) (outer : List Env) (s : Shared) (H : Hp) (E : XK) (ds es : List K70.D), Room k (A.deeper (envOfC x (defScope st) s.heap.objs.size f cdv)) → rel ds es →
      ∃ t, PSs (cxOf CX0 P w K mg base N x (defScope st) f cdv A outer s H E).nox (defBody st) t ∧ DbL t (startD N ds) es) : Use P w K mg base x (k + 1) ps (spL rel) := by
  refine mk_use F g S hb (fun vs H Q E ⟨ds, d, h1, h2, _⟩ => by rw [h1.length]; exact len ds d h2) fun cdv A outer s H vs Q E hr ⟨ds, d, h1, h2, q⟩ => ?_
  obtain ⟨t, a, b⟩ := body cdv A outer s H E ds d hr h2
  exact ⟨t, a, b _ H _ (Sd.start h1 N) q⟩
end
end K70
set_option Elab.async false
set_option linter.all false
set_option maxRecDepth 100000
set_option maxHeartbeats 4000000
namespace K70
open PySem PySem.Spec PyProof.Rows L2
section
variable {K : PySem.W.Frag} {H H' : Hp} {σ : L2.St} {ρ ρ' ρ1 : Rho} {v : V} {d d1 d2 e : K70.D} {ds es : List K70.D} {te ta tb : TE} {ts : TA} {t u c : TT} {t1 t2 t3 : TS} {g : TG} {i n L : Nat} {b : Bool} {a : Addr}
/-! a list that is built in a loop -/
mutual
/-- what is seen to be neither a list nor an open object is apart from them -/
theorem At.avX (nl : ∀ xs, H a ≠ some (.lst xs)) (no : ∀ C dx fs, H a ≠ some (.ins C dx fs)) : ∀ {v : V} {d : K70.D}, At H v d → Av [a] d
  | _, _, .non => .non
  | _, _, .bl b => .bl b
  | _, _, .int i => .int i
  | _, _, .str s => .str s
  | _, _, .tup _ hs => .tup (Ats.avX nl no hs)
  | _, _, .lst h hs => .lst (fun z => by rw [List.mem_singleton.mp z] at h; exact nl _ h) (Ats.avX nl no hs)
  | _, _, .scn _ _ hs => .scn (Ats.avX nl no hs)
  | _, _, .raw v => .raw v
  | _, _, .fru _ _ _ => .fru _
  | _, _, .ob h _ hs => .ob (fun z => by rw [List.mem_singleton.mp z] at h; exact no _ _ _ h) (Ats.avX nl no hs)
theorem Ats.avX (nl : ∀ xs, H a ≠ some (.lst xs)) (no : ∀ C dx fs, H a ≠ some (.ins C dx fs)) : ∀ {vs : List V} {ds : List K70.D}, Ats H vs ds → ∀ d ∈ ds, Av [a] d
  | _, _, .nil, _, hd => by cases hd
  | _, _, .cons h hs, d, hd => by
    cases hd with
    | head => exact At.avX nl no h
    | tail _ hd => exact Ats.avX nl no hs d hd
end
theorem At.avN (hn : H a = none) {v : V} {d : K70.D} (h : At H v d) : Av [a] d := h.avX (fun xs e => by rw [hn] at e; cases e) (fun C dx fs e => by rw [hn] at e; cases e)
def AvR (S : List Addr) (ρ : Rho) : Prop := ∀ (i : Nat) (d : K70.D), ρ[i]? = some (some d) → Av S d
theorem AvR.set {S : List Addr} (h : AvR S ρ) (k : Av S d) : AvR S (ρ.set i (some d)) := fun j e he => by
  by_cases hj : i = j
  · subst hj
    have hl : i < ρ.length := by
      have := (List.getElem?_eq_some_iff.mp he).1
      simpa using this
    rw [List.getElem?_set_self hl] at he
    cases he
    exact k
  · rw [List.getElem?_set_ne hj] at he
    exact h j e he
theorem Sd.avN (s : Sd H σ ρ) (hn : H a = none) : AvR [a] ρ := fun i d h => let ⟨_, _, k⟩ := s.at_ i d h; k.avN hn
theorem dn_asgL (h : DvL te ρ ds) (h2 : ∀ a, Dn t2 (ρ.set i (some (.lst a ds))) ρ') : Dn (tSeq (tAsg te (gName i)) t2) ρ ρ' := fun σ H E s q => h σ H _ s fun a H' g n k => h2 a _ H' E ((s.go g).set k) fun σ2 H2 g2 s2 => q σ2 H2 (g.trans g2) s2
def Dap (a : Addr) (t : TS) (ρ : Rho) (e : K70.D) (ρ' : Rho) : Prop := ∀ (σ : L2.St) (H : Hp) (E : Ends) (xs : List V), Sd H σ ρ → H a = some (.lst xs) → xs.length < 1000 →
  (∀ σ' v H', Go [a] H H' → H' a = some (.lst (xs ++ [v])) → At H' v e → Sd H' σ' ρ' → E.nx σ' H') → t E σ H
theorem Dap.weak (h : Dap a t1 ρ e ρ1) (l : Le ρ1 ρ') : Dap a t1 ρ e ρ' := fun σ H E xs s ha hl q => h σ H E xs s ha hl fun σ' v H' g h1 h2 h3 => q σ' v H' g h1 h2 (h3.weak l)
theorem dap_seq (h : Dn t1 ρ ρ1) (h2 : Dap a t2 ρ1 e ρ') : Dap a (tSeq t1 t2) ρ e ρ' := fun σ H E xs s ha hl q =>
  h σ H { E with nx := t2 E } s fun σ' H1 g s' => h2 σ' H1 E xs s' (g.at0 ha) hl fun σ2 v H2 g2 h3 h4 h5 => q σ2 v H2 (g.wide.transS g2) h3 h4 h5
theorem dap_asgL (h : DvL te ρ ds) (h2 : ∀ b, b ≠ a → Dap a t2 (ρ.set i (some (.lst b ds))) e ρ') : Dap a (tSeq (tAsg te (gName i)) t2) ρ e ρ' := fun σ H E xs s ha hl q =>
  h σ H _ s fun b H1 g n k => h2 b (fun z => by subst z; rw [ha] at n; cases n) _ H1 E xs ((s.go g).set k) (g.at0 ha) hl fun σ2 v H2 g2 h3 h4 h5 => q σ2 v H2 (g.wide.transS g2) h3 h4 h5
theorem dap_app (hL : ρ[L]? = some (some (.raw (.ref a)))) (he : Dv te ρ e) (hA : AvR [a] ρ) (hv : Av [a] e) : Dap a (tDrop (tBM K "list" rAppend (tVar L) (tCons te tNil))) ρ e ρ := fun σ H E xs s ha hl q => by
  obtain ⟨v, e1, k⟩ := s.at_ L _ hL
  cases k with
  | raw =>
    refine ⟨_, e1, .inl ⟨rfl, xs, SqL.of ha⟩, he σ H _ s fun v H1 g1 a1 => ?_⟩
    have h1 := g1.at0 ha
    have gm : Go [a] H1 (upd H1 a (.lst (xs ++ [v]))) := Go.mut h1 (fun z => z)
    exact ⟨a, xs, v, rfl, rfl, h1, Nat.lt_of_lt_of_le hl (by decide), q σ v _ (g1.wide.transS gm) upd_same (a1.goS gm hv) ((s.go g1).goS gm hA)⟩
/-- for x in ..: .. found.append(e) -/
theorem dn_forApp {wi : TI} {tb : TS} {src f : List K70.D} (hi : Di [a] wi ρ src) (hf : f.length = src.length) (hz : f.length ≤ 1000) (hA : AvR [a] ρ) (hav : ∀ e ∈ f, Av [a] e)
    (hb : ∀ (i : Nat) (d e : K70.D), src[i]? = some d → f[i]? = some e → ∃ ρ1 ρ2 sl, Dg g d ρ ρ1 sl ∧ Dap a tb ρ1 e ρ2 ∧ Le ρ2 ρ) (E : Ends) (s : Sd H σ ρ) (ha : H a = some (.lst []))
    (q : ∀ σ' H' vs, Go [a] H H' → H' a = some (.lst vs) → Ats H' vs f → Sd H' σ' ρ → E.nx σ' H') : tFor wi g tb E σ H := by
  refine hi σ H _ s fun J H1 g1 y => ?_
  refine ⟨fun i m σ' H' => m = src.length - i ∧ i ≤ src.length ∧ Go [a] H1 H' ∧ Sd H' σ' ρ ∧ ∃ vs, H' a = some (.lst vs) ∧ Ats H' vs (f.take i), ⟨src.length, by simp, Nat.zero_le _, .refl, s.go g1, [], g1.at0 ha, by rw [List.take_zero]; exact .nil⟩, ?_⟩
  rintro i m σ' H' ⟨rfl, hle, g2, s2, vs, hv, av⟩
  by_cases hlt : i < src.length
  · obtain ⟨y1, _⟩ := y H' g2 i
    have hx : src[i]? = some src[i] := List.getElem?_eq_getElem hlt
    have hlf : i < f.length := by omega
    have hxf : f[i]? = some f[i] := List.getElem?_eq_getElem hlf
    obtain ⟨y2, y3⟩ := y1 _ hx
    refine .inr ⟨y2, fun σ' H' => i + 1 ≤ src.length ∧ Go [a] H1 H' ∧ Sd H' σ' ρ ∧ ∃ vs, H' a = some (.lst vs) ∧ Ats H' vs (f.take (i + 1)), fun σ' H' h => ⟨src.length - (i + 1), by omega, rfl, h⟩, fun x H3 yd => ?_⟩
    obtain ⟨g3, a3⟩ := y3 x H3 yd
    obtain ⟨ρ1, ρ2, sl, h1, h2, h3⟩ := hb i _ _ hx hxf
    refine h1 σ' H3 x _ (s2.go g3) a3 fun σ4 s4 _ => h2 σ4 H3 _ vs s4 (g3.at0 hv) ?_ fun σ5 v H5 g5 k1 k2 s5 => ⟨hlt, (g2.transS g3.wide).transS g5, s5.weak h3, vs ++ [v], k1, ?_⟩
    · rw [av.length, List.length_take]; omega
    · have e2 : f.take (i + 1) = f.take i ++ [f[i]] := by rw [List.take_succ, hxf]; rfl
      rw [e2]
      exact ((av.go g3).goS g5 fun d hd => hav d (List.mem_of_mem_take hd)).append (.cons k2 .nil)
  · have e : i = src.length := by omega
    subst e
    refine .inl ⟨(y H' g2 _).2 rfl, q σ' H' vs (g1.wide.transS g2) hv ?_ s2⟩
    rw [← hf, List.take_length] at av
    exact av
theorem Sd.known {d' : K70.D} (s : Sd H σ (ρ.set L (some (.raw v)))) (k : At H v d') : Sd H σ (ρ.set L (some d')) := by
  refine ⟨by rw [s.len, List.length_set, List.length_set], fun j e he => ?_⟩
  by_cases hj : L = j
  · subst hj
    have hl : L < ρ.length := by
      have := (List.getElem?_eq_some_iff.mp he).1
      simpa using this
    rw [List.getElem?_set_self hl] at he
    cases he
    obtain ⟨w, e1, k1⟩ := s.at_ L (.raw v) (List.getElem?_set_self hl)
    cases k1
    exact ⟨_, e1, k⟩
  · rw [List.getElem?_set_ne hj] at he
    exact s.at_ j e (by rw [List.getElem?_set_ne hj]; exact he)
/-- found = []; for x in ..: .. found.append(e); rest -/
theorem db_build {wi : TI} {tb : TS} {src f : List K70.D} (hf : f.length = src.length) (hz : f.length ≤ 1000) (hav : ∀ e ∈ f, ∀ S, Av S e) (hi : ∀ a, AvR [a] (ρ.set L (some (.raw (.ref a)))) → Di [a] wi (ρ.set L (some (.raw (.ref a)))) src)
    (hb : ∀ a, AvR [a] (ρ.set L (some (.raw (.ref a)))) → ∀ (i : Nat) (d e : K70.D), src[i]? = some d → f[i]? = some e → ∃ ρ1 ρ2 sl, Dg g d (ρ.set L (some (.raw (.ref a)))) ρ1 sl ∧ Dap a tb ρ1 e ρ2 ∧ Le ρ2 (ρ.set L (some (.raw (.ref a)))))
    (h3 : ∀ a, Db t3 (ρ.set L (some (.lst a f))) d) : Db (tSeq (tAsg (tLst tNil) (gName L)) (tSeq (tFor wi g tb) t3)) ρ d := fun σ H E s q => by
  refine ⟨Nat.zero_le _, fun a hn => ?_⟩
  have g1 : Go [] H (upd H a (.lst [])) := Go.new hn
  have hA : AvR [a] (ρ.set L (some (.raw (.ref a)))) := (s.avN hn).set (.raw _)
  refine dn_forApp (hi a hA) hf hz hA (fun e he => hav e he _) (hb a hA) { E with nx := t3 E } ((s.go g1).set (.raw (.ref a))) upd_same fun σ' H' vs g2 k1 k2 s2 => ?_
  have gg : Go [] H H' := g1.loc hn g2
  exact h3 a σ' H' E (s2.known (.lst k1 k2)) fun v H2 g3 z => q v H2 (gg.trans g3) z
theorem dbl_build {wi : TI} {tb : TS} {src f : List K70.D} (hlt : L < ρ.length) (hf : f.length = src.length) (hz : f.length ≤ 1000) (hav : ∀ e ∈ f, ∀ S, Av S e) (hi : ∀ a, AvR [a] (ρ.set L (some (.raw (.ref a)))) → Di [a] wi (ρ.set L (some (.raw (.ref a)))) src)
    (hb : ∀ a, AvR [a] (ρ.set L (some (.raw (.ref a)))) → ∀ (i : Nat) (d e : K70.D), src[i]? = some d → f[i]? = some e → ∃ ρ1 ρ2 sl, Dg g d (ρ.set L (some (.raw (.ref a)))) ρ1 sl ∧ Dap a tb ρ1 e ρ2 ∧ Le ρ2 (ρ.set L (some (.raw (.ref a))))) :
    DbL (tSeq (tAsg (tLst tNil) (gName L)) (tSeq (tFor wi g tb) (tRet (tVar L)))) ρ f := fun σ H E s q => by
  refine ⟨Nat.zero_le _, fun a hn => ?_⟩
  have g1 : Go [] H (upd H a (.lst [])) := Go.new hn
  have hA : AvR [a] (ρ.set L (some (.raw (.ref a)))) := (s.avN hn).set (.raw _)
  refine dn_forApp (hi a hA) hf hz hA (fun e he => hav e he _) (hb a hA) { E with nx := tRet (tVar L) E } ((s.go g1).set (.raw (.ref a))) upd_same fun σ' H' vs g2 k1 k2 s2 => ?_
  have gg : Go [] H H' := g1.loc hn g2
  obtain ⟨w, e1, k⟩ := s2.at_ L (.raw (.ref a)) (List.getElem?_set_self hlt)
  cases k
  exact ⟨_, e1, q a H' gg hn (.lst k1 k2)⟩
end
end K70
set_option Elab.async false
set_option linter.all false
set_option maxRecDepth 100000
set_option maxHeartbeats 4000000
namespace K70
open PySem PySem.Spec PyProof.Rows L2
section
variable {X : Cx} {K : PySem.W.Frag} {H : Hp} {ρ : Rho} {te ta : TE} {ts : TA} {v : V} {ns : List Nat} {o e : Expr} {es : List Expr} {to : TE} {t : TA} {apos cpos : Pos}
/-! tuples whose object is known: t.index -/
theorem At.fru_tup (h : At H v (.fru ns)) : At H v (dNs ns) := by
  cases h with
  | fru h _ _ => exact .tup (.inr ⟨_, h⟩) (Ats.ofN ns)
theorem Dv.fru (h : Dv te ρ (.fru ns)) : Dv te ρ (dNs ns) := fun σ H Q s q => h σ H Q s fun v H' g a => q v H' g a.fru_tup
theorem call_tupF (hK : X.K = K := by rfl) : CallR X (.type "tuple") (fun xs H (Q : VK) => ∃ p ys, xs = [V.ref p] ∧ SqL K H p ys ∧ ∀ l (o : Obj), H l = none → o.cls = .type "tuple" → o.dict = none → Q (.ref l) (upd H l (.frz o (.tup ys)))) := by
  subst hK
  intro pins s σ H xs us Q I r h
  obtain ⟨p, ys, rfl, hq, q⟩ := h
  obtain ⟨u, rfl, rx⟩ := vals1 r
  cases rx
  obtain ⟨its, r', pl, hz⟩ := I.list hq
  have hlen := r'.length
  refine call_tuple_list pl.isList (fun h' kp => ?_) (by simp only [List.size_toArray] <;> omega)
  have I1 : L2.Inv X pins σ H { s with heap := h' } := I.kept (t' := s.toks) kp
  have I2 : L2.Inv X pins σ (upd H h'.objs.size (.frz { cls := .type "tuple", data := .seq its.toArray } (.tup ys))) { s with heap := h'.push { cls := .type "tuple", data := .seq its.toArray } } :=
    I1.laid (t' := s.toks) (fun b o e => Heap.get?_push_of_some _ e) (Nat.le_refl _) (show ObjOk X.prog X.w _ _ _ (.frz { cls := .type "tuple", data := .seq its.toArray } (.tup ys)) from ⟨Heap.get?_push_size _ rfl, hz, its, r', IsTup.new _ _⟩)
  exact ⟨.ref h'.objs.size, _, I2, rfl, q _ _ (I1.hok.fresh (Nat.le_refl _)) rfl rfl⟩
theorem dv_tupF (h : DvL te ρ (ns.map dN)) : Dv (tCB (fun xs H (Q : VK) => ∃ p ys, xs = [V.ref p] ∧ SqL K H p ys ∧ ∀ l (o : Obj), H l = none → o.cls = .type "tuple" → o.dict = none → Q (.ref l) (upd H l (.frz o (.tup ys)))) (tCons te tNil)) ρ (.fru ns) := fun σ H Q s q =>
  h σ H _ s fun a H1 g1 n a1 => by
    obtain ⟨_, h1⟩ := a1.numsL
    exact ⟨a, _, rfl, SqL.of h1, fun l o hl hc hd => q _ _ (g1.trans (Go.new hl)) (.fru upd_same hc hd)⟩
/-- t.index(k), t a tuple whose object is known -/
def tIdx (K : PySem.W.Frag) (to : TE) (t : TA) : TE := fun σ H Q => to σ H fun x H1 => (∃ p o xs, x = .ref p ∧ H1 p = some (.frz o (.tup xs)) ∧ o.cls = .type "tuple" ∧ o.dict = none) ∧ t σ H1 fun xs H2 => rTupIndex K x xs H2 Q
theorem pe_tidx (ho : PE X o to) (ha : PA X (e :: es) t)
    (hbase : attributeBase o "index" X.env (eval o X.env) = eval o X.env := by rfl)
    (hfew : ((backTo cpos (starEach (e :: es) X.env)).all (fun x => !x.1) && (backToKw cpos (keywordEach [] X.env)).all (fun x => x.1.isSome)
      && decide ((e :: es).length + ([] : List Keyword).length + (if ([] : List Keyword).isEmpty then 0 else 1) < 30)) = true := by rfl)
    (hline : (apos.endLine == cpos.line) = true := by rfl) (hs : starEach (e :: es) X.env = (false, eval e X.env) :: starEach es X.env := by rfl) (hplain : (backTo cpos (starEach es X.env)).any (·.1) = false := by rfl) (hK : X.K = K := by rfl) :
    PE X (.Call (.Attribute o "index" apos) (e :: es) [] cpos) (tIdx K to t) := by
  subst hK
  refine ⟨fun pins s σ H Q I h => ?_⟩
  refine wpAny_Call_method_late hbase hfew hline rfl (thn (ho.run pins s σ H _ I h) fun v s1 ⟨x, H1, I1, r1, ty, q1⟩ => ?_)
  obtain ⟨p, ob, xs, rfl, hp, hc, hd⟩ := ty
  obtain rfl : v = Value.ref p := r1
  have z : s1.heap.get? p = some ob := (I1.hok p _ hp).1
  refine ⟨"tuple", "tuple.index", PySem.F.plainAttrs_tuple, PySem.F.slot_tuple_index, PySem.F.type_tuple_index, ⟨ob, z, hc⟩, fun a ea => by cases ea; exact ⟨ob, z, hd⟩, ?_⟩
  have hA := ha.run cpos pins s1 σ H1 _ I1 q1
  rw [hs] at hA ⊢
  refine Calls.callWith_builtin (by show (false || (backTo cpos (starEach es X.env)).any (·.1)) = false; rw [hplain] <;> rfl) (Calls.evalArgs_plain ?_)
  exact thn hA fun us s2 ⟨vs, H2, I2, r2, q2⟩ => mt_tup_indexI pins s2 σ H2 (V.ref p) vs _ us Q I2 rfl r2 q2
theorem dv_indexF {k : Nat} (h : Dv te ρ (.fru ns)) (hk : Dv ta ρ (dN k)) (hm : k ∈ ns) : Dv (tIdx K te (tCons ta tNil)) ρ (dN (ns.idxOf k)) := fun σ H Q s q =>
  h σ H _ s fun v H1 g1 a1 => by
    have a1' := a1
    cases a1 with
    | fru h1 hc hd =>
      refine ⟨⟨_, _, _, rfl, h1, hc, hd⟩, hk σ H1 _ (s.go g1) fun u H2 g2 a2 => ?_⟩
      obtain ⟨p, e0, hp⟩ := (a1'.go g2).fru_tup.nums
      obtain ⟨e1, e2⟩ := idx_spec hm
      refine ⟨p, ns.map fun n : Nat => (n : Int), (k : Int), ns.idxOf k, e0, by rw [a2.int_inv], SqT.rd (by rw [← vN_ints]; exact hp), by rw [List.getElem?_map, e1]; rfl, fun m hm2 hz => ?_, q _ H2 (g1.trans g2) (.int _)⟩
      rw [List.getElem?_map] at hz
      cases e3 : ns[m]? with
      | none => rw [e3] at hz; cases hz
      | some j =>
        rw [e3] at hz
        have hz' : (j : Int) = (k : Int) := Option.some.inj hz
        exact e2 m hm2 (by rw [e3]; congr 1; omega)
end
end K70
set_option Elab.async false
set_option linter.all false
set_option maxRecDepth 100000
set_option maxHeartbeats 4000000
namespace K70
open PySem PySem.Spec PyProof.Rows L2
local macro_rules | `(tactic| walk_at "d1") => `(tactic| first
  | ((with_reducible refine' dv_var ?hh); (case hh => exact rfl))
  | with_reducible exact dv_cS
  | with_reducible exact dv_cB
  | with_reducible exact dv_c0
  | ((with_reducible refine' dv_cN ?hh); (case hh => exact rfl))
  | with_reducible exact dv_neg1
  | with_reducible exact dv_cI
  | with_reducible exact da_nil
  | with_reducible refine' da_cons ?_ ?_
  | with_reducible refine' da_starT ?_ ?_
  | with_reducible refine' da_starL ?_ ?_
  | with_reducible refine' dv_op rd_addN ?_ ?_
  | with_reducible refine' dv_op (rd_subN ?_) ?_ ?_
  | with_reducible refine' dv_op rd_ltN ?_ ?_
  | with_reducible refine' dv_op rd_leN ?_ ?_
  | with_reducible refine' dv_op rd_gtN ?_ ?_
  | with_reducible refine' dv_op rd_eqN ?_ ?_
  | with_reducible refine' dv_op rd_neN ?_ ?_
  | with_reducible refine' dv_op rd_eqS ?_ ?_
  | with_reducible refine' dv_op rd_in ?_ ?_
  | with_reducible refine' dv_op rd_notin ?_ ?_
  | with_reducible refine' dv_op rd_eq0 ?_ ?_
  | with_reducible refine' dv_op rd_ne0 ?_ ?_
  | with_reducible refine' dt_test ?_
  | with_reducible refine' dt_tB ?_
  | with_reducible exact dt_yes
  | with_reducible refine' dt_not ?_
  | with_reducible refine' dt_and ?_ fun _ => ?_
  | with_reducible refine' dt_or ?_ fun _ => ?_
  | with_reducible refine' dv_andV ?_ fun _ => ?_
  | with_reducible refine' dv_orV ?_ fun _ => ?_
  | with_reducible refine' dv_notV ?_
  | with_reducible refine' dv_chain rd_leN rd_leN ?_ ?_ ?_
  | ((with_reducible refine' dv_lenN (dv_var ?hh)); (case hh => exact rfl))
  | ((with_reducible refine' dv_lenR (dv_var ?hh)); (case hh => exact rfl))
  | with_reducible refine' dv_lenN ?_
  | with_reducible refine' dv_lenR ?_
  | with_reducible refine' dv_max ?_ ?_
  | with_reducible refine' di_tup ?_
  | with_reducible refine' di_lst ?_)
local macro_rules | `(tactic| walk_at "dv") => `(tactic| all_goals (repeat' walk_at "d1"))

section
variable {P : Program} {w : World} {K : PySem.W.Frag} {mg : Str → Option Value} {base : Heap}
theorem kit_ii : PySem.W.kitOne K (.type "int") (.type "int") = some true := kit_ty (by decide +kernel)
theorem kit_ib : PySem.W.kitOne K (.type "int") (.type "bool") = some false := kit_ty (by decide +kernel)
theorem kit_tt : PySem.W.kitOne K (.type "tuple") (.type "tuple") = some true := kit_ty (by decide +kernel)
/-- low <= value <= high, of numbers -/
def relW (ds : List D) (d : D) : Prop := ∃ v l h : Nat, ds = [dN v, dN l, dN h] ∧ d = .bl (decide (l ≤ v) && decide (v ≤ h))
theorem u_is_whole (T : Tx K mg) : Use P w K mg base "is_whole" 1 ["value", "low", "high"] (spP relW) := by
  have scN := (⟨rfl, rfl, rfl, by decide +kernel, rfl, by decide +kernel, by decide +kernel⟩ : FnScope ["value", "low", "high"] ["value", "low", "high"] (defScope s_is_whole))
  refine mk_pure T.f_is_whole T.glo_is_whole scN (fun kV doc pm an cdv ct us hl => match us, hl with | [_, _, _], _ => rfl) (fun ds d ⟨v, l, h, e, _⟩ => by rw [e]; rfl) fun cdv A outer s H E ds d hr ⟨v, l, h, e1, e2⟩ => ?_
  subst e1 e2
  refine ⟨_, (pss_one (ps_ret (pe_and (pe_callB (call_isiK (K := K)) (by rfl) T.free_isinstance (by decide +kernel) (pa_cons (pv 0) (pa_cons (pe_bltn (v := .ty "int") (u := .type "int") rfl T.free_int (by decide +kernel) rfl) pa_nil))) (pe_and (pe_not (pe_callB (call_isiK (K := K)) (by rfl) T.free_isinstance (by decide +kernel) (pa_cons (pv 0) (pa_cons (pe_bltn (v := .ty "bool") (u := .type "bool") rfl T.free_bool (by decide +kernel) rfl) pa_nil)))) (pe_one (pe_chain op_le op_le (pv 1) (pv 0) (pv 2))))))), ?_⟩
  refine' df_b (db_ret (Dv.to (dv_andV (dv_isi (.ty _) ty_N kit_ii ?_) fun _ => dv_andV (dv_notV (dv_isi (.ty _) ty_N kit_ib ?_)) fun _ => ?_) ?_))
  walk_at "dv"
  simp
theorem u_is_integer (T : Tx K mg) : Use P w K mg base "is_integer" 1 ["value", "low", "high"] (spP relW) := by
  have scN := (⟨rfl, rfl, rfl, by decide +kernel, rfl, by decide +kernel, by decide +kernel⟩ : FnScope ["value", "low", "high"] ["value", "low", "high"] (defScope s_is_integer))
  refine mk_pure T.f_is_integer T.glo_is_integer scN (fun kV doc pm an cdv ct us hl => match us, hl with | [_, _, _], _ => rfl) (fun ds d ⟨v, l, h, e, _⟩ => by rw [e]; rfl) fun cdv A outer s H E ds d hr ⟨v, l, h, e1, e2⟩ => ?_
  subst e1 e2
  refine ⟨_, (pss_one (ps_ret (pe_and (pe_callB (call_isiK (K := K)) (by rfl) T.free_isinstance (by decide +kernel) (pa_cons (pv 0) (pa_cons (pe_bltn (v := .ty "int") (u := .type "int") rfl T.free_int (by decide +kernel) rfl) pa_nil))) (pe_and (pe_not (pe_callB (call_isiK (K := K)) (by rfl) T.free_isinstance (by decide +kernel) (pa_cons (pv 0) (pa_cons (pe_bltn (v := .ty "bool") (u := .type "bool") rfl T.free_bool (by decide +kernel) rfl) pa_nil)))) (pe_one (pe_chain op_le op_le (pv 1) (pv 0) (pv 2))))))), ?_⟩
  refine' df_b (db_ret (Dv.to (dv_andV (dv_isi (.ty _) ty_N kit_ii ?_) fun _ => dv_andV (dv_notV (dv_isi (.ty _) ty_N kit_ib ?_)) fun _ => ?_) ?_))
  walk_at "dv"
  simp
/-- a row of a rule of n lanes -/
def relPref (ds : List D) (d : D) : Prop := ∃ (r : List Nat) (n : Nat), ds = [dNs r, dN n] ∧ r.Perm (List.range n) ∧ 1 ≤ n ∧ n ≤ 50 ∧ d = .bl true
theorem u_is_preference (T : Tx K mg) : Use P w K mg base "is_preference" 2 ["value", "many"] (spP relPref) := by
  have scN := (⟨rfl, rfl, rfl, by decide +kernel, rfl, by decide +kernel, by decide +kernel⟩ : FnScope ["value", "many", "lane"] ["value", "many"] (defScope s_is_preference))
  refine mk_pure T.f_is_preference T.glo_is_preference scN (fun kV doc pm an cdv ct us hl => match us, hl with | [_, _], _ => rfl) (fun ds d ⟨_, _, e, _⟩ => by rw [e]; rfl) fun cdv A outer s H E ds d hr ⟨r, n, e1, hp, h1, h2, e2⟩ => ?_
  subst e1 e2
  have hl : r.length = n := by rw [hp.length_eq]; simp
  refine ⟨_, (pss_cons (ps_if (PW.pt (pw_or (pt_not (pt_val (pe_callB (call_isiK (K := K)) (by rfl) T.free_isinstance (by decide +kernel) (pa_cons (pv 0) (pa_cons (pe_bltn (v := .ty "tuple") (u := .type "tuple") rfl T.free_tuple (by decide +kernel) rfl) pa_nil))))) (pw_or1 (pt_cmpR op_ne (pe_callB (call_lenK (K := K)) (by rfl) T.free_len PySem.boot_len (pa_cons (pv 0) pa_nil)) (pv 1) (nomark _))))) (pss_one (ps_ret pe_bl)) pss_nil) (pss_one (ps_ret (pe_and (pe_callB (cr_allK (K := K)) (by rfl) T.free_all (by decide +kernel) (pa_cons (pe_lc (own := [("lane", 2)]) (g := gName 2) (tt := tYes) rfl scN.nd (pi_tupK (K := K) (pv 0)) (blkOk_by (N := ["value", "many", "lane"]) (sc := defScope s_is_preference) (own := [("lane", 2)]) (by decide +kernel)) (fun _ _ _ _ _ => (pg_name (i := 2) scN.nd rfl (Or.inl rfl))) (fun _ _ _ _ _ => pts_nil) (fun _ _ _ _ _ => (pe_use (u_is_integer T) hr (by decide) rfl (pa_cons (pv 2) (pa_cons pe_int (pa_cons (pe_op op_sub (pv 1) pe_int) pa_nil)))))) pa_nil)) (pe_one (pe_cmpR op_eq (pe_callB (cr_lenSetK (w := w)) (by rfl) T.free_len PySem.boot_len (pa_cons (pe_callTy (cr_setK (K := K) (w := w)) (by rfl) T.free_set (by decide +kernel) (pa_cons (pv 0) pa_nil)) pa_nil)) (pv 1) (nomark _))))))), ?_⟩
  have hn : r.Nodup := (hp.nodup_iff).mpr List.nodup_range
  refine' df_b (db_seq (dn_skip (Dt.to (b := !true || !decide (r.length = n)) (dt_or (dt_not (dt_tB (dv_isi (.ty _) ty_T kit_tt ?_))) fun _ => dt_test ?_) (by simp [hl]))) (db_ret (Dv.to (dv_andV (dv_all (bs := r.map fun _ => true) (DvL.to (dl_lc (xs := r) (emb := dN) (p := fun _ => true) (f := fun _ => .bl true) (di_tup ?_) (by omega) (fun x _ => dg_name) (by simp) (fun _ _ => .bl _) (fun x _ => dt_yes) fun x hx _ => dv_call (ds := [dN x, dN 0, dN (n - 1)]) (d := .bl true) (da_cons ?_ (da_cons ?_ (da_cons (dv_op (rd_subN h1) ?_ ?_) ?_))) ⟨x, 0, n - 1, rfl, ?_⟩) (by rw [List.filter_eq_self.mpr (fun _ _ => rfl), List.map_map]; rfl))) fun _ => dv_op (rd_eqN (n := r.length) (m := n)) (dv_lenSet ?_ hn (by omega)) ?_) (by simp [hl]))))
  walk_at "dv"
  have : x < n := by have := (hp.mem_iff (a := x)).mp hx; simpa using this
  simp; omega
/-- a rule has no error -/
def relRule (ds : List D) (d : D) : Prop := ∃ (t : Rule) (n : Nat), ds = [dRule t] ∧ RuleOk n t ∧ d = .non
theorem RuleOk.get {n : Nat} {t : Rule} (R : RuleOk n t) {i : Nat} {d : D} (h : (t.map dNs)[i]? = some d) : ∃ r, d = dNs r ∧ r.Perm (List.range n) := by
  rw [List.getElem?_map] at h
  cases e : t[i]? with
  | none => rw [e] at h; cases h
  | some r =>
    rw [e] at h
    exact ⟨r, (Option.some.inj h).symm, R.row r (List.mem_of_getElem? e)⟩
theorem u_rule_error (T : Tx K mg) : Use P w K mg base "rule_error" 3 ["value"] (spP relRule) := by
  have scN := (⟨rfl, rfl, rfl, by decide +kernel, rfl, by decide +kernel, by decide +kernel⟩ : FnScope ["value", "at", "preference"] ["value"] (defScope s_rule_error))
  refine mk_pure T.f_rule_error T.glo_rule_error scN (fun kV doc pm an cdv ct us hl => match us, hl with | [_], _ => rfl) (fun ds d ⟨_, _, e, _⟩ => by rw [e]; rfl) fun cdv A outer s H E ds d hr ⟨t, n, e1, R, e2⟩ => ?_
  subst e1 e2
  have hl := R.len
  have h1 := R.pos
  have h2 := R.top
  refine ⟨_, (pss_cons (ps_if (PW.pt (pw_or (pt_not (pt_val (pe_callB (call_isiK (K := K)) (by rfl) T.free_isinstance (by decide +kernel) (pa_cons (pv 0) (pa_cons (pe_bltn (v := .ty "tuple") (u := .type "tuple") rfl T.free_tuple (by decide +kernel) rfl) pa_nil))))) (pw_or1 (pt_not (pt_chain op_le op_le pe_int (pe_callB (call_lenK (K := K)) (by rfl) T.free_len PySem.boot_len (pa_cons (pv 0) pa_nil)) (pe_op op_add (pe_glob (v := .int 6) rfl (T.int_MAX_LANES).choose_spec ⟨_, rfl⟩) pe_int)))))) (pss_one (ps_ret (pe_tup (pa_cons pe_non (pa_cons pe_str pa_nil))))) pss_nil) (pss_cons (ps_for PassesOwn.never rfl (pi_enumT rfl T.free_enumerate (pa_cons (pv 0) pa_nil)) (pg_tup rfl (pgs_cons (pg_name (i := 1) scN.nd rfl (Or.inl rfl)) (pgs_cons (pg_name (i := 2) scN.nd rfl (Or.inl rfl)) pgs_nil))) (pss_one (ps_if (pt_not (pt_val (pe_use (u_is_preference T) hr (by decide) rfl (pa_cons (pv 2) (pa_cons (pe_op op_sub (pe_callB (call_lenK (K := K)) (by rfl) T.free_len PySem.boot_len (pa_cons (pv 0) pa_nil)) pe_int) pa_nil))))) (pss_one (ps_ret (pe_tup (pa_cons (pv 1) (pa_cons pe_str pa_nil))))) pss_nil))) (pss_one (ps_ret pe_non)))), ?_⟩
  refine' df_b (db_seq (dn_skip (Dt.to (b := !true || !(decide (2 ≤ t.length) && decide (t.length ≤ 6 + 1))) (dt_or (dt_not (dt_tB (dv_isi (.ty _) ty_T kit_tt ?_))) fun _ => dt_not (dt_test (dv_chain rd_leN rd_leN ?_ ?_ ?_))) (by simp [hl]; omega))) (db_seq (dn_forC (di_enum (da_cons (dv_var (d := dRule t) rfl) da_nil)) fun i d e => ?_) (db_ret dv_c0)))
  walk_at "dv"
  · rw [List.getElem?_map, List.getElem?_zipIdx] at e
    cases q : (t.map dNs)[i]? with
    | none => rw [q] at e; cases e
    | some d' =>
      rw [q] at e
      obtain ⟨r, rfl, hp⟩ := R.get q
      have e' : D.tup [dN (0 + i), dNs r] = d := Option.some.inj e
      subst e'
      refine ⟨_, _, _, dg_tup (dgs_cons dg_name (dgs_cons dg_name dgs_nil)) rfl, dn_skip (Dt.to (dt_not (dt_tB (dv_call (ds := [dNs r, dN (t.length - 1)]) (d := .bl true) ?_ ⟨r, n, by rw [hl]; rfl, hp, h1, by omega, rfl⟩))) rfl), (Le.set rfl).trans (Le.set rfl)⟩
      walk_at "dv"
      omega
/-- a lane of a rule -/
def relLane (ds : List D) (d : D) : Prop := ∃ (t : Rule) (n l : Nat), ds = [dRule t, dN l] ∧ RuleOk n t ∧ l < n ∧ d = .bl true
theorem u_is_lane (T : Tx K mg) : Use P w K mg base "is_lane" 2 ["rule", "value"] (spP relLane) := by
  have scN := (⟨rfl, rfl, rfl, by decide +kernel, rfl, by decide +kernel, by decide +kernel⟩ : FnScope ["rule", "value"] ["rule", "value"] (defScope s_is_lane))
  refine mk_pure T.f_is_lane T.glo_is_lane scN (fun kV doc pm an cdv ct us hl => match us, hl with | [_, _], _ => rfl) (fun ds d ⟨_, _, _, e, _⟩ => by rw [e]; rfl) fun cdv A outer s H E ds d hr ⟨t, n, l, e1, R, hlt, e2⟩ => ?_
  subst e1 e2
  have hl := R.len
  refine ⟨_, (pss_one (ps_ret (pe_use (u_is_integer T) hr (by decide) rfl (pa_cons (pv 1) (pa_cons pe_int (pa_cons (pe_op op_sub (pe_callB (call_lenK (K := K)) (by rfl) T.free_len PySem.boot_len (pa_cons (pv 0) pa_nil)) pe_int) pa_nil)))))), ?_⟩
  refine' df_b (db_ret (dv_call (ds := [dN l, dN 0, dN (t.length - 2)]) ?_ ⟨l, 0, t.length - 2, rfl, by simp; omega⟩))
  walk_at "dv"
  omega
/-- the preference that decides -/
def prefAt (t : Rule) : Option Nat → List Nat
  | none => t.getD 0 []
  | some l => t.getD (1 + l) []
def relPA (ds : List D) (d : D) : Prop := ∃ (t : Rule) (n : Nat) (o : Option Nat), ds = [dRule t, dCar o] ∧ RuleOk n t ∧ (∀ l, o = some l → l < n) ∧ d = dNs (prefAt t o)
theorem u_preference_after (T : Tx K mg) : Use P w K mg base "preference_after" 3 ["rule", "last"] (spP relPA) := by
  have scN := (⟨rfl, rfl, rfl, by decide +kernel, rfl, by decide +kernel, by decide +kernel⟩ : FnScope ["rule", "last"] ["rule", "last"] (defScope s_preference_after))
  refine mk_pure T.f_preference_after T.glo_preference_after scN (fun kV doc pm an cdv ct us hl => match us, hl with | [_, _], _ => rfl) (fun ds d ⟨_, _, _, e, _⟩ => by rw [e]; rfl) fun cdv A outer s H E ds d hr ⟨t, n, o, e1, R, ho, e2⟩ => ?_
  subst e1 e2
  have hl := R.len
  refine ⟨_, (pss_cons (ps_if (pt_cmpR op_isN (pv 1) pe_non (nomark _)) (pss_one (ps_ret (pe_ix (ix_tupK (K := K)) (pv 0) pe_int (fun _ _ => rfl)))) pss_nil) (pss_cons (ps_if (pt_not (pt_val (pe_use (u_is_lane T) hr (by decide) rfl (pa_cons (pv 0) (pa_cons (pv 1) pa_nil))))) (pss_one ps_never) pss_nil) (pss_one (ps_ret (pe_ix (ix_tupK (K := K)) (pv 0) (pe_op op_add pe_int (pv 1)) (fun _ _ => rfl)))))), ?_⟩
  cases o with
  | none =>
    refine' df_b (db_now (db_ifT (dt_test (dv_op (rd_isN (d := .non) (fun w h => by cases h)) ?_ ?_)) (db_ret (dv_op (rd_ixR (ru := t) (j := 0) (by omega)) ?_ ?_))))
    walk_at "dv"
  | some l =>
    have := ho l rfl
    refine' df_b (db_seq (dn_skip (dt_test (dv_op (rd_isN (d := dN l) (fun w h => by cases h)) ?_ ?_))) (db_seq (dn_skip (Dt.to (dt_not (dt_tB (dv_call (ds := [dRule t, dN l]) (d := .bl true) ?_ ⟨t, n, l, rfl, R, this, rfl⟩))) rfl)) (db_ret (dv_op (rd_ixR (ru := t) (j := 1 + l) (by omega)) ?_ ?_))))
    walk_at "dv"
theorem u_check_rule (T : Tx K mg) : Use P w K mg base "check_rule" 4 ["value"] (spP relRule) := by
  have scN := (⟨rfl, rfl, rfl, by decide +kernel, rfl, by decide +kernel, by decide +kernel⟩ : FnScope ["value", "error"] ["value"] (defScope s_check_rule))
  refine mk_pure T.f_check_rule T.glo_check_rule scN (fun kV doc pm an cdv ct us hl => match us, hl with | [_], _ => rfl) (fun ds d ⟨_, _, e, _⟩ => by rw [e]; rfl) fun cdv A outer s H E ds d hr ⟨t, n, e1, R, e2⟩ => ?_
  subst e1 e2
  refine ⟨_, (pss_cons (ps_set (i := 1) scN.nd rfl (Or.inl rfl) (pe_use (u_rule_error T) hr (by decide) rfl (pa_cons (pv 0) pa_nil))) (pss_one (ps_if (pt_cmpR op_notN (pv 1) pe_non (nomark _)) (pss_one ps_never) pss_nil))), ?_⟩
  refine' df_n (dn_seq (dn_asg (dv_call (ds := [dRule t]) (d := .non) ?_ ⟨t, n, rfl, R, rfl⟩)) (dn_skip (dt_test (dv_op (rd_notN (d := .non) (fun w h => by cases h)) ?_ ?_))))
  walk_at "dv"
/-- the waiting cars -/
def relWait (ds : List D) (d : D) : Prop := ∃ came done : List Nat, ds = [dNs came, dNs done] ∧ came.length ≤ 100 ∧ d = dNs (waiting came done)
theorem u_waiting_cars (T : Tx K mg) : Use P w K mg base "waiting_cars" 1 ["came", "done"] (spP relWait) := by
  have scN := (⟨rfl, rfl, rfl, by decide +kernel, rfl, by decide +kernel, by decide +kernel⟩ : FnScope ["came", "done", "car"] ["came", "done"] (defScope s_waiting_cars))
  refine mk_pure T.f_waiting_cars T.glo_waiting_cars scN (fun kV doc pm an cdv ct us hl => match us, hl with | [_, _], _ => rfl) (fun ds d ⟨_, _, e, _⟩ => by rw [e]; rfl) fun cdv A outer s H E ds d hr ⟨came, done, e1, hl, e2⟩ => ?_
  subst e1 e2
  refine ⟨_, (pss_one (ps_ret (pe_callTy (call_tupK (K := K)) (by rfl) T.free_tuple (by decide +kernel) (pa_cons (pe_lc (own := [("car", 2)]) (g := gName 2) rfl scN.nd (pi_range1 rfl T.free_range (pa_cons (pe_callB (call_lenK (K := K)) (by rfl) T.free_len PySem.boot_len (pa_cons (pv 0) pa_nil)) pa_nil)) (blkOk_by (N := ["came", "done", "car"]) (sc := defScope s_waiting_cars) (own := [("car", 2)]) (by decide +kernel)) (fun _ _ _ _ _ => (pg_name (i := 2) scN.nd rfl (Or.inl rfl))) (fun _ _ _ _ _ => (pts_one (pt_cmpR (op_notInK (K := K)) (pv 2) (pv 1) (by rfl)))) (fun _ _ _ _ _ => (pv 2))) pa_nil)))), ?_⟩
  refine' df_b (db_ret (dv_tupL (dl_lc (xs := List.range came.length) (emb := dN) (f := dN) (p := fun c => !done.contains c) (di_rng1 ?_ (by omega)) (by simp; omega) (fun x _ => dg_name) (by simp) (fun x S => av_N) (fun x _ => ?_) fun x _ _ => ?_)))
  walk_at "dv"
/-- the lane of the car that passed last -/
def lastLane (came done : List Nat) : Option Nat := done.getLast?.map fun c => ix came c
def relLast (ds : List D) (d : D) : Prop := ∃ came done : List Nat, ds = [dNs came, dNs done] ∧ (∀ c ∈ done, c < came.length) ∧ d = dCar (lastLane came done)
theorem u_last_lane (T : Tx K mg) : Use P w K mg base "last_lane" 1 ["came", "done"] (spP relLast) := by
  have scN := (⟨rfl, rfl, rfl, by decide +kernel, rfl, by decide +kernel, by decide +kernel⟩ : FnScope ["came", "done"] ["came", "done"] (defScope s_last_lane))
  refine mk_pure T.f_last_lane T.glo_last_lane scN (fun kV doc pm an cdv ct us hl => match us, hl with | [_, _], _ => rfl) (fun ds d ⟨_, _, e, _⟩ => by rw [e]; rfl) fun cdv A outer s H E ds d hr ⟨came, done, e1, hd, e2⟩ => ?_
  subst e1 e2
  refine ⟨_, (pss_one (ps_ret (pe_ifExp (pt_cmpR (op_neDK (K := K) hr.units) (pv 1) (pe_tup pa_nil) (nomark _)) (pe_ix (ix_tupK (K := K)) (pv 0) (pe_ix (ix_tupK (K := K)) (pv 1) (pe_un un_neg pe_int) (fun _ _ => rfl)) (fun _ _ => rfl)) pe_non))), ?_⟩
  refine' df_b (db_ret (dv_if (b := !done.isEmpty) (dt_test (dv_op (rd_ne0 (ns := done)) ?_ (dv_tup da_nil (by simp)))) (fun h => ?_) fun h => ?_))
  walk_at "dv"
  · cases q : done.getLast? with
    | none =>
      rw [List.getLast?_eq_none_iff] at q
      rw [q] at h; cases h
    | some c =>
      have hc := hd c (List.mem_of_getLast? q)
      show Dv _ _ (dCar (done.getLast?.map fun c => ix came c))
      rw [q]
      refine' dv_op (rd_ixN (ns := came) hc) ?_ (dv_op (rd_ixLast q) ?_ ?_)
      walk_at "dv"
  · cases done with
    | nil => exact dv_c0
    | cons c cs => cases h
end
end K70
set_option Elab.async false
set_option linter.all false
set_option maxRecDepth 100000
set_option maxHeartbeats 4000000
namespace K70
open PySem PySem.Spec PyProof.Rows L2
local macro_rules | `(tactic| walk_at "d1") => `(tactic| first
  | ((with_reducible refine' dv_var ?hh); (case hh => exact rfl))
  | with_reducible exact dv_cS
  | with_reducible exact dv_cB
  | with_reducible exact dv_c0
  | ((with_reducible refine' dv_cN ?hh); (case hh => exact rfl))
  | with_reducible exact dv_neg1
  | with_reducible exact dv_cI
  | with_reducible exact da_nil
  | with_reducible refine' da_cons ?_ ?_
  | with_reducible refine' da_starT ?_ ?_
  | with_reducible refine' da_starL ?_ ?_
  | with_reducible refine' dv_op rd_addN ?_ ?_
  | with_reducible refine' dv_op (rd_subN ?_) ?_ ?_
  | with_reducible refine' dv_op rd_ltN ?_ ?_
  | with_reducible refine' dv_op rd_leN ?_ ?_
  | with_reducible refine' dv_op rd_gtN ?_ ?_
  | with_reducible refine' dv_op rd_eqN ?_ ?_
  | with_reducible refine' dv_op rd_neN ?_ ?_
  | with_reducible refine' dv_op rd_eqS ?_ ?_
  | with_reducible refine' dv_op rd_in ?_ ?_
  | with_reducible refine' dv_op rd_notin ?_ ?_
  | with_reducible refine' dv_op rd_eq0 ?_ ?_
  | with_reducible refine' dv_op rd_ne0 ?_ ?_
  | with_reducible refine' dt_test ?_
  | with_reducible refine' dt_tB ?_
  | with_reducible exact dt_yes
  | with_reducible refine' dt_not ?_
  | with_reducible refine' dt_and ?_ fun _ => ?_
  | with_reducible refine' dt_or ?_ fun _ => ?_
  | with_reducible refine' dv_andV ?_ fun _ => ?_
  | with_reducible refine' dv_orV ?_ fun _ => ?_
  | with_reducible refine' dv_notV ?_
  | with_reducible refine' dv_chain rd_leN rd_leN ?_ ?_ ?_
  | ((with_reducible refine' dv_lenN (dv_var ?hh)); (case hh => exact rfl))
  | ((with_reducible refine' dv_lenR (dv_var ?hh)); (case hh => exact rfl))
  | with_reducible refine' dv_lenN ?_
  | with_reducible refine' dv_lenR ?_
  | with_reducible refine' dv_max ?_ ?_
  | with_reducible refine' di_tup ?_
  | with_reducible refine' di_lst ?_)
local macro_rules | `(tactic| walk_at "dv") => `(tactic| all_goals (repeat' walk_at "d1"))

section
variable {P : Program} {w : World} {K : PySem.W.Frag} {mg : Str → Option Value} {base : Heap}
/-- first_lane(rule, last, *waiting) -/
def relFL (ds : List D) (d : D) : Prop := ∃ (t : Rule) (n : Nat) (o : Option Nat) (lanes : List Nat) (l : Nat), ds = [dRule t, dCar o, dNs lanes] ∧ RuleOk n t ∧ (∀ l, o = some l → l < n) ∧ (∀ l ∈ lanes, l < n) ∧ firstLane (prefAt t o) lanes = some l ∧ d = dN l
def spStar (K : PySem.W.Frag) : Sp := fun vs H Q E => ∃ ws rest, vs = ws ++ rest ∧ ws.length = 2 ∧ rest.length ≤ sizeLine ∧ ∀ p, H p = none → spP relFL (ws ++ [V.ref p]) (upd H p (.tup rest)) Q E
theorem prefAt_mem {n : Nat} {t : Rule} (R : RuleOk n t) {o : Option Nat} (ho : ∀ l, o = some l → l < n) : prefAt t o ∈ t := by
  cases o with
  | none => exact getD_mem (by rw [R.len]; omega)
  | some l => exact getD_mem (by have := ho l rfl; rw [R.len]; omega)
theorem u_first_lane (T : Tx K mg) : FnR P w K mg base CX0 4 (He.ga K "first_lane") (spStar K) := by
  have scN := (⟨rfl, rfl, rfl, by decide +kernel, rfl, by decide +kernel, by decide +kernel⟩ : FnScope ["rule", "last", "waiting", "preference", "lane"] ["rule", "last", "waiting"] (defScope s_first_lane))
  obtain ⟨fd, F⟩ := T.f_first_lane
  obtain ⟨oc, od, dV, kV, doc, pm, an, cdv, ct, osl, rfl, lk, hcd, hD, hK⟩ := F.ex
  have hd0 : dV = .none := by
    rcases hD with ⟨_, e⟩ | ⟨e, _⟩
    · exact e
    · exact absurd rfl e
  subst hd0
  refine StX.fn_star (ps := ["rule", "last"]) (pv := "waiting") (sp := spP relFL) lk hcd scN StX.cxUp_none (fun us rest hl => match us, hl with | [_, _], _ => by cases rest <;> rfl) fun A outer s H vs Q E hr ⟨ds, d, h1, ⟨t, n, o, lanes, l, e1, R, ho, hls, hf, e2⟩, q⟩ => ?_
  subst e1 e2
  refine ⟨_, PSs.nox (pss_cons (ps_set (i := 3) scN.nd rfl (Or.inl rfl) (pe_use (u_preference_after T) hr (by decide) rfl (pa_cons (pv 0) (pa_cons (pv 1) pa_nil)))) (pss_cons (ps_if (pt_cmpR (op_eqDK (K := K) hr.units) (pv 2) (pe_tup pa_nil) (nomark _)) (pss_one ps_never) pss_nil) (pss_cons (ps_for PassesOwn.never rfl (pi_tupK (K := K) (pv 2)) (pg_name (i := 4) scN.nd rfl (Or.inl rfl)) (pss_one (ps_if (pt_not (pt_val (pe_use (u_is_lane T) hr (by decide) rfl (pa_cons (pv 0) (pa_cons (pv 4) pa_nil))))) (pss_one ps_never) pss_nil))) (pss_one (ps_ret (pe_ix (ix_listK (K := K)) (pe_lc (own := [("lane", 4)]) (g := gName 4) rfl scN.nd (pi_tupK (K := K) (pv 3)) (blkOk_by (N := ["rule", "last", "waiting", "preference", "lane"]) (sc := defScope s_first_lane) (own := [("lane", 4)]) (by decide +kernel)) (fun _ _ _ _ _ => (pg_name (i := 4) scN.nd rfl (Or.inl rfl))) (fun _ _ _ _ _ => (pts_one (pt_cmpR (op_inK (K := K)) (pv 4) (pv 2) (by rfl)))) (fun _ _ _ _ _ => (pv 4))) pe_int (fun _ _ => rfl))))))), ?_⟩
  have hp := prefAt_mem R ho
  have hlen : (prefAt t o).length ≤ 1000 := by rw [(R.row _ hp).length_eq, List.length_range]; have := R.top; omega
  have hne : lanes ≠ [] := fun e => by
    subst e
    unfold firstLane at hf
    rw [List.filter_eq_nil_iff.mpr (fun x _ => by simp)] at hf
    cases hf
  suffices hh : Df _ (startD ["rule", "last", "waiting", "preference", "lane"] [dRule t, dCar o, dNs lanes]) (dN l) from hh _ H Q (Sd.start h1 _) q
  refine' df_b (db_seq (dn_asg (dv_call (ds := [dRule t, dCar o]) (d := dNs (prefAt t o)) ?_ ⟨t, n, o, rfl, R, ho, rfl⟩)) (db_seq (dn_skip (Dt.to (b := lanes.isEmpty) (dt_test (dv_op (rd_eq0 (ns := lanes)) ?_ (dv_tup da_nil (by simp)))) (by cases lanes with | nil => exact absurd rfl hne | cons => rfl)))
    (db_seq (dn_forC (di_tup (ds := lanes.map dN) ?_) fun i d e => ?_) (db_ret (dv_ixL (dl_lc (xs := prefAt t o) (emb := dN) (f := dN) (p := fun l => lanes.contains l) (di_tup ?_) hlen (fun x _ => dg_name) (by simp) (fun x S => av_N) (fun x _ => ?_) fun x _ _ => ?_) (j := 0) ?_ ?_)))))
  rotate_left 3
  · rw [List.getElem?_map] at e
    cases e3 : lanes[i]? with
    | none => rw [e3] at e; cases e
    | some x =>
      rw [e3] at e
      have e' : dN x = d := Option.some.inj e
      subst e'
      have hx := hls x (List.mem_of_getElem? e3)
      refine ⟨_, _, _, dg_name, dn_skip (Dt.to (dt_not (dt_tB (dv_call (ds := [dRule t, dN x]) (d := .bl true) ?_ ⟨t, n, x, rfl, R, hx, rfl⟩))) rfl), Le.set rfl⟩
      walk_at "dv"
  rotate_left 4
  · unfold firstLane at hf
    rw [List.head?_eq_getElem?] at hf
    rw [List.getElem?_map, hf]; rfl
  walk_at "dv"
theorem dv_first {ts : TA} {ρ : Rho} {t : Rule} {n : Nat} {o : Option Nat} {lanes : List Nat} {l : Nat} {E : XK} (ha : Da ts ρ ([dRule t, dCar o] ++ lanes.map dN)) (R : RuleOk n t) (ho : ∀ l, o = some l → l < n) (hls : ∀ l ∈ lanes, l < n) (hf : firstLane (prefAt t o) lanes = some l) (hl : lanes.length ≤ 1000) :
    Dv (fun σ H Q => ts σ H fun vs H1 => spStar K vs H1 Q E) ρ (dN l) := fun σ H Q s q => ha σ H _ s fun vs H1 g1 a1 => by
  cases a1 with
  | cons a1 a2 =>
    cases a2 with
    | cons a2 a3 =>
      refine ⟨[_, _], _, rfl, rfl, Nat.le_trans (by rw [Ats.length a3]; simpa using hl) (by decide : 1000 ≤ sizeLine), fun p hp => ?_⟩
      rename_i vs
      have g2 := Go.new (H := H1) (o := .tup vs) hp
      exact ⟨[dRule t, dCar o, dNs lanes], dN l, .cons (a1.go g2) (.cons (a2.go g2) (.cons (.tup (.inl upd_same) (Ats.go g2 a3)) .nil)), ⟨t, n, o, lanes, l, rfl, R, ho, hls, hf, rfl⟩, fun v H' g a => q v H' (g1.trans (g2.trans g)) a⟩
/-- the car that passes next -/
theorem prefOf_at (t : Rule) (came done : List Nat) : prefOf t came done = prefAt t (lastLane came done) := by
  unfold prefOf lastLane
  cases done.getLast? <;> rfl
def relNext (ds : List D) (d : D) : Prop := ∃ (t : Rule) (came done : List Nat) (n : Nat), ds = [dRule t, dNs came, dNs done] ∧ RuleOk n t ∧ (∀ l ∈ came, l < n) ∧ (∀ c ∈ done, c < came.length) ∧ came.length ≤ 100 ∧ d = dCar (nextCar t came done)
theorem wait_len (came done : List Nat) : (waiting came done).length ≤ came.length := by
  unfold waiting
  exact Nat.le_trans (List.length_filter_le ..) (by simp)
theorem u_next_car (T : Tx K mg) : Use P w K mg base "next_car" 5 ["table", "came", "done"] (spP relNext) := by
  have scN := (⟨rfl, rfl, rfl, by decide +kernel, rfl, by decide +kernel, by decide +kernel⟩ : FnScope ["table", "came", "done", "cars", "lanes", "lane", "car"] ["table", "came", "done"] (defScope s_next_car))
  refine mk_pure T.f_next_car T.glo_next_car scN (fun kV doc pm an cdv ct us hl => match us, hl with | [_, _, _], _ => rfl) (fun ds d ⟨_, _, _, _, e, _⟩ => by rw [e]; rfl) fun cdv A outer s H E ds d hr ⟨t, came, done, n, e1, R, hls, hd, hl, e2⟩ => ?_
  subst e1 e2
  refine ⟨_, (pss_cons (ps_set (i := 3) scN.nd rfl (Or.inl rfl) (pe_use (u_waiting_cars T) hr (by decide) rfl (pa_cons (pv 1) (pa_cons (pv 2) pa_nil)))) (pss_cons (ps_if (pt_cmpR (op_eqDK (K := K) hr.units) (pv 3) (pe_tup pa_nil) (nomark _)) (pss_one (ps_ret pe_non)) pss_nil) (pss_cons (ps_setLc (i := 4) (own := [("car", 6)]) (g := gName 6) (tt := tYes) rfl scN.nd rfl rfl (sw_true rfl rfl rfl (by decide +kernel)) (pi_tupK (K := K) (pv 3)) (blkOk_by (N := ["table", "came", "done", "cars", "lanes", "lane", "car"]) (sc := defScope s_next_car) (own := [("car", 6)]) (by decide +kernel)) (fun _ _ _ _ _ => (pg_name (i := 6) scN.nd rfl (Or.inl rfl))) (fun _ _ _ _ _ => pts_nil) (fun _ _ _ _ _ => (pe_ix (ix_tupK (K := K)) (pv 1) (pv 6) (fun _ _ => rfl)))) (pss_cons (ps_set (i := 5) scN.nd rfl (Or.inl rfl) (StX.pe_callS2 (u_first_lane T) hr (T.f_first_lane).choose_spec.kp rfl T.glo_first_lane pass0 (pa_cons (pv 0) (pa_cons (pe_use (u_last_lane T) hr (by decide) rfl (pa_cons (pv 1) (pa_cons (pv 2) pa_nil))) (StX.pa_star (pv 4) pa_nil))))) (pss_one (ps_ret (pe_ix (ix_tupK (K := K)) (pv 3) (pe_bm PySem.F.plainAttrs_list PySem.F.slot_list_index PySem.F.type_list_index (mt_indexK (K := K)) (pv 4) (pa_cons (pv 5) pa_nil)) (fun _ _ => rfl)))))))), ?_⟩
  have hw := wait_len came done
  by_cases hc : waiting came done = []
  · rw [nextCar_none hc]
    refine' df_b (db_seq (dn_asg (dv_call (ds := [dNs came, dNs done]) (d := dNs []) ?_ ⟨came, done, rfl, hl, by rw [hc]⟩)) (db_now (db_ifT (dt_test (dv_op (rd_eq0 (ns := [])) ?_ (dv_tup da_nil (by simp)))) (db_ret dv_c0))))
    walk_at "dv"
  · have hex : ∃ c, c ∈ waiting came done := List.exists_mem_of_ne_nil _ hc
    have hlast : ∀ l, lastLane came done = some l → l < n := fun l h => by
      unfold lastLane at h
      cases q : done.getLast? with
      | none => rw [q] at h; cases h
      | some c =>
        rw [q] at h
        have e : ix came c = l := Option.some.inj h
        rw [← e]
        exact hls _ (ix_mem (hd c (List.mem_of_getLast? q)))
    have hwl : ∀ l ∈ (waiting came done).map (fun c => ix came c), l < n := fun l h => by
      obtain ⟨c, hc2, e⟩ := List.mem_map.mp h
      rw [← e]
      exact hls _ (ix_mem (mem_waiting.mp hc2).1)
    have hpm := prefAt_mem R hlast
    obtain ⟨l, hf, hlm⟩ : ∃ l, firstLane (prefAt t (lastLane came done)) ((waiting came done).map fun c => ix came c) = some l ∧ l ∈ (waiting came done).map fun c => ix came c := by
      obtain ⟨c, hc2⟩ := hex
      have hm : ix came c ∈ (waiting came done).map fun c => ix came c := List.mem_map.mpr ⟨c, hc2, rfl⟩
      exact firstLane_some ⟨_, hm, (R.mem hpm).mpr (hwl _ hm)⟩
    obtain ⟨c, hc1, hc2⟩ := next_first hf
    have hnx : nextCar t came done = some c := by
      unfold nextCar
      rw [prefOf_at]
      exact hc1
    rw [hnx]
    refine' df_b (db_seq (dn_asg (dv_call (ds := [dNs came, dNs done]) (d := dNs (waiting came done)) ?_ ⟨came, done, rfl, hl, rfl⟩)) (db_seq (dn_skip (Dt.to (b := (waiting came done).isEmpty) (dt_test (dv_op (rd_eq0 (ns := waiting came done)) ?_ (dv_tup da_nil (by simp)))) (by cases q : waiting came done with | nil => exact absurd q hc | cons => rfl)))
      (db_asgL (ds := ((waiting came done).map fun c => ix came c).map dN) (DvL.to (dl_lc (xs := waiting came done) (emb := dN) (f := fun c => dN (ix came c)) (p := fun _ => true) (di_tup ?_) (by omega) (fun x _ => dg_name) (by simp) (fun x S => av_N) (fun x _ => dt_yes) fun x hx _ => dv_op (rd_ixN (ns := came) (mem_waiting.mp hx).1) ?_ ?_) (by rw [List.filter_eq_self.mpr (fun _ _ => rfl), List.map_map]; rfl)) fun a =>
      (db_seq (dn_asg (dv_first (da_cons (dv_var (d := dRule t) rfl) (da_cons (dv_call (ds := [dNs came, dNs done]) (d := dCar (lastLane came done)) ?_ ⟨came, done, rfl, hd, rfl⟩) (Da.to (da_starL (dv_var (d := .lst a (((waiting came done).map fun c => ix came c).map dN)) rfl) da_nil) (List.append_nil _)))) R hlast hwl hf (by simp; omega)))
        (db_ret (dv_op (rd_ix (ds := (waiting came done).map dN) (j := ((waiting came done).map fun c => ix came c).idxOf l) (by rw [List.getElem?_map, hc2]; rfl)) ?_ (dv_indexL (ns := (waiting came done).map fun c => ix came c) (a := a) (k := l) ?_ ?_ hlm)))))))
    walk_at "dv"
end
end K70
set_option Elab.async false
set_option linter.all false
set_option maxRecDepth 100000
set_option maxHeartbeats 4000000
namespace K70
open PySem PySem.Spec PyProof.Rows L2
local macro_rules | `(tactic| walk_at "d1") => `(tactic| first
  | ((with_reducible refine' dv_var ?hh); (case hh => exact rfl))
  | with_reducible exact dv_cS
  | with_reducible exact dv_cB
  | with_reducible exact dv_c0
  | ((with_reducible refine' dv_cN ?hh); (case hh => exact rfl))
  | with_reducible exact dv_neg1
  | with_reducible exact dv_cI
  | with_reducible exact da_nil
  | with_reducible refine' da_cons ?_ ?_
  | with_reducible refine' da_starT ?_ ?_
  | with_reducible refine' da_starL ?_ ?_
  | with_reducible refine' dv_op rd_addN ?_ ?_
  | with_reducible refine' dv_op (rd_subN ?_) ?_ ?_
  | with_reducible refine' dv_op rd_ltN ?_ ?_
  | with_reducible refine' dv_op rd_leN ?_ ?_
  | with_reducible refine' dv_op rd_gtN ?_ ?_
  | with_reducible refine' dv_op rd_eqN ?_ ?_
  | with_reducible refine' dv_op rd_neN ?_ ?_
  | with_reducible refine' dv_op rd_eqS ?_ ?_
  | with_reducible refine' dv_op rd_in ?_ ?_
  | with_reducible refine' dv_op rd_notin ?_ ?_
  | with_reducible refine' dv_op rd_eq0 ?_ ?_
  | with_reducible refine' dv_op rd_ne0 ?_ ?_
  | with_reducible refine' dt_test ?_
  | with_reducible refine' dt_tB ?_
  | with_reducible exact dt_yes
  | with_reducible refine' dt_not ?_
  | with_reducible refine' dt_and ?_ fun _ => ?_
  | with_reducible refine' dt_or ?_ fun _ => ?_
  | with_reducible refine' dv_andV ?_ fun _ => ?_
  | with_reducible refine' dv_orV ?_ fun _ => ?_
  | with_reducible refine' dv_notV ?_
  | with_reducible refine' dv_chain rd_leN rd_leN ?_ ?_ ?_
  | ((with_reducible refine' dv_lenN (dv_var ?hh)); (case hh => exact rfl))
  | ((with_reducible refine' dv_lenR (dv_var ?hh)); (case hh => exact rfl))
  | with_reducible refine' dv_lenN ?_
  | with_reducible refine' dv_lenR ?_
  | with_reducible refine' dv_max ?_ ?_
  | with_reducible refine' di_tup ?_
  | with_reducible refine' di_lst ?_)
local macro_rules | `(tactic| walk_at "dv") => `(tactic| all_goals (repeat' walk_at "d1"))

section
variable {P : Program} {w : World} {K : PySem.W.Frag} {mg : Str → Option Value} {base : Heap}
theorem u_L_whole (T : Tx K mg) : Use P w K mg base "_law_whole" 1 ["_law_value", "_law_low", "_law_high"] (spP relW) := by
  have scN := (⟨rfl, rfl, rfl, by decide +kernel, rfl, by decide +kernel, by decide +kernel⟩ : FnScope ["_law_value", "_law_low", "_law_high"] ["_law_value", "_law_low", "_law_high"] (defScope s_L_whole))
  refine mk_pure T.f_L_whole T.glo_L_whole scN (fun kV doc pm an cdv ct us hl => match us, hl with | [_, _, _], _ => rfl) (fun ds d ⟨v, l, h, e, _⟩ => by rw [e]; rfl) fun cdv A outer s H E ds d hr ⟨v, l, h, e1, e2⟩ => ?_
  subst e1 e2
  refine ⟨_, (pss_one (ps_ret (pe_and (pe_callB (call_isiK (K := K)) (by rfl) T.free_isinstance (by decide +kernel) (pa_cons (pv 0) (pa_cons (pe_bltn (v := .ty "int") (u := .type "int") rfl T.free_int (by decide +kernel) rfl) pa_nil))) (pe_and (pe_not (pe_callB (call_isiK (K := K)) (by rfl) T.free_isinstance (by decide +kernel) (pa_cons (pv 0) (pa_cons (pe_bltn (v := .ty "bool") (u := .type "bool") rfl T.free_bool (by decide +kernel) rfl) pa_nil)))) (pe_one (pe_chain op_le op_le (pv 1) (pv 0) (pv 2))))))), ?_⟩
  refine' df_b (db_ret (Dv.to (dv_andV (dv_isi (.ty _) ty_N kit_ii ?_) fun _ => dv_andV (dv_notV (dv_isi (.ty _) ty_N kit_ib ?_)) fun _ => ?_) ?_))
  walk_at "dv"
  simp
/-- a rule has no error, the law's own -/
theorem u_L_rule_error (T : Tx K mg) : Use P w K mg base "_law_rule_error" 2 ["_law_value"] (spP relRule) := by
  have scN := (⟨rfl, rfl, rfl, by decide +kernel, rfl, by decide +kernel, by decide +kernel⟩ : FnScope ["_law_value", "_law_k", "_law_row", "_law_one"] ["_law_value"] (defScope s_L_rule_error))
  refine mk_pure T.f_L_rule_error T.glo_L_rule_error scN (fun kV doc pm an cdv ct us hl => match us, hl with | [_], _ => rfl) (fun ds d ⟨_, _, e, _⟩ => by rw [e]; rfl) fun cdv A outer s H E ds d hr ⟨t, n, e1, R, e2⟩ => ?_
  subst e1 e2
  have hl := R.len
  have h1 := R.pos
  have h2 := R.top
  refine ⟨_, (pss_cons (ps_if (PW.pt (pw_or (pt_not (pt_val (pe_callB (call_isiK (K := K)) (by rfl) T.free_isinstance (by decide +kernel) (pa_cons (pv 0) (pa_cons (pe_bltn (v := .ty "tuple") (u := .type "tuple") rfl T.free_tuple (by decide +kernel) rfl) pa_nil))))) (pw_or1 (pt_not (pt_chain op_le op_le pe_int (pe_callB (call_lenK (K := K)) (by rfl) T.free_len PySem.boot_len (pa_cons (pv 0) pa_nil)) pe_int))))) (pss_one (ps_ret (pe_tup (pa_cons pe_non (pa_cons pe_str pa_nil))))) pss_nil) (pss_cons (ps_for PassesOwn.never rfl (pi_range1 rfl T.free_range (pa_cons (pe_callB (call_lenK (K := K)) (by rfl) T.free_len PySem.boot_len (pa_cons (pv 0) pa_nil)) pa_nil)) (pg_name (i := 1) scN.nd rfl (Or.inl rfl)) (pss_cons (ps_set (i := 2) scN.nd rfl (Or.inl rfl) (pe_ix (ix_tupK (K := K)) (pv 0) (pv 1) (fun _ _ => rfl))) (pss_cons (ps_if (PW.pt (pw_or (pt_not (pt_val (pe_callB (call_isiK (K := K)) (by rfl) T.free_isinstance (by decide +kernel) (pa_cons (pv 2) (pa_cons (pe_bltn (v := .ty "tuple") (u := .type "tuple") rfl T.free_tuple (by decide +kernel) rfl) pa_nil))))) (pw_or1 (pt_cmpR (op_neDK (K := K) hr.units) (pe_lc (own := [("_law_one", 3)]) (g := gName 3) rfl scN.nd (pi_tupK (K := K) (pv 2)) (blkOk_by (N := ["_law_value", "_law_k", "_law_row", "_law_one"]) (sc := defScope s_L_rule_error) (own := [("_law_one", 3)]) (by decide +kernel)) (fun _ _ _ _ _ => (pg_name (i := 3) scN.nd rfl (Or.inl rfl))) (fun _ _ _ _ _ => (pts_one (pt_not (pt_val (pe_use (u_L_whole T) hr (by decide) rfl (pa_cons (pv 3) (pa_cons pe_int (pa_cons (pe_op op_sub (pe_callB (call_lenK (K := K)) (by rfl) T.free_len PySem.boot_len (pa_cons (pv 0) pa_nil)) pe_int) pa_nil)))))))) (fun _ _ _ _ _ => (pv 3))) (pe_lst pa_nil) (nomark _))))) (pss_one (ps_ret (pe_tup (pa_cons (pv 1) (pa_cons pe_str pa_nil))))) pss_nil) (pss_one (ps_if (pt_cmpR (op_neDK (K := K) hr.units) (pe_callB (cr_sortTK (K := K)) (by rfl) T.free_sorted (by decide +kernel) (pa_cons (pv 2) pa_nil)) (pe_listRg rfl rfl T.free_list (prg_1 rfl T.free_range (pe_op op_sub (pe_callB (call_lenK (K := K)) (by rfl) T.free_len PySem.boot_len (pa_cons (pv 0) pa_nil)) pe_int))) (nomark _)) (pss_one (ps_ret (pe_tup (pa_cons (pv 1) (pa_cons pe_str pa_nil))))) pss_nil))))) (pss_one (ps_ret pe_non)))), ?_⟩
  refine' df_b (db_seq (dn_skip (Dt.to (b := !true || !(decide (2 ≤ t.length) && decide (t.length ≤ 7))) (dt_or (dt_not (dt_tB (dv_isi (.ty _) ty_T kit_tt ?_))) fun _ => dt_not (dt_test (dv_chain rd_leN rd_leN ?_ ?_ ?_))) (by simp [hl]; omega))) (db_seq (dn_forC (src := (List.range t.length).map dN) (di_rng1 ?_ (by omega)) fun i d e => ?_) (db_ret dv_c0)))
  rotate_right
  · rw [List.getElem?_map] at e
    have hi : i < t.length := by
      cases q : (List.range t.length)[i]? with
      | none => rw [q] at e; cases e
      | some x => have := (List.getElem?_eq_some_iff.mp q).1; simpa using this
    rw [List.getElem?_range hi] at e
    have e' : dN i = d := Option.some.inj e
    subst e'
    have hmem : t.getD i [] ∈ t := getD_mem hi
    have hp := R.row _ hmem
    have hlen : (t.getD i []).length = n := by rw [hp.length_eq]; simp
    refine ⟨_, _, _, dg_name, dn_seq (dn_asg (dv_op (rd_ixR (ru := t) hi) ?_ ?_)) (dn_seq (dn_skip (Dt.to (b := !true || !List.isEmpty ([] : List Nat)) (dt_or (dt_not (dt_tB (dv_isi (d := dNs (t.getD i [])) (.ty _) ty_T kit_tt ?_))) fun _ => dt_test (dv_opLL (fun a b => rd_ne0L (ns := [])) (DvL.to (dl_lc (xs := t.getD i []) (emb := dN) (f := dN) (p := fun _ => false) (di_tup ?_) (by omega) (fun x _ => dg_name) (by simp) (fun _ _ => av_N) (fun x hx => Dt.to (dt_not (dt_tB (dv_call (ds := [dN x, dN 0, dN (t.length - 2)]) (d := .bl true) ?_ ⟨x, 0, t.length - 2, rfl, ?_⟩))) rfl) fun x _ h => by cases h) (by simp)) (dl_lst da_nil (by simp)))) rfl)) (dn_skip (dt_test (dv_opLL (fun a b => rd_neSame (p := .list ((List.range n).map fun k : Nat => PyData.int (k : Int))) (cm_lst (cms_N _)) (cm_lst (cms_N _))) (dl_sortT (ns := t.getD i []) (n := n) ?_ hp (by omega)) (DvL.to (dl_range (n := t.length - 1) (dv_op (rd_subN (by omega)) ?_ ?_) (by omega)) (by rw [hl]; rfl)))))), (Le.set (i := 2) rfl).trans (Le.set (i := 1) rfl)⟩
    walk_at "dv"
    · omega
    · have : x < n := by have := (hp.mem_iff (a := x)).mp hx; simpa using this
      simp; omega
  walk_at "dv"
theorem u_L_waiting (T : Tx K mg) : Use P w K mg base "_law_waiting" 1 ["_law_now"] (spP fun ds d => ∃ s : Sc, ds = [dNow s] ∧ s.came.length ≤ 100 ∧ d = dNs (waiting s.came s.done)) := by
  have scN := (⟨rfl, rfl, rfl, by decide +kernel, rfl, by decide +kernel, by decide +kernel⟩ : FnScope ["_law_now", "_law_car"] ["_law_now"] (defScope s_L_waiting))
  refine mk_pure T.f_L_waiting T.glo_L_waiting scN (fun kV doc pm an cdv ct us hl => match us, hl with | [_], _ => rfl) (fun ds d ⟨_, e, _⟩ => by rw [e]; rfl) fun cdv A outer s H E ds d hr ⟨c, e1, hl, e2⟩ => ?_
  subst e1 e2
  refine ⟨_, (pss_one (ps_ret (pe_callTy (call_tupK (K := K)) (by rfl) T.free_tuple (by decide +kernel) (pa_cons (pe_lc (own := [("_law_car", 1)]) (g := gName 1) rfl scN.nd (pi_range1 rfl T.free_range (pa_cons (pe_callB (call_lenK (K := K)) (by rfl) T.free_len PySem.boot_len (pa_cons (pe_ix (ix_tupK (K := K)) (pv 0) pe_int (fun _ _ => rfl)) pa_nil)) pa_nil)) (blkOk_by (N := ["_law_now", "_law_car"]) (sc := defScope s_L_waiting) (own := [("_law_car", 1)]) (by decide +kernel)) (fun _ _ _ _ _ => (pg_name (i := 1) scN.nd rfl (Or.inl rfl))) (fun _ _ _ _ _ => (pts_one (pt_cmpR (op_notInK (K := K)) (pv 1) (pe_ix (ix_tupK (K := K)) (pv 0) pe_int (fun _ _ => rfl)) (by rfl)))) (fun _ _ _ _ _ => (pv 1))) pa_nil)))), ?_⟩
  refine' df_b (db_ret (dv_tupL (dl_lc (xs := List.range c.came.length) (emb := dN) (f := dN) (p := fun x => !c.done.contains x) (di_rng1 (da_cons (dv_lenN (dv_op (rd_ix (ds := [dRule c.t, dNs c.came, dNs c.done, .str c.word, dNs c.sk, dNs c.tops]) (j := 1) rfl) ?_ ?_)) da_nil) (by omega)) (by simp; omega) (fun x _ => dg_name) (by simp) (fun x S => av_N) (fun x _ => dt_test (dv_op rd_notin ?_ (dv_op (rd_ix (ds := [dRule c.t, dNs c.came, dNs c.done, .str c.word, dNs c.sk, dNs c.tops]) (j := 2) rfl) ?_ ?_))) fun x _ _ => ?_)))
  walk_at "dv"
end
end K70
set_option Elab.async false
set_option linter.all false
set_option maxRecDepth 100000
set_option maxHeartbeats 4000000
namespace K70
open PySem PySem.Spec PyProof.Rows L2
local macro_rules | `(tactic| walk_at "d1") => `(tactic| first
  | ((with_reducible refine' dv_var ?hh); (case hh => exact rfl))
  | with_reducible exact dv_cS
  | with_reducible exact dv_cB
  | with_reducible exact dv_c0
  | ((with_reducible refine' dv_cN ?hh); (case hh => exact rfl))
  | with_reducible exact dv_neg1
  | with_reducible exact dv_cI
  | with_reducible exact da_nil
  | with_reducible refine' da_cons ?_ ?_
  | with_reducible refine' da_starT ?_ ?_
  | with_reducible refine' da_starL ?_ ?_
  | with_reducible refine' dv_op rd_addN ?_ ?_
  | with_reducible refine' dv_op (rd_subN ?_) ?_ ?_
  | with_reducible refine' dv_op rd_ltN ?_ ?_
  | with_reducible refine' dv_op rd_leN ?_ ?_
  | with_reducible refine' dv_op rd_gtN ?_ ?_
  | with_reducible refine' dv_op rd_eqN ?_ ?_
  | with_reducible refine' dv_op rd_neN ?_ ?_
  | with_reducible refine' dv_op rd_eqS ?_ ?_
  | with_reducible refine' dv_op rd_in ?_ ?_
  | with_reducible refine' dv_op rd_notin ?_ ?_
  | with_reducible refine' dv_op rd_eq0 ?_ ?_
  | with_reducible refine' dv_op rd_ne0 ?_ ?_
  | with_reducible refine' dt_test ?_
  | with_reducible refine' dt_tB ?_
  | with_reducible exact dt_yes
  | with_reducible refine' dt_not ?_
  | with_reducible refine' dt_and ?_ fun _ => ?_
  | with_reducible refine' dt_or ?_ fun _ => ?_
  | with_reducible refine' dv_andV ?_ fun _ => ?_
  | with_reducible refine' dv_orV ?_ fun _ => ?_
  | with_reducible refine' dv_notV ?_
  | with_reducible refine' dv_chain rd_leN rd_leN ?_ ?_ ?_
  | ((with_reducible refine' dv_lenN (dv_var ?hh)); (case hh => exact rfl))
  | ((with_reducible refine' dv_lenR (dv_var ?hh)); (case hh => exact rfl))
  | with_reducible refine' dv_lenN ?_
  | with_reducible refine' dv_lenR ?_
  | with_reducible refine' dv_max ?_ ?_
  | with_reducible refine' di_tup ?_
  | with_reducible refine' di_lst ?_)
local macro_rules | `(tactic| walk_at "dv") => `(tactic| all_goals (repeat' walk_at "d1"))

section
variable {P : Program} {w : World} {K : PySem.W.Frag} {mg : Str → Option Value} {base : Heap}
theorem own_eq (came cars : List Nat) (l : Nat) : ownOf came cars l = cars.filter fun c => decide (ix came c = l) := by
  unfold ownOf
  apply List.filter_congr
  intro c _
  rw [Bool.eq_iff_iff]
  simp
/-- the pieces of a state -/
abbrev nowL (s : Sc) : List D := [dRule s.t, dNs s.came, dNs s.done, .str s.word, dNs s.sk, dNs s.tops]
def relLNext (ds : List D) (d : D) : Prop := ∃ (s : Sc) (n m : Nat), ds = [dNow s] ∧ Inv n m s ∧ m ≤ 100 ∧ d = dCar (nextCar s.t s.came s.done)
theorem Inv.last {n m : Nat} {s : Sc} (I : Inv n m s) : ∀ l, lastLane s.came s.done = some l → l < n := fun l h => by
  unfold lastLane at h
  cases q : s.done.getLast? with
  | none => rw [q] at h; cases h
  | some c =>
    rw [q] at h
    have e : ix s.came c = l := Option.some.inj h
    rw [← e]
    exact I.lanes _ (ix_mem (I.dlt c (List.mem_of_getLast? q)))
theorem find_at {α β : Type} {f : α → Option β} {xs : List α} {b : β} (h : xs.findSome? f = some b) : ∃ (k : Nat) (x : α), xs[k]? = some x ∧ f x = some b ∧ ∀ i y, i < k → xs[i]? = some y → f y = none := by
  obtain ⟨l1, a, l2, e, h1, h2⟩ := List.findSome?_eq_some_iff.mp h
  refine ⟨l1.length, a, by rw [e]; simp, h1, fun i y hi hy => h2 y ?_⟩
  rw [e, List.getElem?_append_left hi] at hy
  exact List.mem_of_getElem? hy
theorem u_L_next (T : Tx K mg) : Use P w K mg base "_law_next" 2 ["_law_now"] (spP relLNext) := by
  have scN := (⟨rfl, rfl, rfl, by decide +kernel, rfl, by decide +kernel, by decide +kernel⟩ : FnScope ["_law_now", "_law_cars", "_law_ahead", "_law_lane", "_law_table", "_law_came", "_law_done_here", "_law_own", "_law_car"] ["_law_now"] (defScope s_L_next))
  refine mk_pure T.f_L_next T.glo_L_next scN (fun kV doc pm an cdv ct us hl => match us, hl with | [_], _ => rfl) (fun ds d ⟨_, _, _, e, _⟩ => by rw [e]; rfl) fun cdv A outer s H E ds d hr ⟨c, n, m, e1, I, hm, e2⟩ => ?_
  subst e1 e2
  refine ⟨_, (pss_cons (ps_asg (pe_slice (sl_tupK (K := K)) (pv 0) po_none (po_some pe_int)) (pg_tup rfl (pgs_cons (pg_name (i := 4) scN.nd rfl (Or.inl rfl)) (pgs_cons (pg_name (i := 5) scN.nd rfl (Or.inr rfl)) (pgs_cons (pg_name (i := 6) scN.nd rfl (Or.inl rfl)) pgs_nil))))) (pss_cons (ps_set (i := 1) scN.nd rfl (Or.inl rfl) (pe_use (u_L_waiting T) hr (by decide) rfl (pa_cons (pv 0) pa_nil))) (pss_cons (ps_set (i := 2) scN.nd rfl (Or.inl rfl) (pe_ifExp (pt_cmpR (op_neDK (K := K) hr.units) (pv 6) (pe_tup pa_nil) (nomark _)) (pe_ix (ix_tupK (K := K)) (pv 4) (pe_op op_add pe_int (pe_ix (ix_tupK (K := K)) (pv 5) (pe_ix (ix_tupK (K := K)) (pv 6) (pe_un un_neg pe_int) (fun _ _ => rfl)) (fun _ _ => rfl))) (fun _ _ => rfl)) (pe_ix (ix_tupK (K := K)) (pv 4) pe_int (fun _ _ => rfl)))) (pss_cons (ps_for PassesOwn.never rfl (pi_tupK (K := K) (pv 2)) (pg_name (i := 3) scN.nd rfl (Or.inr rfl)) (pss_cons (ps_setLc (i := 7) (own := [("_law_car", 8)]) (g := gName 8) rfl scN.nd rfl rfl (sw_true rfl rfl rfl (by decide +kernel)) (pi_tupK (K := K) (pv 1)) (blkOk_by (N := ["_law_now", "_law_cars", "_law_ahead", "_law_lane", "_law_table", "_law_came", "_law_done_here", "_law_own", "_law_car"]) (sc := defScope s_L_next) (own := [("_law_car", 8)]) (by decide +kernel)) (fun _ _ _ _ _ => (pg_name (i := 8) scN.nd rfl (Or.inl rfl))) (fun _ _ _ _ _ => (pts_one (pt_cmpR op_eq (pe_ix (ix_tupK (K := K)) (pv 5) (pv 8) (fun _ _ => rfl)) (pv 3) (nomark _)))) (fun _ _ _ _ _ => (pv 8))) (pss_one (ps_if (pt_cmpR (op_neDK (K := K) hr.units) (pv 7) (pe_lst pa_nil) (nomark _)) (pss_one (ps_ret (pe_ix (ix_listK (K := K)) (pv 7) pe_int (fun _ _ => rfl)))) pss_nil)))) (pss_one (ps_ret pe_non)))))), ?_⟩
  have hc : c.came.length ≤ 100 := by have := I.many; omega
  have hw := wait_len c.came c.done
  have hlast := I.last
  have hpm := prefAt_mem I.rule hlast
  have hpl : (prefAt c.t (lastLane c.came c.done)).length ≤ 1000 := by rw [(I.rule.row _ hpm).length_eq, List.length_range]; have := I.rule.top; omega
  have hRl := I.rule.len
  refine' df_b (db_seq (dn_asgT (Dv.to (dv_sl3 (ds := nowL c) (j := 3) (dv_var rfl) (dv_cN rfl) (by show 3 < 6; decide)) rfl) (dg_tup (ds := [dRule c.t, dNs c.came, dNs c.done]) (dgs_cons dg_name (dgs_cons dg_name (dgs_cons dg_name dgs_nil))) rfl))
    (db_seq (dn_asg (dv_call (ds := [dNow c]) (d := dNs (waiting c.came c.done)) ?_ ⟨c, rfl, hc, rfl⟩))
    (db_seq (dn_asg (dv_if (b := !c.done.isEmpty) (d := dNs (prefAt c.t (lastLane c.came c.done))) (dt_test (dv_op (rd_ne0 (ns := c.done)) ?_ (dv_tup da_nil (by simp)))) (fun h => ?_) fun h => ?_)) ?_)))
  rotate_left 2
  · cases q : c.done.getLast? with
    | none =>
      rw [List.getLast?_eq_none_iff] at q
      rw [q] at h; cases h
    | some x =>
      have hx := I.dlt x (List.mem_of_getLast? q)
      have hl : lastLane c.came c.done = some (ix c.came x) := by unfold lastLane; rw [q]; rfl
      rw [hl]
      refine' dv_op (rd_ixR (ru := c.t) (j := 1 + ix c.came x) (by have := hlast _ hl; omega)) ?_ (dv_op rd_addN ?_ (dv_op (rd_ixN (ns := c.came) hx) ?_ (dv_op (rd_ixLast q) ?_ ?_)))
      walk_at "dv"
  · have hd : c.done = [] := by
      cases q : c.done with
      | nil => rfl
      | cons => rw [q] at h; cases h
    rw [show lastLane c.came c.done = none by rw [hd]; rfl]
    refine' dv_op (rd_ixR (ru := c.t) (j := 0) (by omega)) ?_ ?_
    walk_at "dv"
  · skip
    have src : (prefOf c.t c.came c.done).findSome? (fun l => (ownOf c.came (waiting c.came c.done) l).head?) = nextCar c.t c.came c.done := rfl
    rw [prefOf_at] at src
    cases hn : nextCar c.t c.came c.done with
    | none =>
      rw [hn, List.findSome?_eq_none_iff] at src
      refine' db_seq (dn_forC (src := (prefAt c.t (lastLane c.came c.done)).map dN) (di_tup (dv_var rfl)) fun i d e => ?_) (db_ret dv_c0)
      rw [List.getElem?_map] at e
      cases q : (prefAt c.t (lastLane c.came c.done))[i]? with
      | none => rw [q] at e; cases e
      | some l =>
        rw [q] at e
        have e' : dN l = d := Option.some.inj e
        subst e'
        have h0 := src l (List.mem_of_getElem? q)
        rw [List.head?_eq_none_iff, own_eq] at h0
        refine ⟨_, _, _, dg_name, dn_asgL (dl_lc (xs := waiting c.came c.done) (emb := dN) (f := dN) (p := fun x => decide (ix c.came x = l)) (di_tup (dv_var rfl)) (by omega) (fun x _ => dg_name) (by simp) (fun _ _ => av_N) (fun x hx => dt_test (dv_op rd_eqN (dv_op (rd_ixN (ns := c.came) (mem_waiting.mp hx).1) (dv_var rfl) (dv_var rfl)) (dv_var rfl))) fun x _ _ => dv_var rfl) fun b => (dn_skip (dt_test (dv_opVL (fun b' => by rw [h0]; exact rd_ne0L (a := b) (ns := [])) (dv_var rfl) (dl_lst da_nil (by simp))))).weak ((Le.set (i := 7) rfl).trans (Le.set (i := 3) rfl)), .refl⟩
    | some x =>
      rw [hn] at src
      obtain ⟨k, l, hk, hh, hno⟩ := find_at src
      rw [own_eq] at hh
      refine' db_now (db_forC (src := (prefAt c.t (lastLane c.came c.done)).map dN) (k := k) (by have := (List.getElem?_eq_some_iff.mp hk).1; simpa using this) (di_tup (dv_var rfl)) (fun i d hi e => ?_) fun d e => ?_)
      · rw [List.getElem?_map] at e
        cases q : (prefAt c.t (lastLane c.came c.done))[i]? with
        | none => rw [q] at e; cases e
        | some l =>
          rw [q] at e
          have e' : dN l = d := Option.some.inj e
          subst e'
          have h0 := hno i l hi q
          rw [List.head?_eq_none_iff, own_eq] at h0
          refine ⟨_, _, _, dg_name, dn_asgL (dl_lc (xs := waiting c.came c.done) (emb := dN) (f := dN) (p := fun x => decide (ix c.came x = l)) (di_tup (dv_var rfl)) (by omega) (fun x _ => dg_name) (by simp) (fun _ _ => av_N) (fun x hx => dt_test (dv_op rd_eqN (dv_op (rd_ixN (ns := c.came) (mem_waiting.mp hx).1) (dv_var rfl) (dv_var rfl)) (dv_var rfl))) fun x _ _ => dv_var rfl) fun b => (dn_skip (dt_test (dv_opVL (fun b' => by rw [h0]; exact rd_ne0L (a := b) (ns := [])) (dv_var rfl) (dl_lst da_nil (by simp))))).weak ((Le.set (i := 7) rfl).trans (Le.set (i := 3) rfl)), .refl⟩
      · rw [List.getElem?_map, hk] at e
        have e' : dN l = d := Option.some.inj e
        subst e'
        refine ⟨_, _, dg_name, db_asgL (dl_lc (xs := waiting c.came c.done) (emb := dN) (f := dN) (p := fun x => decide (ix c.came x = l)) (di_tup (dv_var rfl)) (by omega) (fun x _ => dg_name) (by simp) (fun _ _ => av_N) (fun x hx => dt_test (dv_op rd_eqN (dv_op (rd_ixN (ns := c.came) (mem_waiting.mp hx).1) (dv_var rfl) (dv_var rfl)) (dv_var rfl))) fun x _ _ => dv_var rfl) fun b => ?_⟩
        generalize ((waiting c.came c.done).filter fun x => decide (ix c.came x = l)) = w at hh
        cases w with
        | nil => cases hh
        | cons y w =>
          have ey : y = x := by simpa using hh
          subst ey
          exact db_ifT (dt_test (dv_opVL (fun b' => rd_ne0L (a := b) (ns := y :: w)) (dv_var rfl) (dl_lst da_nil (by simp)))) (db_ret (dv_op (rd_ixL (j := 0) rfl) (dv_var rfl) (dv_cN rfl)))
  walk_at "dv"
/-- a car that passes -/
def relMoved (ds : List D) (d : D) : Prop := ∃ (s : Sc) (n m c : Nat), ds = [dNow s] ∧ Inv n m s ∧ m ≤ 100 ∧ nextCar s.t s.came s.done = some c ∧ c ∈ waiting s.came s.done ∧ d = dNow (moved s c)
theorem streak_at (s : Sc) (c l : Nat) (h : l < s.sk.length) (cars : List Nat) : ((streaks s.came cars s.sk c).map dN)[l]? = some (dN (if !(cars.filter fun x => decide (ix s.came x = l)).isEmpty && !decide (l = ix s.came c) then ix s.sk l + 1 else 0)) := by
  unfold streaks
  rw [List.getElem?_map, List.getElem?_map, List.getElem?_range h, ← own_eq]
  have e : (l != ix s.came c) = !decide (l = ix s.came c) := by rw [Bool.eq_iff_iff]; simp
  show some (dN (if !(ownOf s.came cars l).isEmpty && l != ix s.came c then ix s.sk l + 1 else 0)) = _
  rw [e]
theorem u_L_moved (T : Tx K mg) : Use P w K mg base "_law_moved" 3 ["_law_now"] (spP relMoved) := by
  have scN := (⟨rfl, rfl, rfl, by decide +kernel, rfl, by decide +kernel, by decide +kernel⟩ : FnScope ["_law_now", "_law_car", "_law_cars", "_law_found", "_law_lane", "_law_tops", "_law_table", "_law_came", "_law_done_here", "_law_letters", "_law_streaks", "_law_others", "_law_one"] ["_law_now"] (defScope s_L_moved))
  refine mk_pure T.f_L_moved T.glo_L_moved scN (fun kV doc pm an cdv ct us hl => match us, hl with | [_], _ => rfl) (fun ds d ⟨_, _, _, _, e, _⟩ => by rw [e]; rfl) fun cdv A outer s H E ds d hr ⟨c, n, m, x, e1, I, hm, hx, hxw, e2⟩ => ?_
  subst e1 e2
  refine ⟨_, (pss_cons (ps_asg (pv 0) (pg_tup rfl (pgs_cons (pg_name (i := 6) scN.nd rfl (Or.inl rfl)) (pgs_cons (pg_name (i := 7) scN.nd rfl (Or.inr rfl)) (pgs_cons (pg_name (i := 8) scN.nd rfl (Or.inl rfl)) (pgs_cons (pg_name (i := 9) scN.nd rfl (Or.inl rfl)) (pgs_cons (pg_name (i := 10) scN.nd rfl (Or.inl rfl)) (pgs_cons (pg_name (i := 5) scN.nd rfl (Or.inr rfl)) pgs_nil)))))))) (pss_cons (ps_set (i := 1) scN.nd rfl (Or.inr rfl) (pe_use (u_L_next T) hr (by decide) rfl (pa_cons (pv 0) pa_nil))) (pss_cons (ps_setLc (i := 2) (own := [("_law_one", 12)]) (g := gName 12) rfl scN.nd rfl rfl (sw_true rfl rfl rfl (by decide +kernel)) (pi_tupK (K := K) (pe_use (u_L_waiting T) hr (by decide) rfl (pa_cons (pv 0) pa_nil))) (blkOk_by (N := ["_law_now", "_law_car", "_law_cars", "_law_found", "_law_lane", "_law_tops", "_law_table", "_law_came", "_law_done_here", "_law_letters", "_law_streaks", "_law_others", "_law_one"]) (sc := defScope s_L_moved) (own := [("_law_one", 12)]) (by decide +kernel)) (fun _ _ _ _ _ => (pg_name (i := 12) scN.nd rfl (Or.inl rfl))) (fun _ _ _ _ _ => (pts_one (pt_cmpR op_ne (pv 12) (pv 1) (nomark _)))) (fun _ _ _ _ _ => (pv 12))) (pss_cons (ps_set (i := 3) scN.nd rfl (Or.inr rfl) (pe_lst pa_nil)) (pss_cons (ps_for PassesOwn.never rfl (pi_range1 rfl T.free_range (pa_cons (pe_callB (call_lenK (K := K)) (by rfl) T.free_len PySem.boot_len (pa_cons (pv 10) pa_nil)) pa_nil)) (pg_name (i := 4) scN.nd rfl (Or.inr rfl)) (pss_cons (ps_setLc (i := 11) (own := [("_law_one", 12)]) (g := gName 12) rfl scN.nd rfl rfl (sw_true rfl rfl rfl (by decide +kernel)) (pi_listK (K := K) (pv 2)) (blkOk_by (N := ["_law_now", "_law_car", "_law_cars", "_law_found", "_law_lane", "_law_tops", "_law_table", "_law_came", "_law_done_here", "_law_letters", "_law_streaks", "_law_others", "_law_one"]) (sc := defScope s_L_moved) (own := [("_law_one", 12)]) (by decide +kernel)) (fun _ _ _ _ _ => (pg_name (i := 12) scN.nd rfl (Or.inl rfl))) (fun _ _ _ _ _ => (pts_one (pt_cmpR op_eq (pe_ix (ix_tupK (K := K)) (pv 7) (pv 12) (fun _ _ => rfl)) (pv 4) (nomark _)))) (fun _ _ _ _ _ => (pv 12))) (pss_one (ps_expr (pe_bm PySem.F.plainAttrs_list PySem.F.slot_list_append PySem.F.type_list_append mt_append (pv 3) (pa_cons (pe_ifExp (PW.pt (pw_and (pt_cmpR (op_neDK (K := K) hr.units) (pv 11) (pe_lst pa_nil) (nomark _)) (pw_and1 (pt_cmpR op_ne (pv 4) (pe_ix (ix_tupK (K := K)) (pv 7) (pv 1) (fun _ _ => rfl)) (nomark _))))) (pe_op op_add (pe_ix (ix_tupK (K := K)) (pv 10) (pv 4) (fun _ _ => rfl)) pe_int) pe_int) pa_nil)))))) (pss_cons (ps_set (i := 5) scN.nd rfl (Or.inr rfl) (pe_callTy (call_tupK (K := K)) (by rfl) T.free_tuple (by decide +kernel) (pa_cons (pe_lc (own := [("_law_lane", 4)]) (g := gName 4) (tt := tYes) rfl scN.nd (pi_range1 rfl T.free_range (pa_cons (pe_callB (call_lenK (K := K)) (by rfl) T.free_len PySem.boot_len (pa_cons (pv 5) pa_nil)) pa_nil)) (blkOk_by (N := ["_law_now", "_law_car", "_law_cars", "_law_found", "_law_lane", "_law_tops", "_law_table", "_law_came", "_law_done_here", "_law_letters", "_law_streaks", "_law_others", "_law_one"]) (sc := defScope s_L_moved) (own := [("_law_lane", 4)]) (by decide +kernel)) (fun _ _ _ _ _ => (pg_name (i := 4) scN.nd rfl (Or.inl rfl))) (fun _ _ _ _ _ => pts_nil) (fun _ _ _ _ _ => (pe_callB (call_max2 rfl) (by rfl) T.free_max (by decide +kernel) (pa_cons (pe_ix (ix_tupK (K := K)) (pv 5) (pv 4) (fun _ _ => rfl)) (pa_cons (pe_ix (ix_listK (K := K)) (pv 3) (pv 4) (fun _ _ => rfl)) pa_nil))))) pa_nil))) (pss_one (ps_ret (pe_tup (pa_cons (pv 6) (pa_cons (pv 7) (pa_cons (pe_op (op_catK (K := K)) (pv 8) (pe_tup (pa_cons (pv 1) pa_nil))) (pa_cons (pe_op op_add_str (pv 9) pe_str) (pa_cons (pe_callTy (call_tupK (K := K)) (by rfl) T.free_tuple (by decide +kernel) (pa_cons (pv 3) pa_nil)) (pa_cons (pv 5) pa_nil))))))))))))))), ?_⟩
  have hc : c.came.length ≤ 100 := by have := I.many; omega
  have hw := wait_len c.came c.done
  have hn6 := I.rule.top
  have hsk := I.sk
  have htp := I.tops
  have hxl := (mem_waiting.mp hxw).1
  have hcb : (carsBut c.came c.done x).length ≤ 100 := Nat.le_trans (List.length_filter_le ..) (by omega)
  refine df_b (db_seq (dn_asgT (dv_var rfl) (dg_tup (ds := nowL c) (dgs_cons dg_name (dgs_cons dg_name (dgs_cons dg_name (dgs_cons dg_name (dgs_cons dg_name (dgs_cons dg_name dgs_nil)))))) rfl))
    (db_seq (dn_asg (dv_call (ds := [dNow c]) (d := dN x) (da_cons (dv_var rfl) da_nil) ⟨c, n, m, rfl, I, hm, by rw [hx]⟩))
    (db_asgL (ds := (carsBut c.came c.done x).map dN) (DvL.to (dl_lc (xs := waiting c.came c.done) (emb := dN) (f := dN) (p := fun y => !decide (y = x)) (di_tup (dv_call (ds := [dNow c]) (d := dNs (waiting c.came c.done)) (da_cons (dv_var rfl) da_nil) ⟨c, rfl, hc, rfl⟩)) (by omega) (fun x _ => dg_name) (by simp) (fun _ _ => av_N) (fun y _ => dt_test (dv_op rd_neN (dv_var rfl) (dv_var rfl))) fun y _ _ => dv_var rfl) ?_) fun b =>
    (db_build (src := (List.range c.sk.length).map dN) (f := (streaks c.came (carsBut c.came c.done x) c.sk x).map dN) ?_ ?_ (fun e he S => av_map (fun _ => av_N) e he) ?_ (fun a hA i d e h1 h2 => ?_) fun a =>
    (db_seq (dn_asg (dv_tupL (dl_lc (xs := List.range c.tops.length) (emb := dN) (f := fun l => dN (max (ix c.tops l) (ix (streaks c.came (carsBut c.came c.done x) c.sk x) l))) (p := fun _ => true) (di_rng1 (da_cons (dv_lenN (dv_var rfl)) da_nil) (by omega)) (by simp; omega) (fun x _ => dg_name) (by simp) (fun _ _ => av_N) (fun _ _ => dt_yes) fun l hl _ => dv_max (dv_op (rd_ixN (ns := c.tops) (List.mem_range.mp hl)) (dv_var rfl) (dv_var rfl)) (dv_op (rd_ixL (ds := (streaks c.came (carsBut c.came c.done x) c.sk x).map dN) (j := l) ?_) (dv_var rfl) (dv_var rfl)))))
    (db_ret ?_))))))
  · unfold carsBut
    congr 1
  · simp [streaks_length]
  · rw [List.length_map, streaks_length]; omega
  · exact fun a hA => di_rng1 (da_cons (dv_lenN (dv_var rfl)) da_nil) (by omega)
  · rw [List.getElem?_map] at h1
    have hi : i < c.sk.length := by
      cases q : (List.range c.sk.length)[i]? with
      | none => rw [q] at h1; cases h1
      | some x => have := (List.getElem?_eq_some_iff.mp q).1; simpa using this
    rw [List.getElem?_range hi] at h1
    have e' : dN i = d := Option.some.inj h1
    subst e'
    rw [streak_at c x i hi] at h2
    have e2 := Option.some.inj h2
    subst e2
    refine ⟨_, _, _, dg_name, dap_asgL (dl_lc (xs := carsBut c.came c.done x) (emb := dN) (f := dN) (p := fun y => decide (ix c.came y = i)) (di_lst (dv_var rfl)) (by omega) (fun x _ => dg_name) (by simp) (fun _ _ => av_N) (fun y hy => dt_test (dv_op rd_eqN (dv_op (rd_ixN (ns := c.came) (mem_waiting.mp (List.mem_filter.mp hy).1).1) (dv_var rfl) (dv_var rfl)) (dv_var rfl))) fun y _ _ => dv_var rfl) fun b2 hb2 =>
      (dap_app (L := 3) (a := a) rfl ?_ ?_ av_N).weak ((Le.set (i := 11) rfl).trans (Le.set (i := 4) rfl)), .refl⟩
    rotate_left
    · exact (hA.set (i := 4) av_N).set (i := 11) (.lst (by simpa using hb2) (av_map fun _ => av_N))
    refine dv_if (b := !((carsBut c.came c.done x).filter fun y => decide (ix c.came y = i)).isEmpty && !decide (i = ix c.came x)) (dt_and (dt_test (dv_opVL (fun b' => rd_ne0L (a := b2)) (dv_var rfl) (dl_lst da_nil (by simp)))) fun _ => dt_test (dv_op rd_neN (dv_var rfl) (dv_op (rd_ixN (ns := c.came) hxl) (dv_var rfl) (dv_var rfl)))) (fun hb => ?_) (fun hb => ?_)
    · rw [if_pos hb]
      exact dv_op rd_addN (dv_op (rd_ixN (ns := c.sk) hi) (dv_var rfl) (dv_var rfl)) (dv_cN rfl)
    · rw [if_neg (by rw [hb]; exact Bool.false_ne_true)]
      exact dv_cN rfl
  · have hl' : l < c.sk.length := by have := List.mem_range.mp hl; omega
    rw [List.getElem?_map, ix_get (by rw [streaks_length]; exact hl')]; rfl
  · refine Dv.to (dv_tup (da_cons (dv_var rfl) (da_cons (dv_var rfl) (da_cons (dv_op (rd_catT (ds := c.done.map dN) (es := [dN x]) ?_) (dv_var rfl) (dv_tup (da_cons (dv_var rfl) da_nil) (by simp))) (da_cons (dv_op (rd_addS ?_) (dv_var rfl) dv_cS) (da_cons (dv_tupLv (dv_var rfl)) (da_cons (dv_var rfl) da_nil)))))) (by simp)) ?_
    · have := length_sub I.nd I.dlt
      simp; omega
    · rw [I.word]
      have := I.many
      show _ + 1 ≤ 1000
      omega
    · show D.tup _ = D.tup _
      rw [List.filter_eq_self.mpr (fun _ _ => rfl)]
      simp only [moved, maxes, dNs, List.map_append, List.map_map]
      rfl
end
end K70
set_option Elab.async false
set_option linter.all false
set_option maxRecDepth 100000
set_option maxHeartbeats 4000000
namespace K70
open PySem PySem.Spec PyProof.Rows L2
local macro_rules | `(tactic| walk_at "d1") => `(tactic| first
  | ((with_reducible refine' dv_var ?hh); (case hh => exact rfl))
  | with_reducible exact dv_cS
  | with_reducible exact dv_cB
  | with_reducible exact dv_c0
  | ((with_reducible refine' dv_cN ?hh); (case hh => exact rfl))
  | with_reducible exact dv_neg1
  | with_reducible exact dv_cI
  | with_reducible exact da_nil
  | with_reducible refine' da_cons ?_ ?_
  | with_reducible refine' da_starT ?_ ?_
  | with_reducible refine' da_starL ?_ ?_
  | with_reducible refine' dv_op rd_addN ?_ ?_
  | with_reducible refine' dv_op (rd_subN ?_) ?_ ?_
  | with_reducible refine' dv_op rd_ltN ?_ ?_
  | with_reducible refine' dv_op rd_leN ?_ ?_
  | with_reducible refine' dv_op rd_gtN ?_ ?_
  | with_reducible refine' dv_op rd_eqN ?_ ?_
  | with_reducible refine' dv_op rd_neN ?_ ?_
  | with_reducible refine' dv_op rd_eqS ?_ ?_
  | with_reducible refine' dv_op rd_in ?_ ?_
  | with_reducible refine' dv_op rd_notin ?_ ?_
  | with_reducible refine' dv_op rd_eq0 ?_ ?_
  | with_reducible refine' dv_op rd_ne0 ?_ ?_
  | with_reducible refine' dt_test ?_
  | with_reducible refine' dt_tB ?_
  | with_reducible exact dt_yes
  | with_reducible refine' dt_not ?_
  | with_reducible refine' dt_and ?_ fun _ => ?_
  | with_reducible refine' dt_or ?_ fun _ => ?_
  | with_reducible refine' dv_andV ?_ fun _ => ?_
  | with_reducible refine' dv_orV ?_ fun _ => ?_
  | with_reducible refine' dv_notV ?_
  | with_reducible refine' dv_chain rd_leN rd_leN ?_ ?_ ?_
  | ((with_reducible refine' dv_lenN (dv_var ?hh)); (case hh => exact rfl))
  | ((with_reducible refine' dv_lenR (dv_var ?hh)); (case hh => exact rfl))
  | with_reducible refine' dv_lenN ?_
  | with_reducible refine' dv_lenR ?_
  | with_reducible refine' dv_max ?_ ?_
  | with_reducible refine' di_tup ?_
  | with_reducible refine' di_lst ?_)
local macro_rules | `(tactic| walk_at "dv") => `(tactic| all_goals (repeat' walk_at "d1"))

section
variable {P : Program} {w : World} {K : PySem.W.Frag} {mg : Str → Option Value} {base : Heap}
/-- after(now, edit, None): [None, the state behind it] -/
def relAfter (ds es : List D) : Prop := ∃ (s : Sc) (e : Ed) (n m : Nat), ds = [dNow s, dEd e, .non] ∧ Inv n m s ∧ Val n s e ∧ m ≤ 39 ∧ es = [.non, dNow (step s e)]
theorem u_L_after (T : Tx K mg) : Use P w K mg base "_law_after" 4 ["_law_now", "_law_edit_here", "_law_cap"] (spL relAfter) := by
  have scN := (⟨rfl, rfl, rfl, by decide +kernel, rfl, by decide +kernel, by decide +kernel⟩ : FnScope ["_law_now", "_law_edit_here", "_law_cap", "_law_later", "_law_over", "_law_table", "_law_came", "_law_done_here", "_law_letters", "_law_streaks", "_law_tops", "_law_more", "_law_error", "_law_lane"] ["_law_now", "_law_edit_here", "_law_cap"] (defScope s_L_after))
  refine mk_list T.f_L_after T.glo_L_after scN (fun kV doc pm an cdv ct us hl => match us, hl with | [_, _, _], _ => rfl) (fun ds d ⟨_, _, _, _, e, _⟩ => by rw [e]; rfl) fun cdv A outer s H E ds d hr ⟨c, ed, n, m, e1, I, hv, hm, e2⟩ => ?_
  subst e1 e2
  refine ⟨_, (pss_cons (ps_asg (pv 0) (pg_tup rfl (pgs_cons (pg_name (i := 5) scN.nd rfl (Or.inl rfl)) (pgs_cons (pg_name (i := 6) scN.nd rfl (Or.inl rfl)) (pgs_cons (pg_name (i := 7) scN.nd rfl (Or.inl rfl)) (pgs_cons (pg_name (i := 8) scN.nd rfl (Or.inl rfl)) (pgs_cons (pg_name (i := 9) scN.nd rfl (Or.inl rfl)) (pgs_cons (pg_name (i := 10) scN.nd rfl (Or.inl rfl)) pgs_nil)))))))) (pss_cons (ps_if (pt_cmpR op_eq (pe_ix (ix_tupK (K := K)) (pv 1) pe_int (fun _ _ => rfl)) pe_str (nomark _)) (pss_cons (ps_if (pt_not (pt_val (pe_use (u_L_whole T) hr (by decide) rfl (pa_cons (pe_ix (ix_tupK (K := K)) (pv 1) pe_int (fun _ _ => rfl)) (pa_cons pe_int (pa_cons (pe_op op_sub (pe_callB (call_lenK (K := K)) (by rfl) T.free_len PySem.boot_len (pa_cons (pv 5) pa_nil)) pe_int) pa_nil)))))) (pss_one (ps_ret (pe_lst (pa_cons (pe_lst (pa_cons pe_str (pa_cons (pe_ix (ix_tupK (K := K)) (pv 1) pe_int (fun _ _ => rfl)) pa_nil))) (pa_cons (pv 0) pa_nil))))) pss_nil) (pss_cons (ps_set (i := 11) scN.nd rfl (Or.inl rfl) (pe_tup (pa_cons (pv 5) (pa_cons (pe_op (op_catK (K := K)) (pv 6) (pe_tup (pa_cons (pe_ix (ix_tupK (K := K)) (pv 1) pe_int (fun _ _ => rfl)) pa_nil))) (pa_cons (pv 7) (pa_cons (pe_op op_add_str (pv 8) pe_str) (pa_cons (pv 9) (pa_cons (pv 10) pa_nil)))))))) (pss_one (ps_ret (pe_ifExp (pt_cmpR op_eq (pe_callB (call_lenK (K := K)) (by rfl) T.free_len PySem.boot_len (pa_cons (pv 6) pa_nil)) pe_int (nomark _)) (pe_lst (pa_cons (pe_lst (pa_cons pe_str (pa_cons pe_int pa_nil))) (pa_cons (pv 0) pa_nil))) (pe_lst (pa_cons pe_non (pa_cons (pv 11) pa_nil)))))))) pss_nil) (pss_cons (ps_if (pt_cmpR op_eq (pe_ix (ix_tupK (K := K)) (pv 1) pe_int (fun _ _ => rfl)) pe_str (nomark _)) (pss_cons (ps_set (i := 12) scN.nd rfl (Or.inl rfl) (pe_use (u_L_rule_error T) hr (by decide) rfl (pa_cons (pe_ix (ix_tupK (K := K)) (pv 1) pe_int (fun _ _ => rfl)) pa_nil))) (pss_cons (ps_if (pt_cmpR op_notN (pv 12) pe_non (nomark _)) (pss_one (ps_ret (pe_lst (pa_cons (pe_lst (pa_cons pe_str (pa_cons (pv 12) pa_nil))) (pa_cons (pv 0) pa_nil))))) pss_nil) (pss_cons (ps_if (pt_cmpR op_ne (pe_callB (call_lenK (K := K)) (by rfl) T.free_len PySem.boot_len (pa_cons (pe_ix (ix_tupK (K := K)) (pv 1) pe_int (fun _ _ => rfl)) pa_nil)) (pe_callB (call_lenK (K := K)) (by rfl) T.free_len PySem.boot_len (pa_cons (pv 5) pa_nil)) (nomark _)) (pss_one (ps_ret (pe_lst (pa_cons (pe_lst (pa_cons pe_str (pa_cons (pe_op op_sub (pe_callB (call_lenK (K := K)) (by rfl) T.free_len PySem.boot_len (pa_cons (pe_ix (ix_tupK (K := K)) (pv 1) pe_int (fun _ _ => rfl)) pa_nil)) pe_int) pa_nil))) (pa_cons (pv 0) pa_nil))))) pss_nil) (pss_one (ps_ret (pe_lst (pa_cons pe_non (pa_cons (pe_tup (pa_cons (pe_ix (ix_tupK (K := K)) (pv 1) pe_int (fun _ _ => rfl)) (pa_cons (pv 6) (pa_cons (pv 7) (pa_cons (pv 8) (pa_cons (pv 9) (pa_cons (pv 10) pa_nil))))))) pa_nil)))))))) pss_nil) (pss_cons (ps_if (pt_cmpR op_eq (pe_callB (call_lenK (K := K)) (by rfl) T.free_len PySem.boot_len (pa_cons (pv 6) pa_nil)) (pe_callB (call_lenK (K := K)) (by rfl) T.free_len PySem.boot_len (pa_cons (pv 7) pa_nil)) (nomark _)) (pss_one (ps_ret (pe_lst (pa_cons (pe_lst (pa_cons pe_str pa_nil)) (pa_cons (pv 0) pa_nil))))) pss_nil) (pss_cons (ps_set (i := 3) scN.nd rfl (Or.inr rfl) (pe_use (u_L_moved T) hr (by decide) rfl (pa_cons (pv 0) pa_nil))) (pss_cons (ps_setLc (i := 4) (own := [("_law_lane", 13)]) (g := gName 13) rfl scN.nd rfl rfl (sw_true rfl rfl rfl (by decide +kernel)) (pi_range1 rfl T.free_range (pa_cons (pe_callB (call_lenK (K := K)) (by rfl) T.free_len PySem.boot_len (pa_cons (pv 10) pa_nil)) pa_nil)) (blkOk_by (N := ["_law_now", "_law_edit_here", "_law_cap", "_law_later", "_law_over", "_law_table", "_law_came", "_law_done_here", "_law_letters", "_law_streaks", "_law_tops", "_law_more", "_law_error", "_law_lane"]) (sc := defScope s_L_after) (own := [("_law_lane", 13)]) (by decide +kernel)) (fun _ _ _ _ _ => (pg_name (i := 13) scN.nd rfl (Or.inl rfl))) (fun _ _ _ _ _ => (pts_one (PW.pt (pw_and (pt_cmpR op_notN (pv 2) pe_non (nomark _)) (pw_and1 (pt_cmpR op_gt (pe_ix (ix_tupK (K := K)) (pe_ix (ix_tupK (K := K)) (pv 3) pe_int (fun _ _ => rfl)) (pv 13) (fun _ _ => rfl)) (pv 2) (nomark _))))))) (fun _ _ _ _ _ => (pv 13))) (pss_one (ps_ret (pe_ifExp (pt_cmpR (op_neDK (K := K) hr.units) (pv 4) (pe_lst pa_nil) (nomark _)) (pe_lst (pa_cons (pe_lst (pa_cons pe_str (pa_cons (pe_ix (ix_listK (K := K)) (pv 4) pe_int (fun _ _ => rfl)) pa_nil))) (pa_cons (pv 0) pa_nil))) (pe_lst (pa_cons pe_non (pa_cons (pv 3) pa_nil)))))))))))), ?_⟩
  have hc : c.came.length ≤ 39 := by have := I.many; omega
  have hRl := I.rule.len
  have hn6 := I.rule.top
  have htp := I.tops
  refine dbl_seq (dn_asgT (dv_var rfl) (dg_tup (ds := nowL c) (dgs_cons dg_name (dgs_cons dg_name (dgs_cons dg_name (dgs_cons dg_name (dgs_cons dg_name (dgs_cons dg_name dgs_nil)))))) rfl)) ?_
  cases ed with
  | come l =>
    have hl : l < n := hv
    refine dbl_now (dbl_ifT (dt_test (Dv.to (dv_op (rd_eqS (x := "come") (y := "come")) (dv_op (rd_ix (ds := [.str "come", dN l]) (j := 0) rfl) (dv_var rfl) (dv_cN rfl)) dv_cS) rfl)) ?_)
    refine dbl_seq (dn_skip (Dt.to (b := !true) (dt_not (dt_tB (dv_call (ds := [dN l, dN 0, dN (c.t.length - 2)]) (da_cons (dv_op (rd_ix (ds := [.str "come", dN l]) (j := 1) rfl) (dv_var rfl) (dv_cN rfl)) (da_cons (dv_cN rfl) (da_cons (dv_op (rd_subN (by omega)) (dv_lenR (dv_var rfl)) (dv_cN rfl)) da_nil))) ⟨l, 0, c.t.length - 2, rfl, ?_⟩))) rfl)) ?_
    · simp; omega
    refine dbl_seq (dn_asg (d := dNow (step c (.come l))) (Dv.to (dv_tup (da_cons (dv_var rfl) (da_cons (dv_op (rd_catT (ds := c.came.map dN) (es := [dN l]) (by simp; omega)) (dv_var rfl) (dv_tup (da_cons (dv_op (rd_ix (ds := [.str "come", dN l]) (j := 1) rfl) (dv_var rfl) (dv_cN rfl)) da_nil) (by simp))) (da_cons (dv_var rfl) (da_cons (dv_op (rd_addS ?_) (dv_var rfl) dv_cS) (da_cons (dv_var rfl) (da_cons (dv_var rfl) da_nil)))))) (by simp)) ?_)) (dbl_ret (dl_if (b := decide (c.came.length = 40)) (dt_test (dv_op rd_eqN (dv_lenN (dv_var rfl)) (dv_cN rfl))) (fun h => ?_) fun _ => dl_lst (da_cons dv_c0 (da_cons (dv_var rfl) da_nil)) (by simp)))
    · rw [I.word]
      have := I.many
      show _ + 1 ≤ 1000
      omega
    · show D.tup _ = D.tup _
      simp only [step, dNs, List.map_append]
      rfl
    · have := of_decide_eq_true h
      omega
  | chg t =>
    have hR : RuleOk n t := hv
    have hl := hR.len
    refine dbl_seq (dn_skip (dt_test (Dv.to (dv_op (rd_eqS (x := "change") (y := "come")) (dv_op (rd_ix (ds := [.str "change", dRule t]) (j := 0) rfl) (dv_var rfl) (dv_cN rfl)) dv_cS) (congrArg D.bl (by decide +kernel))))) ?_
    refine dbl_now (dbl_ifT (dt_test (Dv.to (dv_op (rd_eqS (x := "change") (y := "change")) (dv_op (rd_ix (ds := [.str "change", dRule t]) (j := 0) rfl) (dv_var rfl) (dv_cN rfl)) dv_cS) rfl)) ?_)
    refine dbl_seq (dn_asg (dv_call (ds := [dRule t]) (d := .non) (da_cons (dv_op (rd_ix (ds := [.str "change", dRule t]) (j := 1) rfl) (dv_var rfl) (dv_cN rfl)) da_nil) ⟨t, n, rfl, hR, rfl⟩)) ?_
    refine dbl_seq (dn_skip (dt_test (dv_op (rd_notN (d := .non) (fun w h => by cases h)) (dv_var rfl) dv_c0))) ?_
    refine dbl_seq (dn_skip (dt_test (Dv.to (dv_op (rd_neN (n := t.length) (m := c.t.length)) (dv_lenR (dv_op (rd_ix (ds := [.str "change", dRule t]) (j := 1) rfl) (dv_var rfl) (dv_cN rfl))) (dv_lenR (dv_var rfl))) (by rw [hl, hRl]; simp)))) ?_
    exact dbl_ret (dl_lst (da_cons dv_c0 (da_cons (dv_tup (da_cons (dv_op (rd_ix (ds := [.str "change", dRule t]) (j := 1) rfl) (dv_var rfl) (dv_cN rfl)) (da_cons (dv_var rfl) (da_cons (dv_var rfl) (da_cons (dv_var rfl) (da_cons (dv_var rfl) (da_cons (dv_var rfl) da_nil)))))) (by simp)) da_nil)) (by simp))
  | go =>
    have hlt : c.done.length < c.came.length := hv
    obtain ⟨x, hx, hxw⟩ := I.go hlt
    have est : step c .go = moved c x := by simp only [step, hx]
    rw [est]
    refine dbl_seq (dn_skip (dt_test (Dv.to (dv_op (rd_eqS (x := "go") (y := "come")) (dv_op (rd_ix (ds := [.str "go"]) (j := 0) rfl) (dv_var rfl) (dv_cN rfl)) dv_cS) (congrArg D.bl (by decide +kernel))))) ?_
    refine dbl_seq (dn_skip (dt_test (Dv.to (dv_op (rd_eqS (x := "go") (y := "change")) (dv_op (rd_ix (ds := [.str "go"]) (j := 0) rfl) (dv_var rfl) (dv_cN rfl)) dv_cS) (congrArg D.bl (by decide +kernel))))) ?_
    refine dbl_seq (dn_skip (dt_test (Dv.to (dv_op (rd_eqN (n := c.came.length) (m := c.done.length)) (dv_lenN (dv_var rfl)) (dv_lenN (dv_var rfl))) (congrArg D.bl (decide_eq_false (by omega)))))) ?_
    refine dbl_seq (dn_asg (dv_call (ds := [dNow c]) (d := dNow (moved c x)) (da_cons (dv_var rfl) da_nil) ⟨c, n, m, x, rfl, I, by omega, hx, hxw, rfl⟩)) ?_
    refine dbl_asgL (ds := ([] : List Nat).map dN) (DvL.to (dl_lc (xs := List.range c.tops.length) (emb := dN) (f := dN) (p := fun _ => false) (di_rng1 (da_cons (dv_lenN (dv_var rfl)) da_nil) (by omega)) (by simp; omega) (fun x _ => dg_name) (by simp) (fun _ _ => av_N) (fun y _ => Dt.to (dt_and (b2 := true) (dt_test (dv_op (rd_notN (d := .non) (fun w h => by cases h)) (dv_var rfl) dv_c0)) fun h => by cases h) rfl) fun y _ h => by cases h) (by simp)) fun b => ?_
    exact dbl_ret (dl_if (b := !List.isEmpty ([] : List Nat)) (dt_test (dv_opVL (fun b' => rd_ne0L (a := b)) (dv_var rfl) (dl_lst da_nil (by simp)))) (fun h => by cases h) fun _ => dl_lst (da_cons dv_c0 (da_cons (dv_var rfl) da_nil)) (by simp))
/-- first(table, ()) -/
theorem rd_strmul0 {x : Str} : Rd2 (fun x y H (Q : VK) => ∃ z, x = V.str z ∧ y = .int 0 ∧ Q (.str Str.empty) H) (.str x) (dN 0) (.str Str.empty) := rd_pure fun x y H Q a1 a2 q => ⟨_, a1.str_inv, a2.int_inv, q _ (.str _)⟩
def relFirst (ds : List D) (d : D) : Prop := ∃ (t : Rule) (n : Nat), ds = [dRule t, .tup []] ∧ RuleOk n t ∧ d = dNow (first t)
theorem u_L_first (T : Tx K mg) : Use P w K mg base "_law_first" 1 ["_law_table", "_law_lanes"] (spP relFirst) := by
  have scN := (⟨rfl, rfl, rfl, by decide +kernel, rfl, by decide +kernel, by decide +kernel⟩ : FnScope ["_law_table", "_law_lanes", "_law_zeros"] ["_law_table", "_law_lanes"] (defScope s_L_first))
  refine mk_pure T.f_L_first T.glo_L_first scN (fun kV doc pm an cdv ct us hl => match us, hl with | [_, _], _ => rfl) (fun ds d ⟨_, _, e, _⟩ => by rw [e]; rfl) fun cdv A outer s H E ds d hr ⟨t, n, e1, R, e2⟩ => ?_
  subst e1 e2
  refine ⟨_, (pss_cons (ps_set (i := 2) scN.nd rfl (Or.inl rfl) (pe_op (op_repK (K := K)) (pe_tup (pa_cons pe_int pa_nil)) (pe_op op_sub (pe_callB (call_lenK (K := K)) (by rfl) T.free_len PySem.boot_len (pa_cons (pv 0) pa_nil)) pe_int))) (pss_one (ps_ret (pe_tup (pa_cons (pv 0) (pa_cons (pe_callTy (call_tupK (K := K)) (by rfl) T.free_tuple (by decide +kernel) (pa_cons (pv 1) pa_nil)) (pa_cons (pe_tup pa_nil) (pa_cons (pe_op op_strmul0 pe_str (pe_callB (call_lenK (K := K)) (by rfl) T.free_len PySem.boot_len (pa_cons (pv 1) pa_nil))) (pa_cons (pv 2) (pa_cons (pv 2) pa_nil)))))))))), ?_⟩
  have hl := R.len
  have h1 := R.pos
  have h2 := R.top
  refine df_b (db_seq (dn_asg (d := dNs (List.replicate (t.length - 1) 0)) (Dv.to (dv_op (rd_rep (n := t.length - 1) (d := dN 0) (by omega) (by omega)) (dv_tup (da_cons (dv_cN rfl) da_nil) (by simp)) (dv_op (rd_subN (by omega)) (dv_lenR (dv_var rfl)) (dv_cN rfl))) ?_)) (db_ret (dv_tup (ds := [dRule t, dNs [], dNs [], .str "", dNs (List.replicate (t.length - 1) 0), dNs (List.replicate (t.length - 1) 0)]) (da_cons (dv_var rfl) (da_cons (dv_tupT (ds := []) (dv_var rfl)) (da_cons (dv_tup da_nil (by simp)) (da_cons (dv_op rd_strmul0 dv_cS (dv_lenT (ds := []) (dv_var rfl) rfl)) (da_cons (dv_var rfl) (da_cons (dv_var rfl) da_nil)))))) (by simp))))
  show D.tup _ = D.tup _
  rw [List.map_replicate]
end
end K70
set_option Elab.async false
set_option linter.all false
set_option maxRecDepth 100000
set_option maxHeartbeats 4000000
namespace K70
open PySem PySem.Spec PyProof.Rows L2
local macro_rules | `(tactic| walk_at "d1") => `(tactic| first
  | ((with_reducible refine' dv_var ?hh); (case hh => exact rfl))
  | with_reducible exact dv_cS
  | with_reducible exact dv_cB
  | with_reducible exact dv_c0
  | ((with_reducible refine' dv_cN ?hh); (case hh => exact rfl))
  | with_reducible exact dv_neg1
  | with_reducible exact dv_cI
  | with_reducible exact da_nil
  | with_reducible refine' da_cons ?_ ?_
  | with_reducible refine' da_starT ?_ ?_
  | with_reducible refine' da_starL ?_ ?_
  | with_reducible refine' dv_op rd_addN ?_ ?_
  | with_reducible refine' dv_op (rd_subN ?_) ?_ ?_
  | with_reducible refine' dv_op rd_ltN ?_ ?_
  | with_reducible refine' dv_op rd_leN ?_ ?_
  | with_reducible refine' dv_op rd_gtN ?_ ?_
  | with_reducible refine' dv_op rd_eqN ?_ ?_
  | with_reducible refine' dv_op rd_neN ?_ ?_
  | with_reducible refine' dv_op rd_eqS ?_ ?_
  | with_reducible refine' dv_op rd_in ?_ ?_
  | with_reducible refine' dv_op rd_notin ?_ ?_
  | with_reducible refine' dv_op rd_eq0 ?_ ?_
  | with_reducible refine' dv_op rd_ne0 ?_ ?_
  | with_reducible refine' dt_test ?_
  | with_reducible refine' dt_tB ?_
  | with_reducible exact dt_yes
  | with_reducible refine' dt_not ?_
  | with_reducible refine' dt_and ?_ fun _ => ?_
  | with_reducible refine' dt_or ?_ fun _ => ?_
  | with_reducible refine' dv_andV ?_ fun _ => ?_
  | with_reducible refine' dv_orV ?_ fun _ => ?_
  | with_reducible refine' dv_notV ?_
  | with_reducible refine' dv_chain rd_leN rd_leN ?_ ?_ ?_
  | ((with_reducible refine' dv_lenN (dv_var ?hh)); (case hh => exact rfl))
  | ((with_reducible refine' dv_lenR (dv_var ?hh)); (case hh => exact rfl))
  | with_reducible refine' dv_lenN ?_
  | with_reducible refine' dv_lenR ?_
  | with_reducible refine' dv_max ?_ ?_
  | with_reducible refine' di_tup ?_
  | with_reducible refine' di_lst ?_)
local macro_rules | `(tactic| walk_at "dv") => `(tactic| all_goals (repeat' walk_at "d1"))

section
variable {P : Program} {w : World} {K : PySem.W.Frag} {mg : Str → Option Value} {base : Heap}
theorem flt_all {α : Type} (xs : List α) : xs.filter (fun _ => true) = xs := List.filter_eq_self.mpr fun _ _ => rfl
/-- a rule with its lanes renamed -/
def relRen (ds : List D) (d : D) : Prop := ∃ (t : Rule) (nm : List Nat) (n : Nat), ds = [dRule t, .fru nm] ∧ RuleOk n t ∧ Names n nm ∧ d = dRule (ren nm t)
theorem u_L_renamed (T : Tx K mg) : Use P w K mg base "_law_renamed" 1 ["_law_rule_here", "_law_names"] (spP relRen) := by
  have scN := (⟨rfl, rfl, rfl, by decide +kernel, rfl, by decide +kernel, by decide +kernel⟩ : FnScope ["_law_rule_here", "_law_names", "_law_rows", "_law_lane", "_law_one"] ["_law_rule_here", "_law_names"] (defScope s_L_renamed))
  refine mk_pure T.f_L_renamed T.glo_L_renamed scN (fun kV doc pm an cdv ct us hl => match us, hl with | [_, _], _ => rfl) (fun ds d ⟨_, _, _, e, _⟩ => by rw [e]; rfl) fun cdv A outer s H E ds d hr ⟨t, nm, n, e1, R, N, e2⟩ => ?_
  subst e1 e2
  refine ⟨_, (pss_cons (ps_setLc (i := 2) (own := [("_law_lane", 3)]) (g := gName 3) (tt := tYes) rfl scN.nd rfl rfl (sw_true rfl rfl rfl (by decide +kernel)) (pi_range1 rfl T.free_range (pa_cons (pe_callB (call_lenK (K := K)) (by rfl) T.free_len PySem.boot_len (pa_cons (pv 1) pa_nil)) pa_nil)) (blkOk_by (N := ["_law_rule_here", "_law_names", "_law_rows", "_law_lane", "_law_one"]) (sc := defScope s_L_renamed) (own := [("_law_lane", 3)]) (by decide +kernel)) (fun _ _ _ _ _ => (pg_name (i := 3) scN.nd rfl (Or.inl rfl))) (fun _ _ _ _ _ => pts_nil) (fun _ _ _ _ _ => (pe_callTy (call_tupK (K := K)) (by rfl) T.free_tuple (by decide +kernel) (pa_cons (pe_lc (own := [("_law_one", 4)]) (g := gName 4) (tt := tYes) rfl scN.nd (pi_tupK (K := K) (pe_ix (ix_tupK (K := K)) (pv 0) (pe_op op_add pe_int (pe_tidx (K := K) (pv 1) (pa_cons (pv 3) pa_nil))) (fun _ _ => rfl))) (blkOk_by (N := ["_law_rule_here", "_law_names", "_law_rows", "_law_lane", "_law_one"]) (sc := _) (own := [("_law_one", 4)]) (by show blkC _ (relS _ (defScope s_L_renamed)) _ _ = true; decide +kernel)) (fun _ _ _ _ _ => (pg_name (i := 4) scN.nd rfl (Or.inl rfl))) (fun _ _ _ _ _ => pts_nil) (fun _ _ _ _ _ => (pe_ix (ix_tupK (K := K)) (pv 1) (pv 4) (fun _ _ => rfl)))) pa_nil)))) (pss_one (ps_ret (pe_op (op_catK (K := K)) (pe_tup (pa_cons (pe_callTy (call_tupK (K := K)) (by rfl) T.free_tuple (by decide +kernel) (pa_cons (pe_lc (own := [("_law_one", 4)]) (g := gName 4) (tt := tYes) rfl scN.nd (pi_tupK (K := K) (pe_ix (ix_tupK (K := K)) (pv 0) pe_int (fun _ _ => rfl))) (blkOk_by (N := ["_law_rule_here", "_law_names", "_law_rows", "_law_lane", "_law_one"]) (sc := defScope s_L_renamed) (own := [("_law_one", 4)]) (by decide +kernel)) (fun _ _ _ _ _ => (pg_name (i := 4) scN.nd rfl (Or.inl rfl))) (fun _ _ _ _ _ => pts_nil) (fun _ _ _ _ _ => (pe_ix (ix_tupK (K := K)) (pv 1) (pv 4) (fun _ _ => rfl)))) pa_nil)) pa_nil)) (pe_callTy (call_tupK (K := K)) (by rfl) T.free_tuple (by decide +kernel) (pa_cons (pv 2) pa_nil)))))), ?_⟩
  have hl := R.len
  have h2 := R.top
  have hn := N.len
  have row : ∀ r ∈ t, r.length = n ∧ ∀ l ∈ r, l < nm.length := fun r hr => ⟨by rw [(R.row r hr).length_eq, List.length_range], fun l hx => by rw [hn]; exact (R.mem hr).mp hx⟩
  have h0 : t.getD 0 [] ∈ t := getD_mem (by omega)
  refine df_b (db_asgL (ds := ((List.range nm.length).map fun l => (t.getD (1 + nm.idxOf l) []).map (ix nm)).map dNs) (DvL.to (dl_lc (xs := List.range nm.length) (emb := dN) (f := fun l => dNs ((t.getD (1 + nm.idxOf l) []).map (ix nm))) (p := fun _ => true) (di_rng1 (da_cons (dv_lenN (Dv.fru (dv_var rfl))) da_nil) (by omega)) (by simp; omega) (fun x _ => dg_name) (by simp) (fun _ _ => av_Ns) (fun x _ => dt_yes) fun l hl2 _ => ?_) ?_) fun b => db_ret (Dv.to (dv_op (rd_catT (ds := [dNs ((t.getD 0 []).map (ix nm))]) (es := ((List.range nm.length).map fun l => (t.getD (1 + nm.idxOf l) []).map (ix nm)).map dNs) (by simp; omega)) (dv_tup (da_cons (Dv.to (dv_tupL (dl_lc (xs := t.getD 0 []) (emb := dN) (f := fun l => dN (ix nm l)) (p := fun _ => true) (di_tup (dv_op (rd_ixR (ru := t) (j := 0) (by omega)) (dv_var rfl) (dv_cN rfl))) (by rw [(row _ h0).1]; omega) (fun x _ => dg_name) (by simp) (fun _ _ => av_N) (fun x _ => dt_yes) fun l hl2 _ => dv_op (rd_ixN (ns := nm) ((row _ h0).2 l hl2)) (Dv.fru (dv_var rfl)) (dv_var rfl))) ?_) da_nil) (by simp)) (dv_tupLv (dv_var rfl))) ?_))
  · have hlt : l < n := by have := List.mem_range.mp hl2; omega
    have hx := (N.idx hlt).1
    have hm : l ∈ nm := N.perm.mem_iff.mpr (List.mem_range.mpr hlt)
    have h1 : t.getD (1 + nm.idxOf l) [] ∈ t := getD_mem (by omega)
    refine Dv.to (dv_tupL (dl_lc (xs := t.getD (1 + nm.idxOf l) []) (emb := dN) (f := fun l => dN (ix nm l)) (p := fun _ => true) (di_tup (dv_op (rd_ixR (ru := t) (j := 1 + nm.idxOf l) (by omega)) (dv_var rfl) (dv_op rd_addN (dv_cN rfl) (dv_indexF (ns := nm) (k := l) (dv_var rfl) (dv_var rfl) hm)))) (by rw [(row _ h1).1]; omega) (fun x _ => dg_name) (by simp) (fun _ _ => av_N) (fun x _ => dt_yes) fun l hl2 _ => dv_op (rd_ixN (ns := nm) ((row _ h1).2 l hl2)) (Dv.fru (dv_var rfl)) (dv_var rfl))) ?_
    show D.tup _ = D.tup _
    rw [flt_all, List.map_map]; rfl
  · rw [flt_all, List.map_map]; rfl
  · show D.tup _ = D.tup _
    rw [flt_all, List.map_map]; rfl
  · rfl
abbrev dEds (es : List Ed) : List D := es.map dEd
/-- the edits with the lanes renamed -/
def relRenE (ds es : List D) : Prop := ∃ (a : Addr) (eds : List Ed) (nm : List Nat) (n : Nat), ds = [.lst a (dEds eds), .fru nm] ∧ eds.length ≤ 100 ∧ Names n nm ∧ (∀ e ∈ eds, match e with | .come l => l < n | .go => True | .chg t => RuleOk n t) ∧ es = dEds (eds.map (renE nm))
theorem av_Eds {S : List Addr} {eds : List Ed} : ∀ d ∈ dEds eds, Av S d := av_map fun _ => av_Ed
theorem u_L_renamed_edits (T : Tx K mg) : Use P w K mg base "_law_renamed_edits" 2 ["_law_edits", "_law_names"] (spL relRenE) := by
  have scN := (⟨rfl, rfl, rfl, by decide +kernel, rfl, by decide +kernel, by decide +kernel⟩ : FnScope ["_law_edits", "_law_names", "_law_found", "_law_edit_here"] ["_law_edits", "_law_names"] (defScope s_L_renamed_edits))
  refine mk_list T.f_L_renamed_edits T.glo_L_renamed_edits scN (fun kV doc pm an cdv ct us hl => match us, hl with | [_, _], _ => rfl) (fun ds d ⟨_, _, _, _, e, _⟩ => by rw [e]; rfl) fun cdv A outer s H E ds d hr ⟨b, eds, nm, n, e1, hlen, N, hok, e2⟩ => ?_
  subst e1 e2
  refine ⟨_, (pss_cons (ps_set (i := 2) scN.nd rfl (Or.inl rfl) (pe_lst pa_nil)) (pss_cons (ps_for PassesOwn.never rfl (pi_listK (K := K) (pv 0)) (pg_name (i := 3) scN.nd rfl (Or.inl rfl)) (pss_cons (ps_if (pt_cmpR op_eq (pe_ix (ix_tupK (K := K)) (pv 3) pe_int (fun _ _ => rfl)) pe_str (nomark _)) (pss_one (ps_set (i := 3) scN.nd rfl (Or.inl rfl) (pe_tup (pa_cons pe_str (pa_cons (pe_ix (ix_tupK (K := K)) (pv 1) (pe_ix (ix_tupK (K := K)) (pv 3) pe_int (fun _ _ => rfl)) (fun _ _ => rfl)) pa_nil))))) (pss_one (ps_if (pt_cmpR op_eq (pe_ix (ix_tupK (K := K)) (pv 3) pe_int (fun _ _ => rfl)) pe_str (nomark _)) (pss_one (ps_set (i := 3) scN.nd rfl (Or.inl rfl) (pe_tup (pa_cons pe_str (pa_cons (pe_use (u_L_renamed T) hr (by decide) rfl (pa_cons (pe_ix (ix_tupK (K := K)) (pv 3) pe_int (fun _ _ => rfl)) (pa_cons (pv 1) pa_nil))) pa_nil))))) pss_nil))) (pss_one (ps_expr (pe_bm PySem.F.plainAttrs_list PySem.F.slot_list_append PySem.F.type_list_append mt_append (pv 2) (pa_cons (pv 3) pa_nil)))))) (pss_one (ps_ret (pv 2))))), ?_⟩
  refine dbl_build (src := dEds eds) (f := dEds (eds.map (renE nm))) (by show 2 < 4; decide) (by simp) (by simp; omega) (fun e he S => av_Eds e he) (fun a hA => di_lstS (a := b) (dv_var rfl) av_Eds ?_) fun a hA i d e h1 h2 => ?_
  · have := hA 0 _ rfl
    cases this with
    | lst h _ => exact h
  · rw [List.getElem?_map] at h1 h2
    rw [List.getElem?_map] at h2
    cases q : eds[i]? with
    | none => rw [q] at h1; cases h1
    | some ed =>
      rw [q] at h1 h2
      have e1 : dEd ed = d := Option.some.inj h1
      have e2 : dEd (renE nm ed) = e := Option.some.inj h2
      subst e1 e2
      have ok := hok ed (List.mem_of_getElem? q)
      refine ⟨_, _, _, dg_name, (dap_seq (ρ1 := ((startD ["_law_edits", "_law_names", "_law_found", "_law_edit_here"] [.lst b (dEds eds), .fru nm]).set 2 (some (.raw (.ref a)))).set 3 (some (dEd (renE nm ed)))) ?_ (dap_app (L := 2) (a := a) rfl (dv_var rfl) (hA.set (i := 3) av_Ed) av_Ed)).weak (Le.set (i := 3) rfl), .refl⟩
      cases ed with
      | come l =>
        exact dn_ifT (dt_test (Dv.to (dv_op (rd_eqS (x := "come") (y := "come")) (dv_op (rd_ix (ds := [.str "come", dN l]) (j := 0) rfl) (dv_var rfl) (dv_cN rfl)) dv_cS) rfl)) (dn_asg (i := 3) (d := dEd (renE nm (.come l))) (dv_tup (da_cons dv_cS (da_cons (dv_op (rd_ixN (ns := nm) (by rw [N.len]; exact ok)) (Dv.fru (dv_var rfl)) (dv_op (rd_ix (ds := [.str "come", dN l]) (j := 1) rfl) (dv_var rfl) (dv_cN rfl))) da_nil)) (by simp)))
      | go =>
        exact dn_ifF (dt_test (Dv.to (dv_op (rd_eqS (x := "go") (y := "come")) (dv_op (rd_ix (ds := [.str "go"]) (j := 0) rfl) (dv_var rfl) (dv_cN rfl)) dv_cS) (congrArg D.bl (by decide +kernel)))) (dn_ifF (dt_test (Dv.to (dv_op (rd_eqS (x := "go") (y := "change")) (dv_op (rd_ix (ds := [.str "go"]) (j := 0) rfl) (dv_var rfl) (dv_cN rfl)) dv_cS) (congrArg D.bl (by decide +kernel)))) dn_next)
      | chg t =>
        exact dn_ifF (dt_test (Dv.to (dv_op (rd_eqS (x := "change") (y := "come")) (dv_op (rd_ix (ds := [.str "change", dRule t]) (j := 0) rfl) (dv_var rfl) (dv_cN rfl)) dv_cS) (congrArg D.bl (by decide +kernel)))) (dn_ifT (dt_test (Dv.to (dv_op (rd_eqS (x := "change") (y := "change")) (dv_op (rd_ix (ds := [.str "change", dRule t]) (j := 0) rfl) (dv_var rfl) (dv_cN rfl)) dv_cS) rfl)) (dn_asg (i := 3) (d := dEd (renE nm (.chg t))) (dv_tup (da_cons dv_cS (da_cons (dv_call (ds := [dRule t, .fru nm]) (d := dRule (ren nm t)) (da_cons (dv_op (rd_ix (ds := [.str "change", dRule t]) (j := 1) rfl) (dv_var rfl) (dv_cN rfl)) (da_cons (dv_var rfl) da_nil)) ⟨t, nm, n, rfl, ok, N, rfl⟩) da_nil)) (by simp))))
end
end K70
set_option Elab.async false
set_option linter.all false
set_option maxRecDepth 100000
set_option maxHeartbeats 4000000
namespace K70
open PySem PySem.Spec PyProof.Rows L2
local macro_rules | `(tactic| walk_at "d1") => `(tactic| first
  | ((with_reducible refine' dv_var ?hh); (case hh => exact rfl))
  | with_reducible exact dv_cS
  | with_reducible exact dv_cB
  | with_reducible exact dv_c0
  | ((with_reducible refine' dv_cN ?hh); (case hh => exact rfl))
  | with_reducible exact dv_neg1
  | with_reducible exact dv_cI
  | with_reducible exact da_nil
  | with_reducible refine' da_cons ?_ ?_
  | with_reducible refine' da_starT ?_ ?_
  | with_reducible refine' da_starL ?_ ?_
  | with_reducible refine' dv_op rd_addN ?_ ?_
  | with_reducible refine' dv_op (rd_subN ?_) ?_ ?_
  | with_reducible refine' dv_op rd_ltN ?_ ?_
  | with_reducible refine' dv_op rd_leN ?_ ?_
  | with_reducible refine' dv_op rd_gtN ?_ ?_
  | with_reducible refine' dv_op rd_eqN ?_ ?_
  | with_reducible refine' dv_op rd_neN ?_ ?_
  | with_reducible refine' dv_op rd_eqS ?_ ?_
  | with_reducible refine' dv_op rd_in ?_ ?_
  | with_reducible refine' dv_op rd_notin ?_ ?_
  | with_reducible refine' dv_op rd_eq0 ?_ ?_
  | with_reducible refine' dv_op rd_ne0 ?_ ?_
  | with_reducible refine' dt_test ?_
  | with_reducible refine' dt_tB ?_
  | with_reducible exact dt_yes
  | with_reducible refine' dt_not ?_
  | with_reducible refine' dt_and ?_ fun _ => ?_
  | with_reducible refine' dt_or ?_ fun _ => ?_
  | with_reducible refine' dv_andV ?_ fun _ => ?_
  | with_reducible refine' dv_orV ?_ fun _ => ?_
  | with_reducible refine' dv_notV ?_
  | with_reducible refine' dv_chain rd_leN rd_leN ?_ ?_ ?_
  | ((with_reducible refine' dv_lenN (dv_var ?hh)); (case hh => exact rfl))
  | ((with_reducible refine' dv_lenR (dv_var ?hh)); (case hh => exact rfl))
  | with_reducible refine' dv_lenN ?_
  | with_reducible refine' dv_lenR ?_
  | with_reducible refine' dv_max ?_ ?_
  | with_reducible refine' di_tup ?_
  | with_reducible refine' di_lst ?_)
local macro_rules | `(tactic| walk_at "dv") => `(tactic| all_goals (repeat' walk_at "d1"))

section
variable {K : PySem.W.Frag} {ρ : Rho} {g : TG} {te : TE} {w : World}
def DiE (wi : TI) (ρ : Rho) (Ps : List D → Prop) : Prop := ∀ (σ : L2.St) (H : Hp) (R : It → Hp → Prop), Sd H σ ρ → (∀ src J H', Ps src → Go [] H H' → Yl [] J H' src → R J H') → wi σ H R
theorem dn_forE {wi : TI} {tb : TS} {Ps : List D → Prop} (hi : DiE wi ρ Ps) (hb : ∀ src, Ps src → ∀ (i : Nat) (d : D), src[i]? = some d → ∃ ρ1 ρ2 sl, Dg g d ρ ρ1 sl ∧ Dn tb ρ1 ρ2 ∧ Le ρ2 ρ) : Dn (tFor wi g tb) ρ ρ := fun σ H E s q => by
  refine hi σ H _ s fun src J H1 ps g1 y => ?_
  have key := dn_forC (ρ := ρ) (g := g) (wi := fun σ' H' R => σ' = σ ∧ H' = H1 → R J H1) (tb := tb) (src := src) (fun σ' H' R s' q' hc => by
    obtain ⟨_, rfl⟩ := hc
    exact q' J _ .refl y) (hb src ps)
  exact key σ H1 E (s.go g1) (fun σ' H' g' s' => q σ' H' (g1.trans g') s') ⟨rfl, rfl⟩
end
section
variable {P : Program} {w : World} {K : PySem.W.Frag} {mg : Str → Option Value} {base : Heap}
def relLanes (ds : List D) (d : D) : Prop := ∃ (s : Sc) (n m : Nat), ds = [dNow s] ∧ Inv n m s ∧ m ≤ 60 ∧ (∀ l, LaneOk s l) ∧ d = .bl true
theorem u_L_lanes_right (T : Tx K mg) : Use P w K mg base "_law_lanes_right" 2 ["_law_now"] (spP relLanes) := by
  have scN := (⟨rfl, rfl, rfl, by decide +kernel, rfl, by decide +kernel, by decide +kernel⟩ : FnScope ["_law_now", "_law_lane", "_law_own", "_law_rest", "_law_car"] ["_law_now"] (defScope s_L_lanes_right))
  refine mk_pure T.f_L_lanes_right T.glo_L_lanes_right scN (fun kV doc pm an cdv ct us hl => match us, hl with | [_], _ => rfl) (fun ds d ⟨_, _, _, e, _⟩ => by rw [e]; rfl) fun cdv A outer s H E ds d hr ⟨c, n, m, e1, I, hm, hok, e2⟩ => ?_
  subst e1 e2
  refine ⟨_, (pss_cons (ps_for PassesOwn.never rfl (pi_listK (K := K) (pe_callB (cr_sortSetK (w := w)) (by rfl) T.free_sorted (by decide +kernel) (pa_cons (pe_callTy (cr_setK (K := K) (w := w)) (by rfl) T.free_set (by decide +kernel) (pa_cons (pe_ix (ix_tupK (K := K)) (pv 0) pe_int (fun _ _ => rfl)) pa_nil)) pa_nil))) (pg_name (i := 1) scN.nd rfl (Or.inr rfl)) (pss_cons (ps_setLc (i := 2) (own := [("_law_car", 4)]) (g := gName 4) rfl scN.nd rfl rfl (sw_true rfl rfl rfl (by decide +kernel)) (pi_tupK (K := K) (pe_ix (ix_tupK (K := K)) (pv 0) pe_int (fun _ _ => rfl))) (blkOk_by (N := ["_law_now", "_law_lane", "_law_own", "_law_rest", "_law_car"]) (sc := defScope s_L_lanes_right) (own := [("_law_car", 4)]) (by decide +kernel)) (fun _ _ _ _ _ => (pg_name (i := 4) scN.nd rfl (Or.inl rfl))) (fun _ _ _ _ _ => (pts_one (pt_cmpR op_eq (pe_ix (ix_tupK (K := K)) (pe_ix (ix_tupK (K := K)) (pv 0) pe_int (fun _ _ => rfl)) (pv 4) (fun _ _ => rfl)) (pv 1) (nomark _)))) (fun _ _ _ _ _ => (pv 4))) (pss_cons (ps_setLc (i := 3) (own := [("_law_car", 4)]) (g := gName 4) rfl scN.nd rfl rfl (sw_true rfl rfl rfl (by decide +kernel)) (pi_tupK (K := K) (pe_use (u_L_waiting T) hr (by decide) rfl (pa_cons (pv 0) pa_nil))) (blkOk_by (N := ["_law_now", "_law_lane", "_law_own", "_law_rest", "_law_car"]) (sc := defScope s_L_lanes_right) (own := [("_law_car", 4)]) (by decide +kernel)) (fun _ _ _ _ _ => (pg_name (i := 4) scN.nd rfl (Or.inl rfl))) (fun _ _ _ _ _ => (pts_one (pt_cmpR op_eq (pe_ix (ix_tupK (K := K)) (pe_ix (ix_tupK (K := K)) (pv 0) pe_int (fun _ _ => rfl)) (pv 4) (fun _ _ => rfl)) (pv 1) (nomark _)))) (fun _ _ _ _ _ => (pv 4))) (pss_one (ps_if (pt_cmpR (op_neDK (K := K) hr.units) (pe_op op_cat (pv 2) (pv 3)) (pe_lc (own := [("_law_car", 4)]) (g := gName 4) rfl scN.nd (pi_range1 rfl T.free_range (pa_cons (pe_callB (call_lenK (K := K)) (by rfl) T.free_len PySem.boot_len (pa_cons (pe_ix (ix_tupK (K := K)) (pv 0) pe_int (fun _ _ => rfl)) pa_nil)) pa_nil)) (blkOk_by (N := ["_law_now", "_law_lane", "_law_own", "_law_rest", "_law_car"]) (sc := defScope s_L_lanes_right) (own := [("_law_car", 4)]) (by decide +kernel)) (fun _ _ _ _ _ => (pg_name (i := 4) scN.nd rfl (Or.inl rfl))) (fun _ _ _ _ _ => (pts_one (pt_cmpR op_eq (pe_ix (ix_tupK (K := K)) (pe_ix (ix_tupK (K := K)) (pv 0) pe_int (fun _ _ => rfl)) (pv 4) (fun _ _ => rfl)) (pv 1) (nomark _)))) (fun _ _ _ _ _ => (pv 4))) (nomark _)) (pss_one (ps_ret pe_bl)) pss_nil))))) (pss_one (ps_ret pe_bl))), ?_⟩
  have hc : c.came.length ≤ 60 := by have := I.many; omega
  have hdl : c.done.length ≤ c.came.length := length_sub I.nd I.dlt
  have hw := wait_len c.came c.done
  refine df_b (db_seq (dn_forE (Ps := fun src => ∃ ms : List Nat, src = ms.map dN) (fun σ H R s q => ?_) ?_) (db_ret dv_cB))
  · refine dl_sortSet (ns := c.came) (dv_op (rd_ix (ds := nowL c) (j := 1) rfl) (dv_var rfl) (dv_cN rfl)) (by omega) σ H _ s fun a ms H' g n k _ _ => ?_
    cases k with
    | lst h1 h2 => exact ⟨a, rfl, ⟨_, SqL.of h1⟩, q _ _ H' ⟨ms, rfl⟩ g (yl_lst h1 h2 h2.av0 (by simp))⟩
  · rintro src ⟨ms, rfl⟩ i d e
    rw [List.getElem?_map] at e
    cases q : ms[i]? with
    | none => rw [q] at e; cases e
    | some l =>
      rw [q] at e
      have e' : dN l = d := Option.some.inj e
      subst e'
      have h := hok l
      unfold LaneOk at h
      rw [own_eq, own_eq, own_eq] at h
      have f1 : (c.done.filter fun y => decide (ix c.came y = l)).length ≤ 60 := Nat.le_trans (List.length_filter_le ..) (by omega)
      have f2 : ((waiting c.came c.done).filter fun y => decide (ix c.came y = l)).length ≤ 60 := Nat.le_trans (List.length_filter_le ..) (by omega)
      refine ⟨_, _, _, dg_name, dn_asgL (dl_lc (xs := c.done) (emb := dN) (f := dN) (p := fun y => decide (ix c.came y = l)) (di_tup (dv_op (rd_ix (ds := nowL c) (j := 2) rfl) (dv_var rfl) (dv_cN rfl))) (by omega) (fun x _ => dg_name) (by simp) (fun _ _ => av_N) (fun y hy => dt_test (dv_op rd_eqN (dv_op (rd_ixN (ns := c.came) (I.dlt y hy)) (dv_op (rd_ix (ds := nowL c) (j := 1) rfl) (dv_var rfl) (dv_cN rfl)) (dv_var rfl)) (dv_var rfl))) fun y _ _ => dv_var rfl) fun b =>
        dn_asgL (dl_lc (xs := waiting c.came c.done) (emb := dN) (f := dN) (p := fun y => decide (ix c.came y = l)) (di_tup (dv_call (ds := [dNow c]) (d := dNs (waiting c.came c.done)) (da_cons (dv_var rfl) da_nil) ⟨c, rfl, by omega, rfl⟩)) (by omega) (fun x _ => dg_name) (by simp) (fun _ _ => av_N) (fun y hy => dt_test (dv_op rd_eqN (dv_op (rd_ixN (ns := c.came) (mem_waiting.mp hy).1) (dv_op (rd_ix (ds := nowL c) (j := 1) rfl) (dv_var rfl) (dv_cN rfl)) (dv_var rfl)) (dv_var rfl))) fun y _ _ => dv_var rfl) fun b2 =>
        (dn_skip (dt_test (dv_opLL (fun a1 a2 => rd_neSame (p := .list (((List.range c.came.length).filter fun y => decide (ix c.came y = l)).map fun k : Nat => PyData.int (k : Int))) (cm_lst (cms_N _)) (cm_lst (cms_N _))) (DvL.to (dl_catVV (a := b) (b := b2) (dv_var rfl) (dv_var rfl) (by simp; omega)) ?_) (dl_lc (xs := List.range c.came.length) (emb := dN) (f := dN) (p := fun y => decide (ix c.came y = l)) (di_rng1 (da_cons (dv_lenN (dv_op (rd_ix (ds := nowL c) (j := 1) rfl) (dv_var rfl) (dv_cN rfl))) da_nil) (by omega)) (by simp; omega) (fun x _ => dg_name) (by simp) (fun _ _ => av_N) (fun y hy => dt_test (dv_op rd_eqN (dv_op (rd_ixN (ns := c.came) (List.mem_range.mp hy)) (dv_op (rd_ix (ds := nowL c) (j := 1) rfl) (dv_var rfl) (dv_cN rfl)) (dv_var rfl)) (dv_var rfl))) fun y _ _ => dv_var rfl)))).weak ((Le.set (i := 3) rfl).trans ((Le.set (i := 2) rfl).trans (Le.set (i := 1) rfl))), .refl⟩
      rw [← List.map_append, h]
end
end K70
set_option Elab.async false
set_option linter.all false
set_option maxRecDepth 100000
set_option maxHeartbeats 4000000
namespace K70
open PySem PySem.Spec PyProof.Rows L2
section
variable {K : PySem.W.Frag} {H H' : Hp} {σ : L2.St} {ρ ρ' ρ1 : Rho} {v : V} {d d1 d2 e : D} {ds es : List D} {te ta tb tl : TE} {ts : TA} {t u c : TT} {t1 t2 t3 : TS} {g : TG} {i j n : Nat} {b : Bool} {p C dx : Addr} {ks : List Str} {f : Str}
/-! objects: fields read, fields stored -/
theorem Di.to {S : List Addr} {wi : TI} {src src' : List D} (h : Di S wi ρ src) (e : src = src') : Di S wi ρ src' := e ▸ h
theorem dv_fldO (cl : Cls K C) (nf : NoAttr K C f) (hl : (ks.zip ds).lookup f = some d) (h : Dv ta ρ (.ob p C dx ks ds)) : Dv (tFld K ta f) ρ d := fun σ H Q s q =>
  h σ H _ s fun v H1 g1 a1 => by
    cases a1 with
    | ob h1 h2 h3 =>
      obtain ⟨w, e, a⟩ := lookup_zip h3 hl
      exact ⟨_, C, _, _, w, rfl, h1, cl, nf, e, q _ H1 g1 a⟩
/-- a statement that may change what stands at p -/
def Ds (p : Addr) (t : TS) (ρ ρ' : Rho) : Prop := ∀ (σ : L2.St) (H : Hp) (E : Ends), Sd H σ ρ → (∀ σ' H', Go [p] H H' → Sd H' σ' ρ' → E.nx σ' H') → t E σ H
theorem ds_seq (h1 : Ds p t1 ρ ρ1) (h2 : Ds p t2 ρ1 ρ') : Ds p (tSeq t1 t2) ρ ρ' := fun σ H E s q => h1 σ H { E with nx := t2 E } s fun σ' H' g s' => h2 σ' H' E s' fun σ2 H2 g2 s2 => q σ2 H2 (g.transS g2) s2
theorem ds_n (h : Dn t1 ρ ρ') : Ds p t1 ρ ρ' := fun σ H E s q => h σ H E s fun σ' H' g s' => q σ' H' g.wide s'
theorem lookup_none_zip : ∀ {ks : List Str} {xs : List V} {f : Str}, f ∉ ks → putF f v (ks.zip xs) = ks.zip xs ++ [(f, v)]
  | [], _, _, _ => rfl
  | _ :: _, [], _, _ => rfl
  | k :: ks, x :: xs, f, h => by
    have h1 : ¬ k = f := fun e => h (e ▸ List.mem_cons_self)
    show (if k = f then (k, v) :: ks.zip xs else (k, x) :: putF f v (ks.zip xs)) = _
    rw [if_neg h1, lookup_none_zip fun z => h (List.mem_cons_of_mem _ z)]
    rfl
theorem put_at : ∀ {ks : List Str} {xs : List V} {f : Str} {i : Nat}, ks[i]? = some f → ks.Nodup → xs.length = ks.length → putF f v (ks.zip xs) = ks.zip (xs.set i v)
  | [], _, _, _, h, _, _ => by simp at h
  | k :: ks, [], _, _, _, _, h => by simp at h
  | k :: ks, x :: xs, f, 0, h, _, _ => by
    have h1 : k = f := by simpa using h
    show (if k = f then (k, v) :: ks.zip xs else (k, x) :: putF f v (ks.zip xs)) = _
    rw [if_pos h1]
    rfl
  | k :: ks, x :: xs, f, i + 1, h, nd, hl => by
    obtain ⟨n1, n2⟩ := List.nodup_cons.mp nd
    have h' : ks[i]? = some f := by simpa using h
    have h1 : ¬ k = f := fun e => n1 (e ▸ List.mem_of_getElem? h')
    show (if k = f then (k, v) :: ks.zip xs else (k, x) :: putF f v (ks.zip xs)) = _
    rw [if_neg h1, put_at h' n2 (by simpa using hl)]
    rfl
theorem Ats.set : ∀ {vs : List V} {ds : List D} {i : Nat}, Ats H vs ds → At H v d → Ats H (vs.set i v) (ds.set i d)
  | _, _, _, .nil, _ => .nil
  | _, _, 0, .cons _ hs, h => .cons h hs
  | _, _, i + 1, .cons h0 hs, h => .cons h0 (Ats.set hs h)
theorem AvR.of_set {S : List Addr} (h : AvR S (ρ.set i none)) {j : Nat} {d : D} (hj : i ≠ j) (e : ρ[j]? = some (some d)) : Av S d := h j d (by rw [List.getElem?_set_ne hj]; exact e)
theorem Sd.put (s : Sd H σ ρ) (g : Go [p] H H') (hA : AvR [p] (ρ.set i none)) (hv : σ[i]? = some (some v)) (a : At H' v d) : Sd H' σ (ρ.set i (some d)) := by
  refine ⟨by rw [s.len, List.length_set], fun j e he => ?_⟩
  by_cases hj : i = j
  · subst hj
    have hl : i < ρ.length := by
      have := (List.getElem?_eq_some_iff.mp he).1
      simpa using this
    rw [List.getElem?_set_self hl] at he
    cases he
    exact ⟨v, hv, a⟩
  · rw [List.getElem?_set_ne hj] at he
    obtain ⟨w, e1, a1⟩ := s.at_ j e he
    exact ⟨w, e1, a1.goS g (hA.of_set hj he)⟩
/-- self.f = e, a new field -/
theorem ds_new (cl : Cls K C) (nf : NoAttr K C f) (h0 : ρ[0]? = some (some (.ob p C dx ks ds))) (hf : f ∉ ks) (hk : ks.length < 7) (hA : AvR [p] (ρ.set 0 none)) (hds : ∀ e ∈ ds, Av [p] e) (hd : Av [p] d) (hv : Dv te ρ d) :
    Ds p (sFld K (tVar 0) te f) ρ (ρ.set 0 (some (.ob p C dx (ks ++ [f]) (ds ++ [d])))) := fun σ H E s q =>
  hv σ H _ s fun y H1 g1 a1 => by
    obtain ⟨w, e1, k⟩ := (s.go g1).at_ 0 _ h0
    cases k with
    | ob h1 h2 h3 =>
      rename_i xs
      have hl : (ks.zip xs).length = ks.length := by rw [List.length_zip, h2]; omega
      refine ⟨_, e1, p, C, dx, _, rfl, h1, cl, nf, by rw [hl]; omega, ?_⟩
      have gm : Go [p] H1 (upd H1 p (.ins C dx (putF f y (ks.zip xs)))) := Go.mut h1 (fun z => by have z' : (ks.zip xs).length = 7 := z; omega)
      refine q σ _ (g1.wide.transS gm) ((s.go g1).put gm hA e1 (.ob (xs := xs ++ [y]) ?_ (by simp [h2]) ((h3.goS gm hds).append (.cons (a1.goS gm hd) .nil))))
      rw [upd_same, lookup_none_zip hf, List.zip_append h2.symm]
      rfl
/-- self.f = e, a field that is there -/
theorem ds_old (cl : Cls K C) (nf : NoAttr K C f) (h0 : ρ[0]? = some (some (.ob p C dx ks ds))) (hf : ks[i]? = some f) (hnd : ks.Nodup) (hk : ks.length < 7) (hA : AvR [p] (ρ.set 0 none)) (hds : ∀ e ∈ ds, Av [p] e) (hd : Av [p] d) (hv : Dv te ρ d) :
    Ds p (sFld K (tVar 0) te f) ρ (ρ.set 0 (some (.ob p C dx ks (ds.set i d)))) := fun σ H E s q =>
  hv σ H _ s fun y H1 g1 a1 => by
    obtain ⟨w, e1, k⟩ := (s.go g1).at_ 0 _ h0
    cases k with
    | ob h1 h2 h3 =>
      rename_i xs
      have hl : (ks.zip xs).length = ks.length := by rw [List.length_zip, h2]; omega
      refine ⟨_, e1, p, C, dx, _, rfl, h1, cl, nf, by rw [hl]; omega, ?_⟩
      have gm : Go [p] H1 (upd H1 p (.ins C dx (putF f y (ks.zip xs)))) := Go.mut h1 (fun z => by have z' : (ks.zip xs).length = 7 := z; omega)
      refine q σ _ (g1.wide.transS gm) ((s.go g1).put gm hA e1 (.ob (xs := xs.set i y) ?_ (by simp [h2]) ((h3.goS gm hds).set (a1.goS gm hd))))
      rw [upd_same, put_at hf hnd h2]
theorem avr_nil {S : List Addr} : AvR S [] := fun i d h => by simp at h
theorem avr_none {S : List Addr} {l : Rho} (h : AvR S l) : AvR S (none :: l) := fun i d e => by
  cases i with
  | zero => cases (Option.some.inj e)
  | succ i => exact h i d (by simpa using e)
theorem avr_cons {S : List Addr} {l : Rho} (k : Av S d) (h : AvR S l) : AvR S (some d :: l) := fun i d' e => by
  cases i with
  | zero => cases (Option.some.inj (Option.some.inj e)); exact k
  | succ i => exact h i d' (by simpa using e)
theorem db_parL (ha : Dv ta ρ d1) (hb : DvL tl ρ ds) (h2 : ∀ b, Db t2 ((ρ.set i (some d1)).set j (some (.lst b ds))) d) : Db (tSeq (tPar i j (tCons ta (tCons tl tNil))) t2) ρ d := fun σ H E s q =>
  ha σ H _ s fun x H1 g1 a1 => hb σ H1 _ (s.go g1) fun b H2 g2 n2 a2 => ⟨_, _, rfl, h2 b _ H2 E ((((s.go g1).go g2).set (a1.go g2)).set a2) fun v H3 g3 a3 => q v H3 (g1.trans (g2.trans g3)) a3⟩
end
/-! defs by their place: methods, __init__ -/
structure Fn (P : Program) (w : World) (K : PySem.W.Frag) (mg : Str → Option Value) (base : Heap) (f : Addr) (k : Nat) (ps : List Str) (dvs : List V) (sp : Sp) : Prop where
  ex : ∃ fd ds, Vals dvs ds ∧ Binds K fd ps ds ∧ FnOk P w K mg base CX0 k f fd ps sp
section
variable {P : Program} {w : World} {K : PySem.W.Frag} {mg : Str → Option Value} {base : Heap}
theorem mk_fn {name qual : Str} {st : Stmt} {f : Addr} {N ps : List Str} {k : Nat} {sp : Sp} (F : ∃ fd, FunD K name qual (defArgs st) (defBody st) (defScope st) [] [] f fd) (S : FnScope N ps (defScope st))
    (hb : ∀ (kV doc pm : Value) (an : Option Addr) (cdv ct : Value) (us : List Value), us.length = ps.length → bindArgs (PySem.W.fnOf name qual (defArgs st) (defBody st) (defScope st) .none kV doc pm an cdv ct) ⟨us, []⟩ = pure (ps.zip us))
    (len : ∀ vs H Q E, sp vs H Q E → vs.length = ps.length)
    (body : ∀ (cdv : Value) (A : Around) (outer : List Env) (s : Shared) (H : Hp) (vs : List V) (Q : VK) (E : XK), Room k (A.deeper (envOfC qual (defScope st) s.heap.objs.size f cdv)) → sp vs H Q E →
      ∃ t, PSs (cxOf CX0 P w K mg base N qual (defScope st) f cdv A outer s H E).nox (defBody st) t ∧ t { nx := fun _ H' => Q .non H', rt := Q } (start N vs) H) : Fn P w K mg base f (k + 1) ps [] sp := by
  obtain ⟨fd, F⟩ := F
  refine ⟨fd, [], .nil, F.bindsN hb, F.ok S len fun cdv A outer s H vs Q E hr h => ?_⟩
  obtain ⟨t, h1, h2⟩ := body cdv A outer s H vs Q E hr h
  exact ⟨t, h1.nox, h2⟩
/-- .. a pure one -/
theorem mk_fnP {name qual : Str} {st : Stmt} {f : Addr} {N ps : List Str} {k : Nat} {rel : List D → D → Prop} (F : ∃ fd, FunD K name qual (defArgs st) (defBody st) (defScope st) [] [] f fd) (S : FnScope N ps (defScope st))
    (hb : ∀ (kV doc pm : Value) (an : Option Addr) (cdv ct : Value) (us : List Value), us.length = ps.length → bindArgs (PySem.W.fnOf name qual (defArgs st) (defBody st) (defScope st) .none kV doc pm an cdv ct) ⟨us, []⟩ = pure (ps.zip us))
    (len : ∀ ds d, rel ds d → ds.length = ps.length)
    (body : ∀ (cdv : Value) (A : Around) (outer : List Env) (s : Shared) (H : Hp) (E : XK) (ds : List D) (d : D), Room k (A.deeper (envOfC qual (defScope st) s.heap.objs.size f cdv)) → rel ds d →
      ∃ t, PSs (cxOf CX0 P w K mg base N qual (defScope st) f cdv A outer s H E).nox (defBody st) t ∧ Df t (startD N ds) d) : Fn P w K mg base f (k + 1) ps [] (spP rel) := by
  refine mk_fn F S hb (fun vs H Q E ⟨ds, d, h1, h2, _⟩ => by rw [h1.length]; exact len ds d h2) fun cdv A outer s H vs Q E hr ⟨ds, d, h1, h2, q⟩ => ?_
  obtain ⟨t, a, b⟩ := body cdv A outer s H E ds d hr h2
  exact ⟨t, a, b _ H Q (Sd.start h1 N) q⟩
/-- .. with version=None behind a star -/
theorem mk_fnV {name qual : Str} {st : Stmt} {f : Addr} {N : List Str} {k : Nat} {rel : List D → D → Prop} (F : ∃ fd, FunD K name qual (defArgs st) (defBody st) (defScope st) [] [("version", V.non)] f fd) (S : FnScope N ["self", "version"] (defScope st))
    (hb : ∀ (D : Addr) (doc pm : Value) (an : Option Addr) (cdv ct : Value) (us ks : List Value), us.length = 1 → ks.length = 1 → KwChain D ((["version"] : List Str).zip ks) (bindArgs (PySem.W.fnOf name qual (defArgs st) (defBody st) (defScope st) .none (.ref D) doc pm an cdv ct) ⟨us, []⟩) ((["self", "version"] : List Str).zip (us ++ ks)))
    (len : ∀ ds d, rel ds d → ds.length = 2)
    (body : ∀ (cdv : Value) (A : Around) (outer : List Env) (s : Shared) (H : Hp) (E : XK) (ds : List D) (d : D), Room k (A.deeper (envOfC qual (defScope st) s.heap.objs.size f cdv)) → rel ds d →
      ∃ t, PSs (cxOf CX0 P w K mg base N qual (defScope st) f cdv A outer s H E).nox (defBody st) t ∧ Df t (startD N ds) d) : Fn P w K mg base f (k + 1) ["self", "version"] [.non] (spP rel) := by
  obtain ⟨fd, F⟩ := F
  obtain ⟨ds, hv, hbd⟩ := F.binds0 (ps := ["self", "version"]) 1 (by simp) rfl hb
  refine ⟨fd, ds, hv, hbd, F.ok S (fun vs H Q E ⟨ds, d, h1, h2, _⟩ => by rw [h1.length]; exact len ds d h2) fun cdv A outer s H vs Q E hr ⟨ds, d, h1, h2, q⟩ => ?_⟩
  obtain ⟨t, a, b⟩ := body cdv A outer s H E ds d hr h2
  exact ⟨t, a.nox, b _ H Q (Sd.start h1 N) q⟩
end
section
variable {X : Cx} {C f : Addr} {k j : Nat} {ps : List Str} {dvs : List V} {sp : Sp} {x m : Str} {o e : Expr} {es : List Expr} {p apos pos : Pos} {ta : TE} {t : TA}
theorem pe_makeU (M : Mk X.K C f) (U : Fn X.prog X.w X.K X.mg X.base f k ps dvs sp) (hr : Room j X.A) (hk : k + 1 ≤ j) (hg : Gl X x) (hm : X.mg x = some (.ref C)) (ha : PA X (e :: es) t) (hdb : (x == ("__debug__" : Str)) = false := by decide) (he : starEach (e :: es) X.env = (false, eval e X.env) :: starEach es X.env := by rfl) (hpl : (backTo pos (starEach es X.env)).any (·.1) = false := by rfl) :
    PE X (.Call (.Name x p) (e :: es) [] pos) (tMake C sp dvs E0 t) := by
  obtain ⟨fd, ds, hv, hb, F⟩ := U.ex
  exact pe_make M F (hr.mono hk) hg hm hb hv pass0 ha hdb he hpl
theorem pe_methU {pl : Sem Bool} (he : PE X o ta) (c : Cls X.K C) (hm : Meth X.K C m f) (U : Fn X.prog X.w X.K X.mg X.base f k ps dvs sp) (hr : Room j X.A) (hk : k ≤ j) (ha : PA X (e :: es) t)
    (hst : starEach (e :: es) X.env = (false, eval e X.env) :: starEach es X.env := by rfl) (hpl : (backTo pos (starEach es X.env)).any (·.1) = false := by rfl)
    (ht : eval (.Call (.Attribute o m apos) (e :: es) [] pos) X.env = (do
      let ov ← eval o X.env
      standAt apos.atName
      let (f, first) ← holding [ov] (getMethod ov m pl)
      callWith pos f first (backTo pos (starEach (e :: es) X.env)) (backToKw pos (keywordEach [] X.env))) := by rfl) :
    PE X (.Call (.Attribute o m apos) (e :: es) [] pos) (tMeth C m sp dvs E0 ta t) := by
  obtain ⟨fd, ds, hv, hb, F⟩ := U.ex
  exact pe_meth he c hm F (hr.mono hk) hb hv pass0 ha hst hpl ht
theorem pe_meth0U {pl : Sem Bool} (he : PE X o ta) (c : Cls X.K C) (hm : Meth X.K C m f) (U : Fn X.prog X.w X.K X.mg X.base f k ps dvs sp) (hr : Room j X.A) (hk : k ≤ j)
    (ht : eval (.Call (.Attribute o m apos) [] [] pos) X.env = (do
      let ov ← eval o X.env
      standAt apos.atName
      let (f, first) ← holding [ov] (getMethod ov m pl)
      callWith pos f first (backTo pos (starEach [] X.env)) (backToKw pos (keywordEach [] X.env))) := by rfl) :
    PE X (.Call (.Attribute o m apos) [] [] pos) (tMeth C m sp dvs E0 ta tNil) := by
  obtain ⟨fd, ds, hv, hb, F⟩ := U.ex
  exact pe_meth0 he c hm F (hr.mono hk) hb hv pass0 ht
end
section
variable {K : PySem.W.Frag} {ρ : Rho} {d : D} {ds es dds : List D} {ta : TE} {ts : TA} {p C dx : Addr} {ks : List Str} {m : Str} {dvs : List V} {rel : List D → D → Prop} {E : XK}
/-- a pure method of an open object -/
theorem dv_methO (hl : ks.contains m = false) (h : Dv ta ρ (.ob p C dx ks ds)) (ha : Da ts ρ es) (hd : ∀ H, Ats H dvs dds) (hr : rel (.ob p C dx ks ds :: (es ++ dds)) d) : Dv (tMeth C m (spP rel) dvs E ta ts) ρ d := fun σ H Q s q =>
  h σ H _ s fun v H1 g1 a1 => by
    have a1' := a1
    cases a1 with
    | ob h1 h2 h3 =>
      rename_i xs
      refine ⟨p, dx, _, rfl, h1, ?_, ha σ H1 _ (s.go g1) fun vs H2 g2 a2 => ⟨_, d, .cons (a1'.go g2) (a2.append (hd H2)), hr, fun v H' g a => q v H' (g1.trans (g2.trans g)) a⟩⟩
      have key : ∀ (ks : List Str) (xs : List V), ks.contains m = false → (ks.zip xs).lookup m = none := by
        intro ks
        induction ks with
        | nil => intro xs _; rfl
        | cons k ks ih =>
          intro xs hc
          cases xs with
          | nil => rfl
          | cons x xs =>
            rw [List.contains_cons, Bool.or_eq_false_iff] at hc
            rw [List.zip_cons_cons, List.lookup_cons, hc.1]
            exact ih xs hc.2
      exact key ks xs hl
/-- .. of a Scene -/
theorem dv_methS (hl : scnN.contains m = false) (h : Dv ta ρ (.scn C ds)) (ha : Da ts ρ es) (hr : rel (.scn C ds :: es) d) : Dv (tMeth C m (spP rel) [] E ta ts) ρ d := fun σ H Q s q =>
  h σ H _ s fun v H1 g1 a1 => by
    have a1' := a1
    cases a1 with
    | scn h1 h2 h3 =>
      rename_i a dx xs
      refine ⟨a, dx, _, rfl, h1, ?_, ha σ H1 _ (s.go g1) fun vs H2 g2 a2 => ⟨_, d, .cons (a1'.go g2) (by rw [List.append_nil]; exact a2), hr, fun v H' g a => q v H' (g1.trans (g2.trans g)) a⟩⟩
      have key : ∀ (ks : List Str) (xs : List V), ks.contains m = false → (ks.zip xs).lookup m = none := by
        intro ks
        induction ks with
        | nil => intro xs _; rfl
        | cons k ks ih =>
          intro xs hc
          cases xs with
          | nil => rfl
          | cons x xs =>
            rw [List.contains_cons, Bool.or_eq_false_iff] at hc
            rw [List.zip_cons_cons, List.lookup_cons, hc.1]
            exact ih xs hc.2
      exact key scnN xs hl
end
end K70
set_option Elab.async false
set_option linter.all false
set_option maxRecDepth 100000
set_option maxHeartbeats 4000000
namespace K70
open PySem PySem.Spec PyProof.Rows L2
local macro_rules | `(tactic| walk_at "d1") => `(tactic| first
  | ((with_reducible refine' dv_var ?hh); (case hh => exact rfl))
  | with_reducible exact dv_cS
  | with_reducible exact dv_cB
  | with_reducible exact dv_c0
  | ((with_reducible refine' dv_cN ?hh); (case hh => exact rfl))
  | with_reducible exact dv_neg1
  | with_reducible exact dv_cI
  | with_reducible exact da_nil
  | with_reducible refine' da_cons ?_ ?_
  | with_reducible refine' da_starT ?_ ?_
  | with_reducible refine' da_starL ?_ ?_
  | with_reducible refine' dv_op rd_addN ?_ ?_
  | with_reducible refine' dv_op (rd_subN ?_) ?_ ?_
  | with_reducible refine' dv_op rd_ltN ?_ ?_
  | with_reducible refine' dv_op rd_leN ?_ ?_
  | with_reducible refine' dv_op rd_gtN ?_ ?_
  | with_reducible refine' dv_op rd_eqN ?_ ?_
  | with_reducible refine' dv_op rd_neN ?_ ?_
  | with_reducible refine' dv_op rd_eqS ?_ ?_
  | with_reducible refine' dv_op rd_in ?_ ?_
  | with_reducible refine' dv_op rd_notin ?_ ?_
  | with_reducible refine' dv_op rd_eq0 ?_ ?_
  | with_reducible refine' dv_op rd_ne0 ?_ ?_
  | with_reducible refine' dt_test ?_
  | with_reducible refine' dt_tB ?_
  | with_reducible exact dt_yes
  | with_reducible refine' dt_not ?_
  | with_reducible refine' dt_and ?_ fun _ => ?_
  | with_reducible refine' dt_or ?_ fun _ => ?_
  | with_reducible refine' dv_andV ?_ fun _ => ?_
  | with_reducible refine' dv_orV ?_ fun _ => ?_
  | with_reducible refine' dv_notV ?_
  | with_reducible refine' dv_chain rd_leN rd_leN ?_ ?_ ?_
  | ((with_reducible refine' dv_lenN (dv_var ?hh)); (case hh => exact rfl))
  | ((with_reducible refine' dv_lenR (dv_var ?hh)); (case hh => exact rfl))
  | with_reducible refine' dv_lenN ?_
  | with_reducible refine' dv_lenR ?_
  | with_reducible refine' dv_max ?_ ?_
  | with_reducible refine' di_tup ?_
  | with_reducible refine' di_lst ?_)
local macro_rules | `(tactic| walk_at "dv") => `(tactic| all_goals (repeat' walk_at "d1"))

section
variable {P : Program} {w : World} {K : PySem.W.Frag} {mg : Str → Option Value} {base : Heap}
abbrev cS (K : PySem.W.Frag) : Addr := He.ga K "Scene"
/-- what a Scene holds -/
abbrev scD (s : Sc) : List D := [dRule s.t, dNs s.came, dNs s.done, .str s.word, dNs s.sk, dNs s.tops, dCar (nextCar s.t s.came s.done)]
abbrev dSc (K : PySem.W.Frag) (s : Sc) : D := .scn (cS K) (scD s)
theorem av_Car {S : List Addr} {o : Option Nat} : Av S (dCar o) := by
  cases o with
  | none => exact .non
  | some c => exact .int _
theorem av_Sc {S : List Addr} {s : Sc} : Av S (dSc K s) := .scn (av_cons av_R (av_cons av_Ns (av_cons av_Ns (av_cons (.str _) (av_cons av_Ns (av_cons av_Ns (av_cons av_Car av_nil)))))))
def ScOk (s : Sc) : Prop := ∃ n, RuleOk n s.t ∧ (∀ l ∈ s.came, l < n) ∧ (∀ c ∈ s.done, c < s.came.length) ∧ s.came.length ≤ 100
def spScInit (K : PySem.W.Frag) : Sp := fun vs H Q _ => ∃ (p dx : Addr) (ws : List V) (s : Sc), vs = .ref p :: ws ∧ H p = some (.ins (cS K) dx []) ∧ Ats H ws [dRule s.t, dNs s.came, dNs s.done, .str s.word, dNs s.sk, dNs s.tops] ∧ ScOk s ∧
  ∀ H', Go [p] H H' → At H' (.ref p) (dSc K s) → Q .non H'
theorem u_Scene_init (T : Tx K mg) : Fn P w K mg base (He.ma K (He.ga K "Scene") "__init__") 6 ["self", "table_now", "came", "done", "letters", "streaks", "tops"] [] (spScInit K) := by
  have scN := (⟨rfl, rfl, rfl, by decide +kernel, rfl, by decide +kernel, by decide +kernel⟩ : FnScope ["self", "table_now", "came", "done", "letters", "streaks", "tops"] ["self", "table_now", "came", "done", "letters", "streaks", "tops"] (defScope s_Scene_init))
  refine mk_fn T.f_Scene_init scN (fun kV doc pm an cdv ct us hl => match us, hl with | [_, _, _, _, _, _, _], _ => rfl) (fun vs H Q E ⟨p, dx, ws, s, e, _, h, _⟩ => by rw [e, List.length_cons, h.length]; rfl) fun cdv A outer s0 H vs Q E hr ⟨p, dx, ws, s, e1, hp, ha, ⟨n, R, hl, hd, hc⟩, q⟩ => ?_
  subst e1
  refine ⟨_, (pss_cons (ps_fld (pv 0) (pv 1) rfl) (pss_cons (ps_fld (pv 0) (pv 2) rfl) (pss_cons (ps_fld (pv 0) (pv 3) rfl) (pss_cons (ps_fld (pv 0) (pv 4) rfl) (pss_cons (ps_fld (pv 0) (pv 5) rfl) (pss_cons (ps_fld (pv 0) (pv 6) rfl) (pss_one (ps_fld (pv 0) (pe_use (u_next_car T) hr (by decide) rfl (pa_cons (pv 1) (pa_cons (pv 2) (pa_cons (pv 3) pa_nil)))) rfl)))))))), ?_⟩
  have h0 : At H (.ref p) (.ob p (cS K) dx [] []) := .ob (xs := []) hp rfl .nil
  have hA : AvR [p] ((startD ["self", "table_now", "came", "done", "letters", "streaks", "tops"] [.ob p (cS K) dx [] [], dRule s.t, dNs s.came, dNs s.done, .str s.word, dNs s.sk, dNs s.tops]).set 0 none) := avr_none (avr_cons av_R (avr_cons av_Ns (avr_cons av_Ns (avr_cons (.str _) (avr_cons av_Ns (avr_cons av_Ns avr_nil))))))
  have hS := Sd.start (.cons h0 ha) ["self", "table_now", "came", "done", "letters", "streaks", "tops"]
  have st := T.cls_Scene
  suffices hh : Ds p _ (startD ["self", "table_now", "came", "done", "letters", "streaks", "tops"] [.ob p (cS K) dx [] [], dRule s.t, dNs s.came, dNs s.done, .str s.word, dNs s.sk, dNs s.tops]) ((startD ["self", "table_now", "came", "done", "letters", "streaks", "tops"] [.ob p (cS K) dx [] [], dRule s.t, dNs s.came, dNs s.done, .str s.word, dNs s.sk, dNs s.tops]).set 0 (some (.ob p (cS K) dx scnN (scD s)))) from
    hh _ H { nx := fun _ H' => Q .non H', rt := Q } hS fun σ' H' g s' => by
      obtain ⟨v, _, k⟩ := s'.at_ 0 _ rfl
      refine q H' g ?_
      cases k with
      | ob h l hs => exact .scn h l hs
  refine ds_seq (ds_new st T.noat_Scene_table_now (ks := []) (ds := []) rfl (by simp) (by simp) hA av_nil av_R (dv_var rfl)) ?_
  refine ds_seq (ds_new st T.noat_Scene_came (ks := ["table_now"]) (ds := [dRule s.t]) rfl (by decide +kernel) (by decide) hA (av_cons av_R av_nil) av_Ns (dv_var rfl)) ?_
  refine ds_seq (ds_new st T.noat_Scene_done (ks := ["table_now", "came"]) (ds := [dRule s.t, dNs s.came]) rfl (by decide +kernel) (by decide) hA (av_cons av_R (av_cons av_Ns av_nil)) av_Ns (dv_var rfl)) ?_
  refine ds_seq (ds_new st T.noat_Scene_letters (ks := ["table_now", "came", "done"]) (ds := [dRule s.t, dNs s.came, dNs s.done]) rfl (by decide +kernel) (by decide) hA (av_cons av_R (av_cons av_Ns (av_cons av_Ns av_nil))) (.str _) (dv_var rfl)) ?_
  refine ds_seq (ds_new st T.noat_Scene_streaks (ks := ["table_now", "came", "done", "letters"]) (ds := [dRule s.t, dNs s.came, dNs s.done, .str s.word]) rfl (by decide +kernel) (by decide) hA (av_cons av_R (av_cons av_Ns (av_cons av_Ns (av_cons (.str _) av_nil)))) av_Ns (dv_var rfl)) ?_
  refine ds_seq (ds_new st T.noat_Scene_tops (ks := ["table_now", "came", "done", "letters", "streaks"]) (ds := [dRule s.t, dNs s.came, dNs s.done, .str s.word, dNs s.sk]) rfl (by decide +kernel) (by decide) hA (av_cons av_R (av_cons av_Ns (av_cons av_Ns (av_cons (.str _) (av_cons av_Ns av_nil))))) av_Ns (dv_var rfl)) ?_
  exact ds_new st T.noat_Scene_ahead (ks := ["table_now", "came", "done", "letters", "streaks", "tops"]) (ds := [dRule s.t, dNs s.came, dNs s.done, .str s.word, dNs s.sk, dNs s.tops]) rfl (by decide +kernel) (by decide) hA (av_cons av_R (av_cons av_Ns (av_cons av_Ns (av_cons (.str _) (av_cons av_Ns (av_cons av_Ns av_nil)))))) av_Car (dv_call (ds := [dRule s.t, dNs s.came, dNs s.done]) (da_cons (dv_var rfl) (da_cons (dv_var rfl) (da_cons (dv_var rfl) da_nil))) ⟨s.t, s.came, s.done, n, rfl, R, hl, hd, hc, rfl⟩)
/-- Scene(..) -/
theorem dv_scene {ρ : Rho} {ts : TA} {s : Sc} {E : XK} (ha : Da ts ρ [dRule s.t, dNs s.came, dNs s.done, .str s.word, dNs s.sk, dNs s.tops]) (ok : ScOk s) : Dv (tMake (cS K) (spScInit K) [] E ts) ρ (dSc K s) := fun σ H Q s0 q =>
  ha σ H _ s0 fun vs H1 g1 a1 => fun x dx hx hdx hne => by
    have hx2 : upd H1 dx (.own x) x = none := by rw [upd_ne (Ne.symm hne)]; exact hx
    have g2 : Go [] H1 (upd (upd H1 dx (.own x)) x (.ins (cS K) dx [])) := (Go.new hdx).trans (Go.new hx2)
    refine ⟨x, dx, vs ++ [], s, rfl, upd_same, by rw [List.append_nil]; exact a1.go g2, ok, fun H' g3 k => ⟨rfl, ?_⟩⟩
    exact q (.ref x) H' (g1.trans (g2.loc hx g3)) k
theorem u_Scene_with_one (T : Tx K mg) : Fn P w K mg base (He.ma K (He.ga K "Scene") "with_one") 8 ["self", "lane"] [] (spP fun ds d => ∃ (s : Sc) (n m l : Nat), ds = [dSc K s, dN l] ∧ Inv n m s ∧ l < n ∧ m ≤ 50 ∧ d = dSc K (step s (.come l))) := by
  have scN := (⟨rfl, rfl, rfl, by decide +kernel, rfl, by decide +kernel, by decide +kernel⟩ : FnScope ["self", "lane"] ["self", "lane"] (defScope s_Scene_with_one))
  refine mk_fnP T.f_Scene_with_one scN (fun kV doc pm an cdv ct us hl => match us, hl with | [_, _], _ => rfl) (fun ds d ⟨_, _, _, _, e, _⟩ => by rw [e]; rfl) fun cdv A outer s0 H E ds d hr ⟨s, n, m, l, e1, I, hlt, hm, e2⟩ => ?_
  subst e1 e2
  refine ⟨_, (pss_one (ps_ret (pe_makeU T.mkr_Scene (u_Scene_init T) hr (by decide) rfl T.glo_Scene (pa_cons (pe_fldK (K := K) (pv 0)) (pa_cons (pe_tup (StX.pa_star (pe_fldK (K := K) (pv 0)) (pa_cons (pv 1) pa_nil))) (pa_cons (pe_fldK (K := K) (pv 0)) (pa_cons (pe_op op_add_str (pe_fldK (K := K) (pv 0)) pe_str) (pa_cons (pe_fldK (K := K) (pv 0)) (pa_cons (pe_fldK (K := K) (pv 0)) pa_nil))))))))), ?_⟩
  have st := T.cls_Scene
  have hc := I.many
  have J := I.step (e := .come l) hlt
  have fld : ∀ {f : Str} {d : D}, NoAttr K (cS K) f → (scnN.zip (scD s)).lookup f = some d → Dv (tFld K (tVar 0) f) (startD ["self", "lane"] [dSc K s, dN l]) d := fun nf hl => dv_fld st nf hl (dv_var rfl)
  refine df_b (db_ret (dv_scene (s := step s (.come l)) (da_cons (fld T.noat_Scene_table_now rfl) (da_cons (Dv.to (dv_tup (da_starT (fld T.noat_Scene_came rfl) (da_cons (dv_var rfl) da_nil)) (by simp; omega)) ?_) (da_cons (fld T.noat_Scene_done rfl) (da_cons (dv_op (rd_addS ?_) (fld T.noat_Scene_letters rfl) dv_cS) (da_cons (fld T.noat_Scene_streaks rfl) (da_cons (fld T.noat_Scene_tops rfl) da_nil)))))) ⟨n, J.rule, J.lanes, J.dlt, by have := J.many; omega⟩))
  · show D.tup _ = D.tup _
    simp only [step, List.map_append]
    rfl
  · rw [I.word]
    show _ + 1 ≤ 1000
    omega
theorem u_Scene_with_rule (T : Tx K mg) : Fn P w K mg base (He.ma K (He.ga K "Scene") "with_rule") 8 ["self", "table"] [] (spP fun ds d => ∃ (s : Sc) (n m : Nat) (t : Rule), ds = [dSc K s, dRule t] ∧ Inv n m s ∧ RuleOk n t ∧ m ≤ 50 ∧ d = dSc K (step s (.chg t))) := by
  have scN := (⟨rfl, rfl, rfl, by decide +kernel, rfl, by decide +kernel, by decide +kernel⟩ : FnScope ["self", "table"] ["self", "table"] (defScope s_Scene_with_rule))
  refine mk_fnP T.f_Scene_with_rule scN (fun kV doc pm an cdv ct us hl => match us, hl with | [_, _], _ => rfl) (fun ds d ⟨_, _, _, _, e, _⟩ => by rw [e]; rfl) fun cdv A outer s0 H E ds d hr ⟨s, n, m, t, e1, I, hR, hm, e2⟩ => ?_
  subst e1 e2
  refine ⟨_, (pss_one (ps_ret (pe_makeU T.mkr_Scene (u_Scene_init T) hr (by decide) rfl T.glo_Scene (pa_cons (pv 1) (pa_cons (pe_fldK (K := K) (pv 0)) (pa_cons (pe_fldK (K := K) (pv 0)) (pa_cons (pe_fldK (K := K) (pv 0)) (pa_cons (pe_fldK (K := K) (pv 0)) (pa_cons (pe_fldK (K := K) (pv 0)) pa_nil))))))))), ?_⟩
  have st := T.cls_Scene
  have J := I.step (e := .chg t) hR
  have fld : ∀ {f : Str} {d : D}, NoAttr K (cS K) f → (scnN.zip (scD s)).lookup f = some d → Dv (tFld K (tVar 0) f) (startD ["self", "table"] [dSc K s, dRule t]) d := fun nf hl => dv_fld st nf hl (dv_var rfl)
  exact df_b (db_ret (dv_scene (s := step s (.chg t)) (da_cons (dv_var rfl) (da_cons (fld T.noat_Scene_came rfl) (da_cons (fld T.noat_Scene_done rfl) (da_cons (fld T.noat_Scene_letters rfl) (da_cons (fld T.noat_Scene_streaks rfl) (da_cons (fld T.noat_Scene_tops rfl) da_nil)))))) ⟨n, J.rule, J.lanes, J.dlt, by have := J.many; omega⟩))
theorem u_first_scene (T : Tx K mg) : Use P w K mg base "first_scene" 8 ["table"] (spP fun ds d => ∃ (t : Rule) (n : Nat), ds = [dRule t] ∧ RuleOk n t ∧ d = dSc K (first t)) := by
  have scN := (⟨rfl, rfl, rfl, by decide +kernel, rfl, by decide +kernel, by decide +kernel⟩ : FnScope ["table", "zeros"] ["table"] (defScope s_first_scene))
  refine mk_pure T.f_first_scene T.glo_first_scene scN (fun kV doc pm an cdv ct us hl => match us, hl with | [_], _ => rfl) (fun ds d ⟨_, _, e, _⟩ => by rw [e]; rfl) fun cdv A outer s0 H E ds d hr ⟨t, n, e1, R, e2⟩ => ?_
  subst e1 e2
  refine ⟨_, (pss_cons (ps_set (i := 1) scN.nd rfl (Or.inl rfl) (pe_op (op_repK (K := K)) (pe_tup (pa_cons pe_int pa_nil)) (pe_op op_sub (pe_callB (call_lenK (K := K)) (by rfl) T.free_len PySem.boot_len (pa_cons (pv 0) pa_nil)) pe_int))) (pss_one (ps_ret (pe_makeU T.mkr_Scene (u_Scene_init T) hr (by decide) rfl T.glo_Scene (pa_cons (pv 0) (pa_cons (pe_tup pa_nil) (pa_cons (pe_tup pa_nil) (pa_cons pe_str (pa_cons (pv 1) (pa_cons (pv 1) pa_nil)))))))))), ?_⟩
  have hl := R.len
  have h1 := R.pos
  have h2 := R.top
  have J := inv_first R
  refine df_b (db_seq (dn_asg (d := dNs (List.replicate (t.length - 1) 0)) (Dv.to (dv_op (rd_rep (n := t.length - 1) (d := dN 0) (by omega) (by omega)) (dv_tup (da_cons (dv_cN rfl) da_nil) (by simp)) (dv_op (rd_subN (by omega)) (dv_lenR (dv_var rfl)) (dv_cN rfl))) ?_)) (db_ret (dv_scene (s := first t) (da_cons (dv_var rfl) (da_cons (dv_tup da_nil (Nat.zero_le _)) (da_cons (dv_tup da_nil (Nat.zero_le _)) (da_cons dv_cS (da_cons (dv_var rfl) (da_cons (dv_var rfl) da_nil)))))) ⟨n, J.rule, J.lanes, J.dlt, by have := J.many; omega⟩)))
  show D.tup _ = D.tup _
  rw [List.map_replicate]
end
end K70
set_option Elab.async false
set_option linter.all false
set_option maxRecDepth 100000
set_option maxHeartbeats 4000000
namespace K70
open PySem PySem.Spec PyProof.Rows L2
local macro_rules | `(tactic| walk_at "d1") => `(tactic| first
  | ((with_reducible refine' dv_var ?hh); (case hh => exact rfl))
  | with_reducible exact dv_cS
  | with_reducible exact dv_cB
  | with_reducible exact dv_c0
  | ((with_reducible refine' dv_cN ?hh); (case hh => exact rfl))
  | with_reducible exact dv_neg1
  | with_reducible exact dv_cI
  | with_reducible exact da_nil
  | with_reducible refine' da_cons ?_ ?_
  | with_reducible refine' da_starT ?_ ?_
  | with_reducible refine' da_starL ?_ ?_
  | with_reducible refine' dv_op rd_addN ?_ ?_
  | with_reducible refine' dv_op (rd_subN ?_) ?_ ?_
  | with_reducible refine' dv_op rd_ltN ?_ ?_
  | with_reducible refine' dv_op rd_leN ?_ ?_
  | with_reducible refine' dv_op rd_gtN ?_ ?_
  | with_reducible refine' dv_op rd_eqN ?_ ?_
  | with_reducible refine' dv_op rd_neN ?_ ?_
  | with_reducible refine' dv_op rd_eqS ?_ ?_
  | with_reducible refine' dv_op rd_in ?_ ?_
  | with_reducible refine' dv_op rd_notin ?_ ?_
  | with_reducible refine' dv_op rd_eq0 ?_ ?_
  | with_reducible refine' dv_op rd_ne0 ?_ ?_
  | with_reducible refine' dt_test ?_
  | with_reducible refine' dt_tB ?_
  | with_reducible exact dt_yes
  | with_reducible refine' dt_not ?_
  | with_reducible refine' dt_and ?_ fun _ => ?_
  | with_reducible refine' dt_or ?_ fun _ => ?_
  | with_reducible refine' dv_andV ?_ fun _ => ?_
  | with_reducible refine' dv_orV ?_ fun _ => ?_
  | with_reducible refine' dv_notV ?_
  | with_reducible refine' dv_chain rd_leN rd_leN ?_ ?_ ?_
  | ((with_reducible refine' dv_lenN (dv_var ?hh)); (case hh => exact rfl))
  | ((with_reducible refine' dv_lenR (dv_var ?hh)); (case hh => exact rfl))
  | with_reducible refine' dv_lenN ?_
  | with_reducible refine' dv_lenR ?_
  | with_reducible refine' dv_max ?_ ?_
  | with_reducible refine' di_tup ?_
  | with_reducible refine' di_lst ?_)
local macro_rules | `(tactic| walk_at "dv") => `(tactic| all_goals (repeat' walk_at "d1"))

section
variable {P : Program} {w : World} {K : PySem.W.Frag} {mg : Str → Option Value} {base : Heap}
theorem streak_in (s : Sc) (c l : Nat) (h : l < s.sk.length) (cars : List Nat) : ((streaks s.came cars s.sk c).map dN)[l]? = some (dN (if (cars.map fun x => ix s.came x).contains l && !decide (l = ix s.came c) then ix s.sk l + 1 else 0)) := by
  have e : (!(cars.filter fun x => decide (ix s.came x = l)).isEmpty) = (cars.map fun x => ix s.came x).contains l := by
    rw [Bool.eq_iff_iff, List.contains_iff_mem, List.mem_map]
    cases q : cars.filter fun x => decide (ix s.came x = l) with
    | nil =>
      refine ⟨fun h => (by cases h), ?_⟩
      rintro ⟨x, hx, e⟩
      rw [List.filter_eq_nil_iff] at q
      exact absurd (by simpa using e) (q x hx)
    | cons y ys =>
      refine ⟨fun _ => ?_, fun _ => rfl⟩
      have : y ∈ cars.filter fun x => decide (ix s.came x = l) := by rw [q]; exact List.mem_cons_self
      obtain ⟨h1, h2⟩ := List.mem_filter.mp this
      exact ⟨y, h1, by simpa using h2⟩
  rw [streak_at s c l h, e]
theorem di_enumS {S : List Addr} {ρ : Rho} {ts : TA} {ds : List D} (h : Da ts ρ [.tup ds]) (hv : ∀ d ∈ ds, Av S d) : Di S (iEnumT K ts) ρ (ds.zipIdx.map fun p => .tup [dN p.2, p.1]) := fun σ H R s q => h σ H _ s fun vs H1 g1 a1 => by
  cases a1 with
  | cons a1 a2 =>
    cases a2
    obtain ⟨a, xs, rfl, h1, h2⟩ := a1.tup_inv
    refine ⟨a, xs, rfl, SqT.rd h1, q _ H1 g1 fun H' g i => ?_⟩
    have k1 := goT g h1
    have k2 := h2.goS g hv
    refine ⟨fun d e => ?_, fun e => ⟨xs, SqT.rd k1, by rw [h2.length, e]; simp⟩⟩
    rw [List.getElem?_map, List.getElem?_zipIdx] at e
    cases q1 : ds[i]? with
    | none => rw [q1] at e; cases e
    | some d' =>
      rw [q1] at e
      have e' : K70.D.tup [dN (0 + i), d'] = d := Option.some.inj e
      subst e'
      obtain ⟨v, e1, a1⟩ := k2.get q1
      refine ⟨⟨xs, v, SqT.rd k1, e1⟩, fun x H'' y => ?_⟩
      obtain ⟨T, x', rfl, hT, rfl, y⟩ := y
      have e2 := y xs (SqT.rd k1)
      rw [e1] at e2
      cases e2
      rw [Nat.zero_add]
      exact ⟨Go.new hT, .tup (.inl upd_same) (.cons (.int _) (.cons (a1.go (Go.new hT)) .nil))⟩
theorem enum_at {ns : List Nat} {i : Nat} {d : D} (h : ((ns.map dN).zipIdx.map fun p => D.tup [dN p.2, p.1])[i]? = some d) : i < ns.length ∧ d = .tup [dN i, dN (ix ns i)] := by
  rw [List.getElem?_map, List.getElem?_zipIdx, List.getElem?_map] at h
  by_cases hi : i < ns.length
  · rw [ix_get hi] at h
    have e := Option.some.inj h
    rw [← e]
    exact ⟨hi, by show D.tup [dN (0 + i), dN (ix ns i)] = _; rw [Nat.zero_add]⟩
  · rw [List.getElem?_eq_none (by omega)] at h
    cases h
theorem maxes_zip {xs ys : List Nat} (h : xs.length = ys.length) : (xs.zip ys).map (fun p => max p.1 p.2) = maxes xs ys := by
  refine ext_ix (by simp [maxes_length, h]) fun i hi => ?_
  have hi' : i < xs.length := by simpa [h] using hi
  rw [maxes_ix hi']
  apply ix_of
  rw [List.getElem?_map, List.getElem?_zip_eq_some (z := (ix xs i, ix ys i)) |>.mpr ⟨ix_get hi', ix_get (h ▸ hi')⟩]
  rfl
theorem u_Scene_with_passing (T : Tx K mg) : Fn P w K mg base (He.ma K (He.ga K "Scene") "with_passing") 8 ["self"] [] (spP fun ds d => ∃ (s : Sc) (n m : Nat), ds = [dSc K s] ∧ Inv n m s ∧ s.done.length < s.came.length ∧ m ≤ 50 ∧ d = dSc K (step s .go)) := by
  have scN := (⟨rfl, rfl, rfl, by decide +kernel, rfl, by decide +kernel, by decide +kernel⟩ : FnScope ["self", "done", "streaks", "tops", "own", "lanes", "lane", "number", "car", "one", "other"] ["self"] (defScope s_Scene_with_passing))
  refine mk_fnP T.f_Scene_with_passing scN (fun kV doc pm an cdv ct us hl => match us, hl with | [_], _ => rfl) (fun ds d ⟨_, _, _, e, _⟩ => by rw [e]; rfl) fun cdv A outer s0 H E ds d hr ⟨s, n, m, e1, I, hlt, hm, e2⟩ => ?_
  subst e1 e2
  refine ⟨_, (pss_cons (ps_set (i := 1) scN.nd rfl (Or.inl rfl) (pe_tup (StX.pa_star (pe_fldK (K := K) (pv 0)) (pa_cons (pe_fldK (K := K) (pv 0)) pa_nil)))) (pss_cons (ps_par (i := 4) (j := 5) rfl scN.nd rfl rfl (by decide) rfl rfl (pa_cons (pe_ix (ix_tupK (K := K)) (pe_fldK (K := K) (pv 0)) (pe_fldK (K := K) (pv 0)) (fun _ _ => rfl)) (pa_cons (pe_lc (own := [("car", 8)]) (g := gName 8) (tt := tYes) rfl scN.nd (pi_tupK (K := K) (pe_use (u_waiting_cars T) hr (by decide) rfl (pa_cons (pe_fldK (K := K) (pv 0)) (pa_cons (pv 1) pa_nil)))) (blkOk_by (N := ["self", "done", "streaks", "tops", "own", "lanes", "lane", "number", "car", "one", "other"]) (sc := defScope s_Scene_with_passing) (own := [("car", 8)]) (by decide +kernel)) (fun _ _ _ _ _ => (pg_name (i := 8) scN.nd rfl (Or.inl rfl))) (fun _ _ _ _ _ => pts_nil) (fun _ _ _ _ _ => (pe_ix (ix_tupK (K := K)) (pe_fldK (K := K) (pv 0)) (pv 8) (fun _ _ => rfl)))) pa_nil)) (by rfl)) (pss_cons (ps_set (i := 2) scN.nd rfl (Or.inl rfl) (pe_lst pa_nil)) (pss_cons (ps_for PassesOwn.never rfl (pi_enumT rfl T.free_enumerate (pa_cons (pe_fldK (K := K) (pv 0)) pa_nil)) (pg_tup rfl (pgs_cons (pg_name (i := 6) scN.nd rfl (Or.inl rfl)) (pgs_cons (pg_name (i := 7) scN.nd rfl (Or.inl rfl)) pgs_nil))) (pss_one (ps_expr (pe_bm PySem.F.plainAttrs_list PySem.F.slot_list_append PySem.F.type_list_append mt_append (pv 2) (pa_cons (pe_ifExp (PW.pt (pw_and (pt_cmpR (op_inK (K := K)) (pv 6) (pv 5) (by rfl)) (pw_and1 (pt_cmpR op_ne (pv 6) (pv 4) (nomark _))))) (pe_op op_add (pv 7) pe_int) pe_int) pa_nil))))) (pss_cons (ps_set (i := 3) scN.nd rfl (Or.inl rfl) (pe_callTy (call_tupK (K := K)) (by rfl) T.free_tuple (by decide +kernel) (pa_cons (pe_lc (own := [("one", 9), ("other", 10)]) (g := gTup K 2 (gCons (gName 9) (gCons (gName 10) gNil))) (tt := tYes) rfl scN.nd (pi_zipM rfl T.free_zip (pa_cons (pe_fldK (K := K) (pv 0)) (pa_cons (pv 2) pa_nil))) (blkOk_by (N := ["self", "done", "streaks", "tops", "own", "lanes", "lane", "number", "car", "one", "other"]) (sc := defScope s_Scene_with_passing) (own := [("one", 9), ("other", 10)]) (by decide +kernel)) (fun _ _ _ _ _ => (pg_tup rfl (pgs_cons (pg_name (i := 9) scN.nd rfl (Or.inl rfl)) (pgs_cons (pg_name (i := 10) scN.nd rfl (Or.inl rfl)) pgs_nil)))) (fun _ _ _ _ _ => pts_nil) (fun _ _ _ _ _ => (pe_callB (call_max2 rfl) (by rfl) T.free_max (by decide +kernel) (pa_cons (pv 9) (pa_cons (pv 10) pa_nil))))) pa_nil))) (pss_one (ps_ret (pe_makeU T.mkr_Scene (u_Scene_init T) hr (by decide) rfl T.glo_Scene (pa_cons (pe_fldK (K := K) (pv 0)) (pa_cons (pe_fldK (K := K) (pv 0)) (pa_cons (pv 1) (pa_cons (pe_op op_add_str (pe_fldK (K := K) (pv 0)) pe_str) (pa_cons (pe_callTy (call_tupK (K := K)) (by rfl) T.free_tuple (by decide +kernel) (pa_cons (pv 2) pa_nil)) (pa_cons (pv 3) pa_nil)))))))))))))), ?_⟩
  have st := T.cls_Scene
  have hc := I.many
  have J := I.step (e := .go) hlt
  obtain ⟨x, hx, hxw⟩ := I.go hlt
  have est : step s .go = moved s x := by simp only [step, hx]
  rw [est] at J ⊢
  have hxl := (mem_waiting.mp hxw).1
  have hcb : (carsBut s.came s.done x).length ≤ 100 := Nat.le_trans (List.length_filter_le ..) (by have := wait_len s.came s.done; omega)
  have hn6 := I.rule.top
  have hsk := I.sk
  have htp := I.tops
  have hah : (scnN.zip (scD s)).lookup ("ahead" : Str) = some (dN x) := by
    have : (scnN.zip (scD s)).lookup ("ahead" : Str) = some (dCar (nextCar s.t s.came s.done)) := rfl
    rw [this, hx]
  have fld : ∀ {f : Str} {d : D} {ρ : Rho}, ρ[0]? = some (some (dSc K s)) → NoAttr K (cS K) f → (scnN.zip (scD s)).lookup f = some d → Dv (tFld K (tVar 0) f) ρ d := fun h nf hl => dv_fld st nf hl (dv_var h)
  refine df_b (db_seq (dn_asg (d := dNs (s.done ++ [x])) (Dv.to (dv_tup (da_starT (ds := s.done.map dN) (fld rfl T.noat_Scene_done rfl) (da_cons (fld rfl T.noat_Scene_ahead hah) da_nil)) (by simp; omega)) ?_))
    (db_parL (d1 := dN (ix s.came x)) (ds := ((carsBut s.came s.done x).map fun y => ix s.came y).map dN) (dv_op (rd_ixN (ns := s.came) hxl) (fld rfl T.noat_Scene_came rfl) (fld rfl T.noat_Scene_ahead hah)) (DvL.to (dl_lc (xs := waiting s.came (s.done ++ [x])) (emb := dN) (f := fun y => dN (ix s.came y)) (p := fun _ => true) (di_tup (dv_call (ds := [dNs s.came, dNs (s.done ++ [x])]) (d := dNs (waiting s.came (s.done ++ [x]))) (da_cons (fld rfl T.noat_Scene_came rfl) (da_cons (dv_var rfl) da_nil)) ⟨s.came, s.done ++ [x], rfl, by omega, rfl⟩)) (by have := wait_len s.came (s.done ++ [x]); omega) (fun x _ => dg_name) (by simp) (fun _ _ => av_N) (fun _ _ => dt_yes) fun y hy _ => dv_op (rd_ixN (ns := s.came) (mem_waiting.mp hy).1) (fld rfl T.noat_Scene_came rfl) (dv_var rfl)) ?_) fun b =>
    (db_build (src := (s.sk.map dN).zipIdx.map fun p => .tup [dN p.2, p.1]) (f := (streaks s.came (carsBut s.came s.done x) s.sk x).map dN) ?_ ?_ (fun e he S => av_map (fun _ => av_N) e he) ?_ (fun a hA i d e h1 h2 => ?_) fun a =>
    (db_seq (dn_asg (d := dNs (maxes s.tops (streaks s.came (carsBut s.came s.done x) s.sk x))) (Dv.to (dv_tupL (dl_lc (xs := s.tops.zip (streaks s.came (carsBut s.came s.done x) s.sk x)) (emb := fun p => .tup [dN p.1, dN p.2]) (f := fun p => dN (max p.1 p.2)) (p := fun _ => true) (Di.to (di_zip (a := a) (ds := s.tops.map dN) (es := (streaks s.came (carsBut s.came s.done x) s.sk x).map dN) (da_cons (fld rfl T.noat_Scene_tops rfl) (da_cons (dv_var rfl) da_nil)) ?_) ?_) (by simp; omega) (fun p _ => dg_tup (ds := [dN p.1, dN p.2]) (dgs_cons dg_name (dgs_cons dg_name dgs_nil)) rfl) (by simp) (fun _ _ => av_N) (fun _ _ => dt_yes) fun l hl _ => dv_max (dv_var rfl) (dv_var rfl))) ?_))
    (db_ret ?_)))))
  · show D.tup _ = D.tup _
    rw [List.map_append]
    rfl
  · rw [flt_all, waiting_pass, List.map_map]; rfl
  · simp [streaks_length]
  · rw [List.length_map, streaks_length]; omega
  · exact fun a hA => di_enumS (da_cons (fld rfl T.noat_Scene_streaks rfl) da_nil) (av_map fun _ => av_N)
  · obtain ⟨hi, rfl⟩ := enum_at h1
    rw [streak_in s x i hi] at h2
    have e2 := Option.some.inj h2
    subst e2
    refine ⟨_, _, _, dg_tup (ds := [dN i, dN (ix s.sk i)]) (dgs_cons dg_name (dgs_cons dg_name dgs_nil)) rfl, (dap_app (L := 2) (a := a) rfl ?_ ?_ av_N).weak ((Le.set (i := 7) rfl).trans (Le.set (i := 6) rfl)), .refl⟩
    rotate_left
    · exact (hA.set (i := 6) av_N).set (i := 7) av_N
    refine dv_if (b := ((carsBut s.came s.done x).map fun y => ix s.came y).contains i && !decide (i = ix s.came x)) (dt_and (dt_test (dv_op (rd_inL (a := b)) (dv_var rfl) (dv_var rfl))) fun _ => dt_test (dv_op rd_neN (dv_var rfl) (dv_var rfl))) (fun hb => ?_) (fun hb => ?_)
    · rw [if_pos hb]
      exact dv_op rd_addN (dv_var rfl) (dv_cN rfl)
    · rw [if_neg (by rw [hb]; exact Bool.false_ne_true)]
      exact dv_cN rfl
  · simp [streaks_length, hsk, htp]
  · rw [List.zip_map, List.map_map]; rfl
  · show D.tup _ = D.tup _
    rw [flt_all, ← maxes_zip (by rw [streaks_length, hsk, htp]), List.map_map]; rfl
  · refine dv_scene (s := moved s x) (da_cons (fld rfl T.noat_Scene_table_now rfl) (da_cons (fld rfl T.noat_Scene_came rfl) (da_cons (dv_var rfl) (da_cons (dv_op (rd_addS ?_) (fld rfl T.noat_Scene_letters rfl) dv_cS) (da_cons (dv_tupLv (dv_var rfl)) (da_cons (dv_var rfl) da_nil)))))) ⟨n, J.rule, J.lanes, J.dlt, by have := J.many; omega⟩
    rw [I.word]
    show _ + 1 ≤ 1000
    omega
end
end K70
set_option Elab.async false
set_option linter.all false
set_option maxRecDepth 100000
set_option maxHeartbeats 4000000
namespace K70
open PySem PySem.Spec PyProof.Rows L2
local macro_rules | `(tactic| walk_at "d1") => `(tactic| first
  | ((with_reducible refine' dv_var ?hh); (case hh => exact rfl))
  | with_reducible exact dv_cS
  | with_reducible exact dv_cB
  | with_reducible exact dv_c0
  | ((with_reducible refine' dv_cN ?hh); (case hh => exact rfl))
  | with_reducible exact dv_neg1
  | with_reducible exact dv_cI
  | with_reducible exact da_nil
  | with_reducible refine' da_cons ?_ ?_
  | with_reducible refine' da_starT ?_ ?_
  | with_reducible refine' da_starL ?_ ?_
  | with_reducible refine' dv_op rd_addN ?_ ?_
  | with_reducible refine' dv_op (rd_subN ?_) ?_ ?_
  | with_reducible refine' dv_op rd_ltN ?_ ?_
  | with_reducible refine' dv_op rd_leN ?_ ?_
  | with_reducible refine' dv_op rd_gtN ?_ ?_
  | with_reducible refine' dv_op rd_eqN ?_ ?_
  | with_reducible refine' dv_op rd_neN ?_ ?_
  | with_reducible refine' dv_op rd_eqS ?_ ?_
  | with_reducible refine' dv_op rd_in ?_ ?_
  | with_reducible refine' dv_op rd_notin ?_ ?_
  | with_reducible refine' dv_op rd_eq0 ?_ ?_
  | with_reducible refine' dv_op rd_ne0 ?_ ?_
  | with_reducible refine' dt_test ?_
  | with_reducible refine' dt_tB ?_
  | with_reducible exact dt_yes
  | with_reducible refine' dt_not ?_
  | with_reducible refine' dt_and ?_ fun _ => ?_
  | with_reducible refine' dt_or ?_ fun _ => ?_
  | with_reducible refine' dv_andV ?_ fun _ => ?_
  | with_reducible refine' dv_orV ?_ fun _ => ?_
  | with_reducible refine' dv_notV ?_
  | with_reducible refine' dv_chain rd_leN rd_leN ?_ ?_ ?_
  | ((with_reducible refine' dv_lenN (dv_var ?hh)); (case hh => exact rfl))
  | ((with_reducible refine' dv_lenR (dv_var ?hh)); (case hh => exact rfl))
  | with_reducible refine' dv_lenN ?_
  | with_reducible refine' dv_lenR ?_
  | with_reducible refine' dv_max ?_ ?_
  | with_reducible refine' di_tup ?_
  | with_reducible refine' di_lst ?_)
local macro_rules | `(tactic| walk_at "dv") => `(tactic| all_goals (repeat' walk_at "d1"))

section
variable {K : PySem.W.Frag} {H H' : Hp} {σ : L2.St} {ρ ρ' ρ1 : Rho} {v : V} {d d1 d2 e : D} {ds es : List D} {te ta tb tl : TE} {ts : TA} {t1 t2 : TS} {p C dx : Addr} {ks : List Str} {f m : Str} {E : XK} {rel : List D → D → Prop}
theorem rd_ixEnd (h : ds.getLast? = some d) : Rd2 (rIxT K) (.tup ds) (.int (-1)) d := rd_pure fun x y H Q a1 a2 q => by
  rw [a2.int_inv]
  obtain ⟨a, xs, rfl, h1, h2⟩ := a1.tup_inv
  obtain ⟨ys, rfl⟩ := List.getLast?_eq_some_iff.mp h
  have hd : (ys ++ [d])[ys.length]? = some d := by simp
  obtain ⟨v, e1, k⟩ := h2.get hd
  have hl : xs.length = ys.length + 1 := by rw [h2.length]; simp
  refine ⟨a, xs, _, v, rfl, rfl, SqT.rd h1, atI_neg1 (xs := xs) ?_, q v k⟩
  rw [List.getLast?_eq_getElem?, hl]
  exact e1
theorem dv_prop (h : Dv ta ρ (.ob p C dx ks ds)) (hr : rel [.ob p C dx ks ds] d) : Dv (tProp C (spP rel) [] E ta) ρ d := fun σ H Q s q =>
  h σ H _ s fun v H1 g1 a1 => by
    have a1' := a1
    cases a1 with
    | ob h1 h2 h3 => exact ⟨p, dx, _, rfl, h1, _, d, .cons a1' .nil, hr, fun v H' g a => q v H' (g1.trans g) a⟩
theorem lookup_miss : ∀ {ks : List Str} {xs : List V}, ks.contains m = false → (ks.zip xs).lookup m = none
  | [], _, _ => rfl
  | _ :: _, [], _ => rfl
  | k :: ks, x :: xs, hc => by
    rw [List.contains_cons, Bool.or_eq_false_iff] at hc
    rw [List.zip_cons_cons, List.lookup_cons, hc.1]
    exact lookup_miss hc.2
theorem dv_con {i : Int} {u : Value} (cl : Cls K C) (k : Con K C f (.int i) u) (hl : ks.contains f = false) (h : Dv ta ρ (.ob p C dx ks ds)) : Dv (tCon K ta f) ρ (.int i) := fun σ H Q s q =>
  h σ H _ s fun v H1 g1 a1 => by
    cases a1 with
    | ob h1 h2 h3 => exact ⟨p, C, dx, _, _, u, rfl, h1, cl, k, lookup_miss hl, q _ H1 g1 (.int _)⟩
/-- a block that changes what stands at p and returns -/
def Dq (p : Addr) (t : TS) (ρ : Rho) (d : D) (ρ' : Rho) : Prop := ∀ (σ : L2.St) (H : Hp) (E : Ends), Sd H σ ρ → (∀ σ' v H', Go [p] H H' → At H' v d → Sd H' σ' ρ' → E.rt v H') → t E σ H
theorem dq_seq (h1 : Ds p t1 ρ ρ1) (h2 : Dq p t2 ρ1 d ρ') : Dq p (tSeq t1 t2) ρ d ρ' := fun σ H E s q => h1 σ H { E with nx := t2 E } s fun σ' H' g s' => h2 σ' H' E s' fun σ2 v H2 g2 a s2 => q σ2 v H2 (g.transS g2) a s2
theorem dq_ret (h : Dv te ρ d) : Dq p (tRet te) ρ d ρ := fun σ H E s q => h σ H _ s fun v H' g a => q σ v H' g.wide a (s.go g)
end
section
variable {X : Cx} {C f p g : Addr} {k j : Nat} {ps : List Str} {dvs : List V} {sp : Sp} {x m : Str} {e : Expr} {pos : Pos} {ta : TE} {K : PySem.W.Frag}
theorem pe_propU (he : PE X e ta) (c : Cls X.K C) (hp : PropOf X.K C m p g) (U : Fn X.prog X.w X.K X.mg X.base g k ps dvs sp) (hr : Room j X.A) (hk : k + 1 ≤ j)
    (hab : attributeBase e m X.env (eval e X.env) = eval e X.env := by rfl) : PE X (.Attribute e m pos) (tProp C sp dvs E0 ta) := by
  obtain ⟨fd, ds, hv, hb, F⟩ := U.ex
  exact pe_prop he c hp F (hr.mono hk) hb hv (fun _ _ _ _ _ _ _ z => z.elim) hab
theorem pe_conK (he : PE X e ta) (hb : attributeBase e m X.env (eval e X.env) = eval e X.env := by rfl) (h : X.K = K := by rfl) : PE X (.Attribute e m pos) (tCon K ta m) := by subst h; exact pe_con he hb
end
/-! the crossing -/
abbrev cCr' (K : PySem.W.Frag) : Addr := He.ga K "Crossing"
def crN : List Str := ["scenes", "kept", "is_busy"]
abbrev dCr (p C dx : Addr) (ex : List Str) (scs ks hs : List D) : D := .ob p C dx (crN ++ ex) ([.tup scs, .tup ks, .bl false] ++ hs)
structure CrOk (K : PySem.W.Frag) (scs ks : List D) (s : Sc) (k : Nat) : Prop where
  last : scs.getLast? = some (dSc K s)
  len : ks.length = k
  slen : scs.length = k + 1
  avS : ∀ d ∈ scs, ∀ S, Av S d
  avK : ∀ d ∈ ks, ∀ S, Av S d
/-- d tells of a crossing at p: its last scene s, its k edits -/
def Cs (K : PySem.W.Frag) (C : Addr) (ex : List Str) (hs : List D) (p : Addr) (d : D) (s : Sc) (k : Nat) : Prop := ∃ dx scs ks, d = dCr p C dx ex scs ks hs ∧ CrOk K scs ks s k
structure SOk (n m : Nat) (s : Sc) : Prop where
  inv : Inv n m s
  le : m ≤ 39
abbrev crm (K : PySem.W.Frag) (m : Str) : Addr := He.ma K (He.ga K "Crossing") m
/-- a class of crossings: its facts, its accept -/
structure Tc (P : Program) (w : World) (K : PySem.W.Frag) (mg : Str → Option Value) (base : Heap) (C : Addr) (ex : List Str) (hs : List D) : Prop where
  cl : Cls K C
  na_scenes : NoAttr K C "scenes"
  na_kept : NoAttr K C "kept"
  na_is_busy : NoAttr K C "is_busy"
  me_require_idle : Meth K C "require_idle" (crm K "require_idle")
  me_require_lane : Meth K C "require_lane" (crm K "require_lane")
  me_scene_with_rule : Meth K C "scene_with_rule" (crm K "scene_with_rule")
  me_scene_after : Meth K C "scene_after" (crm K "scene_after")
  me_perform : Meth K C "perform" (crm K "perform")
  me_come : Meth K C "come" (crm K "come")
  me_go : Meth K C "go" (crm K "go")
  me_change : Meth K C "change" (crm K "change")
  me_scene_at : Meth K C "scene_at" (crm K "scene_at")
  me_current : Meth K C "current" (crm K "current")
  me_row : Meth K C "row" (crm K "row")
  me_waiting : Meth K C "waiting" (crm K "waiting")
  me_passed : Meth K C "passed" (crm K "passed")
  me_word : Meth K C "word" (crm K "word")
  me_accept : Meth K C "accept" (He.ma K C "accept")
  pr_cars : ∃ p, PropOf K C "cars" p (He5.wf K (He.ga K "Crossing") "property" "cars")
  pr_length : ∃ p, PropOf K C "length" p (He5.wf K (He.ga K "Crossing") "property" "length")
  limit : ∃ u, Con K C "LIMIT" (.int 60) u
  ex6 : ex = [] ∨ ex = (["height"] : List Str)
  exl : hs.length = ex.length
  avH : ∀ d ∈ hs, ∀ S, Av S d
  acc : Fn P w K mg base (He.ma K C "accept") 3 ["self", "scene"] [] (spP fun ds d => ∃ p d0 s k s', ds = [d0, dSc K s'] ∧ Cs K C ex hs p d0 s k ∧ d = .non)
section
variable {P : Program} {w : World} {K : PySem.W.Frag} {mg : Str → Option Value} {base : Heap} {C : Addr} {ex : List Str} {hs : List D}
variable {ρ : Rho} {ta : TE} {p dx : Addr} {scs ks : List D} {s : Sc} {k : Nat}
theorem dv_scenes (c : Tc P w K mg base C ex hs) (h : Dv ta ρ (dCr p C dx ex scs ks hs)) : Dv (tFld K ta "scenes") ρ (.tup scs) := dv_fldO c.cl c.na_scenes rfl h
theorem dv_kept (c : Tc P w K mg base C ex hs) (h : Dv ta ρ (dCr p C dx ex scs ks hs)) : Dv (tFld K ta "kept") ρ (.tup ks) := dv_fldO c.cl c.na_kept rfl h
theorem dv_busy (c : Tc P w K mg base C ex hs) (h : Dv ta ρ (dCr p C dx ex scs ks hs)) : Dv (tFld K ta "is_busy") ρ (.bl false) := dv_fldO c.cl c.na_is_busy rfl h
/-- self.scenes[-1] -/
theorem dv_last (c : Tc P w K mg base C ex hs) (ok : CrOk K scs ks s k) (h : Dv ta ρ (dCr p C dx ex scs ks hs)) : Dv (tOp (rIxT K) (tFld K ta "scenes") (tUn (rU fun i => .int (-i)) (tC (.int 1)))) ρ (dSc K s) := dv_op (rd_ixEnd ok.last) (dv_scenes c h) dv_neg1
theorem dv_lastf {f : Str} {d : D} (T : Tx K mg) (c : Tc P w K mg base C ex hs) (ok : CrOk K scs ks s k) (nf : NoAttr K (cS K) f) (hl : (scnN.zip (scD s)).lookup f = some d) (h : Dv ta ρ (dCr p C dx ex scs ks hs)) : Dv (tFld K (tOp (rIxT K) (tFld K ta "scenes") (tUn (rU fun i => .int (-i)) (tC (.int 1)))) f) ρ d := dv_fld T.cls_Scene nf hl (dv_last c ok h)
theorem u_Cr_require_idle (T : Tx K mg) (c : Tc P w K mg base C ex hs) : Fn P w K mg base (crm K "require_idle") 1 ["self"] [] (spP fun ds d => ∃ p d0 s k, ds = [d0] ∧ Cs K C ex hs p d0 s k ∧ d = .non) := by
  have scN := (⟨rfl, rfl, rfl, by decide +kernel, rfl, by decide +kernel, by decide +kernel⟩ : FnScope ["self"] ["self"] (defScope s_Crossing_require_idle))
  refine mk_fnP T.f_Crossing_require_idle scN (fun kV doc pm an cdv ct us hl => match us, hl with | [_], _ => rfl) (fun ds d ⟨_, _, _, _, e, _⟩ => by rw [e]; rfl) fun cdv A outer s0 H E ds d hr ⟨p, d0, s, k, e1, ⟨dx, scs, ks, e2, ok⟩, e3⟩ => ?_
  subst e1 e2 e3
  refine ⟨_, (pss_one (ps_if (pt_val (pe_fldK (K := K) (pv 0))) (pss_one ps_never) pss_nil)), ?_⟩
  exact df_n (dn_skip (dt_tB (dv_busy c (dv_var rfl))))
theorem u_Cr_require_lane (T : Tx K mg) (c : Tc P w K mg base C ex hs) : Fn P w K mg base (crm K "require_lane") 2 ["self", "value"] [] (spP fun ds d => ∃ p d0 s k n m l, ds = [d0, dN l] ∧ Cs K C ex hs p d0 s k ∧ SOk n m s ∧ l < n ∧ d = .non) := by
  have scN := (⟨rfl, rfl, rfl, by decide +kernel, rfl, by decide +kernel, by decide +kernel⟩ : FnScope ["self", "value"] ["self", "value"] (defScope s_Crossing_require_lane))
  refine mk_fnP T.f_Crossing_require_lane scN (fun kV doc pm an cdv ct us hl => match us, hl with | [_, _], _ => rfl) (fun ds d ⟨_, _, _, _, _, _, _, e, _⟩ => by rw [e]; rfl) fun cdv A outer s0 H E ds d hr ⟨p, d0, s, k, n, m, l, e1, ⟨dx, scs, ks, e2, ok⟩, I, hlt, e3⟩ => ?_
  subst e1 e2 e3
  refine ⟨_, (pss_one (ps_if (pt_not (pt_val (pe_use (u_is_whole T) hr (by decide) rfl (pa_cons (pv 1) (pa_cons pe_int (pa_cons (pe_op op_sub (pe_callB (call_lenK (K := K)) (by rfl) T.free_len PySem.boot_len (pa_cons (pe_fldK (K := K) (pe_ix (ix_tupK (K := K)) (pe_fldK (K := K) (pv 0)) (pe_un un_neg pe_int) (fun _ _ => rfl))) pa_nil)) pe_int) pa_nil)))))) (pss_one ps_never) pss_nil)), ?_⟩
  have hl := I.inv.rule.len
  exact df_n (dn_skip (Dt.to (b := !true) (dt_not (dt_tB (dv_call (ds := [dN l, dN 0, dN (s.t.length - 2)]) (da_cons (dv_var rfl) (da_cons (dv_cN rfl) (da_cons (dv_op (rd_subN (by omega)) (dv_lenR (dv_lastf T c ok T.noat_Scene_table_now rfl (dv_var rfl))) (dv_cN rfl)) da_nil))) ⟨l, 0, s.t.length - 2, rfl, by simp; omega⟩))) rfl))
theorem u_Cr_cars (T : Tx K mg) (c : Tc P w K mg base C ex hs) : Fn P w K mg base (He5.wf K (He.ga K "Crossing") "property" "cars") 1 ["self"] [] (spP fun ds d => ∃ p d0 s k, ds = [d0] ∧ Cs K C ex hs p d0 s k ∧ d = dN s.came.length) := by
  have scN := (⟨rfl, rfl, rfl, by decide +kernel, rfl, by decide +kernel, by decide +kernel⟩ : FnScope ["self"] ["self"] (defScope s_Crossing_cars))
  refine mk_fnP T.f_Crossing_cars scN (fun kV doc pm an cdv ct us hl => match us, hl with | [_], _ => rfl) (fun ds d ⟨_, _, _, _, e, _⟩ => by rw [e]; rfl) fun cdv A outer s0 H E ds d hr ⟨p, d0, s, k, e1, ⟨dx, scs, ks, e2, ok⟩, e3⟩ => ?_
  subst e1 e2 e3
  refine ⟨_, (pss_one (ps_ret (pe_callB (call_lenK (K := K)) (by rfl) T.free_len PySem.boot_len (pa_cons (pe_fldK (K := K) (pe_ix (ix_tupK (K := K)) (pe_fldK (K := K) (pv 0)) (pe_un un_neg pe_int) (fun _ _ => rfl))) pa_nil)))), ?_⟩
  exact df_b (db_ret (dv_lenN (dv_lastf T c ok T.noat_Scene_came rfl (dv_var rfl))))
theorem u_Cr_length (T : Tx K mg) (c : Tc P w K mg base C ex hs) : Fn P w K mg base (He5.wf K (He.ga K "Crossing") "property" "length") 1 ["self"] [] (spP fun ds d => ∃ p d0 s k n m, ds = [d0] ∧ Cs K C ex hs p d0 s k ∧ SOk n m s ∧ d = dN (s.came.length - s.done.length)) := by
  have scN := (⟨rfl, rfl, rfl, by decide +kernel, rfl, by decide +kernel, by decide +kernel⟩ : FnScope ["self"] ["self"] (defScope s_Crossing_length))
  refine mk_fnP T.f_Crossing_length scN (fun kV doc pm an cdv ct us hl => match us, hl with | [_], _ => rfl) (fun ds d ⟨_, _, _, _, _, _, e, _⟩ => by rw [e]; rfl) fun cdv A outer s0 H E ds d hr ⟨p, d0, s, k, n, m, e1, ⟨dx, scs, ks, e2, ok⟩, I, e3⟩ => ?_
  subst e1 e2 e3
  refine ⟨_, (pss_one (ps_ret (pe_op op_sub (pe_callB (call_lenK (K := K)) (by rfl) T.free_len PySem.boot_len (pa_cons (pe_fldK (K := K) (pe_ix (ix_tupK (K := K)) (pe_fldK (K := K) (pv 0)) (pe_un un_neg pe_int) (fun _ _ => rfl))) pa_nil)) (pe_callB (call_lenK (K := K)) (by rfl) T.free_len PySem.boot_len (pa_cons (pe_fldK (K := K) (pe_ix (ix_tupK (K := K)) (pe_fldK (K := K) (pv 0)) (pe_un un_neg pe_int) (fun _ _ => rfl))) pa_nil))))), ?_⟩
  have := length_sub I.inv.nd I.inv.dlt
  exact df_b (db_ret (dv_op (rd_subN this) (dv_lenN (dv_lastf T c ok T.noat_Scene_came rfl (dv_var rfl))) (dv_lenN (dv_lastf T c ok T.noat_Scene_done rfl (dv_var rfl)))))
theorem u_Cr_word (T : Tx K mg) (c : Tc P w K mg base C ex hs) : Fn P w K mg base (crm K "word") 1 ["self"] [] (spP fun ds d => ∃ p d0 s k, ds = [d0] ∧ Cs K C ex hs p d0 s k ∧ d = .str s.word) := by
  have scN := (⟨rfl, rfl, rfl, by decide +kernel, rfl, by decide +kernel, by decide +kernel⟩ : FnScope ["self"] ["self"] (defScope s_Crossing_word))
  refine mk_fnP T.f_Crossing_word scN (fun kV doc pm an cdv ct us hl => match us, hl with | [_], _ => rfl) (fun ds d ⟨_, _, _, _, e, _⟩ => by rw [e]; rfl) fun cdv A outer s0 H E ds d hr ⟨p, d0, s, k, e1, ⟨dx, scs, ks, e2, ok⟩, e3⟩ => ?_
  subst e1 e2 e3
  refine ⟨_, (pss_one (ps_ret (pe_fldK (K := K) (pe_ix (ix_tupK (K := K)) (pe_fldK (K := K) (pv 0)) (pe_un un_neg pe_int) (fun _ _ => rfl))))), ?_⟩
  exact df_b (db_ret (dv_lastf T c ok T.noat_Scene_letters rfl (dv_var rfl)))
theorem u_Cr_len (T : Tx K mg) (c : Tc P w K mg base C ex hs) : Fn P w K mg base (crm K "__len__") 1 ["self"] [] (spP fun ds d => ∃ p d0 s k, ds = [d0] ∧ Cs K C ex hs p d0 s k ∧ d = dN k) := by
  have scN := (⟨rfl, rfl, rfl, by decide +kernel, rfl, by decide +kernel, by decide +kernel⟩ : FnScope ["self"] ["self"] (defScope s_Crossing_len))
  refine mk_fnP T.f_Crossing_len scN (fun kV doc pm an cdv ct us hl => match us, hl with | [_], _ => rfl) (fun ds d ⟨_, _, _, _, e, _⟩ => by rw [e]; rfl) fun cdv A outer s0 H E ds d hr ⟨p, d0, s, k, e1, ⟨dx, scs, ks, e2, ok⟩, e3⟩ => ?_
  subst e1 e2 e3
  refine ⟨_, (pss_one (ps_ret (pe_callB (call_lenK (K := K)) (by rfl) T.free_len PySem.boot_len (pa_cons (pe_fldK (K := K) (pv 0)) pa_nil)))), ?_⟩
  exact df_b (db_ret (dv_lenT (dv_kept c (dv_var rfl)) ok.len))
theorem u_Cr_scene_at (T : Tx K mg) (c : Tc P w K mg base C ex hs) : Fn P w K mg base (crm K "scene_at") 2 ["self", "version"] [] (spP fun ds d => ∃ p d0 s k, ds = [d0, .non] ∧ Cs K C ex hs p d0 s k ∧ d = dSc K s) := by
  have scN := (⟨rfl, rfl, rfl, by decide +kernel, rfl, by decide +kernel, by decide +kernel⟩ : FnScope ["self", "version"] ["self", "version"] (defScope s_Crossing_scene_at))
  refine mk_fnP T.f_Crossing_scene_at scN (fun kV doc pm an cdv ct us hl => match us, hl with | [_, _], _ => rfl) (fun ds d ⟨_, _, _, _, e, _⟩ => by rw [e]; rfl) fun cdv A outer s0 H E ds d hr ⟨p, d0, s, k, e1, ⟨dx, scs, ks, e2, ok⟩, e3⟩ => ?_
  subst e1 e2 e3
  refine ⟨_, (pss_cons (ps_if (pt_cmpR op_isN (pv 1) pe_non (nomark _)) (pss_one (ps_ret (pe_ix (ix_tupK (K := K)) (pe_fldK (K := K) (pv 0)) (pe_un un_neg pe_int) (fun _ _ => rfl)))) pss_nil) (pss_cons (ps_if (pt_not (pt_val (pe_use (u_is_whole T) hr (by decide) rfl (pa_cons (pv 1) (pa_cons pe_int (pa_cons (pe_callB (call_lenK (K := K)) (by rfl) T.free_len PySem.boot_len (pa_cons (pe_fldK (K := K) (pv 0)) pa_nil)) pa_nil)))))) (pss_one ps_never) pss_nil) (pss_one (ps_ret (pe_ix (ix_tupK (K := K)) (pe_fldK (K := K) (pv 0)) (pv 1) (fun _ _ => rfl)))))), ?_⟩
  exact df_b (db_now (db_ifT (dt_test (dv_op (rd_isN (d := .non) (fun w h => by cases h)) (dv_var rfl) dv_c0)) (db_ret (dv_last c ok (dv_var rfl)))))
end
end K70
set_option Elab.async false
set_option linter.all false
set_option maxRecDepth 100000
set_option maxHeartbeats 4000000
namespace K70
open PySem PySem.Spec PyProof.Rows L2
local macro_rules | `(tactic| walk_at "d1") => `(tactic| first
  | ((with_reducible refine' dv_var ?hh); (case hh => exact rfl))
  | with_reducible exact dv_cS
  | with_reducible exact dv_cB
  | with_reducible exact dv_c0
  | ((with_reducible refine' dv_cN ?hh); (case hh => exact rfl))
  | with_reducible exact dv_neg1
  | with_reducible exact dv_cI
  | with_reducible exact da_nil
  | with_reducible refine' da_cons ?_ ?_
  | with_reducible refine' da_starT ?_ ?_
  | with_reducible refine' da_starL ?_ ?_
  | with_reducible refine' dv_op rd_addN ?_ ?_
  | with_reducible refine' dv_op (rd_subN ?_) ?_ ?_
  | with_reducible refine' dv_op rd_ltN ?_ ?_
  | with_reducible refine' dv_op rd_leN ?_ ?_
  | with_reducible refine' dv_op rd_gtN ?_ ?_
  | with_reducible refine' dv_op rd_eqN ?_ ?_
  | with_reducible refine' dv_op rd_neN ?_ ?_
  | with_reducible refine' dv_op rd_eqS ?_ ?_
  | with_reducible refine' dv_op rd_in ?_ ?_
  | with_reducible refine' dv_op rd_notin ?_ ?_
  | with_reducible refine' dv_op rd_eq0 ?_ ?_
  | with_reducible refine' dv_op rd_ne0 ?_ ?_
  | with_reducible refine' dt_test ?_
  | with_reducible refine' dt_tB ?_
  | with_reducible exact dt_yes
  | with_reducible refine' dt_not ?_
  | with_reducible refine' dt_and ?_ fun _ => ?_
  | with_reducible refine' dt_or ?_ fun _ => ?_
  | with_reducible refine' dv_andV ?_ fun _ => ?_
  | with_reducible refine' dv_orV ?_ fun _ => ?_
  | with_reducible refine' dv_notV ?_
  | with_reducible refine' dv_chain rd_leN rd_leN ?_ ?_ ?_
  | ((with_reducible refine' dv_lenN (dv_var ?hh)); (case hh => exact rfl))
  | ((with_reducible refine' dv_lenR (dv_var ?hh)); (case hh => exact rfl))
  | with_reducible refine' dv_lenN ?_
  | with_reducible refine' dv_lenR ?_
  | with_reducible refine' dv_max ?_ ?_
  | with_reducible refine' di_tup ?_
  | with_reducible refine' di_lst ?_)
local macro_rules | `(tactic| walk_at "dv") => `(tactic| all_goals (repeat' walk_at "d1"))

section
variable {P : Program} {w : World} {K : PySem.W.Frag} {mg : Str → Option Value} {base : Heap} {C : Addr} {ex : List Str} {hs : List D}
theorem mthO {m : Str} (c : Tc P w K mg base C ex hs) (h1 : crN.contains m = false) (h2 : (["height"] : List Str).contains m = false) : (crN ++ ex).contains m = false := by
  rcases c.ex6 with e | e
  · rw [e, List.append_nil]; exact h1
  · rw [e]
    cases q : (crN ++ (["height"] : List Str)).contains m with
    | false => rfl
    | true =>
      rw [List.contains_iff_mem, List.mem_append] at q
      rcases q with q | q
      · rw [← List.contains_iff_mem, h1] at q; cases q
      · rw [← List.contains_iff_mem, h2] at q; cases q
def relV (K : PySem.W.Frag) (C : Addr) (ex : List Str) (hs : List D) (f : Sc → D) (ds : List D) (d : D) : Prop := ∃ p d0 s k, ds = [d0, .non] ∧ Cs K C ex hs p d0 s k ∧ s.came.length ≤ 100 ∧ d = f s
theorem dv_at {ρ : Rho} {E : XK} (T : Tx K mg) (c : Tc P w K mg base C ex hs) {p : Addr} {d0 : D} {s : Sc} {k : Nat} (ok : Cs K C ex hs p d0 s k) (h0 : ρ[0]? = some (some d0)) (h1 : ρ[1]? = some (some .non)) : Dv (tMeth C "scene_at" (spP fun ds d => ∃ p d0 s k, ds = [d0, .non] ∧ Cs K C ex hs p d0 s k ∧ d = dSc K s) [] E (tVar 0) (tCons (tVar 1) tNil)) ρ (dSc K s) := by
  obtain ⟨dx, scs, ks, rfl, o⟩ := ok
  exact dv_methO (mthO c (by decide +kernel) (by decide +kernel)) (dv_var h0) (da_cons (dv_var h1) da_nil) (fun _ => .nil) ⟨p, _, s, k, rfl, ⟨dx, scs, ks, rfl, o⟩, rfl⟩
theorem u_Cr_current (T : Tx K mg) (c : Tc P w K mg base C ex hs) : Fn P w K mg base (crm K "current") 3 ["self", "version"] [.non] (spP (relV K C ex hs fun s => dRule s.t)) := by
  have scN := (⟨rfl, rfl, rfl, by decide +kernel, rfl, by decide +kernel, by decide +kernel⟩ : FnScope ["self", "version"] ["self", "version"] (defScope s_Crossing_current))
  refine mk_fnV T.f_Crossing_current scN (fun D doc pm an cdv ct us ks hu hk => match us, hu, ks, hk with | [_], _, [_], _ => ⟨_, _, _, _, _, _, rfl, rfl, rfl⟩) (fun ds d ⟨_, _, _, _, e, _⟩ => by rw [e]; rfl) fun cdv A outer s0 H E ds d hr ⟨p, d0, s, k, e1, ok, _, e3⟩ => ?_
  subst e1 e3
  refine ⟨_, (pss_one (ps_ret (pe_fldK (K := K) (pe_methU (pv 0) c.cl c.me_scene_at (u_Cr_scene_at T c) hr (by decide) (pa_cons (pv 1) pa_nil))))), ?_⟩
  exact df_b (db_ret (dv_fld T.cls_Scene T.noat_Scene_table_now rfl (dv_at T c ok rfl rfl)))
theorem u_Cr_row (T : Tx K mg) (c : Tc P w K mg base C ex hs) : Fn P w K mg base (crm K "row") 3 ["self", "version"] [.non] (spP (relV K C ex hs fun s => dNs s.came)) := by
  have scN := (⟨rfl, rfl, rfl, by decide +kernel, rfl, by decide +kernel, by decide +kernel⟩ : FnScope ["self", "version"] ["self", "version"] (defScope s_Crossing_row))
  refine mk_fnV T.f_Crossing_row scN (fun D doc pm an cdv ct us ks hu hk => match us, hu, ks, hk with | [_], _, [_], _ => ⟨_, _, _, _, _, _, rfl, rfl, rfl⟩) (fun ds d ⟨_, _, _, _, e, _⟩ => by rw [e]; rfl) fun cdv A outer s0 H E ds d hr ⟨p, d0, s, k, e1, ok, _, e3⟩ => ?_
  subst e1 e3
  refine ⟨_, (pss_one (ps_ret (pe_fldK (K := K) (pe_methU (pv 0) c.cl c.me_scene_at (u_Cr_scene_at T c) hr (by decide) (pa_cons (pv 1) pa_nil))))), ?_⟩
  exact df_b (db_ret (dv_fld T.cls_Scene T.noat_Scene_came rfl (dv_at T c ok rfl rfl)))
theorem u_Cr_passed (T : Tx K mg) (c : Tc P w K mg base C ex hs) : Fn P w K mg base (crm K "passed") 3 ["self", "version"] [.non] (spP (relV K C ex hs fun s => dNs s.done)) := by
  have scN := (⟨rfl, rfl, rfl, by decide +kernel, rfl, by decide +kernel, by decide +kernel⟩ : FnScope ["self", "version"] ["self", "version"] (defScope s_Crossing_passed))
  refine mk_fnV T.f_Crossing_passed scN (fun D doc pm an cdv ct us ks hu hk => match us, hu, ks, hk with | [_], _, [_], _ => ⟨_, _, _, _, _, _, rfl, rfl, rfl⟩) (fun ds d ⟨_, _, _, _, e, _⟩ => by rw [e]; rfl) fun cdv A outer s0 H E ds d hr ⟨p, d0, s, k, e1, ok, _, e3⟩ => ?_
  subst e1 e3
  refine ⟨_, (pss_one (ps_ret (pe_fldK (K := K) (pe_methU (pv 0) c.cl c.me_scene_at (u_Cr_scene_at T c) hr (by decide) (pa_cons (pv 1) pa_nil))))), ?_⟩
  exact df_b (db_ret (dv_fld T.cls_Scene T.noat_Scene_done rfl (dv_at T c ok rfl rfl)))
theorem u_Cr_waiting (T : Tx K mg) (c : Tc P w K mg base C ex hs) : Fn P w K mg base (crm K "waiting") 3 ["self", "version"] [.non] (spP (relV K C ex hs fun s => dNs (waiting s.came s.done))) := by
  have scN := (⟨rfl, rfl, rfl, by decide +kernel, rfl, by decide +kernel, by decide +kernel⟩ : FnScope ["self", "version", "scene"] ["self", "version"] (defScope s_Crossing_waiting))
  refine mk_fnV T.f_Crossing_waiting scN (fun D doc pm an cdv ct us ks hu hk => match us, hu, ks, hk with | [_], _, [_], _ => ⟨_, _, _, _, _, _, rfl, rfl, rfl⟩) (fun ds d ⟨_, _, _, _, e, _⟩ => by rw [e]; rfl) fun cdv A outer s0 H E ds d hr ⟨p, d0, s, k, e1, ok, hl, e3⟩ => ?_
  subst e1 e3
  refine ⟨_, (pss_cons (ps_set (i := 2) scN.nd rfl (Or.inl rfl) (pe_methU (pv 0) c.cl c.me_scene_at (u_Cr_scene_at T c) hr (by decide) (pa_cons (pv 1) pa_nil))) (pss_one (ps_ret (pe_use (u_waiting_cars T) hr (by decide) rfl (pa_cons (pe_fldK (K := K) (pv 2)) (pa_cons (pe_fldK (K := K) (pv 2)) pa_nil)))))), ?_⟩
  exact df_b (db_seq (dn_asg (d := dSc K s) (dv_at T c ok rfl rfl)) (db_ret (dv_call (ds := [dNs s.came, dNs s.done]) (da_cons (dv_fld T.cls_Scene T.noat_Scene_came rfl (dv_var rfl)) (da_cons (dv_fld T.cls_Scene T.noat_Scene_done rfl (dv_var rfl)) da_nil)) ⟨s.came, s.done, rfl, hl, rfl⟩)))
theorem u_Cr_scene_with_rule (T : Tx K mg) (c : Tc P w K mg base C ex hs) : Fn P w K mg base (crm K "scene_with_rule") 9 ["self", "rule"] [] (spP fun ds d => ∃ p d0 s k n m t, ds = [d0, dRule t] ∧ Cs K C ex hs p d0 s k ∧ SOk n m s ∧ RuleOk n t ∧ d = dSc K (step s (.chg t))) := by
  have scN := (⟨rfl, rfl, rfl, by decide +kernel, rfl, by decide +kernel, by decide +kernel⟩ : FnScope ["self", "rule"] ["self", "rule"] (defScope s_Crossing_scene_with_rule))
  refine mk_fnP T.f_Crossing_scene_with_rule scN (fun kV doc pm an cdv ct us hl => match us, hl with | [_, _], _ => rfl) (fun ds d ⟨_, _, _, _, _, _, _, e, _⟩ => by rw [e]; rfl) fun cdv A outer s0 H E ds d hr ⟨p, d0, s, k, n, m, t, e1, ⟨dx, scs, ks, e2, ok⟩, I, hR, e3⟩ => ?_
  subst e1 e2 e3
  refine ⟨_, (pss_cons (ps_expr (pe_use (u_check_rule T) hr (by decide) rfl (pa_cons (pv 1) pa_nil))) (pss_cons (ps_if (pt_cmpR op_ne (pe_callB (call_lenK (K := K)) (by rfl) T.free_len PySem.boot_len (pa_cons (pv 1) pa_nil)) (pe_callB (call_lenK (K := K)) (by rfl) T.free_len PySem.boot_len (pa_cons (pe_fldK (K := K) (pe_ix (ix_tupK (K := K)) (pe_fldK (K := K) (pv 0)) (pe_un un_neg pe_int) (fun _ _ => rfl))) pa_nil)) (nomark _)) (pss_one ps_never) pss_nil) (pss_one (ps_ret (pe_methU (pe_ix (ix_tupK (K := K)) (pe_fldK (K := K) (pv 0)) (pe_un un_neg pe_int) (fun _ _ => rfl)) T.cls_Scene T.meth_Scene_with_rule (u_Scene_with_rule T) hr (by decide) (pa_cons (pv 1) pa_nil)))))), ?_⟩
  have h1 := hR.len
  have h2 := I.inv.rule.len
  exact df_b (db_seq (dn_drop (dv_call (ds := [dRule t]) (d := .non) (da_cons (dv_var rfl) da_nil) ⟨t, n, rfl, hR, rfl⟩)) (db_seq (dn_skip (dt_test (Dv.to (dv_op (rd_neN (n := t.length) (m := s.t.length)) (dv_lenR (dv_var rfl)) (dv_lenR (dv_lastf T c ok T.noat_Scene_table_now rfl (dv_var rfl)))) (by rw [h1, h2]; simp)))) (db_ret (dv_methS (by decide +kernel) (dv_last c ok (dv_var rfl)) (da_cons (dv_var rfl) da_nil) ⟨s, n, m, t, rfl, I.inv, hR, by have := I.le; omega, rfl⟩))))
theorem u_Cr_accept0 (T : Tx K mg) (hs : List D) (ex : List Str) : Fn P w K mg base (crm K "accept") 3 ["self", "scene"] [] (spP fun ds d => ∃ p d0 s k s', ds = [d0, dSc K s'] ∧ Cs K (He.ga K "Crossing") ex hs p d0 s k ∧ d = .non) := by
  have scN := (⟨rfl, rfl, rfl, by decide +kernel, rfl, by decide +kernel, by decide +kernel⟩ : FnScope ["self", "scene"] ["self", "scene"] (defScope s_Crossing_accept))
  refine mk_fnP T.f_Crossing_accept scN (fun kV doc pm an cdv ct us hl => match us, hl with | [_, _], _ => rfl) (fun ds d ⟨_, _, _, _, _, e, _⟩ => by rw [e]; rfl) fun cdv A outer s0 H E ds d hr ⟨p, d0, s, k, s', e1, _, e3⟩ => ?_
  subst e1 e3
  refine ⟨_, (pss_one ps_pass), ?_⟩
  exact df_n dn_next
theorem u_Cr_scene_after (T : Tx K mg) (c : Tc P w K mg base C ex hs) : Fn P w K mg base (crm K "scene_after") 10 ["self", "edit"] [] (spP fun ds d => ∃ p d0 s k n m ed, ds = [d0, dEd ed] ∧ Cs K C ex hs p d0 s k ∧ SOk n m s ∧ Val n s ed ∧ d = dSc K (step s ed)) := by
  have scN := (⟨rfl, rfl, rfl, by decide +kernel, rfl, by decide +kernel, by decide +kernel⟩ : FnScope ["self", "edit", "scene"] ["self", "edit"] (defScope s_Crossing_scene_after))
  refine mk_fnP T.f_Crossing_scene_after scN (fun kV doc pm an cdv ct us hl => match us, hl with | [_, _], _ => rfl) (fun ds d ⟨_, _, _, _, _, _, _, e, _⟩ => by rw [e]; rfl) fun cdv A outer s0 H E ds d hr ⟨p, d0, s, k, n, m, ed, e1, ok0, I, hv, e3⟩ => ?_
  subst e1 e3
  have ok1 := ok0
  obtain ⟨dx, scs, ks, e2, ok⟩ := ok0
  subst e2
  refine ⟨_, (pss_cons (ps_if (pt_cmpR op_eq (pe_ix (ix_tupK (K := K)) (pv 1) pe_int (fun _ _ => rfl)) (pe_glob (v := .str "come") rfl (T.str_COME).choose_spec ⟨_, rfl⟩) (nomark _)) (pss_cons (ps_expr (pe_methU (pv 0) c.cl c.me_require_lane (u_Cr_require_lane T c) hr (by decide) (pa_cons (pe_ix (ix_tupK (K := K)) (pv 1) pe_int (fun _ _ => rfl)) pa_nil))) (pss_cons (ps_if (pt_cmpR op_eq (pe_propU (pv 0) c.cl c.pr_cars.choose_spec (u_Cr_cars T c) hr (by decide)) (pe_glob (v := .int 40) rfl (T.int_MAX_CARS).choose_spec ⟨_, rfl⟩) (nomark _)) (pss_one ps_never) pss_nil) (pss_one (ps_ret (pe_methU (pe_ix (ix_tupK (K := K)) (pe_fldK (K := K) (pv 0)) (pe_un un_neg pe_int) (fun _ _ => rfl)) T.cls_Scene T.meth_Scene_with_one (u_Scene_with_one T) hr (by decide) (pa_cons (pe_ix (ix_tupK (K := K)) (pv 1) pe_int (fun _ _ => rfl)) pa_nil)))))) pss_nil) (pss_cons (ps_if (pt_cmpR op_eq (pe_ix (ix_tupK (K := K)) (pv 1) pe_int (fun _ _ => rfl)) (pe_glob (v := .str "change") rfl (T.str_CHANGE).choose_spec ⟨_, rfl⟩) (nomark _)) (pss_one (ps_ret (pe_methU (pv 0) c.cl c.me_scene_with_rule (u_Cr_scene_with_rule T c) hr (by decide) (pa_cons (pe_ix (ix_tupK (K := K)) (pv 1) pe_int (fun _ _ => rfl)) pa_nil)))) pss_nil) (pss_cons (ps_if (pt_cmpR op_eq (pe_propU (pv 0) c.cl c.pr_length.choose_spec (u_Cr_length T c) hr (by decide)) pe_int (nomark _)) (pss_one ps_never) pss_nil) (pss_cons (ps_set (i := 2) scN.nd rfl (Or.inl rfl) (pe_meth0U (pe_ix (ix_tupK (K := K)) (pe_fldK (K := K) (pv 0)) (pe_un un_neg pe_int) (fun _ _ => rfl)) T.cls_Scene T.meth_Scene_with_passing (u_Scene_with_passing T) hr (by decide))) (pss_cons (ps_expr (pe_methU (pv 0) c.cl c.me_accept c.acc hr (by decide) (pa_cons (pv 2) pa_nil))) (pss_one (ps_ret (pv 2)))))))), ?_⟩
  have hm := I.le
  have hmany := I.inv.many
  cases ed with
  | come l =>
    have hl : l < n := hv
    refine df_b (db_now (db_ifT (dt_test (Dv.to (dv_op (rd_eqS (x := "come") (y := "come")) (dv_op (rd_ix (ds := [.str "come", dN l]) (j := 0) rfl) (dv_var rfl) (dv_cN rfl)) dv_cS) rfl)) ?_))
    refine db_seq (dn_drop (dv_methO (d := .non) (mthO c (by decide +kernel) (by decide +kernel)) (dv_var rfl) (da_cons (dv_op (rd_ix (ds := [.str "come", dN l]) (j := 1) rfl) (dv_var rfl) (dv_cN rfl)) da_nil) (fun _ => .nil) ⟨p, _, s, k, n, m, l, rfl, ok1, I, hl, rfl⟩)) ?_
    refine db_seq (dn_skip (dt_test (Dv.to (dv_op (rd_eqN (n := s.came.length) (m := 40)) (dv_prop (dv_var rfl) ⟨p, _, s, k, rfl, ok1, rfl⟩) (dv_cN rfl)) (congrArg D.bl (decide_eq_false (by omega)))))) ?_
    exact db_ret (dv_methS (by decide +kernel) (dv_last c ok (dv_var rfl)) (da_cons (dv_op (rd_ix (ds := [.str "come", dN l]) (j := 1) rfl) (dv_var rfl) (dv_cN rfl)) da_nil) ⟨s, n, m, l, rfl, I.inv, hl, by omega, rfl⟩)
  | chg t =>
    refine df_b (db_seq (dn_skip (dt_test (Dv.to (dv_op (rd_eqS (x := "change") (y := "come")) (dv_op (rd_ix (ds := [.str "change", dRule t]) (j := 0) rfl) (dv_var rfl) (dv_cN rfl)) dv_cS) (congrArg D.bl (by decide +kernel))))) ?_)
    refine db_now (db_ifT (dt_test (Dv.to (dv_op (rd_eqS (x := "change") (y := "change")) (dv_op (rd_ix (ds := [.str "change", dRule t]) (j := 0) rfl) (dv_var rfl) (dv_cN rfl)) dv_cS) rfl)) ?_)
    exact db_ret (dv_methO (mthO c (by decide +kernel) (by decide +kernel)) (dv_var rfl) (da_cons (dv_op (rd_ix (ds := [.str "change", dRule t]) (j := 1) rfl) (dv_var rfl) (dv_cN rfl)) da_nil) (fun _ => .nil) ⟨p, _, s, k, n, m, t, rfl, ok1, I, hv, rfl⟩)
  | go =>
    have hlt : s.done.length < s.came.length := hv
    refine df_b (db_seq (dn_skip (dt_test (Dv.to (dv_op (rd_eqS (x := "go") (y := "come")) (dv_op (rd_ix (ds := [.str "go"]) (j := 0) rfl) (dv_var rfl) (dv_cN rfl)) dv_cS) (congrArg D.bl (by decide +kernel))))) ?_)
    refine db_seq (dn_skip (dt_test (Dv.to (dv_op (rd_eqS (x := "go") (y := "change")) (dv_op (rd_ix (ds := [.str "go"]) (j := 0) rfl) (dv_var rfl) (dv_cN rfl)) dv_cS) (congrArg D.bl (by decide +kernel))))) ?_
    refine db_seq (dn_skip (dt_test (Dv.to (dv_op (rd_eqN (n := s.came.length - s.done.length) (m := 0)) (dv_prop (dv_var rfl) ⟨p, _, s, k, n, m, rfl, ok1, I, rfl⟩) (dv_cN rfl)) (congrArg D.bl (decide_eq_false (by omega)))))) ?_
    refine db_seq (dn_asg (d := dSc K (step s .go)) (dv_methS (by decide +kernel) (dv_last c ok (dv_var rfl)) da_nil ⟨s, n, m, rfl, I.inv, hlt, by omega, rfl⟩)) ?_
    exact db_seq (dn_drop (dv_methO (d := .non) (mthO c (by decide +kernel) (by decide +kernel)) (dv_var rfl) (da_cons (dv_var rfl) da_nil) (fun _ => .nil) ⟨p, _, s, k, _, rfl, ok1, rfl⟩)) (db_ret (dv_var rfl))
end
end K70
set_option Elab.async false
set_option linter.all false
set_option maxRecDepth 100000
set_option maxHeartbeats 4000000
namespace K70
open PySem PySem.Spec PyProof.Rows L2
local macro_rules | `(tactic| walk_at "d1") => `(tactic| first
  | ((with_reducible refine' dv_var ?hh); (case hh => exact rfl))
  | with_reducible exact dv_cS
  | with_reducible exact dv_cB
  | with_reducible exact dv_c0
  | ((with_reducible refine' dv_cN ?hh); (case hh => exact rfl))
  | with_reducible exact dv_neg1
  | with_reducible exact dv_cI
  | with_reducible exact da_nil
  | with_reducible refine' da_cons ?_ ?_
  | with_reducible refine' da_starT ?_ ?_
  | with_reducible refine' da_starL ?_ ?_
  | with_reducible refine' dv_op rd_addN ?_ ?_
  | with_reducible refine' dv_op (rd_subN ?_) ?_ ?_
  | with_reducible refine' dv_op rd_ltN ?_ ?_
  | with_reducible refine' dv_op rd_leN ?_ ?_
  | with_reducible refine' dv_op rd_gtN ?_ ?_
  | with_reducible refine' dv_op rd_eqN ?_ ?_
  | with_reducible refine' dv_op rd_neN ?_ ?_
  | with_reducible refine' dv_op rd_eqS ?_ ?_
  | with_reducible refine' dv_op rd_in ?_ ?_
  | with_reducible refine' dv_op rd_notin ?_ ?_
  | with_reducible refine' dv_op rd_eq0 ?_ ?_
  | with_reducible refine' dv_op rd_ne0 ?_ ?_
  | with_reducible refine' dt_test ?_
  | with_reducible refine' dt_tB ?_
  | with_reducible exact dt_yes
  | with_reducible refine' dt_not ?_
  | with_reducible refine' dt_and ?_ fun _ => ?_
  | with_reducible refine' dt_or ?_ fun _ => ?_
  | with_reducible refine' dv_andV ?_ fun _ => ?_
  | with_reducible refine' dv_orV ?_ fun _ => ?_
  | with_reducible refine' dv_notV ?_
  | with_reducible refine' dv_chain rd_leN rd_leN ?_ ?_ ?_
  | ((with_reducible refine' dv_lenN (dv_var ?hh)); (case hh => exact rfl))
  | ((with_reducible refine' dv_lenR (dv_var ?hh)); (case hh => exact rfl))
  | with_reducible refine' dv_lenN ?_
  | with_reducible refine' dv_lenR ?_
  | with_reducible refine' dv_max ?_ ?_
  | with_reducible refine' di_tup ?_
  | with_reducible refine' di_lst ?_)
local macro_rules | `(tactic| walk_at "dv") => `(tactic| all_goals (repeat' walk_at "d1"))

section
variable {P : Program} {w : World} {K : PySem.W.Frag} {mg : Str → Option Value} {base : Heap} {C : Addr} {ex : List Str} {hs : List D}
/-- an edit is done to a crossing -/
def spE (K : PySem.W.Frag) (C : Addr) (ex : List Str) (hs : List D) (A : Ed → List D → Prop) : Sp := fun vs H Q _ => ∃ p ws es d0 s k n m e, vs = .ref p :: ws ∧ At H (.ref p) d0 ∧ Cs K C ex hs p d0 s k ∧ Ats H ws es ∧ A e es ∧ SOk n m s ∧ Val n s e ∧ k < 60 ∧
  ∀ v H' d', Go [p] H H' → Cs K C ex hs p d' (step s e) (k + 1) → At H' (.ref p) d' → Q v H'
def aOne (e : Ed) (es : List D) : Prop := es = [dEd e]
def aCome (e : Ed) (es : List D) : Prop := ∃ l, e = .come l ∧ es = [dN l]
def aGo (e : Ed) (es : List D) : Prop := e = .go ∧ es = []
def aChg (e : Ed) (es : List D) : Prop := ∃ t, e = .chg t ∧ es = [dRule t]
theorem crNd (c : Tc P w K mg base C ex hs) : (crN ++ ex).Nodup := by
  rcases c.ex6 with e | e <;> rw [e] <;> decide +kernel
theorem crLen (c : Tc P w K mg base C ex hs) : (crN ++ ex).length < 7 := by
  rcases c.ex6 with e | e <;> rw [e] <;> decide
theorem CrOk.more {scs ks : List D} {s : Sc} {k : Nat} (o : CrOk K scs ks s k) (s' : Sc) (e : Ed) : CrOk K (scs ++ [dSc K s']) (ks ++ [dEd e]) s' (k + 1) where
  last := by rw [List.getLast?_append]; rfl
  len := by simp [o.len]
  slen := by simp [o.slen]
  avS := fun d hd S => by
    rcases List.mem_append.mp hd with h | h
    · exact o.avS d h S
    · rw [List.mem_singleton.mp h]; exact av_Sc
  avK := fun d hd S => by
    rcases List.mem_append.mp hd with h | h
    · exact o.avK d h S
    · rw [List.mem_singleton.mp h]; exact av_Ed
theorem av_fields (c : Tc P w K mg base C ex hs) {S : List Addr} {scs ks : List D} (h1 : ∀ d ∈ scs, ∀ S, Av S d) (h2 : ∀ d ∈ ks, ∀ S, Av S d) : ∀ e ∈ [D.tup scs, D.tup ks, D.bl false] ++ hs, Av S e := fun e he => by
  rcases List.mem_append.mp he with h | h
  · exact av_cons (.tup fun d hd => h1 d hd S) (av_cons (.tup fun d hd => h2 d hd S) (av_cons (.bl _) av_nil)) e h
  · exact c.avH e h S
theorem At.at_ref {H : Hp} {v : V} {p C dx : Addr} {ks : List Str} {ds : List D} (h : At H v (.ob p C dx ks ds)) : v = .ref p := by cases h; rfl
theorem Cs.ref {H : Hp} {v : V} {p : Addr} {d : D} {s : Sc} {k : Nat} (o : Cs K C ex hs p d s k) (h : At H v d) : v = .ref p := by
  obtain ⟨dx, scs, ks, rfl, _⟩ := o
  exact h.at_ref
theorem u_Cr_perform (T : Tx K mg) (c : Tc P w K mg base C ex hs) : Fn P w K mg base (crm K "perform") 11 ["self", "edit"] [] (spE K C ex hs aOne) := by
  have scN := (⟨rfl, rfl, rfl, by decide +kernel, rfl, by decide +kernel, by decide +kernel⟩ : FnScope ["self", "edit"] ["self", "edit"] (defScope s_Crossing_perform))
  refine mk_fn T.f_Crossing_perform scN (fun kV doc pm an cdv ct us hl => match us, hl with | [_, _], _ => rfl) (fun vs H Q E ⟨p, ws, es, _, _, _, _, _, _, e, _, _, h, a, _⟩ => by rw [e, List.length_cons, h.length, a]; rfl) fun cdv A outer s0 H vs Q E hr ⟨p, ws, es, d0, s, k, n, m, e, e1, h0, ok0, ha, hA, I, hv, hk, q⟩ => ?_
  subst e1
  have hA' : es = [dEd e] := hA
  subst hA'
  have ok1 := ok0
  obtain ⟨dx, scs, ks, e2, ok⟩ := ok0
  subst e2
  refine ⟨_, (pss_cons (ps_if (pt_cmpR op_eq (pe_callB (call_lenK (K := K)) (by rfl) T.free_len PySem.boot_len (pa_cons (pe_fldK (K := K) (pv 0)) pa_nil)) (pe_conK (K := K) (pv 0)) (nomark _)) (pss_one ps_never) pss_nil) (pss_cons (ps_fld (pv 0) (pe_tup (StX.pa_star (pe_fldK (K := K) (pv 0)) (pa_cons (pe_methU (pv 0) c.cl c.me_scene_after (u_Cr_scene_after T c) hr (by decide) (pa_cons (pv 1) pa_nil)) pa_nil))) rfl) (pss_cons (ps_fld (pv 0) (pe_tup (StX.pa_star (pe_fldK (K := K) (pv 0)) (pa_cons (pv 1) pa_nil))) rfl) (pss_one (ps_ret (pe_callB (call_lenK (K := K)) (by rfl) T.free_len PySem.boot_len (pa_cons (pe_fldK (K := K) (pv 0)) pa_nil))))))), ?_⟩
  have hS := Sd.start (.cons h0 ha) ["self", "edit"]
  have hR : AvR [p] ((startD ["self", "edit"] [dCr p C dx ex scs ks hs, dEd e]).set 0 none) := avr_none (avr_cons av_Ed avr_nil)
  have more := ok.more (step s e) e
  suffices hh : Dq p _ (startD ["self", "edit"] [dCr p C dx ex scs ks hs, dEd e]) (dN (k + 1)) ((startD ["self", "edit"] [dCr p C dx ex scs ks hs, dEd e]).set 0 (some (dCr p C dx ex (scs ++ [dSc K (step s e)]) (ks ++ [dEd e]) hs))) from
    hh _ H { nx := fun _ H' => Q .non H', rt := Q } hS fun σ' v H' g a s' => by
      obtain ⟨x, _, k'⟩ := s'.at_ 0 _ rfl
      have := k'.at_ref
      subst this
      exact q v H' _ g ⟨dx, _, _, rfl, more⟩ k'
  refine dq_seq (ds_n (dn_skip (dt_test (Dv.to (dv_op (rd_eqN (n := k) (m := 60)) (dv_lenT (dv_kept c (dv_var rfl)) ok.len) (dv_con (i := ((60 : Nat) : Int)) c.cl c.limit.choose_spec (mthO c (by decide +kernel) (by decide +kernel)) (dv_var rfl))) (congrArg D.bl (decide_eq_false (by omega))))))) ?_
  refine dq_seq (ds_old (ks := crN ++ ex) (ds := [.tup scs, .tup ks, .bl false] ++ hs) (i := 0) (d := .tup (scs ++ [dSc K (step s e)])) c.cl c.na_scenes rfl rfl (crNd c) (crLen c) hR (av_fields c ok.avS ok.avK) (.tup fun d hd => more.avS d hd _) (dv_tup (da_starT (dv_scenes c (dv_var rfl)) (da_cons (dv_methO (mthO c (by decide +kernel) (by decide +kernel)) (dv_var rfl) (da_cons (dv_var rfl) da_nil) (fun _ => .nil) ⟨p, _, s, k, n, m, e, rfl, ok1, I, hv, rfl⟩) da_nil)) (by simp [ok.slen]; omega))) ?_
  refine dq_seq (ds_old (ks := crN ++ ex) (ds := [.tup (scs ++ [dSc K (step s e)]), .tup ks, .bl false] ++ hs) (i := 1) (d := .tup (ks ++ [dEd e])) c.cl c.na_kept rfl rfl (crNd c) (crLen c) hR (av_fields c more.avS ok.avK) (.tup fun d hd => more.avK d hd _) (dv_tup (da_starT (dv_kept c (dv_var rfl)) (da_cons (dv_var rfl) da_nil)) (by simp [ok.len]; omega))) ?_
  exact dq_ret (dv_lenT (dv_kept c (dv_var rfl)) more.len)
/-- a method that does an edit, called -/
theorem run_ed {ρ : Rho} {ts : TA} {A : Ed → List D → Prop} {m : Str} {p : Addr} {d0 : D} {s : Sc} {k n m' : Nat} {e : Ed} {es : List D} {E : XK} {ta : TE} (hm : (crN ++ ex).contains m = false) (h0 : Dv ta ρ d0) (ok : Cs K C ex hs p d0 s k) (ha : Da ts ρ es) (hA : A e es) (I : SOk n m' s) (hv : Val n s e) (hk : k < 60)
    (σ : L2.St) (H : Hp) (Q : VK) (sd : Sd H σ ρ) (q : ∀ v H' d', Go [p] H H' → Cs K C ex hs p d' (step s e) (k + 1) → At H' (.ref p) d' → Q v H') : tMeth C m (spE K C ex hs A) [] E ta ts σ H Q :=
  h0 σ H _ sd fun v H1 g1 a1 => by
    have ok1 := ok
    obtain ⟨dx, scs, ks, e2, o⟩ := ok
    subst e2
    have a1' := a1
    cases a1 with
    | ob h1 h2 h3 =>
      exact ⟨p, dx, _, rfl, h1, lookup_miss hm, ha σ H1 _ (sd.go g1) fun vs H2 g2 a2 => ⟨p, vs ++ [], es, _, s, k, n, m', e, rfl, a1'.go g2, ok1, by rw [List.append_nil]; exact a2, hA, I, hv, hk, fun v H' d' g a b => q v H' d' ((g1.trans g2).wide.transS g) a b⟩⟩
theorem u_Cr_come (T : Tx K mg) (c : Tc P w K mg base C ex hs) : Fn P w K mg base (crm K "come") 12 ["self", "lane"] [] (spE K C ex hs aCome) := by
  have scN := (⟨rfl, rfl, rfl, by decide +kernel, rfl, by decide +kernel, by decide +kernel⟩ : FnScope ["self", "lane"] ["self", "lane"] (defScope s_Crossing_come))
  refine mk_fn T.f_Crossing_come scN (fun kV doc pm an cdv ct us hl => match us, hl with | [_, _], _ => rfl) (fun vs H Q E ⟨p, ws, es, _, _, _, _, _, _, e, _, _, h, ⟨l, _, a⟩, _⟩ => by rw [e, List.length_cons, h.length, a]; rfl) fun cdv A outer s0 H vs Q E hr ⟨p, ws, es, d0, s, k, n, m, e, e1, h0, ok, ha, ⟨l, e2, e3⟩, I, hv, hk, q⟩ => ?_
  subst e1 e2 e3
  refine ⟨_, (pss_cons (ps_expr (pe_meth0U (pv 0) c.cl c.me_require_idle (u_Cr_require_idle T c) hr (by decide))) (pss_one (ps_ret (pe_methU (pv 0) c.cl c.me_perform (u_Cr_perform T c) hr (by decide) (pa_cons (pe_tup (pa_cons (pe_glob (v := .str "come") rfl (T.str_COME).choose_spec ⟨_, rfl⟩) (pa_cons (pv 1) pa_nil))) pa_nil))))), ?_⟩
  have hS := Sd.start (.cons h0 ha) ["self", "lane"]
  have ok1 := ok
  obtain ⟨dx, scs, ks, e2, o⟩ := ok1
  subst e2
  refine dn_drop (dv_methO (d := .non) (mthO c (by decide +kernel) (by decide +kernel)) (dv_var rfl) da_nil (fun _ => .nil) ⟨p, _, s, k, rfl, ok, rfl⟩) _ H _ hS fun σ' H' g s' => ?_
  exact run_ed (A := aOne) (e := .come l) (es := [dEd (.come l)]) (mthO c (by decide +kernel) (by decide +kernel)) (dv_var rfl) ok (da_cons (dv_tup (da_cons dv_cS (da_cons (dv_var rfl) da_nil)) (by simp)) da_nil) rfl I hv hk σ' H' Q s' fun v H2 d' g2 a b => q v H2 d' (g.wide.transS g2) a b
theorem u_Cr_go (T : Tx K mg) (c : Tc P w K mg base C ex hs) : Fn P w K mg base (crm K "go") 12 ["self"] [] (spE K C ex hs aGo) := by
  have scN := (⟨rfl, rfl, rfl, by decide +kernel, rfl, by decide +kernel, by decide +kernel⟩ : FnScope ["self"] ["self"] (defScope s_Crossing_go))
  refine mk_fn T.f_Crossing_go scN (fun kV doc pm an cdv ct us hl => match us, hl with | [_], _ => rfl) (fun vs H Q E ⟨p, ws, es, _, _, _, _, _, _, e, _, _, h, ⟨_, a⟩, _⟩ => by rw [e, List.length_cons, h.length, a]; rfl) fun cdv A outer s0 H vs Q E hr ⟨p, ws, es, d0, s, k, n, m, e, e1, h0, ok, ha, ⟨e2, e3⟩, I, hv, hk, q⟩ => ?_
  subst e1 e2 e3
  refine ⟨_, (pss_cons (ps_expr (pe_meth0U (pv 0) c.cl c.me_require_idle (u_Cr_require_idle T c) hr (by decide))) (pss_one (ps_ret (pe_methU (pv 0) c.cl c.me_perform (u_Cr_perform T c) hr (by decide) (pa_cons (pe_tup (pa_cons (pe_glob (v := .str "go") rfl (T.str_GO).choose_spec ⟨_, rfl⟩) pa_nil)) pa_nil))))), ?_⟩
  have hS := Sd.start (.cons h0 ha) ["self"]
  have ok1 := ok
  obtain ⟨dx, scs, ks, e2, o⟩ := ok1
  subst e2
  refine dn_drop (dv_methO (d := .non) (mthO c (by decide +kernel) (by decide +kernel)) (dv_var rfl) da_nil (fun _ => .nil) ⟨p, _, s, k, rfl, ok, rfl⟩) _ H _ hS fun σ' H' g s' => ?_
  exact run_ed (A := aOne) (e := .go) (es := [dEd .go]) (mthO c (by decide +kernel) (by decide +kernel)) (dv_var rfl) ok (da_cons (dv_tup (da_cons dv_cS da_nil) (by simp)) da_nil) rfl I hv hk σ' H' Q s' fun v H2 d' g2 a b => q v H2 d' (g.wide.transS g2) a b
theorem u_Cr_change (T : Tx K mg) (c : Tc P w K mg base C ex hs) : Fn P w K mg base (crm K "change") 12 ["self", "rule"] [] (spE K C ex hs aChg) := by
  have scN := (⟨rfl, rfl, rfl, by decide +kernel, rfl, by decide +kernel, by decide +kernel⟩ : FnScope ["self", "rule"] ["self", "rule"] (defScope s_Crossing_change))
  refine mk_fn T.f_Crossing_change scN (fun kV doc pm an cdv ct us hl => match us, hl with | [_, _], _ => rfl) (fun vs H Q E ⟨p, ws, es, _, _, _, _, _, _, e, _, _, h, ⟨l, _, a⟩, _⟩ => by rw [e, List.length_cons, h.length, a]; rfl) fun cdv A outer s0 H vs Q E hr ⟨p, ws, es, d0, s, k, n, m, e, e1, h0, ok, ha, ⟨l, e2, e3⟩, I, hv, hk, q⟩ => ?_
  subst e1 e2 e3
  refine ⟨_, (pss_cons (ps_expr (pe_meth0U (pv 0) c.cl c.me_require_idle (u_Cr_require_idle T c) hr (by decide))) (pss_one (ps_ret (pe_methU (pv 0) c.cl c.me_perform (u_Cr_perform T c) hr (by decide) (pa_cons (pe_tup (pa_cons (pe_glob (v := .str "change") rfl (T.str_CHANGE).choose_spec ⟨_, rfl⟩) (pa_cons (pv 1) pa_nil))) pa_nil))))), ?_⟩
  have hS := Sd.start (.cons h0 ha) ["self", "rule"]
  have ok1 := ok
  obtain ⟨dx, scs, ks, e2, o⟩ := ok1
  subst e2
  refine dn_drop (dv_methO (d := .non) (mthO c (by decide +kernel) (by decide +kernel)) (dv_var rfl) da_nil (fun _ => .nil) ⟨p, _, s, k, rfl, ok, rfl⟩) _ H _ hS fun σ' H' g s' => ?_
  exact run_ed (A := aOne) (e := .chg l) (es := [dEd (.chg l)]) (mthO c (by decide +kernel) (by decide +kernel)) (dv_var rfl) ok (da_cons (dv_tup (da_cons dv_cS (da_cons (dv_var rfl) da_nil)) (by simp)) da_nil) rfl I hv hk σ' H' Q s' fun v H2 d' g2 a b => q v H2 d' (g.wide.transS g2) a b
/-- Crossing.__init__, of an instance of any class -/
def spCrInit (K : PySem.W.Frag) (C : Addr) : Sp := fun vs H Q _ => ∃ p dx v t n, vs = [.ref p, v] ∧ H p = some (.ins C dx []) ∧ At H v (dRule t) ∧ RuleOk n t ∧
  ∀ H', Go [p] H H' → At H' (.ref p) (.ob p C dx crN [.tup [dSc K (first t)], .tup [], .bl false]) → Q .non H'
theorem u_Cr_init_of (T : Tx K mg) (cl : Cls K C) (n1 : NoAttr K C "scenes") (n2 : NoAttr K C "kept") (n3 : NoAttr K C "is_busy") : Fn P w K mg base (crm K "__init__") 9 ["self", "rule"] [] (spCrInit K C) := by
  have scN := (⟨rfl, rfl, rfl, by decide +kernel, rfl, by decide +kernel, by decide +kernel⟩ : FnScope ["self", "rule"] ["self", "rule"] (defScope s_Crossing_init))
  refine mk_fn T.f_Crossing_init scN (fun kV doc pm an cdv ct us hl => match us, hl with | [_, _], _ => rfl) (fun vs H Q E ⟨p, dx, v, t, n, e, _⟩ => by rw [e]; rfl) fun cdv A outer s0 H vs Q E hr ⟨p, dx, v, t, n, e1, hp, ha, R, q⟩ => ?_
  subst e1
  refine ⟨_, (pss_cons (ps_expr (pe_use (u_check_rule T) hr (by decide) rfl (pa_cons (pv 1) pa_nil))) (pss_cons (ps_fld (pv 0) (pe_tup (pa_cons (pe_use (u_first_scene T) hr (by decide) rfl (pa_cons (pv 1) pa_nil)) pa_nil)) rfl) (pss_cons (ps_fld (pv 0) (pe_tup pa_nil) rfl) (pss_one (ps_fld (pv 0) pe_bl rfl))))), ?_⟩
  have h0 : At H (.ref p) (.ob p C dx [] []) := .ob (xs := []) hp rfl .nil
  have hR : AvR [p] ((startD ["self", "rule"] [.ob p C dx [] [], dRule t]).set 0 none) := avr_none (avr_cons av_R avr_nil)
  have hS := Sd.start (.cons h0 (.cons ha .nil)) ["self", "rule"]
  suffices hh : Ds p _ (startD ["self", "rule"] [.ob p C dx [] [], dRule t]) ((startD ["self", "rule"] [.ob p C dx [] [], dRule t]).set 0 (some (.ob p C dx crN [.tup [dSc K (first t)], .tup [], .bl false]))) from
    hh _ H { nx := fun _ H' => Q .non H', rt := Q } hS fun σ' H' g s' => by
      obtain ⟨x, _, k⟩ := s'.at_ 0 _ rfl
      have := k.at_ref
      subst this
      exact q H' g k
  refine ds_seq (ds_n (dn_drop (dv_call (ds := [dRule t]) (d := .non) (da_cons (dv_var rfl) da_nil) ⟨t, n, rfl, R, rfl⟩))) ?_
  refine ds_seq (ds_new cl n1 (ks := []) (ds := []) (d := .tup [dSc K (first t)]) rfl (by simp) (by simp) hR av_nil (.tup (av_cons av_Sc av_nil)) (dv_tup (da_cons (dv_call (ds := [dRule t]) (d := dSc K (first t)) (da_cons (dv_var rfl) da_nil) ⟨t, n, rfl, R, rfl⟩) da_nil) (by simp))) ?_
  refine ds_seq (ds_new cl n2 (ks := ["scenes"]) (ds := [.tup [dSc K (first t)]]) (d := .tup []) rfl (by decide +kernel) (by decide) hR (av_cons (.tup (av_cons av_Sc av_nil)) av_nil) (.tup av_nil) (dv_tup da_nil (by simp))) ?_
  exact ds_new cl n3 (ks := ["scenes", "kept"]) (ds := [.tup [dSc K (first t)], .tup []]) (d := .bl false) rfl (by decide +kernel) (by decide) hR (av_cons (.tup (av_cons av_Sc av_nil)) (av_cons (.tup av_nil) av_nil)) (.bl _) dv_cB
theorem u_Cr_init (T : Tx K mg) : Fn P w K mg base (crm K "__init__") 9 ["self", "rule"] [] (spCrInit K (He.ga K "Crossing")) := u_Cr_init_of T T.cls_Crossing T.noat_Crossing_scenes T.noat_Crossing_kept T.noat_Crossing_is_busy
/-- turned -/
theorem u_turned (T : Tx K mg) : Fn P w K mg base (He5.wf K (He.ga K "Crossing") "staticmethod" "turned") 1 ["rule"] [] (spP fun ds d => ∃ t, ds = [dRule t] ∧ t.length ≤ 100 ∧ d = dRule (turned t)) := by
  have scN := (⟨rfl, rfl, rfl, by decide +kernel, rfl, by decide +kernel, by decide +kernel⟩ : FnScope ["rule", "preference"] ["rule"] (defScope s_Crossing_turned))
  refine mk_fnP T.f_Crossing_turned scN (fun kV doc pm an cdv ct us hl => match us, hl with | [_], _ => rfl) (fun ds d ⟨_, e, _⟩ => by rw [e]; rfl) fun cdv A outer s0 H E ds d hr ⟨t, e1, hl, e3⟩ => ?_
  subst e1 e3
  refine ⟨_, (pss_one (ps_ret (pe_callTy (call_tupK (K := K)) (by rfl) T.free_tuple (by decide +kernel) (pa_cons (pe_lc (own := [("preference", 1)]) (g := gName 1) (tt := tYes) rfl scN.nd (pi_tupK (K := K) (pv 0)) (blkOk_by (N := ["rule", "preference"]) (sc := defScope s_Crossing_turned) (own := [("preference", 1)]) (by decide +kernel)) (fun _ _ _ _ _ => (pg_name (i := 1) scN.nd rfl (Or.inl rfl))) (fun _ _ _ _ _ => pts_nil) (fun _ _ _ _ _ => (pe_revK (K := K) (pv 1)))) pa_nil)))), ?_⟩
  refine df_b (db_ret (Dv.to (dv_tupL (dl_lc (xs := t) (emb := dNs) (f := fun r => dNs r.reverse) (p := fun _ => true) (di_tup (dv_var rfl)) (by omega) (fun x _ => dg_name) (by simp) (fun _ _ => av_Ns) (fun x _ => dt_yes) fun r _ _ => Dv.to (dv_rev (dv_var rfl)) (by show D.tup _ = D.tup (List.map dN r.reverse); rw [List.map_reverse]))) ?_))
  show D.tup _ = D.tup _
  rw [flt_all, turned, List.map_map]
  rfl
end
end K70
set_option Elab.async false
set_option linter.all false
set_option maxRecDepth 100000
set_option maxHeartbeats 4000000
namespace K70
open PySem PySem.Spec PyProof.Rows L2
local macro_rules | `(tactic| walk_at "d1") => `(tactic| first
  | ((with_reducible refine' dv_var ?hh); (case hh => exact rfl))
  | with_reducible exact dv_cS
  | with_reducible exact dv_cB
  | with_reducible exact dv_c0
  | ((with_reducible refine' dv_cN ?hh); (case hh => exact rfl))
  | with_reducible exact dv_neg1
  | with_reducible exact dv_cI
  | with_reducible exact da_nil
  | with_reducible refine' da_cons ?_ ?_
  | with_reducible refine' da_starT ?_ ?_
  | with_reducible refine' da_starL ?_ ?_
  | with_reducible refine' dv_op rd_addN ?_ ?_
  | with_reducible refine' dv_op (rd_subN ?_) ?_ ?_
  | with_reducible refine' dv_op rd_ltN ?_ ?_
  | with_reducible refine' dv_op rd_leN ?_ ?_
  | with_reducible refine' dv_op rd_gtN ?_ ?_
  | with_reducible refine' dv_op rd_eqN ?_ ?_
  | with_reducible refine' dv_op rd_neN ?_ ?_
  | with_reducible refine' dv_op rd_eqS ?_ ?_
  | with_reducible refine' dv_op rd_in ?_ ?_
  | with_reducible refine' dv_op rd_notin ?_ ?_
  | with_reducible refine' dv_op rd_eq0 ?_ ?_
  | with_reducible refine' dv_op rd_ne0 ?_ ?_
  | with_reducible refine' dt_test ?_
  | with_reducible refine' dt_tB ?_
  | with_reducible exact dt_yes
  | with_reducible refine' dt_not ?_
  | with_reducible refine' dt_and ?_ fun _ => ?_
  | with_reducible refine' dt_or ?_ fun _ => ?_
  | with_reducible refine' dv_andV ?_ fun _ => ?_
  | with_reducible refine' dv_orV ?_ fun _ => ?_
  | with_reducible refine' dv_notV ?_
  | with_reducible refine' dv_chain rd_leN rd_leN ?_ ?_ ?_
  | ((with_reducible refine' dv_lenN (dv_var ?hh)); (case hh => exact rfl))
  | ((with_reducible refine' dv_lenR (dv_var ?hh)); (case hh => exact rfl))
  | with_reducible refine' dv_lenN ?_
  | with_reducible refine' dv_lenR ?_
  | with_reducible refine' dv_max ?_ ?_
  | with_reducible refine' di_tup ?_
  | with_reducible refine' di_lst ?_)
local macro_rules | `(tactic| walk_at "dv") => `(tactic| all_goals (repeat' walk_at "d1"))

section
variable {P : Program} {w : World} {K : PySem.W.Frag} {mg : Str → Option Value} {base : Heap} {H H' : Hp} {p L : Addr} {S : List Addr}
/-! the dice -/
structure DOk (p L : Addr) (cs : List Int) (r : Int) : Prop where
  ne : p ≠ L
  pos : ∀ c ∈ cs, 0 ≤ c
  len : cs.length ≤ 100
  lo : 0 ≤ r
  hi : r < 18446744073709551616
def Dice (H : Hp) (p L : Addr) : Prop := ∃ cs r, H p = some (.lst [.ref L, .int r]) ∧ H L = some (.lst (cs.map V.int)) ∧ DOk p L cs r
theorem Dice.go (g : Go S H H') (h1 : p ∉ S) (h2 : L ∉ S) (d : Dice H p L) : Dice H' p L := by
  obtain ⟨cs, r, a, b, c⟩ := d
  exact ⟨cs, r, g.kp _ _ a h1, g.kp _ _ b h2, c⟩
theorem Dice.go0 (g : Go [] H H') (d : Dice H p L) : Dice H' p L := d.go g (by simp) (by simp)
def spRoll : Sp := fun vs H Q _ => ∃ p L many, vs = [.ref p, vN many] ∧ Dice H p L ∧ 1 ≤ many ∧ many ≤ 1000 ∧ ∀ k H', k < many → Go [p, L] H H' → Dice H' p L → Q (vN k) H'
theorem mod_small {c : Int} {m : Nat} (h : 0 ≤ c) (hm : 1 ≤ m) : ∃ k : Nat, c % (m : Int) = (k : Int) ∧ k < m := by
  refine ⟨(c % (m : Int)).toNat, ?_, ?_⟩
  · have := Int.emod_nonneg c (show (m : Int) ≠ 0 by omega)
    omega
  · have h1 := Int.emod_nonneg c (show (m : Int) ≠ 0 by omega)
    have h2 := Int.emod_lt_of_pos c (show (0 : Int) < m by omega)
    omega
theorem ints_at : ∀ (cs : List Int), Ats H (cs.map V.int) (cs.map D.int)
  | [] => .nil
  | c :: cs => .cons (.int _) (ints_at cs)
theorem rd_ne0I {a b : Addr} {cs : List Int} : Rd2 (rNeD K) (.lst a (cs.map D.int)) (.lst b []) (.bl (!cs.isEmpty)) := by
  have := rd_neD (K := K) (cm_lst (a := a) (cms_map (f := D.int) (g := PyData.int) (k := 63) (fun _ => ⟨.int _, .int _⟩) cs)) (cm_lst (k := 63) (a := b) cms_nil)
  rwa [PyData.eqv, eqvAll_nil] at this
theorem ix_dice0 {σ : L2.St} {Q : VK} {r : Int} (hs : σ[0]? = some (some (.ref p))) (hp : H p = some (.lst [.ref L, .int r])) (q : Q (.ref L) H) : tOp (rIxL K) (tVar 0) (tC (.int 0)) σ H Q := ⟨_, hs, p, _, 0, .ref L, rfl, rfl, SqL.of hp, rfl, q⟩
theorem ix_dice1 {σ : L2.St} {Q : VK} {r : Int} (hs : σ[0]? = some (some (.ref p))) (hp : H p = some (.lst [.ref L, .int r])) (q : Q (.int r) H) : tOp (rIxL K) (tVar 0) (tC (.int 1)) σ H Q := ⟨_, hs, p, _, 1, .int r, rfl, rfl, SqL.of hp, rfl, q⟩
theorem Go.mutS {a : Addr} {o o' : HO} (ha : a ∈ S) (h : H a = some o) (no : ¬ Fz o) : Go S H (upd H a o') := (Go.mut h no).mono fun b hb => by rw [List.mem_singleton.mp hb]; exact ha
theorem u_L_roll (T : Tx K mg) : Use P w K mg base "_law_roll" 1 ["_law_dice_here", "_law_many"] spRoll := by
  have scN := (⟨rfl, rfl, rfl, by decide +kernel, rfl, by decide +kernel, by decide +kernel⟩ : FnScope ["_law_dice_here", "_law_many", "_law_cell"] ["_law_dice_here", "_law_many"] (defScope s_L_roll))
  refine mk_use T.f_L_roll T.glo_L_roll scN (fun kV doc pm an cdv ct us hl => match us, hl with | [_, _], _ => rfl) (fun vs H Q E ⟨p, L, many, e, _⟩ => by rw [e]; rfl) fun cdv A outer s0 H vs Q E hr ⟨p, L, many, e1, ⟨cs, r, hp, hL, ok⟩, h1, h2, q⟩ => ?_
  subst e1
  refine ⟨_, (pss_cons (ps_if (pt_cmpR (op_neDK (K := K) hr.units) (pe_ix (ix_listK (K := K)) (pv 0) pe_int (fun _ _ => rfl)) (pe_lst pa_nil) (nomark _)) (pss_cons (ps_set (i := 2) scN.nd rfl (Or.inl rfl) (pe_bm PySem.F.plainAttrs_list PySem.F.slot_list_pop PySem.F.type_list_pop mt_popAt (pe_ix (ix_listK (K := K)) (pv 0) pe_int (fun _ _ => rfl)) (pa_cons pe_int pa_nil))) (pss_cons (ps_if (pt_chain op_ge op_gt (pv 2) (pv 1) pe_int) (pss_one (ps_expr (pe_bm PySem.F.plainAttrs_list PySem.F.slot_list_insert PySem.F.type_list_insert mt_insert (pe_ix (ix_listK (K := K)) (pv 0) pe_int (fun _ _ => rfl)) (pa_cons pe_int (pa_cons (pe_op op_fdivW (pv 2) (pv 1)) pa_nil))))) pss_nil) (pss_one (ps_ret (pe_op op_mod (pv 2) (pv 1)))))) pss_nil) (pss_cons (ps_asg (pe_op op_mod (pe_op op_add (pe_op op_mul (pe_ix (ix_listK (K := K)) (pv 0) pe_int (fun _ _ => rfl)) pe_int) pe_int) pe_int) (pg_sub (pv 0) pe_int set_list)) (pss_one (ps_ret (pe_op op_mod (pe_op op_fdivW (pe_ix (ix_listK (K := K)) (pv 0) pe_int (fun _ _ => rfl)) pe_int) (pv 1)))))), ?_⟩
  have m0 : (0 : Int) < (many : Int) := by omega
  have mW : CDivW 0 (many : Int) → True := fun _ => trivial
  -- the test
  refine ix_dice0 rfl hp ?_
  refine ⟨Nat.zero_le _, fun b hb => ?_⟩
  have g1 : Go [] H (upd H b (.lst [])) := Go.new hb
  have hp1 := g1.at0 hp
  have hL1 := g1.at0 hL
  refine rd_ne0I (a := L) (b := b) (cs := cs) _ _ _ _ (.lst hL1 (ints_at cs)) (.lst upd_same .nil) fun v H2 g2 a2 => ?_
  have hp2 := g2.at0 hp1
  have hL2 := g2.at0 hL1
  have g12 : Go [p, L] H H2 := (g1.trans g2).wide
  refine ⟨_, a2.bl_inv, ?_⟩
  cases cs with
  | nil =>
    refine iteF ?_
    -- dice[1] = ..
    refine ix_dice1 rfl hp2 ?_
    refine ⟨_, _, rfl, rfl, .inr ⟨by decide, by decide⟩, ?_⟩
    refine ⟨_, _, rfl, rfl, ?_⟩
    refine ⟨_, _, rfl, rfl, (by show (0 : Int) < 18446744073709551616; decide), ?_⟩
    refine ⟨_, rfl, p, _, 1, 1, rfl, rfl, hp2, rfl, ?_⟩
    have g3 : Go [p, L] H2 (upd H2 p (.lst ([V.ref L, V.int r].set 1 (.int ((r * 3935559000370003845 + 2691343689449507681) % 18446744073709551616))))) := Go.mutS (by simp) hp2 (fun z => z)
    have hz1 := Int.emod_nonneg (r * 3935559000370003845 + 2691343689449507681) (show (18446744073709551616 : Int) ≠ 0 by decide)
    have hz2 := Int.emod_lt_of_pos (r * 3935559000370003845 + 2691343689449507681) (show (0 : Int) < 18446744073709551616 by decide)
    refine ix_dice1 (L := L) rfl upd_same ?_
    refine ⟨_, _, rfl, rfl, ⟨by decide, by decide⟩, ?_⟩
    refine ⟨_, rfl, _, _, rfl, rfl, m0, ?_⟩
    show Q (.int ((r * 3935559000370003845 + 2691343689449507681) % 18446744073709551616 / 8589934592 % (many : Int))) (upd H2 p (.lst ([V.ref L, V.int r].set 1 (.int ((r * 3935559000370003845 + 2691343689449507681) % 18446744073709551616)))))
    generalize (r * 3935559000370003845 + 2691343689449507681) % 18446744073709551616 = z at hz1 hz2 g3 ⊢
    obtain ⟨k, e, hk⟩ := mod_small (c := z / 8589934592) (m := many) (Int.ediv_nonneg hz1 (by decide)) h1
    rw [e]
    refine q k _ hk (g12.transS g3) ⟨[], z, upd_same, ?_, ⟨ok.ne, fun c hc => (by cases hc), Nat.zero_le _, hz1, hz2⟩⟩
    rw [upd_ne (Ne.symm ok.ne)]
    exact hL2
  | cons c cs =>
    refine iteT ?_
    refine ix_dice0 rfl hp2 ?_
    refine ⟨.inl ⟨rfl, _, SqL.of hL2⟩, L, _, 0, 0, .int c, rfl, rfl, hL2, by decide, by decide, ?_, rfl, ?_⟩
    · show (if (decide (0 ≤ (0 : Int)) && decide ((0 : Int) < (((c :: cs).map V.int).length : Nat))) = true then some _ else none) = some 0
      rw [if_pos (by simp)]; rfl
    have g3 : Go [p, L] H2 (upd H2 L (.lst (((c :: cs).map V.int).eraseIdx 0))) := Go.mutS (by simp) hL2 (fun z => z)
    have hp3 : (upd H2 L (.lst (((c :: cs).map V.int).eraseIdx 0))) p = some (.lst [.ref L, .int r]) := by rw [upd_ne ok.ne]; exact hp2
    have hL3 : (upd H2 L (.lst (((c :: cs).map V.int).eraseIdx 0))) L = some (.lst (cs.map V.int)) := upd_same
    generalize upd H2 L (.lst (((c :: cs).map V.int).eraseIdx 0)) = H3 at g3 hp3 hL3 ⊢
    have hc0 := ok.pos c List.mem_cons_self
    have ok' : DOk p L cs r := ⟨ok.ne, fun x hx => ok.pos x (List.mem_cons_of_mem _ hx), by have := ok.len; simp at this; omega, ok.lo, ok.hi⟩
    obtain ⟨k, e, hk⟩ := mod_small (c := c) (m := many) hc0 h1
    -- cell >= many > 1
    refine ⟨_, rfl, _, rfl, _, _, rfl, rfl, _, rfl, ?_⟩
    have fin : ∀ H4, Go [p, L] H H4 → Dice H4 p L → tRet (tOp (rI (fun _ j => 0 < j) fun i j => .int (i % j)) (tVar 2) (tVar 1)) { nx := fun _ H' => Q .non H', rt := Q } [some (.ref p), some (vN many), some (.int c)] H4 := fun H4 g d => by
      refine ⟨_, rfl, _, rfl, _, _, rfl, rfl, m0, ?_⟩
      show Q (.int (c % (many : Int))) H4
      rw [e]
      exact q k H4 hk g d
    by_cases hge : ((many : Int) ≤ c)
    · rw [decide_eq_true hge]
      refine iteT ?_
      refine ⟨_, _, rfl, rfl, _, rfl, ?_⟩
      by_cases hgt : ((1 : Int) < (many : Int))
      · rw [decide_eq_true hgt]
        refine iteT ?_
        refine ix_dice0 rfl hp3 ?_
        refine ⟨.inl ⟨rfl, _, SqL.of hL3⟩, ?_⟩
        refine ⟨_, rfl, _, rfl, _, _, rfl, rfl, ⟨m0, ?_⟩, ?_⟩
        · have hb : ((many : Int)).natAbs < 2 ^ 10 := by
            have e1 : ((many : Int)).natAbs = many := by omega
            have e2 : (2 : Nat) ^ 10 = 1024 := by decide
            omega
          have := PySem.Flt.log2_lt_of (by decide : 0 < 10) hb
          omega
        refine ⟨L, _, 0, _, rfl, rfl, hL3, ?_, by decide, by decide, ?_⟩
        · rw [List.length_map]; exact Nat.lt_of_le_of_lt ok'.len (by decide)
        have g4 : Go [p, L] H3 (upd H3 L (.lst ((cs.map V.int).take (0 : Int).toNat ++ [.int (c / (many : Int))] ++ (cs.map V.int).drop (0 : Int).toNat))) := Go.mutS (by simp) hL3 (fun z => z)
        refine fin _ ((g12.transS g3).transS g4) ⟨c / (many : Int) :: cs, r, by rw [upd_ne ok.ne]; exact hp3, upd_same, ⟨ok.ne, fun x hx => ?_, ?_, ok.lo, ok.hi⟩⟩
        · rcases List.mem_cons.mp hx with e | e
          · rw [e]; exact Int.ediv_nonneg hc0 (by omega)
          · exact ok'.pos x e
        · have := ok.len; simp at this ⊢; omega
      · rw [decide_eq_false hgt]
        refine iteF ?_
        exact fin _ (g12.transS g3) ⟨cs, r, hp3, hL3, ok'⟩
    · rw [decide_eq_false hge]
      refine iteF ⟨_, rfl, iteF ?_⟩
      exact fin _ (g12.transS g3) ⟨cs, r, hp3, hL3, ok'⟩
end
end K70
set_option Elab.async false
set_option linter.all false
set_option maxRecDepth 100000
set_option maxHeartbeats 4000000
namespace K70
open PySem PySem.Spec PyProof.Rows L2
local macro_rules | `(tactic| walk_at "d1") => `(tactic| first
  | ((with_reducible refine' dv_var ?hh); (case hh => exact rfl))
  | with_reducible exact dv_cS
  | with_reducible exact dv_cB
  | with_reducible exact dv_c0
  | ((with_reducible refine' dv_cN ?hh); (case hh => exact rfl))
  | with_reducible exact dv_neg1
  | with_reducible exact dv_cI
  | with_reducible exact da_nil
  | with_reducible refine' da_cons ?_ ?_
  | with_reducible refine' da_starT ?_ ?_
  | with_reducible refine' da_starL ?_ ?_
  | with_reducible refine' dv_op rd_addN ?_ ?_
  | with_reducible refine' dv_op (rd_subN ?_) ?_ ?_
  | with_reducible refine' dv_op rd_ltN ?_ ?_
  | with_reducible refine' dv_op rd_leN ?_ ?_
  | with_reducible refine' dv_op rd_gtN ?_ ?_
  | with_reducible refine' dv_op rd_eqN ?_ ?_
  | with_reducible refine' dv_op rd_neN ?_ ?_
  | with_reducible refine' dv_op rd_eqS ?_ ?_
  | with_reducible refine' dv_op rd_in ?_ ?_
  | with_reducible refine' dv_op rd_notin ?_ ?_
  | with_reducible refine' dv_op rd_eq0 ?_ ?_
  | with_reducible refine' dv_op rd_ne0 ?_ ?_
  | with_reducible refine' dt_test ?_
  | with_reducible refine' dt_tB ?_
  | with_reducible exact dt_yes
  | with_reducible refine' dt_not ?_
  | with_reducible refine' dt_and ?_ fun _ => ?_
  | with_reducible refine' dt_or ?_ fun _ => ?_
  | with_reducible refine' dv_andV ?_ fun _ => ?_
  | with_reducible refine' dv_orV ?_ fun _ => ?_
  | with_reducible refine' dv_notV ?_
  | with_reducible refine' dv_chain rd_leN rd_leN ?_ ?_ ?_
  | ((with_reducible refine' dv_lenN (dv_var ?hh)); (case hh => exact rfl))
  | ((with_reducible refine' dv_lenR (dv_var ?hh)); (case hh => exact rfl))
  | with_reducible refine' dv_lenN ?_
  | with_reducible refine' dv_lenR ?_
  | with_reducible refine' dv_max ?_ ?_
  | with_reducible refine' di_tup ?_
  | with_reducible refine' di_lst ?_)
local macro_rules | `(tactic| walk_at "dv") => `(tactic| all_goals (repeat' walk_at "d1"))

section
variable {P : Program} {w : World} {K : PySem.W.Frag} {mg : Str → Option Value} {base : Heap} {H H' : Hp} {p L : Addr} {S : List Addr} {ρ : Rho} {ts : TA} {E : XK}
/-- a roll, called -/
theorem run_roll {many : Nat} (ha : Da ts ρ [.raw (.ref p), dN many]) (h1 : 1 ≤ many) (h2 : many ≤ 1000) (σ : L2.St) (H : Hp) (Q : VK) (s : Sd H σ ρ) (d : Dice H p L) (q : ∀ k H', k < many → Go [p, L] H H' → Dice H' p L → Q (vN k) H') : tCall spRoll [] E ts σ H Q :=
  ha σ H _ s fun vs H1 g1 a1 => by
    cases a1 with
    | cons a1 a2 =>
      cases a2 with
      | cons a2 a3 =>
        cases a3
        cases a1
        exact ⟨p, L, many, by rw [a2.int_inv]; rfl, d.go0 g1, h1, h2, fun k H' hk g d' => q k H' hk (g1.wide.transS g) d'⟩
/-- mixed(dice, many): a permutation -/
def spMixed : Sp := fun vs H Q _ => ∃ p L many, vs = [.ref p, vN many] ∧ Dice H p L ∧ 1 ≤ many ∧ many ≤ 1000 ∧ ∀ v nm H', nm.Perm (List.range many) → Go [p, L] H H' → Dice H' p L → At H' v (.fru nm) → Q v H'
theorem perm_erase : ∀ {rs : List Nat} {k x : Nat}, rs[k]? = some x → (x :: rs.eraseIdx k).Perm rs
  | [], _, _, h => by simp at h
  | r :: rs, 0, x, h => by
    have e : r = x := by simpa using h
    subst e
    exact List.Perm.refl _
  | r :: rs, k + 1, x, h => by
    have ih := perm_erase (rs := rs) (k := k) (x := x) (by simpa using h)
    exact (List.Perm.swap r x _).trans (ih.cons r)
theorem erase_map {α β : Type} (f : α → β) : ∀ (xs : List α) (k : Nat), (xs.map f).eraseIdx k = (xs.eraseIdx k).map f
  | [], _ => rfl
  | _ :: _, 0 => rfl
  | x :: xs, k + 1 => congrArg (f x :: ·) (erase_map f xs k)
theorem perm_pop {fs rs : List Nat} {k x : Nat} {l : List Nat} (h : (fs ++ rs).Perm l) (hk : rs[k]? = some x) : (fs ++ [x] ++ rs.eraseIdx k).Perm l := by
  refine List.Perm.trans ?_ h
  rw [List.append_assoc]
  exact List.Perm.append_left _ (perm_erase hk)
theorem u_L_mixed (T : Tx K mg) : Use P w K mg base "_law_mixed" 2 ["_law_dice_here", "_law_many"] spMixed := by
  have scN := (⟨rfl, rfl, rfl, by decide +kernel, rfl, by decide +kernel, by decide +kernel⟩ : FnScope ["_law_dice_here", "_law_many", "_law_rest", "_law_found"] ["_law_dice_here", "_law_many"] (defScope s_L_mixed))
  refine mk_use T.f_L_mixed T.glo_L_mixed scN (fun kV doc pm an cdv ct us hl => match us, hl with | [_, _], _ => rfl) (fun vs H Q E ⟨p, L, many, e, _⟩ => by rw [e]; rfl) fun cdv A outer s0 H vs Q E hr ⟨p, L, many, e1, hd, h1, h2, q⟩ => ?_
  subst e1
  refine ⟨_, (pss_cons (ps_par (i := 2) (j := 3) rfl scN.nd rfl rfl (by decide) rfl rfl (pa_cons (pe_listRg rfl rfl T.free_list (prg_1 rfl T.free_range (pv 1))) (pa_cons (pe_lst pa_nil) pa_nil)) (by rfl)) (pss_cons (ps_while PassesOwn.never (pt_cmpR (op_neDK (K := K) hr.units) (pv 2) (pe_lst pa_nil) (nomark _)) (pss_one (ps_expr (pe_bm PySem.F.plainAttrs_list PySem.F.slot_list_append PySem.F.type_list_append mt_append (pv 3) (pa_cons (pe_bm PySem.F.plainAttrs_list PySem.F.slot_list_pop PySem.F.type_list_pop mt_popAt (pv 2) (pa_cons (pe_use (u_L_roll T) hr (by decide) rfl (pa_cons (pv 0) (pa_cons (pe_callB (call_lenK (K := K)) (by rfl) T.free_len PySem.boot_len (pa_cons (pv 2) pa_nil)) pa_nil))) pa_nil)) pa_nil))))) (pss_one (ps_ret (pe_callTy (call_tupF (K := K)) (by rfl) T.free_tuple (by decide +kernel) (pa_cons (pv 3) pa_nil)))))), ?_⟩
  refine ⟨_, rfl, many, rfl, RgOk.of_le (by omega) (by omega) (by omega) (by omega), fun R hR => ?_⟩
  have g1 : Go [] H (upd H R (.lst (rgV 0 (many : Int)))) := Go.new hR
  have hR1 : (upd H R (.lst (rgV 0 (many : Int)))) R = some (.lst ((List.range many).map vN)) := by rw [upd_same, rgV_N]
  generalize upd H R (.lst (rgV 0 (many : Int))) = H1 at g1 hR1 ⊢
  refine ⟨Nat.zero_le _, fun F hF => ⟨_, _, rfl, ?_⟩⟩
  have hRF : R ≠ F := ne_of_none hR1 hF
  have g2 : Go [] H1 (upd H1 F (.lst [])) := Go.new hF
  have hR2 := g2.at0 hR1
  have hF2 : (upd H1 F (.lst [])) F = some (.lst (([] : List Nat).map vN)) := upd_same
  have g12 := g1.trans g2
  generalize upd H1 F (.lst []) = H2 at g12 hR2 hF2 ⊢
  have hpR : p ≠ R ∧ L ≠ R := by
    obtain ⟨cs, r, a, b, _⟩ := hd
    exact ⟨ne_of_none a hR, ne_of_none b hR⟩
  have hFn : H F = none := g1.free hF
  have hpF : p ≠ F ∧ L ≠ F := by
    obtain ⟨cs, r, a, b, _⟩ := hd
    exact ⟨ne_of_none a hFn, ne_of_none b hFn⟩
  -- the invariant of the loop
  refine while_by (fun σ H' => σ = [some (.ref p), some (vN many), some (.ref R), some (.ref F)] ∧ ∃ fs rs : List Nat, H' F = some (.lst (fs.map vN)) ∧ H' R = some (.lst (rs.map vN)) ∧ (fs ++ rs).Perm (List.range many) ∧ Dice H' p L ∧ Go [p, L, R, F] H H')
    (fun σ H' => match H' R with | some (.lst xs) => xs.length | _ => 0) ⟨rfl, [], List.range many, hF2, hR2, by simp, hd.go0 g12, g12.wide⟩ ?_ ?_
  · rintro σ H3 ⟨rfl, fs, rs, hF3, hR3, hp, hd3, g3⟩
    have hlen : fs.length + rs.length = many := by have := hp.length_eq; simpa using this
    refine ⟨_, rfl, Nat.zero_le _, fun b hb => ?_⟩
    have gb : Go [] H3 (upd H3 b (.lst [])) := Go.new hb
    refine rd_ne0L (a := R) (b := b) (ns := rs) _ _ _ _ (.lst (gb.at0 hR3) (Ats.ofN rs)) (.lst upd_same .nil) fun v H4 g4 a4 => ⟨_, a4.bl_inv, ?_⟩
    have g34 := gb.trans g4
    have hF4 := g34.at0 hF3
    have hR4 := g34.at0 hR3
    have hd4 := hd3.go0 g34
    have gg : Go [p, L, R, F] H H4 := g3.transS g34.wide
    cases rs with
    | nil =>
      refine iteF ?_
      rw [List.append_nil] at hp
      refine ⟨_, rfl, F, _, rfl, SqL.of hF4, fun l o hl hc hdn => ?_⟩
      have gl : Go [] H4 (upd H4 l (.frz o (.tup (fs.map vN)))) := Go.new hl
      refine q (.ref l) fs _ hp ?_ (hd4.go0 gl) (.fru upd_same hc hdn)
      -- R and F were not there
      have g5 : Go [p, L, R, F] H (upd H4 l (.frz o (.tup (fs.map vN)))) := gg.transS gl.wide
      refine ⟨fun a o' h n => g5.kp a o' h ?_, g5.tk⟩
      have e1 : a ≠ R := ne_of_none h hR
      have e2 : a ≠ F := ne_of_none h hFn
      simp at n ⊢
      exact ⟨n.1, n.2, e1, e2⟩
    | cons r0 rs0 =>
      refine iteT ?_
      have hm : 1 ≤ (r0 :: rs0).length := by simp
      -- found.append(rest.pop(roll(dice, len(rest))))
      refine ⟨_, rfl, .inl ⟨rfl, _, SqL.of hF4⟩, ?_⟩
      refine ⟨_, rfl, .inl ⟨rfl, _, SqL.of hR4⟩, ?_⟩
      refine ⟨_, rfl, _, rfl, R, _, rfl, .inl (SqL.of hR4), ?_⟩
      refine ⟨p, L, (r0 :: rs0).length, by simp, hd4, hm, by omega, fun k H5 hk g5 hd5 => ?_⟩
      have hF5 : H5 F = _ := g5.kp _ _ hF4 (by simp; exact ⟨hpF.1.symm, hpF.2.symm⟩)
      have hR5 : H5 R = _ := g5.kp _ _ hR4 (by simp; exact ⟨hpR.1.symm, hpR.2.symm⟩)
      have hx : (r0 :: rs0)[k]? = some (ix (r0 :: rs0) k) := ix_get hk
      have hx' : ((r0 :: rs0).map vN)[k]? = some (vN (ix (r0 :: rs0) k)) := by rw [List.getElem?_map, hx]; rfl
      refine ⟨R, _, _, k, _, rfl, rfl, hR5, by omega, by omega, ?_, hx', ?_⟩
      · unfold seqIndex?
        have e1 : ¬ ((k : Int) < 0) := by omega
        simp only [if_neg e1]
        rw [if_pos (by have hk' : k < rs0.length + 1 := hk; simp; omega)]
        simp
      have g6 : Go [p, L, R, F] H5 (upd H5 R (.lst (((r0 :: rs0).map vN).eraseIdx k))) := Go.mutS (by simp) hR5 (fun z => z)
      have hR6 : (upd H5 R (.lst (((r0 :: rs0).map vN).eraseIdx k))) R = some (.lst (((r0 :: rs0).eraseIdx k).map vN)) := by rw [upd_same, erase_map]
      have hF6 : (upd H5 R (.lst (((r0 :: rs0).map vN).eraseIdx k))) F = some (.lst (fs.map vN)) := by rw [upd_ne (Ne.symm hRF)]; exact hF5
      have hd6 : Dice (upd H5 R (.lst (((r0 :: rs0).map vN).eraseIdx k))) p L := hd5.go (S := [R]) (Go.mut hR5 (fun z => z)) (by simpa using hpR.1) (by simpa using hpR.2)
      generalize upd H5 R (.lst (((r0 :: rs0).map vN).eraseIdx k)) = H6 at g6 hR6 hF6 hd6 ⊢
      refine ⟨F, _, _, rfl, rfl, hF6, ?_, ?_⟩
      · rw [List.length_map]; exact Nat.lt_of_le_of_lt (show fs.length ≤ 1000 by omega) (by decide)
      have g7 : Go [p, L, R, F] H6 (upd H6 F (.lst (fs.map vN ++ [vN (ix (r0 :: rs0) k)]))) := Go.mutS (by simp) hF6 (fun z => z)
      refine ⟨⟨rfl, fs ++ [ix (r0 :: rs0) k], (r0 :: rs0).eraseIdx k, by rw [upd_same, List.map_append]; rfl, by rw [upd_ne hRF]; exact hR6, perm_pop hp hx, hd6.go (S := [F]) (Go.mut hF6 (fun z => z)) (by simpa using hpF.1) (by simpa using hpF.2), ?_⟩, ?_⟩
      · exact ((gg.transS (g5.mono (by simp))).transS g6).transS g7
      · have e1 : (upd H6 F (.lst (fs.map vN ++ [vN (ix (r0 :: rs0) k)]))) R = some (.lst (((r0 :: rs0).eraseIdx k).map vN)) := by rw [upd_ne hRF]; exact hR6
        show (match (upd H6 F (.lst (fs.map vN ++ [vN (ix (r0 :: rs0) k)]))) R with | some (.lst xs) => xs.length | _ => 0) < (match H3 R with | some (.lst xs) => xs.length | _ => 0)
        rw [e1, hR3]
        show (((r0 :: rs0).eraseIdx k).map vN).length < ((r0 :: rs0).map vN).length
        rw [List.length_map, List.length_map, List.length_eraseIdx_of_lt hk]
        simp
  · rintro σ H3 Q1 Q2 hQ ⟨v, e, h⟩
    refine ⟨v, e, h.1, fun b hb => ?_⟩
    obtain ⟨d1, d2, a1, a2, a3, a4, k, e2, h2⟩ := h.2 b hb
    exact ⟨d1, d2, a1, a2, a3, a4, k, e2, hQ _ _ h2⟩
end
end K70
set_option Elab.async false
set_option linter.all false
set_option maxRecDepth 100000
set_option maxHeartbeats 4000000
namespace K70
open PySem PySem.Spec PyProof.Rows L2
local macro_rules | `(tactic| walk_at "d1") => `(tactic| first
  | ((with_reducible refine' dv_var ?hh); (case hh => exact rfl))
  | with_reducible exact dv_cS
  | with_reducible exact dv_cB
  | with_reducible exact dv_c0
  | ((with_reducible refine' dv_cN ?hh); (case hh => exact rfl))
  | with_reducible exact dv_neg1
  | with_reducible exact dv_cI
  | with_reducible exact da_nil
  | with_reducible refine' da_cons ?_ ?_
  | with_reducible refine' da_starT ?_ ?_
  | with_reducible refine' da_starL ?_ ?_
  | with_reducible refine' dv_op rd_addN ?_ ?_
  | with_reducible refine' dv_op (rd_subN ?_) ?_ ?_
  | with_reducible refine' dv_op rd_ltN ?_ ?_
  | with_reducible refine' dv_op rd_leN ?_ ?_
  | with_reducible refine' dv_op rd_gtN ?_ ?_
  | with_reducible refine' dv_op rd_eqN ?_ ?_
  | with_reducible refine' dv_op rd_neN ?_ ?_
  | with_reducible refine' dv_op rd_eqS ?_ ?_
  | with_reducible refine' dv_op rd_in ?_ ?_
  | with_reducible refine' dv_op rd_notin ?_ ?_
  | with_reducible refine' dv_op rd_eq0 ?_ ?_
  | with_reducible refine' dv_op rd_ne0 ?_ ?_
  | with_reducible refine' dt_test ?_
  | with_reducible refine' dt_tB ?_
  | with_reducible exact dt_yes
  | with_reducible refine' dt_not ?_
  | with_reducible refine' dt_and ?_ fun _ => ?_
  | with_reducible refine' dt_or ?_ fun _ => ?_
  | with_reducible refine' dv_andV ?_ fun _ => ?_
  | with_reducible refine' dv_orV ?_ fun _ => ?_
  | with_reducible refine' dv_notV ?_
  | with_reducible refine' dv_chain rd_leN rd_leN ?_ ?_ ?_
  | ((with_reducible refine' dv_lenN (dv_var ?hh)); (case hh => exact rfl))
  | ((with_reducible refine' dv_lenR (dv_var ?hh)); (case hh => exact rfl))
  | with_reducible refine' dv_lenN ?_
  | with_reducible refine' dv_lenR ?_
  | with_reducible refine' dv_max ?_ ?_
  | with_reducible refine' di_tup ?_
  | with_reducible refine' di_lst ?_)
local macro_rules | `(tactic| walk_at "dv") => `(tactic| all_goals (repeat' walk_at "d1"))

section
variable {P : Program} {w : World} {K : PySem.W.Frag} {mg : Str → Option Value} {base : Heap} {H H' : Hp} {p L : Addr} {S : List Addr} {ρ : Rho} {ts : TA} {E : XK}
theorem run_mixed {many : Nat} (ha : Da ts ρ [.raw (.ref p), dN many]) (h1 : 1 ≤ many) (h2 : many ≤ 1000) (σ : L2.St) (H : Hp) (Q : VK) (s : Sd H σ ρ) (d : Dice H p L) (q : ∀ v nm H', nm.Perm (List.range many) → Go [p, L] H H' → Dice H' p L → At H' v (.fru nm) → Q v H') : tCall spMixed [] E ts σ H Q :=
  ha σ H _ s fun vs H1 g1 a1 => by
    cases a1 with
    | cons a1 a2 =>
      cases a2 with
      | cons a2 a3 =>
        cases a3
        cases a1
        exact ⟨p, L, many, by rw [a2.int_inv]; rfl, d.go0 g1, h1, h2, fun v nm H' hp g d' a => q v nm H' hp (g1.wide.transS g) d' a⟩
def spRule : Sp := fun vs H Q _ => ∃ p L n, vs = [.ref p, vN n] ∧ Dice H p L ∧ 1 ≤ n ∧ n ≤ 6 ∧ ∀ v t H', RuleOk n t → Go [p, L] H H' → Dice H' p L → At H' v (dRule t) → Q v H'
theorem perm_last {nm : List Nat} {n l : Nat} (h : nm.Perm (List.range n)) (hl : l < n) : ((nm.filter fun x => !decide (x = l)) ++ [l]).Perm (List.range n) := by
  refine List.Perm.trans ?_ h
  have nd : nm.Nodup := h.nodup_iff.mpr List.nodup_range
  have hm : l ∈ nm := h.mem_iff.mpr (List.mem_range.mpr hl)
  have e1 : (nm.filter fun x => !decide (x = l)) = nm.erase l := by
    rw [nd.erase_eq_filter]
    apply List.filter_congr
    intro x _
    rw [Bool.eq_iff_iff]; simp
  rw [e1]
  exact (List.perm_append_singleton l _).trans (List.perm_cons_erase hm).symm
theorem rule_of {n : Nat} {t : Rule} (h1 : 1 ≤ n) (h2 : n ≤ 6) (hl : t.length = n + 1) (hr : ∀ r ∈ t, r.Perm (List.range n)) : RuleOk n t := ⟨hl, h1, h2, hr⟩
theorem u_L_rule (T : Tx K mg) : Use P w K mg base "_law_rule" 3 ["_law_dice_here", "_law_lanes"] spRule := by
  have scN := (⟨rfl, rfl, rfl, by decide +kernel, rfl, by decide +kernel, by decide +kernel⟩ : FnScope ["_law_dice_here", "_law_lanes", "_law_style", "_law_ahead", "_law_k", "_law_last", "_law_one"] ["_law_dice_here", "_law_lanes"] (defScope s_L_rule))
  refine mk_use T.f_L_rule T.glo_L_rule scN (fun kV doc pm an cdv ct us hl => match us, hl with | [_, _], _ => rfl) (fun vs H Q E ⟨p, L, n, e, _⟩ => by rw [e]; rfl) fun cdv A outer s0 H vs Q E hr ⟨p, L, n, e1, hd, h1, h2, q⟩ => ?_
  subst e1
  refine ⟨_, (pss_cons (ps_asg (pe_tup (pa_cons (pe_use (u_L_roll T) hr (by decide) rfl (pa_cons (pv 0) (pa_cons pe_int pa_nil))) (pa_cons (pe_use (u_L_mixed T) hr (by decide) rfl (pa_cons (pv 0) (pa_cons (pv 1) pa_nil))) pa_nil))) (pg_tup rfl (pgs_cons (pg_name (i := 2) scN.nd rfl (Or.inl rfl)) (pgs_cons (pg_name (i := 3) scN.nd rfl (Or.inr rfl)) pgs_nil)))) (pss_cons (ps_if (pt_cmpR op_eq (pv 2) pe_int (nomark _)) (pss_one (ps_ret (pe_op (op_repK (K := K)) (pe_tup (pa_cons (pv 3) pa_nil)) (pe_op op_add (pv 1) pe_int)))) pss_nil) (pss_cons (ps_if (pt_cmpR op_eq (pv 2) pe_int (nomark _)) (pss_one (ps_ret (pe_op (op_catK (K := K)) (pe_tup (pa_cons (pv 3) pa_nil)) (pe_callTy (call_tupK (K := K)) (by rfl) T.free_tuple (by decide +kernel) (pa_cons (pe_lc (own := [("_law_last", 5)]) (g := gName 5) (tt := tYes) rfl scN.nd (pi_range1 rfl T.free_range (pa_cons (pv 1) pa_nil)) (blkOk_by (N := ["_law_dice_here", "_law_lanes", "_law_style", "_law_ahead", "_law_k", "_law_last", "_law_one"]) (sc := defScope s_L_rule) (own := [("_law_last", 5)]) (by decide +kernel)) (fun _ _ _ _ _ => (pg_name (i := 5) scN.nd rfl (Or.inr rfl))) (fun _ _ _ _ _ => pts_nil) (fun _ _ _ _ _ => (pe_callTy (call_tupK (K := K)) (by rfl) T.free_tuple (by decide +kernel) (pa_cons (pe_op op_cat (pe_lc (own := [("_law_one", 6)]) (g := gName 6) rfl scN.nd (pi_tupK (K := K) (pv 3)) (blkOk_by (N := ["_law_dice_here", "_law_lanes", "_law_style", "_law_ahead", "_law_k", "_law_last", "_law_one"]) (sc := _) (own := [("_law_one", 6)]) (by show blkC _ (relS _ (defScope s_L_rule)) _ _ = true; decide +kernel)) (fun _ _ _ _ _ => (pg_name (i := 6) scN.nd rfl (Or.inl rfl))) (fun _ _ _ _ _ => (pts_one (pt_cmpR op_ne (pv 6) (pv 5) (nomark _)))) (fun _ _ _ _ _ => (pv 6))) (pe_lst (pa_cons (pv 5) pa_nil))) pa_nil)))) pa_nil))))) pss_nil) (pss_one (ps_ret (pe_callTy (call_tupK (K := K)) (by rfl) T.free_tuple (by decide +kernel) (pa_cons (pe_lc (own := [("_law_k", 4)]) (g := gName 4) (tt := tYes) rfl scN.nd (pi_range1 rfl T.free_range (pa_cons (pe_op op_add (pv 1) pe_int) pa_nil)) (blkOk_by (N := ["_law_dice_here", "_law_lanes", "_law_style", "_law_ahead", "_law_k", "_law_last", "_law_one"]) (sc := defScope s_L_rule) (own := [("_law_k", 4)]) (by decide +kernel)) (fun _ _ _ _ _ => (pg_name (i := 4) scN.nd rfl (Or.inl rfl))) (fun _ _ _ _ _ => pts_nil) (fun _ _ _ _ _ => (pe_use (u_L_mixed T) hr (by decide) rfl (pa_cons (pv 0) (pa_cons (pv 1) pa_nil))))) pa_nil))))))), ?_⟩
  have hS : Sd H _ (startD ["_law_dice_here", "_law_lanes", "_law_style", "_law_ahead", "_law_k", "_law_last", "_law_one"] [.raw (.ref p), dN n]) := Sd.start (.cons (.raw _) (.cons (.int _) .nil)) ["_law_dice_here", "_law_lanes", "_law_style", "_law_ahead", "_law_k", "_law_last", "_law_one"]
  have hR : ∀ {S}, AvR S (startD ["_law_dice_here", "_law_lanes", "_law_style", "_law_ahead", "_law_k", "_law_last", "_law_one"] [.raw (.ref p), dN n]) := avr_cons (.raw _) (avr_cons av_N (avr_none (avr_none (avr_none (avr_none (avr_none avr_nil))))))
  refine run_roll (da_cons (dv_var rfl) (da_cons (dv_cN (n := 4) rfl) da_nil)) (by decide) (by decide) _ H _ hS hd fun k H1 hk g1 hd1 => ?_
  have s1 := hS.goS g1 hR
  refine run_mixed (da_cons (dv_var rfl) (da_cons (dv_var (d := dN n) rfl) da_nil)) h1 (by omega) _ H1 _ s1 hd1 fun v nm H2 hp g2 hd2 a2 => ?_
  have s2 := s1.goS g2 hR
  refine ⟨by show 2 ≤ sizeLine; decide, fun b hb => ?_⟩
  have g3 : Go [] H2 (upd H2 b (.tup [vN k, v])) := Go.new hb
  refine ⟨b, _, rfl, SqT.of upd_same, rfl, _, _, rfl, _, _, rfl, rfl, ?_⟩
  have s3 := ((s2.go g3).set (i := 2) (.int (k : Int))).set (i := 3) (a2.go g3)
  have hd3 := hd2.go0 g3
  have gg : Go [p, L] H (upd H2 b (.tup [vN k, v])) := (g1.transS g2).transS g3.wide
  generalize upd H2 b (.tup [vN k, v]) = H3 at s3 hd3 gg ⊢
  clear a2 s2 s1 g3
  have hln : nm.length = n := by rw [hp.length_eq]; simp
  by_cases k0 : k = 0
  · subst k0
    dsimp only
    refine (?_ : Db _ _ (dRule (List.replicate (n + 1) nm))) _ H3 _ s3 fun v' H4 g4 a4 => ?_
    · exact db_now (db_ifT (dt_test (Dv.to (dv_op (rd_eqN (n := 0) (m := 0)) (dv_var rfl) (dv_cN rfl)) rfl)) (db_ret (Dv.to (dv_op (rd_rep (n := n + 1) (d := dNs nm) (by omega) (by omega)) (dv_tup (da_cons (Dv.fru (dv_var rfl)) da_nil) (by simp)) (dv_op rd_addN (dv_var rfl) (dv_cN rfl))) (by show D.tup _ = D.tup _; rw [List.map_replicate]))))
    exact q v' _ H4 (rule_of h1 h2 (by simp) fun r hr => by rw [List.eq_of_mem_replicate hr]; exact hp) (gg.transS g4.wide) (hd3.go0 g4) a4
  · by_cases k1 : k = 1
    · subst k1
      refine (dn_skip (dt_test (Dv.to (dv_op (rd_eqN (n := 1) (m := 0)) (dv_var rfl) (dv_cN rfl)) rfl))) _ H3 _ s3 fun σ4 H4 g4 s4 => ?_
      dsimp only
      refine (?_ : Db _ _ (dRule (nm :: (List.range n).map fun l => (nm.filter fun x => !decide (x = l)) ++ [l]))) _ H4 _ s4 fun v' H5 g5 a5 => ?_
      · exact db_now (db_ifT (dt_test (Dv.to (dv_op (rd_eqN (n := 1) (m := 1)) (dv_var rfl) (dv_cN rfl)) rfl)) (db_ret (Dv.to (dv_op (rd_catT (ds := [dNs nm]) (es := ((List.range n).map fun l => (nm.filter fun x => !decide (x = l)) ++ [l]).map dNs) (by simp; omega)) (dv_tup (da_cons (Dv.fru (dv_var rfl)) da_nil) (by simp)) (Dv.to (dv_tupL (dl_lc (xs := List.range n) (emb := dN) (f := fun l => dNs ((nm.filter fun x => !decide (x = l)) ++ [l])) (p := fun _ => true) (di_rng1 (da_cons (dv_var rfl) da_nil) (by omega)) (by simp; omega) (fun x _ => dg_name) (by simp) (fun _ _ => av_Ns) (fun x _ => dt_yes) fun l hl _ => Dv.to (dv_tupL (dl_cat (f1 := (nm.filter fun x => !decide (x = l)).map dN) (f2 := [dN l]) (dl_lc (xs := nm) (emb := dN) (f := dN) (p := fun x => !decide (x = l)) (di_tup (Dv.fru (dv_var rfl))) (by omega) (fun x _ => dg_name) (by simp) (fun _ _ => av_N) (fun x _ => dt_test (dv_op rd_neN (dv_var rfl) (dv_var rfl))) fun x _ _ => dv_var rfl) (dl_lst (da_cons (dv_var rfl) da_nil) (by simp)) (by have := List.length_filter_le (fun x => !decide (x = l)) nm; simp; omega))) (by show D.tup _ = D.tup _; rw [List.map_append]; rfl))) (by show D.tup _ = D.tup _; rw [flt_all, List.map_map]; rfl))) rfl)))
      refine q v' _ H5 (rule_of h1 h2 (by simp) fun r hr => ?_) (gg.transS (g4.trans g5).wide) ((hd3.go0 g4).go0 g5) a5
      rcases List.mem_cons.mp hr with e | hr
      · rw [e]; exact hp
      · obtain ⟨l, hl, e⟩ := List.mem_map.mp hr
        rw [← e]
        exact perm_last hp (List.mem_range.mp hl)
    · refine (dn_skip (dt_test (Dv.to (dv_op (rd_eqN (n := k) (m := 0)) (dv_var rfl) (dv_cN rfl)) (congrArg D.bl (decide_eq_false k0))))) _ H3 _ s3 fun σ4 H4 g4 s4 => ?_
      refine (dn_skip (dt_test (Dv.to (dv_op (rd_eqN (n := k) (m := 1)) (dv_var rfl) (dv_cN rfl)) (congrArg D.bl (decide_eq_false k1))))) _ H4 _ s4 fun σ5 H5 g5 s5 => ?_
      have hd5 := (hd3.go0 g4).go0 g5
      have gg5 := gg.transS (g4.trans g5).wide
      obtain ⟨v1, e1, k1⟩ := s5.at_ 1 (dN n) rfl
      rw [k1.int_inv] at e1
      refine ⟨_, e1, _, _, rfl, rfl, ?_⟩
      refine ⟨(n : Int) + 1, rfl, by omega, by omega, fun D hD => ?_⟩
      have hn : p ≠ D ∧ L ≠ D := by
        obtain ⟨cs, r, a, b, _⟩ := hd5
        exact ⟨ne_of_none a hD, ne_of_none b hD⟩
      rw [show ((n : Int) + 1).toNat = n + 1 by omega]
      refine lc_range (lo := 0) (n := n + 1) (fun i H' => ∃ acc rows, H' D = some (.lst acc) ∧ rows.length = i ∧ Ats H' acc (rows.map dNs) ∧ (∀ r ∈ rows, r.Perm (List.range n)) ∧ Dice H' p L ∧ Go [p, L] H5 H') ⟨[], [], upd_same, rfl, .nil, fun _ h => (by cases h), hd5.go0 (Go.new hD), (Go.new hD).wide⟩ ?_ ?_
      · rintro i H7 hi ⟨acc, rows, hacc, hrl, har, hpr, hd7, g7⟩
        have sw : Sd H7 ((wipe σ5 [4]).set 4 (some (.int (0 + (i : Int))))) (((wipeD (((startD ["_law_dice_here", "_law_lanes", "_law_style", "_law_ahead", "_law_k", "_law_last", "_law_one"] [.raw (.ref p), dN n]).set 2 (some (dN k))).set 3 (some (.fru nm))) [4])).set 4 (some (.int (0 + (i : Int))))) := ((s5.wipe [4]).goS g7 ?_).set (.int _)
        rotate_left
        · exact avr_cons (.raw _) (avr_cons av_N (avr_cons av_N (avr_cons (.fru _) (avr_none (avr_none (avr_none avr_nil))))))
        refine ⟨(wipe_set (wipe σ5 [4]) (vs := [4]) (i := 4) (by decide)).trans (wipe_wipe σ5 [4] [4] fun _ h => h), ?_⟩
        unfold tYes
        dsimp only
        rw [if_pos rfl]
        refine run_mixed (many := n) (da_cons (dv_var rfl) (da_cons (dv_var rfl) da_nil)) h1 (by omega) _ H7 _ sw hd7 fun v' nm' H8 hp' g8 hd8 a8 => ?_
        have h8 : H8 D = some (.lst acc) := g8.kp _ _ hacc (by simp; exact ⟨hn.1.symm, hn.2.symm⟩)
        have gm : Go [D] H8 (upd H8 D (.lst (acc ++ [v']))) := Go.mut h8 (fun z => z)
        refine ⟨acc, h8, ?_, acc ++ [v'], rows ++ [nm'], upd_same, by simp [hrl], ?_, ?_, hd8.go gm (by simpa using hn.1) (by simpa using hn.2), ?_⟩
        · rw [har.length, List.length_map, hrl]; exact Nat.lt_of_le_of_lt (show i ≤ 1000 by omega) (by decide)
        · rw [List.map_append]
          exact ((har.goS g8 (av_map fun _ => av_Ns)).goS gm (av_map fun _ => av_Ns)).append (.cons (a8.fru_tup.goS gm av_Ns) .nil)
        · intro r hr
          rcases List.mem_append.mp hr with h | h
          · exact hpr r h
          · rw [List.mem_singleton.mp h]; exact hp'
        · have g78 := g7.transS g8
          refine ⟨fun b o h nb => ?_, fun b o h f => gm.tk b o (g78.tk b o h f) f⟩
          exact gm.kp b o (g78.kp b o h nb) (by simp; exact ne_of_none h hD)
      · rintro H7 ⟨acc, rows, hacc, hrl, har, hpr, hd7, g7⟩
        refine ⟨D, acc, rfl, .inl ⟨SqL.of hacc, fun l hl => ?_⟩⟩
        exact q (.ref l) rows _ (rule_of h1 h2 hrl hpr) ((gg5.transS g7).transS (Go.new hl).wide) (hd7.go0 (Go.new hl)) (.tup (.inl upd_same) (har.go (Go.new hl)))
end
end K70
set_option Elab.async false
set_option linter.all false
set_option maxRecDepth 100000
set_option maxHeartbeats 4000000
namespace K70
open PySem PySem.Spec PyProof.Rows L2
local macro_rules | `(tactic| walk_at "d1") => `(tactic| first
  | ((with_reducible refine' dv_var ?hh); (case hh => exact rfl))
  | with_reducible exact dv_cS
  | with_reducible exact dv_cB
  | with_reducible exact dv_c0
  | ((with_reducible refine' dv_cN ?hh); (case hh => exact rfl))
  | with_reducible exact dv_neg1
  | with_reducible exact dv_cI
  | with_reducible exact da_nil
  | with_reducible refine' da_cons ?_ ?_
  | with_reducible refine' da_starT ?_ ?_
  | with_reducible refine' da_starL ?_ ?_
  | with_reducible refine' dv_op rd_addN ?_ ?_
  | with_reducible refine' dv_op (rd_subN ?_) ?_ ?_
  | with_reducible refine' dv_op rd_ltN ?_ ?_
  | with_reducible refine' dv_op rd_leN ?_ ?_
  | with_reducible refine' dv_op rd_gtN ?_ ?_
  | with_reducible refine' dv_op rd_eqN ?_ ?_
  | with_reducible refine' dv_op rd_neN ?_ ?_
  | with_reducible refine' dv_op rd_eqS ?_ ?_
  | with_reducible refine' dv_op rd_in ?_ ?_
  | with_reducible refine' dv_op rd_notin ?_ ?_
  | with_reducible refine' dv_op rd_eq0 ?_ ?_
  | with_reducible refine' dv_op rd_ne0 ?_ ?_
  | with_reducible refine' dt_test ?_
  | with_reducible refine' dt_tB ?_
  | with_reducible exact dt_yes
  | with_reducible refine' dt_not ?_
  | with_reducible refine' dt_and ?_ fun _ => ?_
  | with_reducible refine' dt_or ?_ fun _ => ?_
  | with_reducible refine' dv_andV ?_ fun _ => ?_
  | with_reducible refine' dv_orV ?_ fun _ => ?_
  | with_reducible refine' dv_notV ?_
  | with_reducible refine' dv_chain rd_leN rd_leN ?_ ?_ ?_
  | ((with_reducible refine' dv_lenN (dv_var ?hh)); (case hh => exact rfl))
  | ((with_reducible refine' dv_lenR (dv_var ?hh)); (case hh => exact rfl))
  | with_reducible refine' dv_lenN ?_
  | with_reducible refine' dv_lenR ?_
  | with_reducible refine' dv_max ?_ ?_
  | with_reducible refine' di_tup ?_
  | with_reducible refine' di_lst ?_)
local macro_rules | `(tactic| walk_at "dv") => `(tactic| all_goals (repeat' walk_at "d1"))

section
variable {P : Program} {w : World} {K : PySem.W.Frag} {mg : Str → Option Value} {base : Heap} {H H' : Hp} {p L : Addr} {S : List Addr} {ρ : Rho} {ts : TA} {E : XK}
theorem run_rule {n : Nat} (ha : Da ts ρ [.raw (.ref p), dN n]) (h1 : 1 ≤ n) (h2 : n ≤ 6) (σ : L2.St) (H : Hp) (Q : VK) (s : Sd H σ ρ) (d : Dice H p L) (q : ∀ v t H', RuleOk n t → Go [p, L] H H' → Dice H' p L → At H' v (dRule t) → Q v H') : tCall spRule [] E ts σ H Q :=
  ha σ H _ s fun vs H1 g1 a1 => by
    cases a1 with
    | cons a1 a2 =>
      cases a2 with
      | cons a2 a3 =>
        cases a3
        cases a1
        exact ⟨p, L, n, by rw [a2.int_inv]; rfl, d.go0 g1, h1, h2, fun v t H' hp g d' a => q v t H' hp (g1.wide.transS g) d' a⟩
/-- edit(dice, now): an edit that may be done -/
def spEdit : Sp := fun vs H Q _ => ∃ p L v s n m, vs = [.ref p, v] ∧ Dice H p L ∧ At H v (dNow s) ∧ Inv n m s ∧ m ≤ 100 ∧ ∀ v' e H', Val n s e → Go [p, L] H H' → Dice H' p L → At H' v' (dEd e) → Q v' H'
theorem u_L_edit (T : Tx K mg) : Use P w K mg base "_law_edit" 4 ["_law_dice_here", "_law_now"] spEdit := by
  have scN := (⟨rfl, rfl, rfl, by decide +kernel, rfl, by decide +kernel, by decide +kernel⟩ : FnScope ["_law_dice_here", "_law_now", "_law_table", "_law_came", "_law_done_here", "_law_way", "_law_lanes"] ["_law_dice_here", "_law_now"] (defScope s_L_edit))
  refine mk_use T.f_L_edit T.glo_L_edit scN (fun kV doc pm an cdv ct us hl => match us, hl with | [_, _], _ => rfl) (fun vs H Q E ⟨p, L, v, s, n, m, e, _⟩ => by rw [e]; rfl) fun cdv A outer s0 H vs Q E hr ⟨p, L, v, s, n, m, e1, hd, ha, I, hm, q⟩ => ?_
  subst e1
  refine ⟨_, (pss_cons (ps_asg (pe_slice (sl_tupK (K := K)) (pv 1) po_none (po_some pe_int)) (pg_tup rfl (pgs_cons (pg_name (i := 2) scN.nd rfl (Or.inl rfl)) (pgs_cons (pg_name (i := 3) scN.nd rfl (Or.inl rfl)) (pgs_cons (pg_name (i := 4) scN.nd rfl (Or.inl rfl)) pgs_nil))))) (pss_cons (ps_par (i := 5) (j := 6) rfl scN.nd rfl rfl (by decide) rfl rfl (pa_cons (pe_use (u_L_roll T) hr (by decide) rfl (pa_cons (pv 0) (pa_cons pe_int pa_nil))) (pa_cons (pe_op op_sub (pe_callB (call_lenK (K := K)) (by rfl) T.free_len PySem.boot_len (pa_cons (pv 2) pa_nil)) pe_int) pa_nil)) (by rfl)) (pss_cons (ps_if (pt_cmpR op_eq (pv 5) pe_int (nomark _)) (pss_one (ps_ret (pe_tup (pa_cons pe_str (pa_cons (pe_use (u_L_rule T) hr (by decide) rfl (pa_cons (pv 0) (pa_cons (pv 6) pa_nil))) pa_nil))))) pss_nil) (pss_cons (ps_if (PW.pt (pw_or (PW.pt (pw_and (pt_cmpR op_lt (pv 5) pe_int (nomark _)) (pw_and1 (pt_cmpR op_lt (pe_callB (call_lenK (K := K)) (by rfl) T.free_len PySem.boot_len (pa_cons (pv 3) pa_nil)) pe_int (nomark _))))) (pw_or1 (pt_cmpR op_eq (pe_callB (call_lenK (K := K)) (by rfl) T.free_len PySem.boot_len (pa_cons (pv 3) pa_nil)) (pe_callB (call_lenK (K := K)) (by rfl) T.free_len PySem.boot_len (pa_cons (pv 4) pa_nil)) (nomark _))))) (pss_one (ps_ret (pe_tup (pa_cons pe_str (pa_cons (pe_use (u_L_roll T) hr (by decide) rfl (pa_cons (pv 0) (pa_cons (pv 6) pa_nil))) pa_nil))))) pss_nil) (pss_one (ps_ret (pe_tup (pa_cons pe_str pa_nil)))))))), ?_⟩
  have hS : Sd H _ (startD ["_law_dice_here", "_law_now", "_law_table", "_law_came", "_law_done_here", "_law_way", "_law_lanes"] [.raw (.ref p), dNow s]) := Sd.start (.cons (.raw _) (.cons ha .nil)) ["_law_dice_here", "_law_now", "_law_table", "_law_came", "_law_done_here", "_law_way", "_law_lanes"]
  have hl := I.rule.len
  have h1 := I.rule.pos
  have h2 := I.rule.top
  have hdl := length_sub I.nd I.dlt
  refine (dn_asgT (Dv.to (dv_sl3 (ds := nowL s) (j := 3) (dv_var rfl) (dv_cN rfl) (by show 3 < 6; decide)) rfl) (dg_tup (ds := [dRule s.t, dNs s.came, dNs s.done]) (dgs_cons dg_name (dgs_cons dg_name (dgs_cons dg_name dgs_nil))) rfl)) _ H _ hS fun σ1 H1 g1 s1 => ?_
  have hd1 := hd.go0 g1
  have hR : ∀ {S}, AvR S (((((startD ["_law_dice_here", "_law_now", "_law_table", "_law_came", "_law_done_here", "_law_way", "_law_lanes"] [.raw (.ref p), dNow s]).set 2 (some (dRule s.t))).set 3 (some (dNs s.came))).set 4 (some (dNs s.done)))) := avr_cons (.raw _) (avr_cons av_Now (avr_cons av_R (avr_cons av_Ns (avr_cons av_Ns (avr_none (avr_none avr_nil))))))
  refine run_roll (da_cons (dv_var rfl) (da_cons (dv_cN (n := 8) rfl) da_nil)) (by decide) (by decide) _ H1 _ s1 hd1 fun k H2 hk g2 hd2 => ?_
  have s2 := s1.goS g2 hR
  refine (dv_op (rd_subN (by omega)) (dv_lenR (ru := s.t) (dv_var rfl)) (dv_cN (n := 1) rfl)) _ H2 _ s2 fun v2 H3 g3 a3 => ?_
  refine ⟨_, _, rfl, ?_⟩
  have s3 := ((s2.go g3).set (i := 5) (.int (k : Int))).set (i := 6) a3
  rw [show s.t.length - 1 = n by omega] at s3
  have hd3 := hd2.go0 g3
  have gg : Go [p, L] H H3 := (g1.wide.transS g2).transS g3.wide
  clear hS s1 s2
  have hR3 : ∀ {S}, AvR S (((((((startD ["_law_dice_here", "_law_now", "_law_table", "_law_came", "_law_done_here", "_law_way", "_law_lanes"] [.raw (.ref p), dNow s]).set 2 (some (dRule s.t))).set 3 (some (dNs s.came))).set 4 (some (dNs s.done))).set 5 (some (dN k))).set 6 (some (dN n)))) := avr_cons (.raw _) (avr_cons av_Now (avr_cons av_R (avr_cons av_Ns (avr_cons av_Ns (avr_cons av_N (avr_cons av_N avr_nil))))))
  generalize (σ1.set 5 (some (V.int (k : Int)))).set 6 (some v2) = σ3 at s3 ⊢
  by_cases k7 : k = 7
  · refine (dt_test (dv_op rd_eqN (dv_var (d := dN k) rfl) (dv_cN (n := 7) rfl))) σ3 H3 _ s3 fun H4 g4 => ?_
    rw [decide_eq_true k7]
    refine iteT ?_
    refine run_rule (da_cons (dv_var rfl) (da_cons (dv_var (d := dN n) rfl) da_nil)) h1 h2 σ3 H4 _ (s3.go g4) (hd3.go0 g4) fun v4 t H5 hR5 g5 hd5 a5 => ?_
    refine ⟨by show 2 ≤ sizeLine; decide, fun b hb => ?_⟩
    have g6 : Go [] H5 (upd H5 b (.tup [.str "change", v4])) := Go.new hb
    exact q (.ref b) (.chg t) _ hR5 (((gg.transS g4.wide).transS g5).transS g6.wide) (hd5.go0 g6) (.tup (.inl upd_same) (.cons (.str _) (.cons (a5.go g6) .nil)))
  · refine (dt_test (dv_op rd_eqN (dv_var (d := dN k) rfl) (dv_cN (n := 7) rfl))) σ3 H3 _ s3 fun H4 g4 => ?_
    rw [decide_eq_false k7]
    refine iteF ?_
    have s4 := s3.go g4
    refine (dt_or (dt_and (dt_test (dv_op rd_ltN (dv_var (d := dN k) rfl) (dv_cN (n := 4) rfl))) fun _ => dt_test (dv_op rd_ltN (dv_lenN (ns := s.came) (dv_var rfl)) (dv_cN (n := 40) rfl))) fun _ => dt_test (dv_op rd_eqN (dv_lenN (ns := s.came) (dv_var rfl)) (dv_lenN (ns := s.done) (dv_var rfl)))) σ3 H4 _ s4 fun H5 g5 => ?_
    have s5 := s4.go g5
    have hd5 := (hd3.go0 g4).go0 g5
    have gg5 := gg.transS (g4.trans g5).wide
    cases hb : (decide (k < 4) && decide (s.came.length < 40) || decide (s.came.length = s.done.length)) with
    | true =>
      refine iteT ?_
      refine run_roll (da_cons (dv_var rfl) (da_cons (dv_var (d := dN n) rfl) da_nil)) h1 (by omega) σ3 H5 _ s5 hd5 fun l H6 hl6 g6 hd6 => ?_
      refine ⟨by show 2 ≤ sizeLine; decide, fun b hb => ?_⟩
      have g7 : Go [] H6 (upd H6 b (.tup [.str "come", vN l])) := Go.new hb
      exact q (.ref b) (.come l) _ hl6 ((gg5.transS g6).transS g7.wide) (hd6.go0 g7) (.tup (.inl upd_same) (.cons (.str _) (.cons (.int _) .nil)))
    | false =>
      refine iteF ?_
      refine ⟨by show 1 ≤ sizeLine; decide, fun b hb' => ?_⟩
      have g7 : Go [] H5 (upd H5 b (.tup [.str "go"])) := Go.new hb'
      refine q (.ref b) .go _ ?_ (gg5.transS g7.wide) (hd5.go0 g7) (.tup (.inl upd_same) (.cons (.str _) .nil))
      show s.done.length < s.came.length
      rw [Bool.or_eq_false_iff] at hb
      have := of_decide_eq_false hb.2
      omega
theorem run_edit {s : Sc} {n m : Nat} (ha : Da ts ρ [.raw (.ref p), dNow s]) (I : Inv n m s) (hm : m ≤ 100) (σ : L2.St) (H : Hp) (Q : VK) (sd : Sd H σ ρ) (d : Dice H p L) (q : ∀ v e H', Val n s e → Go [p, L] H H' → Dice H' p L → At H' v (dEd e) → Q v H') : tCall spEdit [] E ts σ H Q :=
  ha σ H _ sd fun vs H1 g1 a1 => by
    cases a1 with
    | cons a1 a2 =>
      cases a2 with
      | cons a2 a3 =>
        cases a3
        cases a1
        exact ⟨p, L, _, s, n, m, rfl, d.go0 g1, a2, I, hm, fun v e H' hp g d' a => q v e H' hp (g1.wide.transS g) d' a⟩
theorem rd_ixEndL {a : Addr} {ds : List D} {d : D} (h : ds.getLast? = some d) : Rd2 (rIxL K) (.lst a ds) (.int (-1)) d := rd_pure fun x y H Q a1 a2 q => by
  rw [a2.int_inv]
  cases a1 with
  | lst h1 h2 =>
    rename_i xs
    obtain ⟨ys, rfl⟩ := List.getLast?_eq_some_iff.mp h
    have hd : (ys ++ [d])[ys.length]? = some d := by simp
    obtain ⟨v, e1, k⟩ := h2.get hd
    have hl : xs.length = ys.length + 1 := by rw [h2.length]; simp
    refine ⟨a, xs, _, v, rfl, rfl, SqL.of h1, atI_neg1 (xs := xs) ?_, q v k⟩
    rw [List.getLast?_eq_getElem?, hl]
    exact e1
/-- planned(dice, table, count): [the edits, the state behind them] -/
def spPlan : Sp := fun vs H Q _ => ∃ p L v t n count, vs = [.ref p, v, vN count] ∧ Dice H p L ∧ At H v (dRule t) ∧ RuleOk n t ∧ count ≤ 30 ∧
  ∀ R B es H', ValS n (first t) es → es.length = count → Go [p, L] H H' → Dice H' p L → H B = none → At H' (.ref R) (.lst R [.lst B (dEds es), dNow (steps (first t) es)]) → Q (.ref R) H'
theorem u_L_planned (T : Tx K mg) : Use P w K mg base "_law_planned" 5 ["_law_dice_here", "_law_table", "_law_count"] spPlan := by
  have scN := (⟨rfl, rfl, rfl, by decide +kernel, rfl, by decide +kernel, by decide +kernel⟩ : FnScope ["_law_dice_here", "_law_table", "_law_count", "_law_turn", "_law_edits", "_law_now"] ["_law_dice_here", "_law_table", "_law_count"] (defScope s_L_planned))
  refine mk_use T.f_L_planned T.glo_L_planned scN (fun kV doc pm an cdv ct us hl => match us, hl with | [_, _, _], _ => rfl) (fun vs H Q E ⟨p, L, v, t, n, count, e, _⟩ => by rw [e]; rfl) fun cdv A outer s0 H vs Q E hr ⟨p, L, v, t, n, count, e1, hd, ha, R, hc, q⟩ => ?_
  subst e1
  refine ⟨_, (pss_cons (ps_par (i := 4) (j := 5) rfl scN.nd rfl rfl (by decide) rfl rfl (pa_cons (pe_lst pa_nil) (pa_cons (pe_use (u_L_first T) hr (by decide) rfl (pa_cons (pv 1) (pa_cons (pe_tup pa_nil) pa_nil))) pa_nil)) (by rfl)) (pss_cons (ps_for PassesOwn.never rfl (pi_range1 rfl T.free_range (pa_cons (pv 2) pa_nil)) (pg_name (i := 3) scN.nd rfl (Or.inl rfl)) (pss_cons (ps_expr (pe_bm PySem.F.plainAttrs_list PySem.F.slot_list_append PySem.F.type_list_append mt_append (pv 4) (pa_cons (pe_use (u_L_edit T) hr (by decide) rfl (pa_cons (pv 0) (pa_cons (pv 5) pa_nil))) pa_nil))) (pss_one (ps_set (i := 5) scN.nd rfl (Or.inl rfl) (pe_ix (ix_listK (K := K)) (pe_use (u_L_after T) hr (by decide) rfl (pa_cons (pv 5) (pa_cons (pe_ix (ix_listK (K := K)) (pv 4) (pe_un un_neg pe_int) (fun _ _ => rfl)) (pa_cons pe_non pa_nil)))) pe_int (fun _ _ => rfl)))))) (pss_one (ps_ret (pe_lst (pa_cons (pv 4) (pa_cons (pv 5) pa_nil))))))), ?_⟩
  have hS : Sd H _ (startD ["_law_dice_here", "_law_table", "_law_count", "_law_turn", "_law_edits", "_law_now"] [.raw (.ref p), dRule t, dN count]) := Sd.start (.cons (.raw _) (.cons ha (.cons (.int _) .nil))) ["_law_dice_here", "_law_table", "_law_count", "_law_turn", "_law_edits", "_law_now"]
  refine ⟨Nat.zero_le _, fun B hB => ?_⟩
  have g1 : Go [] H (upd H B (.lst [])) := Go.new hB
  have hB1 : (upd H B (.lst [])) B = some (.lst []) := upd_same
  generalize upd H B (.lst []) = H1 at g1 hB1 ⊢
  refine (dv_call (ds := [dRule t, .tup []]) (d := dNow (first t)) (da_cons (dv_var rfl) (da_cons (dv_tup da_nil (by simp)) da_nil)) ⟨t, n, rfl, R, rfl⟩) _ H1 _ (hS.go g1) fun v2 H2 g2 a2 => ?_
  refine ⟨_, _, rfl, ?_⟩
  have hB2 := g2.at0 hB1
  have g12 := g1.trans g2
  have s2 := ((hS.go g12).set (i := 4) (At.lst (H := H2) (ds := []) hB2 .nil)).set (i := 5) a2
  have hn : p ≠ B ∧ L ≠ B := by
    obtain ⟨cs, r, a, b, _⟩ := hd
    exact ⟨ne_of_none a hB, ne_of_none b hB⟩
  have J0 := inv_first R
  have rw_ : ∀ es : List Ed, AvR [p, L] ((((startD ["_law_dice_here", "_law_table", "_law_count", "_law_turn", "_law_edits", "_law_now"] [.raw (.ref p), dRule t, dN count]).set 4 (some (.lst B (dEds es)))).set 5 (some (dNow (steps (first t) es))))) := fun es => avr_cons (.raw _) (avr_cons av_R (avr_cons av_N (avr_none (avr_cons (.lst (by simp; exact ⟨hn.1.symm, hn.2.symm⟩) av_Eds) (avr_cons av_Now avr_nil)))))
  refine ⟨vN count, rfl, (count : Int), rfl, by omega, by omega, ?_⟩
  rw [Int.toNat_natCast]
  refine for_range (lo := 0) (n := count) (fun i σ' H' => ∃ es, es.length = i ∧ ValS n (first t) es ∧ Sd H' σ' ((((startD ["_law_dice_here", "_law_table", "_law_count", "_law_turn", "_law_edits", "_law_now"] [.raw (.ref p), dRule t, dN count]).set 4 (some (.lst B (dEds es)))).set 5 (some (dNow (steps (first t) es))))) ∧ Dice H' p L ∧ Go [p, L, B] H H') ⟨[], rfl, trivial, s2, hd.go0 g12, g12.wide⟩ ?_ ?_
  · rintro i σ4 H4 hi ⟨es, hes, hv, s4, hd4, g4⟩
    have I4 := J0.steps hv
    have s5 := s4.set (i := 3) (At.int (H := H4) (0 + (i : Int)))
    have hR5 : AvR [p, L] (((((startD ["_law_dice_here", "_law_table", "_law_count", "_law_turn", "_law_edits", "_law_now"] [.raw (.ref p), dRule t, dN count]).set 4 (some (.lst B (dEds es)))).set 5 (some (dNow (steps (first t) es))))).set 3 (some (.int (0 + (i : Int))))) := (rw_ es).set (.int _)
    obtain ⟨x4, e4, k4⟩ := s5.at_ 4 (.lst B (dEds es)) rfl
    cases k4 with
    | lst hx1 hx2 =>
    rename_i xs
    refine ⟨_, e4, .inl ⟨rfl, xs, SqL.of hx1⟩, ?_⟩
    refine run_edit (s := steps (first t) es) (da_cons (dv_var rfl) (da_cons (dv_var rfl) da_nil)) I4 (by omega) _ H4 _ s5 hd4 fun ve e H5 hve g5 hd5 a5 => ?_
    have hx5 : H5 B = some (.lst xs) := g5.kp _ _ hx1 (by simp; exact ⟨hn.1.symm, hn.2.symm⟩)
    have gm : Go [B] H5 (upd H5 B (.lst (xs ++ [ve]))) := Go.mut hx5 (fun z => z)
    refine ⟨B, xs, ve, rfl, rfl, hx5, ?_, ?_⟩
    · rw [hx2.length, List.length_map]; exact Nat.lt_of_le_of_lt (show es.length ≤ 1000 by omega) (by decide)
    have s6 := s5.goS g5 hR5
    have s7 : Sd (upd H5 B (.lst (xs ++ [ve]))) _ ((((((startD ["_law_dice_here", "_law_table", "_law_count", "_law_turn", "_law_edits", "_law_now"] [.raw (.ref p), dRule t, dN count]).set 4 (some (.lst B (dEds es)))).set 5 (some (dNow (steps (first t) es))))).set 3 (some (.int (0 + (i : Int))))).set 4 (some (.lst B (dEds (es ++ [e]))))) := s6.put (i := 4) gm (avr_cons (.raw _) (avr_cons av_R (avr_cons av_N (avr_cons (.int _) (avr_none (avr_cons av_Now avr_nil)))))) e4 (.lst upd_same (by
      show Ats _ _ ((es ++ [e]).map dEd)
      rw [List.map_append]
      exact ((hx2.goS g5 av_Eds).goS gm av_Eds).append (.cons (a5.goS gm av_Ed) .nil)))
    have hd7 := hd5.go gm (by simpa using hn.1) (by simpa using hn.2)
    have g7 : Go [p, L, B] H (upd H5 B (.lst (xs ++ [ve]))) := (g4.transS (g5.mono (by simp))).transS (gm.mono (by simp))
    have hlast : (dEds (es ++ [e])).getLast? = some (dEd e) := by
      show ((es ++ [e]).map dEd).getLast? = _
      rw [List.map_append, List.getLast?_append]; rfl
    have hst : steps (first t) (es ++ [e]) = step (steps (first t) es) e := by rw [steps_append]; rfl
    refine (dv_ixL (f1 := [.non, dNow (step (steps (first t) es) e)]) (j := 1) (dl_call (ds := [dNow (steps (first t) es), dEd e, .non]) (da_cons (dv_var rfl) (da_cons (dv_op (rd_ixEndL hlast) (dv_var rfl) dv_neg1) (da_cons dv_c0 da_nil))) ⟨steps (first t) es, e, n, _, rfl, I4, hve, by omega, rfl⟩) (dv_cN rfl) rfl) _ _ _ s7 fun v8 H8 g8 a8 => ?_
    refine ⟨es ++ [e], by simp [hes], ValS.append hv ⟨hve, trivial⟩, ?_, hd7.go0 g8, g7.transS g8.wide⟩
    rw [hst]
    exact ((s7.go g8).set (i := 5) a8).weak (by
      refine ⟨rfl, fun j d hj => ?_⟩
      match j, hj with
      | 0, hj => exact hj
      | 1, hj => exact hj
      | 2, hj => exact hj
      | 3, hj => cases hj
      | 4, hj => exact hj
      | 5, hj => exact hj)
  · rintro σ4 H4 ⟨es, hes, hv, s4, hd4, g4⟩
    obtain ⟨v4, e4, k4⟩ := s4.at_ 4 (.lst B (dEds es)) rfl
    obtain ⟨v5, e5, k5⟩ := s4.at_ 5 (dNow (steps (first t) es)) rfl
    refine ⟨_, e4, _, e5, by show 2 ≤ sizeLine; decide, fun b hb => ?_⟩
    have g6 : Go [] H4 (upd H4 b (.lst [v4, v5])) := Go.new hb
    refine q b B es _ hv hes ?_ (hd4.go0 g6) hB (.lst upd_same (.cons (k4.go g6) (.cons (k5.go g6) .nil)))
    have g7 : Go [p, L, B] H (upd H4 b (.lst [v4, v5])) := g4.transS g6.wide
    refine ⟨fun a o' h n => g7.kp a o' h ?_, g7.tk⟩
    have e1 : a ≠ B := ne_of_none h hB
    simp at n ⊢
    exact ⟨n.1, n.2, e1⟩
end
end K70
set_option Elab.async false
set_option linter.all false
set_option maxRecDepth 100000
set_option maxHeartbeats 4000000
namespace K70
open PySem PySem.Spec PyProof.Rows L2
local macro_rules | `(tactic| walk_at "d1") => `(tactic| first
  | ((with_reducible refine' dv_var ?hh); (case hh => exact rfl))
  | with_reducible exact dv_cS
  | with_reducible exact dv_cB
  | with_reducible exact dv_c0
  | ((with_reducible refine' dv_cN ?hh); (case hh => exact rfl))
  | with_reducible exact dv_neg1
  | with_reducible exact dv_cI
  | with_reducible exact da_nil
  | with_reducible refine' da_cons ?_ ?_
  | with_reducible refine' da_starT ?_ ?_
  | with_reducible refine' da_starL ?_ ?_
  | with_reducible refine' dv_op rd_addN ?_ ?_
  | with_reducible refine' dv_op (rd_subN ?_) ?_ ?_
  | with_reducible refine' dv_op rd_ltN ?_ ?_
  | with_reducible refine' dv_op rd_leN ?_ ?_
  | with_reducible refine' dv_op rd_gtN ?_ ?_
  | with_reducible refine' dv_op rd_eqN ?_ ?_
  | with_reducible refine' dv_op rd_neN ?_ ?_
  | with_reducible refine' dv_op rd_eqS ?_ ?_
  | with_reducible refine' dv_op rd_in ?_ ?_
  | with_reducible refine' dv_op rd_notin ?_ ?_
  | with_reducible refine' dv_op rd_eq0 ?_ ?_
  | with_reducible refine' dv_op rd_ne0 ?_ ?_
  | with_reducible refine' dt_test ?_
  | with_reducible refine' dt_tB ?_
  | with_reducible exact dt_yes
  | with_reducible refine' dt_not ?_
  | with_reducible refine' dt_and ?_ fun _ => ?_
  | with_reducible refine' dt_or ?_ fun _ => ?_
  | with_reducible refine' dv_andV ?_ fun _ => ?_
  | with_reducible refine' dv_orV ?_ fun _ => ?_
  | with_reducible refine' dv_notV ?_
  | with_reducible refine' dv_chain rd_leN rd_leN ?_ ?_ ?_
  | ((with_reducible refine' dv_lenN (dv_var ?hh)); (case hh => exact rfl))
  | ((with_reducible refine' dv_lenR (dv_var ?hh)); (case hh => exact rfl))
  | with_reducible refine' dv_lenN ?_
  | with_reducible refine' dv_lenR ?_
  | with_reducible refine' dv_max ?_ ?_
  | with_reducible refine' di_tup ?_
  | with_reducible refine' di_lst ?_)
local macro_rules | `(tactic| walk_at "dv") => `(tactic| all_goals (repeat' walk_at "d1"))

section
variable {P : Program} {w : World} {K : PySem.W.Frag} {mg : Str → Option Value} {base : Heap} {C : Addr} {ex : List Str} {hs : List D}
variable {H H' : Hp} {p L q : Addr} {S : List Addr} {ρ : Rho} {ts : TA} {E : XK}
theorem u_L_call (T : Tx K mg) (c : Tc P w K mg base C ex hs) : Use P w K mg base "_law_call" 13 ["_law_crossing", "_law_edit_here"] (spE K C ex hs aOne) := by
  have scN := (⟨rfl, rfl, rfl, by decide +kernel, rfl, by decide +kernel, by decide +kernel⟩ : FnScope ["_law_crossing", "_law_edit_here"] ["_law_crossing", "_law_edit_here"] (defScope s_L_call))
  refine mk_use T.f_L_call T.glo_L_call scN (fun kV doc pm an cdv ct us hl => match us, hl with | [_, _], _ => rfl) (fun vs H Q E ⟨p, ws, es, _, _, _, _, _, _, e, _, _, h, a, _⟩ => by rw [e, List.length_cons, h.length, a]; rfl) fun cdv A outer s0 H vs Q E hr ⟨p, ws, es, d0, s, k, n, m, e, e1, h0, ok, ha, hA, I, hv, hk, q⟩ => ?_
  subst e1
  have hA' : es = [dEd e] := hA
  subst hA'
  have ok1 := ok
  obtain ⟨dx, scs, ks, e2, o⟩ := ok1
  subst e2
  refine ⟨_, (pss_cons (ps_if (pt_cmpR op_eq (pe_ix (ix_tupK (K := K)) (pv 1) pe_int (fun _ _ => rfl)) pe_str (nomark _)) (pss_one (ps_ret (pe_methU (pv 0) c.cl c.me_come (u_Cr_come T c) hr (by decide) (pa_cons (pe_ix (ix_tupK (K := K)) (pv 1) pe_int (fun _ _ => rfl)) pa_nil)))) pss_nil) (pss_one (ps_ret (pe_ifExp (pt_cmpR op_eq (pe_ix (ix_tupK (K := K)) (pv 1) pe_int (fun _ _ => rfl)) pe_str (nomark _)) (pe_meth0U (pv 0) c.cl c.me_go (u_Cr_go T c) hr (by decide)) (pe_methU (pv 0) c.cl c.me_change (u_Cr_change T c) hr (by decide) (pa_cons (pe_ix (ix_tupK (K := K)) (pv 1) pe_int (fun _ _ => rfl)) pa_nil)))))), ?_⟩
  have hS := Sd.start (.cons h0 ha) ["_law_crossing", "_law_edit_here"]
  cases e with
  | come l =>
    refine (dt_test (Dv.to (dv_op (rd_eqS (x := "come") (y := "come")) (dv_op (rd_ix (ds := [.str "come", dN l]) (j := 0) rfl) (dv_var (i := 1) rfl) (dv_cN rfl)) dv_cS) rfl)) _ H _ hS fun H1 g1 => ?_
    refine iteT ?_
    exact run_ed (A := aCome) (e := .come l) (es := [dN l]) (mthO c (by decide +kernel) (by decide +kernel)) (dv_var rfl) ok (da_cons (dv_op (rd_ix (ds := [.str "come", dN l]) (j := 1) rfl) (dv_var rfl) (dv_cN rfl)) da_nil) ⟨l, rfl, rfl⟩ I hv hk _ H1 Q (hS.go g1) fun v H2 d' g2 a b => q v H2 d' (g1.wide.transS g2) a b
  | go =>
    refine (dt_test (Dv.to (dv_op (rd_eqS (x := "go") (y := "come")) (dv_op (rd_ix (ds := [.str "go"]) (j := 0) rfl) (dv_var (i := 1) rfl) (dv_cN rfl)) dv_cS) (congrArg D.bl (by decide +kernel : decide (("go" : Str) = "come") = false)))) _ H _ hS fun H1 g1 => ?_
    refine iteF ?_
    refine (dt_test (Dv.to (dv_op (rd_eqS (x := "go") (y := "go")) (dv_op (rd_ix (ds := [.str "go"]) (j := 0) rfl) (dv_var (i := 1) rfl) (dv_cN rfl)) dv_cS) rfl)) _ H1 _ (hS.go g1) fun H2 g2 => ?_
    refine iteT ?_
    exact run_ed (A := aGo) (e := .go) (es := []) (mthO c (by decide +kernel) (by decide +kernel)) (dv_var rfl) ok da_nil ⟨rfl, rfl⟩ I hv hk _ H2 Q ((hS.go g1).go g2) fun v H3 d' g3 a b => q v H3 d' ((g1.trans g2).wide.transS g3) a b
  | chg t =>
    refine (dt_test (Dv.to (dv_op (rd_eqS (x := "change") (y := "come")) (dv_op (rd_ix (ds := [.str "change", dRule t]) (j := 0) rfl) (dv_var (i := 1) rfl) (dv_cN rfl)) dv_cS) (congrArg D.bl (by decide +kernel : decide (("change" : Str) = "come") = false)))) _ H _ hS fun H1 g1 => ?_
    refine iteF ?_
    refine (dt_test (Dv.to (dv_op (rd_eqS (x := "change") (y := "go")) (dv_op (rd_ix (ds := [.str "change", dRule t]) (j := 0) rfl) (dv_var (i := 1) rfl) (dv_cN rfl)) dv_cS) (congrArg D.bl (by decide +kernel : decide (("change" : Str) = "go") = false)))) _ H1 _ (hS.go g1) fun H2 g2 => ?_
    refine iteF ?_
    exact run_ed (A := aChg) (e := .chg t) (es := [dRule t]) (mthO c (by decide +kernel) (by decide +kernel)) (dv_var rfl) ok (da_cons (dv_op (rd_ix (ds := [.str "change", dRule t]) (j := 1) rfl) (dv_var rfl) (dv_cN rfl)) da_nil) ⟨t, rfl, rfl⟩ I hv hk _ H2 Q ((hS.go g1).go g2) fun v H3 d' g3 a b => q v H3 d' ((g1.trans g2).wide.transS g3) a b
/-- all edits, one by one -/
def spDone (K : PySem.W.Frag) (C : Addr) (ex : List Str) (hs : List D) : Sp := fun vs H Q _ => ∃ q b d0 s k n m es, vs = [.ref q, .ref b] ∧ At H (.ref q) d0 ∧ Cs K C ex hs q d0 s k ∧ At H (.ref b) (.lst b (dEds es)) ∧ Inv n m s ∧ ValS n s es ∧ m + es.length ≤ 39 ∧ k + es.length ≤ 59 ∧
  ∀ H' d', Go [q] H H' → Cs K C ex hs q d' (steps s es) (k + es.length) → At H' (.ref q) d' → Q (.ref q) H'
theorem take_more {α : Type} : ∀ {l : List α} {i : Nat} {x : α}, l[i]? = some x → l.take (i + 1) = l.take i ++ [x]
  | [], i, x, h => by simp at h
  | a :: l, 0, x, h => by
    have e : a = x := Option.some.inj h
    subst e
    rfl
  | a :: l, i + 1, x, h => by
    have ih := take_more (l := l) (i := i) (x := x) h
    show a :: l.take (i + 1) = a :: l.take i ++ [x]
    rw [ih]
    rfl
theorem ValS.at {n : Nat} {s : Sc} {es : List Ed} (v : ValS n s es) {i : Nat} {e : Ed} (h : es[i]? = some e) : ValS n s (es.take i) ∧ Val n (steps s (es.take i)) e := by
  have e1 : es = es.take i ++ (e :: es.drop (i + 1)) := by
    have hl := (List.getElem?_eq_some_iff.mp h)
    obtain ⟨hl, he⟩ := hl
    rw [← he, ← List.drop_eq_getElem_cons hl, List.take_append_drop]
  rw [e1] at v
  exact ⟨v.left, v.right.1⟩
theorem u_L_done (T : Tx K mg) (c : Tc P w K mg base C ex hs) : Use P w K mg base "_law_done" 14 ["_law_crossing", "_law_edits"] (spDone K C ex hs) := by
  have scN := (⟨rfl, rfl, rfl, by decide +kernel, rfl, by decide +kernel, by decide +kernel⟩ : FnScope ["_law_crossing", "_law_edits", "_law_edit_here"] ["_law_crossing", "_law_edits"] (defScope s_L_done))
  refine mk_use T.f_L_done T.glo_L_done scN (fun kV doc pm an cdv ct us hl => match us, hl with | [_, _], _ => rfl) (fun vs H Q E ⟨q, b, _, _, _, _, _, _, e, _⟩ => by rw [e]; rfl) fun cdv A outer s0 H vs Q E hr ⟨q, b, d0, s, k, n, m, es, e1, h0, ok, hb, I, hv, hm, hk, qq⟩ => ?_
  subst e1
  refine ⟨_, (pss_cons (ps_for PassesOwn.never rfl (pi_listK (K := K) (pv 1)) (pg_name (i := 2) scN.nd rfl (Or.inl rfl)) (pss_one (ps_expr (pe_use (u_L_call T c) hr (by decide) rfl (pa_cons (pv 0) (pa_cons (pv 2) pa_nil)))))) (pss_one (ps_ret (pv 0)))), ?_⟩
  have hqb : q ≠ b := by
    obtain ⟨dx, scs, ks, e2, o⟩ := ok
    subst e2
    cases h0 with
    | ob h1 _ _ =>
      cases hb with
      | lst h2 _ => exact ne_of h1 h2 (by intro z; cases z)
  cases hb with
  | lst hb1 hb2 =>
  rename_i xs
  refine ⟨_, rfl, b, rfl, ⟨xs, SqL.of hb1⟩, ?_⟩
  have hlx : xs.length = es.length := by rw [hb2.length]; simp
  refine for_list (xs := xs) (fun i σ' H' => ∃ d' x2, σ' = [some (.ref q), some (.ref b), x2] ∧ At H' (.ref q) d' ∧ Cs K C ex hs q d' (steps s (es.take i)) (k + i) ∧ Go [q] H H') ⟨d0, none, rfl, h0, ok, .refl⟩ (fun i σ' H' _ ⟨_, _, _, _, _, g⟩ => SqL.of (g.kp _ _ hb1 (by simpa using hqb.symm))) ?_ ?_
  · rintro i x σ' H' hx ⟨d', x2, rfl, ha, hc, g⟩
    have hie : i < es.length := by have := (List.getElem?_eq_some_iff.mp hx).1; omega
    obtain ⟨d2, e2, k2⟩ := hb2.getV hx
    rw [List.getElem?_map, List.getElem?_eq_getElem hie] at e2
    have e3 : dEd es[i] = d2 := Option.some.inj e2
    subst e3
    obtain ⟨v1, v2⟩ := hv.at (List.getElem?_eq_getElem hie)
    have I1 := I.steps v1
    have hlt : (es.take i).length ≤ i := by rw [List.length_take]; omega
    refine ⟨_, rfl, _, rfl, ?_⟩
    refine ⟨q, [x], [dEd es[i]], d', steps s (es.take i), k + i, n, m + (es.take i).length, es[i], rfl, ha, hc, .cons (k2.goS g av_Ed) .nil, rfl, ⟨I1, by omega⟩, v2, by omega, fun v H3 d3 g3 hc3 ha3 => ?_⟩
    refine ⟨d3, some x, rfl, ha3, ?_, g.transS g3⟩
    rw [take_more (List.getElem?_eq_getElem hie), steps_append]
    exact hc3
  · rintro σ' H' ⟨d', x2, rfl, ha, hc, g⟩
    refine ⟨_, rfl, qq H' d' g ?_ ha⟩
    rw [hlx, List.take_length] at hc
    exact hc
end
end K70
set_option Elab.async false
set_option linter.all false
set_option maxRecDepth 100000
set_option maxHeartbeats 4000000
namespace K70
open PySem PySem.Spec PyProof.Rows L2
local macro_rules | `(tactic| walk_at "d1") => `(tactic| first
  | ((with_reducible refine' dv_var ?hh); (case hh => exact rfl))
  | with_reducible exact dv_cS
  | with_reducible exact dv_cB
  | with_reducible exact dv_c0
  | ((with_reducible refine' dv_cN ?hh); (case hh => exact rfl))
  | with_reducible exact dv_neg1
  | with_reducible exact dv_cI
  | with_reducible exact da_nil
  | with_reducible refine' da_cons ?_ ?_
  | with_reducible refine' da_starT ?_ ?_
  | with_reducible refine' da_starL ?_ ?_
  | with_reducible refine' dv_op rd_addN ?_ ?_
  | with_reducible refine' dv_op (rd_subN ?_) ?_ ?_
  | with_reducible refine' dv_op rd_ltN ?_ ?_
  | with_reducible refine' dv_op rd_leN ?_ ?_
  | with_reducible refine' dv_op rd_gtN ?_ ?_
  | with_reducible refine' dv_op rd_eqN ?_ ?_
  | with_reducible refine' dv_op rd_neN ?_ ?_
  | with_reducible refine' dv_op rd_eqS ?_ ?_
  | with_reducible refine' dv_op rd_in ?_ ?_
  | with_reducible refine' dv_op rd_notin ?_ ?_
  | with_reducible refine' dv_op rd_eq0 ?_ ?_
  | with_reducible refine' dv_op rd_ne0 ?_ ?_
  | with_reducible refine' dt_test ?_
  | with_reducible refine' dt_tB ?_
  | with_reducible exact dt_yes
  | with_reducible refine' dt_not ?_
  | with_reducible refine' dt_and ?_ fun _ => ?_
  | with_reducible refine' dt_or ?_ fun _ => ?_
  | with_reducible refine' dv_andV ?_ fun _ => ?_
  | with_reducible refine' dv_orV ?_ fun _ => ?_
  | with_reducible refine' dv_notV ?_
  | with_reducible refine' dv_chain rd_leN rd_leN ?_ ?_ ?_
  | ((with_reducible refine' dv_lenN (dv_var ?hh)); (case hh => exact rfl))
  | ((with_reducible refine' dv_lenR (dv_var ?hh)); (case hh => exact rfl))
  | with_reducible refine' dv_lenN ?_
  | with_reducible refine' dv_lenR ?_
  | with_reducible refine' dv_max ?_ ?_
  | with_reducible refine' di_tup ?_
  | with_reducible refine' di_lst ?_)
local macro_rules | `(tactic| walk_at "dv") => `(tactic| all_goals (repeat' walk_at "d1"))

section
variable {P : Program} {w : World} {K : PySem.W.Frag} {mg : Str → Option Value} {base : Heap} {C : Addr} {ex : List Str} {hs : List D}
variable {H H' : Hp} {p L q : Addr} {S : List Addr} {ρ : Rho} {ts : TA} {E : XK}
theorem first_ok (K : PySem.W.Frag) (t : Rule) : CrOk K [dSc K (first t)] [] (first t) 0 := ⟨rfl, rfl, rfl, fun d hd S => by rw [List.mem_singleton.mp hd]; exact av_Sc, fun d hd => by cases hd⟩
theorem run_mkCr {t : Rule} {n : Nat} (ha : Da ts ρ [dRule t]) (R : RuleOk n t) (σ : L2.St) (H : Hp) (Q : VK) (s : Sd H σ ρ) (k : ∀ q H' d', Go [] H H' → H q = none → Cs K (He.ga K "Crossing") [] [] q d' (first t) 0 → At H' (.ref q) d' → Q (.ref q) H') : tMake (He.ga K "Crossing") (spCrInit K (He.ga K "Crossing")) [] E ts σ H Q :=
  ha σ H _ s fun vs H1 g1 a1 => fun x dx hx hdx hne => by
    cases a1 with
    | cons a1 a2 =>
      cases a2
      have hx2 : upd H1 dx (.own x) x = none := by rw [upd_ne (Ne.symm hne)]; exact hx
      have g2 : Go [] H1 (upd (upd H1 dx (.own x)) x (.ins (He.ga K "Crossing") dx [])) := (Go.new hdx).trans (Go.new hx2)
      refine ⟨x, dx, _, t, n, rfl, upd_same, a1.go g2, R, fun H' g3 a => ⟨rfl, ?_⟩⟩
      exact k x H' _ (g1.trans (g2.loc hx g3)) (g1.free hx) ⟨dx, _, _, rfl, first_ok K t⟩ a
/-- the crossing of one lane -/
theorem single_append : ∀ a b : List Ed, single (a ++ b) = single a ++ single b
  | [], _ => rfl
  | .come _ :: a, b => by show Ed.come 0 :: single (a ++ b) = Ed.come 0 :: (single a ++ single b); rw [single_append a b]
  | .go :: a, b => by show Ed.go :: single (a ++ b) = Ed.go :: (single a ++ single b); rw [single_append a b]
  | .chg _ :: a, b => single_append a b
def relSingle (ds : List D) (d : D) : Prop := ∃ b es t n, ds = [.lst b (dEds es)] ∧ RuleOk n t ∧ ValS n (first t) es ∧ es.length ≤ 38 ∧ d = .bl true
theorem u_L_single_right (T : Tx K mg) (c : Tc P w K mg base (He.ga K "Crossing") [] []) : Use P w K mg base "_law_single_right" 13 ["_law_edits"] (spP relSingle) := by
  have scN := (⟨rfl, rfl, rfl, by decide +kernel, rfl, by decide +kernel, by decide +kernel⟩ : FnScope ["_law_edits", "_law_crossing", "_law_edit_here"] ["_law_edits"] (defScope s_L_single_right))
  refine mk_pure T.f_L_single_right T.glo_L_single_right scN (fun kV doc pm an cdv ct us hl => match us, hl with | [_], _ => rfl) (fun ds d ⟨_, _, _, _, e, _⟩ => by rw [e]; rfl) fun cdv A outer s0 H E ds d hr ⟨b, es, t, n, e1, R, hv, hlen, e2⟩ => ?_
  subst e1 e2
  refine ⟨_, (pss_cons (ps_set (i := 1) scN.nd rfl (Or.inl rfl) (pe_makeU T.mkr_Crossing (u_Cr_init T) hr (by decide) rfl T.glo_Crossing (pa_cons (pe_tup (pa_cons (pe_tup (pa_cons pe_int pa_nil)) (pa_cons (pe_tup (pa_cons pe_int pa_nil)) pa_nil))) pa_nil))) (pss_cons (ps_for PassesOwn.never rfl (pi_listK (K := K) (pv 0)) (pg_name (i := 2) scN.nd rfl (Or.inl rfl)) (pss_one (ps_if (pt_cmpR op_eq (pe_ix (ix_tupK (K := K)) (pv 2) pe_int (fun _ _ => rfl)) pe_str (nomark _)) (pss_one (ps_expr (pe_methU (pv 1) c.cl c.me_come (u_Cr_come T c) hr (by decide) (pa_cons pe_int pa_nil)))) (pss_one (ps_if (pt_cmpR op_eq (pe_ix (ix_tupK (K := K)) (pv 2) pe_int (fun _ _ => rfl)) pe_str (nomark _)) (pss_one (ps_expr (pe_meth0U (pv 1) c.cl c.me_go (u_Cr_go T c) hr (by decide)))) pss_nil))))) (pss_one (ps_ret (pe_cmpR (op_eqDK (K := K) hr.units) (pe_callTy (call_listK (K := K)) (by rfl) T.free_list (by decide +kernel) (pa_cons (pe_op (op_catK (K := K)) (pe_meth0U (pv 1) c.cl c.me_passed (u_Cr_passed T c) hr (by decide)) (pe_meth0U (pv 1) c.cl c.me_waiting (u_Cr_waiting T c) hr (by decide))) pa_nil)) (pe_listRg rfl rfl T.free_list (prg_1 rfl T.free_range (pe_propU (pv 1) c.cl c.pr_cars.choose_spec (u_Cr_cars T c) hr (by decide)))) (nomark _)))))), fun σ H Q s q => ?_⟩
  have J := inv_first R
  have J1 := inv_first one_ok
  have v1 : ValS 1 (first one) (single es) := single_val J J1 rfl rfl hv
  refine r_seq (r_asg ?_)
  refine run_mkCr (K := K) (t := one) (n := 1) (da_cons (Dv.to (dv_tup (da_cons (dv_tup (da_cons (dv_cN (k := 0) (n := 0) rfl) da_nil) (by simp)) (da_cons (dv_tup (da_cons (dv_cN (k := 0) (n := 0) rfl) da_nil) (by simp)) da_nil)) (by simp)) rfl) da_nil) one_ok σ H _ s fun cr H1 d1 g1 hcr hc1 ha1 => ?_
  obtain ⟨x0, e0, k0⟩ := (s.go g1).at_ 0 _ rfl
  have s1 := (s.go g1).set (i := 1) ha1
  cases k0 with
  | lst hb1 hb2 =>
  rename_i xs
  have hx0 : (σ.set 1 (some (V.ref cr)))[0]? = some (some (V.ref b)) := by rw [List.getElem?_set_ne (by decide)]; exact e0
  refine ⟨_, hx0, b, rfl, ⟨xs, SqL.of hb1⟩, ?_⟩
  have hlx : xs.length = es.length := by rw [hb2.length]; simp
  have hbq : b ≠ cr := by
    obtain ⟨dx, scs, ks, e2, o⟩ := hc1
    subst e2
    cases ha1 with
    | ob h1 _ _ => exact ne_of hb1 h1 (by intro z; cases z)
  have hAv : ∀ S, cr ∈ S → S = [cr] → AvR S (startD ["_law_edits", "_law_crossing", "_law_edit_here"] [.lst b (dEds es)]) := fun S _ e => by
    subst e
    exact avr_cons (.lst (by simpa using hbq) av_Eds) (avr_none (avr_none avr_nil))
  refine for_list (xs := xs) (fun i σ' H' => ∃ d', Sd H' σ' ((startD ["_law_edits", "_law_crossing", "_law_edit_here"] [.lst b (dEds es)]).set 1 (some d')) ∧ Cs K (He.ga K "Crossing") [] [] cr d' (steps (first one) (single (es.take i))) (single (es.take i)).length ∧ Go [cr] H1 H') ⟨d1, s1, hc1, .refl⟩ (fun i σ' H' _ ⟨_, _, _, g⟩ => SqL.of (g.kp _ _ hb1 (by simpa using hbq))) ?_ ?_
  · rintro i x σ' H' hx ⟨d', s', hc', g'⟩
    have hie : i < es.length := by have := (List.getElem?_eq_some_iff.mp hx).1; omega
    obtain ⟨d2, e2, k2⟩ := hb2.getV hx
    rw [List.getElem?_map, List.getElem?_eq_getElem hie] at e2
    have e3 : dEd es[i] = d2 := Option.some.inj e2
    subst e3
    have s2 := s'.set (i := 2) (k2.goS g' av_Ed)
    have hsp : single (es.take (i + 1)) = single (es.take i) ++ single [es[i]] := by rw [take_more (List.getElem?_eq_getElem hie), single_append]
    have hvp : ValS 1 (first one) (single (es.take (i + 1))) := by
      have : single es = single (es.take (i + 1)) ++ single (es.drop (i + 1)) := by rw [← single_append, List.take_append_drop]
      rw [this] at v1
      exact v1.left
    rw [hsp] at hvp
    have I1 := J1.steps hvp.left
    have hlt : (single (es.take i)).length ≤ 38 := Nat.le_trans (single_len _) (by rw [List.length_take]; omega)
    have hr2 := hvp.right
    have wk : ∀ (d'' : D) (x : Option D), Le (((startD ["_law_edits", "_law_crossing", "_law_edit_here"] [.lst b (dEds es)]).set 1 (some d'')).set 2 x) ((startD ["_law_edits", "_law_crossing", "_law_edit_here"] [.lst b (dEds es)]).set 1 (some d'')) := fun d'' x => Le.set rfl
    have fin : ∀ (e' : Ed) (d'' : D) (H3 : Hp), single [es[i]] = [e'] → Go [cr] H' H3 → Cs K (He.ga K "Crossing") [] [] cr d'' (step (steps (first one) (single (es.take i))) e') ((single (es.take i)).length + 1) → At H3 (.ref cr) d'' → ∃ d', Sd H3 (σ'.set 2 (some x)) ((startD ["_law_edits", "_law_crossing", "_law_edit_here"] [.lst b (dEds es)]).set 1 (some d')) ∧ Cs K (He.ga K "Crossing") [] [] cr d' (steps (first one) (single (es.take (i + 1)))) (single (es.take (i + 1))).length ∧ Go [cr] H1 H3 := fun e' d'' H3 he g3 hc3 ha3 => by
      refine ⟨d'', ?_, ?_, g'.transS g3⟩
      · have sw := s'.weak (ρ' := startD ["_law_edits", "_law_crossing", "_law_edit_here"] [.lst b (dEds es)]) (Le.set rfl)
        have s3 := sw.goS g3 (hAv [cr] (by simp) rfl)
        obtain ⟨y, ey, ky⟩ := s'.at_ 1 _ rfl
        have := hc'.ref ky
        subst this
        have s4 := (s3.set (i := 1) ha3)
        have e5 : σ'.set 1 (some (V.ref cr)) = σ' := by
          apply List.ext_getElem?
          intro j
          by_cases hj : 1 = j
          · subst hj
            rw [ey, List.getElem?_set_self ((List.getElem?_eq_some_iff.mp ey).1)]
          · rw [List.getElem?_set_ne hj]
        rw [e5] at s4
        have s5 := s4.set (i := 2) (At.raw (H := H3) x)
        exact s5.weak (Le.set rfl)
      · rw [hsp, he, steps_append, List.length_append]
        exact hc3
    generalize hee : es[i] = e at *
    obtain ⟨dx, scs, ks, e4, o4⟩ := id hc'
    subst e4
    cases e with
    | come l =>
      refine (dt_test (Dv.to (dv_op (rd_eqS (x := "come") (y := "come")) (dv_op (rd_ix (ds := [.str "come", dN l]) (j := 0) rfl) (dv_var (i := 2) rfl) (dv_cN rfl)) dv_cS) rfl)) _ H' _ s2 fun H2 g2 => ?_
      refine iteT ?_
      refine run_ed (A := aCome) (e := .come 0) (es := [dN 0]) (mthO c (by decide +kernel) (by decide +kernel)) (dv_var rfl) hc' (da_cons (dv_cN rfl) da_nil) ⟨0, rfl, rfl⟩ (n := 1) (m' := _) ⟨I1, by omega⟩ hr2.1 (by omega) _ H2 _ (s2.go g2) fun v H3 d'' g3 hc3 ha3 => ?_
      exact fin (.come 0) d'' H3 rfl (g2.wide.transS g3) hc3 ha3
    | go =>
      refine (dt_test (Dv.to (dv_op (rd_eqS (x := "go") (y := "come")) (dv_op (rd_ix (ds := [.str "go"]) (j := 0) rfl) (dv_var (i := 2) rfl) (dv_cN rfl)) dv_cS) (congrArg D.bl (by decide +kernel : decide (("go" : Str) = "come") = false)))) _ H' _ s2 fun H2 g2 => ?_
      refine iteF ?_
      refine (dt_test (Dv.to (dv_op (rd_eqS (x := "go") (y := "go")) (dv_op (rd_ix (ds := [.str "go"]) (j := 0) rfl) (dv_var (i := 2) rfl) (dv_cN rfl)) dv_cS) rfl)) _ H2 _ (s2.go g2) fun H3 g3 => ?_
      refine iteT ?_
      refine run_ed (A := aGo) (e := .go) (es := []) (mthO c (by decide +kernel) (by decide +kernel)) (dv_var rfl) hc' da_nil ⟨rfl, rfl⟩ (n := 1) (m' := _) ⟨I1, by omega⟩ hr2.1 (by omega) _ H3 _ ((s2.go g2).go g3) fun v H4 d'' g4 hc3 ha3 => ?_
      exact fin .go d'' H4 rfl ((g2.trans g3).wide.transS g4) hc3 ha3
    | chg t =>
      refine (dt_test (Dv.to (dv_op (rd_eqS (x := "change") (y := "come")) (dv_op (rd_ix (ds := [.str "change", dRule t]) (j := 0) rfl) (dv_var (i := 2) rfl) (dv_cN rfl)) dv_cS) (congrArg D.bl (by decide +kernel : decide (("change" : Str) = "come") = false)))) _ H' _ s2 fun H2 g2 => ?_
      refine iteF ?_
      refine (dt_test (Dv.to (dv_op (rd_eqS (x := "change") (y := "go")) (dv_op (rd_ix (ds := [.str "change", dRule t]) (j := 0) rfl) (dv_var (i := 2) rfl) (dv_cN rfl)) dv_cS) (congrArg D.bl (by decide +kernel : decide (("change" : Str) = "go") = false)))) _ H2 _ (s2.go g2) fun H3 g3 => ?_
      refine iteF ?_
      refine ⟨_, ((s2.go g2).go g3).weak (Le.set rfl), ?_, g'.transS (g2.trans g3).wide⟩
      rw [hsp, show single [Ed.chg t] = [] from rfl, List.append_nil]
      exact hc'
  · rintro σ' H' ⟨d', s', hc', g'⟩
    rw [hlx, List.take_length] at hc'
    obtain ⟨dx, scs, ks, e4, o4⟩ := id hc'
    subst e4
    have Iu := J1.steps v1
    have hlt : (single es).length ≤ 38 := Nat.le_trans (single_len _) hlen
    have hmany := Iu.many
    have ord := one_order Iu (lane_steps (l := 0) J1 v1 (lane_first one 0))
    have hwl := wait_len (steps (first one) (single es)).came (steps (first one) (single es)).done
    have hcl : (steps (first one) (single es)).came.length ≤ 100 := by omega
    have hdl := length_sub Iu.nd Iu.dlt
    refine (dv_opLL (fun a1 a2 => rd_eqSame (p := .list ((List.range (steps (first one) (single es)).came.length).map fun k : Nat => PyData.int (k : Int))) (cm_lst (cms_N _)) (cm_lst (cms_N _))) (DvL.to (dl_listT (dv_op (rd_catT (ds := (steps (first one) (single es)).done.map dN) (es := (waiting (steps (first one) (single es)).came (steps (first one) (single es)).done).map dN) (by simp; omega)) (dv_methO (dds := [.non]) (mthO c (by decide +kernel) (by decide +kernel)) (dv_var rfl) da_nil (fun _ => .cons .non .nil) ⟨cr, _, _, _, rfl, hc', hcl, rfl⟩) (dv_methO (dds := [.non]) (mthO c (by decide +kernel) (by decide +kernel)) (dv_var rfl) da_nil (fun _ => .cons .non .nil) ⟨cr, _, _, _, rfl, hc', hcl, rfl⟩))) (by rw [← List.map_append, ord])) (dl_range (n := (steps (first one) (single es)).came.length) (dv_prop (dv_var rfl) ⟨cr, _, _, _, rfl, hc', rfl⟩) (by omega))) σ' H' _ s' fun v H2 g2 a2 => ?_
    exact q v H2 ((g1.loc hcr g').trans g2) a2
end
end K70
set_option Elab.async false
set_option linter.all false
set_option maxRecDepth 100000
set_option maxHeartbeats 4000000
namespace K70
open PySem PySem.Spec PyProof.Rows L2
local macro_rules | `(tactic| walk_at "d1") => `(tactic| first
  | ((with_reducible refine' dv_var ?hh); (case hh => exact rfl))
  | with_reducible exact dv_cS
  | with_reducible exact dv_cB
  | with_reducible exact dv_c0
  | ((with_reducible refine' dv_cN ?hh); (case hh => exact rfl))
  | with_reducible exact dv_neg1
  | with_reducible exact dv_cI
  | with_reducible exact da_nil
  | with_reducible refine' da_cons ?_ ?_
  | with_reducible refine' da_starT ?_ ?_
  | with_reducible refine' da_starL ?_ ?_
  | with_reducible refine' dv_op rd_addN ?_ ?_
  | with_reducible refine' dv_op (rd_subN ?_) ?_ ?_
  | with_reducible refine' dv_op rd_ltN ?_ ?_
  | with_reducible refine' dv_op rd_leN ?_ ?_
  | with_reducible refine' dv_op rd_gtN ?_ ?_
  | with_reducible refine' dv_op rd_eqN ?_ ?_
  | with_reducible refine' dv_op rd_neN ?_ ?_
  | with_reducible refine' dv_op rd_eqS ?_ ?_
  | with_reducible refine' dv_op rd_in ?_ ?_
  | with_reducible refine' dv_op rd_notin ?_ ?_
  | with_reducible refine' dv_op rd_eq0 ?_ ?_
  | with_reducible refine' dv_op rd_ne0 ?_ ?_
  | with_reducible refine' dt_test ?_
  | with_reducible refine' dt_tB ?_
  | with_reducible exact dt_yes
  | with_reducible refine' dt_not ?_
  | with_reducible refine' dt_and ?_ fun _ => ?_
  | with_reducible refine' dt_or ?_ fun _ => ?_
  | with_reducible refine' dv_andV ?_ fun _ => ?_
  | with_reducible refine' dv_orV ?_ fun _ => ?_
  | with_reducible refine' dv_notV ?_
  | with_reducible refine' dv_chain rd_leN rd_leN ?_ ?_ ?_
  | ((with_reducible refine' dv_lenN (dv_var ?hh)); (case hh => exact rfl))
  | ((with_reducible refine' dv_lenR (dv_var ?hh)); (case hh => exact rfl))
  | with_reducible refine' dv_lenN ?_
  | with_reducible refine' dv_lenR ?_
  | with_reducible refine' dv_max ?_ ?_
  | with_reducible refine' di_tup ?_
  | with_reducible refine' di_lst ?_)
local macro_rules | `(tactic| walk_at "dv") => `(tactic| all_goals (repeat' walk_at "d1"))

section
variable {P : Program} {w : World} {K : PySem.W.Frag} {mg : Str → Option Value} {base : Heap} {C : Addr} {ex : List Str} {hs : List D}
variable {H H' : Hp} {p L q : Addr} {S : List Addr} {ρ : Rho} {ts : TA} {E : XK}
theorem sql_go {a : Addr} {xs : List V} (g : Go [] H H') (h : SqL K H a xs) : SqL K H' a xs := by
  rcases h with (h | ⟨o, h⟩) | h
  · exact .inl (.inl (g.at0 h))
  · exact .inl (.inr ⟨o, g.at0 h⟩)
  · exact .inr h
def spDice (K : PySem.W.Frag) : Sp := fun vs H Q _ => ∃ (a : Addr) (zs : List Int), vs = [.ref a] ∧ SqL K H a (zs.map V.int) ∧ zs.length ≤ 100 ∧ ∀ p L H', Go [] H H' → Dice H' p L → Q (.ref p) H'
theorem u_L_dice (T : Tx K mg) : Use P w K mg base "_law_dice" 1 ["_law_script"] (spDice K) := by
  have scN := (⟨rfl, rfl, rfl, by decide +kernel, rfl, by decide +kernel, by decide +kernel⟩ : FnScope ["_law_script", "_law_stirred", "_law_cell"] ["_law_script"] (defScope s_L_dice))
  refine mk_use T.f_L_dice T.glo_L_dice scN (fun kV doc pm an cdv ct us hl => match us, hl with | [_], _ => rfl) (fun vs H Q E ⟨a, zs, e, _⟩ => by rw [e]; rfl) fun cdv A outer s0 H vs Q E hr ⟨a, zs, e1, hq, hl, q⟩ => ?_
  subst e1
  refine ⟨_, (pss_cons (ps_set (i := 1) scN.nd rfl (Or.inl rfl) (pe_op op_add pe_int (pe_op op_mul pe_int (pe_callB (call_lenK (K := K)) (by rfl) T.free_len PySem.boot_len (pa_cons (pv 0) pa_nil))))) (pss_cons (ps_for PassesOwn.never rfl (pi_listK (K := K) (pv 0)) (pg_name (i := 2) scN.nd rfl (Or.inl rfl)) (pss_one (ps_set (i := 1) scN.nd rfl (Or.inl rfl) (pe_op op_mod (pe_op op_add (pe_op op_add (pe_op op_mul (pv 1) pe_int) (pe_op op_mod (pe_callB call_abs (by rfl) T.free_abs (by decide +kernel) (pa_cons (pv 2) pa_nil)) pe_int)) pe_int) pe_int)))) (pss_one (ps_ret (pe_lst (pa_cons (pe_lc (own := [("_law_cell", 2)]) (g := gName 2) rfl scN.nd (pi_listK (K := K) (pv 0)) (blkOk_by (N := ["_law_script", "_law_stirred", "_law_cell"]) (sc := defScope s_L_dice) (own := [("_law_cell", 2)]) (by decide +kernel)) (fun _ _ _ _ _ => (pg_name (i := 2) scN.nd rfl (Or.inl rfl))) (fun _ _ _ _ _ => (pts_one (pt_cmpR op_ge (pv 2) (pe_op op_pow pe_int pe_int) (nomark _)))) (fun _ _ _ _ _ => (pv 2))) (pa_cons (pv 1) pa_nil))))))), ?_⟩
  have hlz : (zs.map V.int).length = zs.length := List.length_map ..
  refine ⟨_, rfl, a, _, rfl, .inl hq, ?_⟩
  refine ⟨_, _, rfl, rfl, .inl ⟨by decide, by decide⟩, ?_⟩
  refine ⟨_, _, rfl, rfl, ?_⟩
  refine ⟨_, rfl, a, rfl, ⟨_, hq⟩, ?_⟩
  refine for_list (xs := zs.map V.int) (fun i σ' H' => ∃ r x2, σ' = [some (.ref a), some (.int r), x2] ∧ 0 ≤ r ∧ r < 2305843009213693951 ∧ H' = H) ⟨_, none, rfl, by omega, by rw [hlz]; omega, rfl⟩ (fun i σ' H' _ ⟨_, _, _, _, _, e⟩ => e ▸ hq) ?_ ?_
  · rintro i x σ' H' hx ⟨r, x2, rfl, h0, h1, rfl⟩
    obtain ⟨z, rfl⟩ : ∃ z, x = V.int z := by
      rw [List.getElem?_map] at hx
      cases e : zs[i]? with
      | none => rw [e] at hx; cases hx
      | some z => rw [e] at hx; exact ⟨z, (Option.some.inj hx).symm⟩
    refine ⟨_, rfl, _, _, rfl, rfl, .inr ⟨by decide, by decide⟩, ?_⟩
    refine ⟨_, rfl, _, rfl, ?_⟩
    refine ⟨_, _, rfl, rfl, (by show (0 : Int) < 2147483587; decide), ?_⟩
    refine ⟨_, _, rfl, rfl, ?_⟩
    refine ⟨_, _, rfl, rfl, ?_⟩
    refine ⟨_, _, rfl, rfl, (by show (0 : Int) < 2305843009213693951; decide), ?_⟩
    refine ⟨_, _, rfl, ?_, ?_, rfl⟩
    · exact Int.emod_nonneg _ (by decide)
    · exact Int.emod_lt_of_pos _ (by decide)
  · rintro σ' H' ⟨r, x2, rfl, h0, h1, rfl⟩
    refine ⟨_, rfl, a, rfl, ⟨_, hq⟩, fun D hD => ?_⟩
    refine lc_list (K := K) (a := a) (xs := zs.map V.int) (fun i H2 => ∃ cs : List Int, H2 D = some (.lst (cs.map V.int)) ∧ cs.length ≤ i ∧ (∀ c ∈ cs, 0 ≤ c) ∧ Go [] H' H2) ⟨[], upd_same, Nat.le_refl _, fun _ h => (by cases h), Go.new hD⟩ (fun i H2 _ ⟨_, _, _, _, g⟩ => sql_go g hq) ?_ ?_
    · rintro i x H2 hx ⟨cs, hc, hcl, hc0, g⟩
      obtain ⟨z, rfl⟩ : ∃ z, x = V.int z := by
        rw [List.getElem?_map] at hx
        cases e : zs[i]? with
        | none => rw [e] at hx; cases hx
        | some z => rw [e] at hx; exact ⟨z, (Option.some.inj hx).symm⟩
      have hi : i < zs.length := by have := (List.getElem?_eq_some_iff.mp hx).1; omega
      refine ⟨rfl, _, rfl, _, _, rfl, rfl, ⟨by decide, by decide, by decide⟩, ?_⟩
      refine ⟨_, _, rfl, rfl, _, rfl, ?_⟩
      by_cases hz : ((10 : Int) ^ (18 : Int).toNat ≤ z)
      · rw [decide_eq_true hz]
        refine iteT ⟨_, rfl, _, hc, ?_, cs ++ [z], ?_, ?_, ?_, ?_⟩
        · rw [List.length_map]; exact Nat.lt_of_le_of_lt (show cs.length ≤ 1000 by omega) (by decide)
        · rw [upd_same, List.map_append]; rfl
        · simp; omega
        · intro c hcm
          rcases List.mem_append.mp hcm with h | h
          · exact hc0 c h
          · rw [List.mem_singleton.mp h]
            have : (0 : Int) ≤ (10 : Int) ^ (18 : Int).toNat := by decide
            omega
        · exact g.loc hD (Go.mut hc (fun z => z))
      · rw [decide_eq_false hz]
        exact iteF ⟨cs, hc, by omega, hc0, g⟩
    · rintro H2 ⟨cs, hc, hcl, hc0, g⟩
      refine ⟨_, rfl, by show 2 ≤ sizeLine; decide, fun b hb => ?_⟩
      have g2 : Go [] H2 (upd H2 b (.lst [.ref D, .int r])) := Go.new hb
      refine q b D _ (g.trans g2) ⟨cs, r, upd_same, g2.at0 hc, ⟨(ne_of_none hc hb).symm, hc0, by omega, h0, by omega⟩⟩
end
end K70
set_option Elab.async false
set_option linter.all false
set_option maxRecDepth 100000
set_option maxHeartbeats 4000000
namespace K70
open PySem PySem.Spec PyProof.Rows L2
local macro_rules | `(tactic| walk_at "d1") => `(tactic| first
  | ((with_reducible refine' dv_var ?hh); (case hh => exact rfl))
  | with_reducible exact dv_cS
  | with_reducible exact dv_cB
  | with_reducible exact dv_c0
  | ((with_reducible refine' dv_cN ?hh); (case hh => exact rfl))
  | with_reducible exact dv_neg1
  | with_reducible exact dv_cI
  | with_reducible exact da_nil
  | with_reducible refine' da_cons ?_ ?_
  | with_reducible refine' da_starT ?_ ?_
  | with_reducible refine' da_starL ?_ ?_
  | with_reducible refine' dv_op rd_addN ?_ ?_
  | with_reducible refine' dv_op (rd_subN ?_) ?_ ?_
  | with_reducible refine' dv_op rd_ltN ?_ ?_
  | with_reducible refine' dv_op rd_leN ?_ ?_
  | with_reducible refine' dv_op rd_gtN ?_ ?_
  | with_reducible refine' dv_op rd_eqN ?_ ?_
  | with_reducible refine' dv_op rd_neN ?_ ?_
  | with_reducible refine' dv_op rd_eqS ?_ ?_
  | with_reducible refine' dv_op rd_in ?_ ?_
  | with_reducible refine' dv_op rd_notin ?_ ?_
  | with_reducible refine' dv_op rd_eq0 ?_ ?_
  | with_reducible refine' dv_op rd_ne0 ?_ ?_
  | with_reducible refine' dt_test ?_
  | with_reducible refine' dt_tB ?_
  | with_reducible exact dt_yes
  | with_reducible refine' dt_not ?_
  | with_reducible refine' dt_and ?_ fun _ => ?_
  | with_reducible refine' dt_or ?_ fun _ => ?_
  | with_reducible refine' dv_andV ?_ fun _ => ?_
  | with_reducible refine' dv_orV ?_ fun _ => ?_
  | with_reducible refine' dv_notV ?_
  | with_reducible refine' dv_chain rd_leN rd_leN ?_ ?_ ?_
  | ((with_reducible refine' dv_lenN (dv_var ?hh)); (case hh => exact rfl))
  | ((with_reducible refine' dv_lenR (dv_var ?hh)); (case hh => exact rfl))
  | with_reducible refine' dv_lenN ?_
  | with_reducible refine' dv_lenR ?_
  | with_reducible refine' dv_max ?_ ?_
  | with_reducible refine' di_tup ?_
  | with_reducible refine' di_lst ?_)
local macro_rules | `(tactic| walk_at "dv") => `(tactic| all_goals (repeat' walk_at "d1"))

section
variable {P : Program} {w : World} {K : PySem.W.Frag} {mg : Str → Option Value} {base : Heap} {C : Addr} {ex : List Str} {hs : List D}
variable {H H' : Hp} {p L q : Addr} {S : List Addr} {ρ : Rho} {ts : TA} {E : XK}
abbrev cWa' (K : PySem.W.Frag) : Addr := He.ga K "WatchedCrossing"
theorem u_Wa_overs (T : Tx K mg) (c : Tc P w K mg base C ex hs) : Fn P w K mg base (He5.wf K (He.ga K "WatchedCrossing") "property" "overs") 1 ["self"] [] (spP fun ds d => ∃ p d0 s k, ds = [d0] ∧ Cs K C ex hs p d0 s k ∧ d = dNs s.tops) := by
  have scN := (⟨rfl, rfl, rfl, by decide +kernel, rfl, by decide +kernel, by decide +kernel⟩ : FnScope ["self"] ["self"] (defScope s_WatchedCrossing_overs))
  refine mk_fnP T.f_WatchedCrossing_overs scN (fun kV doc pm an cdv ct us hl => match us, hl with | [_], _ => rfl) (fun ds d ⟨_, _, _, _, e, _⟩ => by rw [e]; rfl) fun cdv A outer s0 H E ds d hr ⟨p, d0, s, k, e1, ⟨dx, scs, ks, e2, ok⟩, e3⟩ => ?_
  subst e1 e2 e3
  refine ⟨_, (pss_one (ps_ret (pe_fldK (K := K) (pe_ix (ix_tupK (K := K)) (pe_fldK (K := K) (pv 0)) (pe_un un_neg pe_int) (fun _ _ => rfl))))), ?_⟩
  exact df_b (db_ret (dv_lastf T c ok T.noat_Scene_tops rfl (dv_var rfl)))
/-- WatchedCrossing.__init__ -/
def spWaInit (K : PySem.W.Frag) : Sp := fun vs H Q _ => ∃ p dx v t n, vs = [.ref p, v, .non] ∧ H p = some (.ins (cWa' K) dx []) ∧ At H v (dRule t) ∧ RuleOk n t ∧
  ∀ H', Go [p] H H' → At H' (.ref p) (.ob p (cWa' K) dx (crN ++ (["height"] : List Str)) [.tup [dSc K (first t)], .tup [], .bl false, .non]) → Q .non H'
abbrev hNon : List D := [.non]
abbrev exW : List Str := ["height"]
theorem run_mkWa {t : Rule} {n : Nat} (ha : Da ts ρ [dRule t]) (R : RuleOk n t) (σ : L2.St) (H : Hp) (Q : VK) (s : Sd H σ ρ) (k : ∀ q H' d', Go [] H H' → H q = none → Cs K (cWa' K) exW hNon q d' (first t) 0 → At H' (.ref q) d' → Q (.ref q) H') : tMake (cWa' K) (spWaInit K) [.non] E ts σ H Q :=
  ha σ H _ s fun vs H1 g1 a1 => fun x dx hx hdx hne => by
    cases a1 with
    | cons a1 a2 =>
      cases a2
      have hx2 : upd H1 dx (.own x) x = none := by rw [upd_ne (Ne.symm hne)]; exact hx
      have g2 : Go [] H1 (upd (upd H1 dx (.own x)) x (.ins (cWa' K) dx [])) := (Go.new hdx).trans (Go.new hx2)
      refine ⟨x, dx, _, t, n, rfl, upd_same, a1.go g2, R, fun H' g3 a => ⟨rfl, ?_⟩⟩
      exact k x H' _ (g1.trans (g2.loc hx g3)) (g1.free hx) ⟨dx, _, _, rfl, first_ok K t⟩ a
theorem rd_neS {x y : Str} : Rd2 rNe (.str x) (.str y) (.bl (!decide (x = y))) := rd_pure fun v u H Q a1 a2 q => by
  rw [a1.str_inv, a2.str_inv]; exact r_neS (q _ (.bl _))
theorem val_each {n : Nat} : ∀ {es : List Ed} {s : Sc}, ValS n s es → ∀ e ∈ es, match e with | .come l => l < n | .go => True | .chg t => RuleOk n t
  | [], _, _, _, h => by cases h
  | x :: es, s, v, e, h => by
    rcases List.mem_cons.mp h with e1 | h
    · subst e1
      have := v.1
      cases e with
      | come l => exact this
      | go => trivial
      | chg t => exact this
    · exact val_each v.2 e h
/-- done(crossing, edits), the crossing new -/
theorem run_done {d0 : D} {b : Addr} {s : Sc} {k n m : Nat} {es : List Ed} {v0 v1 : V} {Q : VK} (h0 : At H v0 d0) (ok : Cs K C ex hs q d0 s k) (h1 : At H v1 (.lst b (dEds es))) (I : Inv n m s) (hv : ValS n s es) (h2 : m + es.length ≤ 39) (h3 : k + es.length ≤ 59)
    (qq : ∀ H' d', Go [q] H H' → Cs K C ex hs q d' (steps s es) (k + es.length) → At H' (.ref q) d' → Q (.ref q) H') : spDone K C ex hs ([v0, v1] ++ []) H Q E := by
  have e0 := ok.ref h0
  subst e0
  have e1 : v1 = .ref b := by cases h1; rfl
  subst e1
  exact ⟨q, b, d0, s, k, n, m, es, rfl, h0, ok, h1, I, hv, h2, h3, qq⟩
def spNames : Sp := fun vs H Q _ => ∃ p L vt b vn t n es, vs = [.ref p, vt, .ref b, vn] ∧ Dice H p L ∧ At H vt (dRule t) ∧ At H (.ref b) (.lst b (dEds es)) ∧ At H vn (dNow (steps (first t) es)) ∧ RuleOk n t ∧ ValS n (first t) es ∧ es.length ≤ 38 ∧ p ≠ b ∧ L ≠ b ∧
  ∀ H', Go [p, L] H H' → Dice H' p L → Q (.bl true) H'
theorem u_L_names_right (T : Tx K mg) (c : Tc P w K mg base (cWa' K) exW hNon) (wi : Fn P w K mg base (He.ma K (He.ga K "WatchedCrossing") "__init__") 12 ["self", "rule", "bound"] [.non] (spWaInit K)) (po : ∃ p, PropOf K (cWa' K) "overs" p (He5.wf K (He.ga K "WatchedCrossing") "property" "overs")) : Use P w K mg base "_law_names_right" 15 ["_law_dice_here", "_law_table", "_law_edits", "_law_now"] spNames := by
  have scN := (⟨rfl, rfl, rfl, by decide +kernel, rfl, by decide +kernel, by decide +kernel⟩ : FnScope ["_law_dice_here", "_law_table", "_law_edits", "_law_now", "_law_names", "_law_crossing", "_law_lane"] ["_law_dice_here", "_law_table", "_law_edits", "_law_now"] (defScope s_L_names_right))
  refine mk_use T.f_L_names_right T.glo_L_names_right scN (fun kV doc pm an cdv ct us hl => match us, hl with | [_, _, _, _], _ => rfl) (fun vs H Q E ⟨p, L, _, _, _, _, _, _, e, _⟩ => by rw [e]; rfl) fun cdv A outer s0 H vs Q E hr ⟨p, L, vt, b, vn, t, n, es, e1, hd, ht, hb, hnow, R, hv, hlen, hpb, hLb, q⟩ => ?_
  subst e1
  refine ⟨_, (pss_cons (ps_set (i := 4) scN.nd rfl (Or.inr rfl) (pe_use (u_L_mixed T) hr (by decide) rfl (pa_cons (pv 0) (pa_cons (pe_op op_sub (pe_callB (call_lenK (K := K)) (by rfl) T.free_len PySem.boot_len (pa_cons (pv 1) pa_nil)) pe_int) pa_nil)))) (pss_cons (ps_set (i := 5) scN.nd rfl (Or.inr rfl) (pe_use (u_L_done T c) hr (by decide) rfl (pa_cons (pe_makeU T.mkr_WatchedCrossing wi hr (by decide) rfl T.glo_WatchedCrossing (pa_cons (pe_use (u_L_renamed T) hr (by decide) rfl (pa_cons (pv 1) (pa_cons (pv 4) pa_nil))) pa_nil)) (pa_cons (pe_use (u_L_renamed_edits T) hr (by decide) rfl (pa_cons (pv 2) (pa_cons (pv 4) pa_nil))) pa_nil)))) (pss_cons (ps_if (PW.pt (pw_or (pt_cmpR (op_neDK (K := K) hr.units) (pe_meth0U (pv 5) c.cl c.me_passed (u_Cr_passed T c) hr (by decide)) (pe_ix (ix_tupK (K := K)) (pv 3) pe_int (fun _ _ => rfl)) (nomark _)) (pw_or (pt_cmpR op_ne (pe_meth0U (pv 5) c.cl c.me_word (u_Cr_word T c) hr (by decide)) (pe_ix (ix_tupK (K := K)) (pv 3) pe_int (fun _ _ => rfl)) (nomark _)) (pw_or1 (pt_cmpR (op_neDK (K := K) hr.units) (pe_meth0U (pv 5) c.cl c.me_waiting (u_Cr_waiting T c) hr (by decide)) (pe_use (u_L_waiting T) hr (by decide) rfl (pa_cons (pv 3) pa_nil)) (nomark _)))))) (pss_one (ps_ret pe_bl)) pss_nil) (pss_cons (ps_if (PW.pt (pw_or (pt_cmpR (op_neDK (K := K) hr.units) (pe_meth0U (pv 5) c.cl c.me_row (u_Cr_row T c) hr (by decide)) (pe_callTy (call_tupK (K := K)) (by rfl) T.free_tuple (by decide +kernel) (pa_cons (pe_lc (own := [("_law_lane", 6)]) (g := gName 6) (tt := tYes) rfl scN.nd (pi_tupK (K := K) (pe_ix (ix_tupK (K := K)) (pv 3) pe_int (fun _ _ => rfl))) (blkOk_by (N := ["_law_dice_here", "_law_table", "_law_edits", "_law_now", "_law_names", "_law_crossing", "_law_lane"]) (sc := defScope s_L_names_right) (own := [("_law_lane", 6)]) (by decide +kernel)) (fun _ _ _ _ _ => (pg_name (i := 6) scN.nd rfl (Or.inl rfl))) (fun _ _ _ _ _ => pts_nil) (fun _ _ _ _ _ => (pe_ix (ix_tupK (K := K)) (pv 4) (pv 6) (fun _ _ => rfl)))) pa_nil)) (nomark _)) (pw_or1 (pt_cmpR (op_neDK (K := K) hr.units) (pe_meth0U (pv 5) c.cl c.me_current (u_Cr_current T c) hr (by decide)) (pe_use (u_L_renamed T) hr (by decide) rfl (pa_cons (pe_ix (ix_tupK (K := K)) (pv 3) pe_int (fun _ _ => rfl)) (pa_cons (pv 4) pa_nil))) (nomark _))))) (pss_one (ps_ret pe_bl)) pss_nil) (pss_one (ps_ret (pe_cmpR (op_eqDK (K := K) hr.units) (pe_lc (own := [("_law_lane", 6)]) (g := gName 6) (tt := tYes) rfl scN.nd (pi_range1 rfl T.free_range (pa_cons (pe_callB (call_lenK (K := K)) (by rfl) T.free_len PySem.boot_len (pa_cons (pv 4) pa_nil)) pa_nil)) (blkOk_by (N := ["_law_dice_here", "_law_table", "_law_edits", "_law_now", "_law_names", "_law_crossing", "_law_lane"]) (sc := defScope s_L_names_right) (own := [("_law_lane", 6)]) (by decide +kernel)) (fun _ _ _ _ _ => (pg_name (i := 6) scN.nd rfl (Or.inl rfl))) (fun _ _ _ _ _ => pts_nil) (fun _ _ _ _ _ => (pe_ix (ix_tupK (K := K)) (pe_propU (pv 5) c.cl po.choose_spec (u_Wa_overs T c) hr (by decide)) (pe_ix (ix_tupK (K := K)) (pv 4) (pv 6) (fun _ _ => rfl)) (fun _ _ => rfl)))) (pe_callTy (call_listK (K := K)) (by rfl) T.free_list (by decide +kernel) (pa_cons (pe_ix (ix_tupK (K := K)) (pv 3) pe_int (fun _ _ => rfl)) pa_nil)) (nomark _)))))))), ?_⟩
  have hS : Sd H _ (startD ["_law_dice_here", "_law_table", "_law_edits", "_law_now", "_law_names", "_law_crossing", "_law_lane"] [.raw (.ref p), dRule t, .lst b (dEds es), dNow (steps (first t) es)]) := Sd.start (.cons (.raw _) (.cons ht (.cons hb (.cons hnow .nil)))) ["_law_dice_here", "_law_table", "_law_edits", "_law_now", "_law_names", "_law_crossing", "_law_lane"]
  have hR : AvR [p, L] (startD ["_law_dice_here", "_law_table", "_law_edits", "_law_now", "_law_names", "_law_crossing", "_law_lane"] [.raw (.ref p), dRule t, .lst b (dEds es), dNow (steps (first t) es)]) := avr_cons (.raw _) (avr_cons av_R (avr_cons (.lst (by simp; exact ⟨hpb.symm, hLb.symm⟩) av_Eds) (avr_cons av_Now (avr_none (avr_none (avr_none avr_nil))))))
  have hl := R.len
  have h1 := R.pos
  have h2 := R.top
  have J := inv_first R
  have I := J.steps hv
  refine r_seq (r_asg ?_)
  refine run_mixed (many := n) (da_cons (dv_var rfl) (da_cons (Dv.to (dv_op (rd_subN (n := t.length) (m := 1) (by omega)) (dv_lenR (dv_var rfl)) (dv_cN rfl)) (by rw [hl]; rfl)) da_nil)) h1 (by omega) _ H _ hS hd fun v nm H1 hp g1 hd1 a1 => ?_
  have N : Names n nm := ⟨hp⟩
  have s1 := (hS.goS g1 hR).set (i := 4) a1
  have R' := ren_ok N R
  have J' := inv_first R'
  obtain ⟨hv', hst⟩ := steps_ren N J hv
  rw [first_ren N R] at hv' hst
  have I' := J'.steps hv'
  refine r_gname ?_
  dsimp only
  refine r_seq (r_asg ?_)
  refine r_call (r_cons ?_)
  refine run_mkWa (K := K) (t := ren nm t) (n := n) (da_cons (dv_call (rel := relRen) (ds := [dRule t, .fru nm]) (d := dRule (ren nm t)) (da_cons (dv_var (i := 1) rfl) (da_cons (dv_var (i := 4) rfl) da_nil)) ⟨t, nm, n, rfl, R, N, rfl⟩) da_nil) R' _ H1 _ s1 fun cr H2 d2 g2 hcr hc2 ha2 => ?_
  have hRc : AvR [cr] _ := s1.avN hcr
  have s2 := s1.go g2
  refine r_cons ?_
  refine (dl_call (rel := relRenE) (ds := [.lst b (dEds es), .fru nm]) (es := dEds (es.map (renE nm))) (da_cons (dv_var (i := 2) rfl) (da_cons (dv_var (i := 4) rfl) da_nil)) ⟨b, es, nm, n, rfl, by omega, N, val_each hv, rfl⟩) _ H2 _ s2 fun b3 H3 g3 _ ha3 => ?_
  refine r_nil ?_
  refine run_done (K := K) (C := cWa' K) (ex := exW) (hs := hNon) (ha2.go g3) hc2 ha3 J' hv' (by rw [List.length_map]; omega) (by rw [List.length_map]; omega) fun H4 d4 g4 hc4 ha4 => ?_
  rw [hst] at hc4
  have s4 := ((s2.go g3).goS g4 hRc).set (i := 5) ha4
  have hd4 : Dice H4 p L := by
    have hd3 := (hd1.go0 g2).go0 g3
    have hne : p ≠ cr ∧ L ≠ cr := by
      obtain ⟨cs, r, a, b, _⟩ := hd1
      exact ⟨ne_of_none a hcr, ne_of_none b hcr⟩
    exact hd3.go g4 (by simpa using hne.1) (by simpa using hne.2)
  have gg : Go [p, L] H H4 := g1.transS (((g2.trans g3).loc hcr g4).wide)
  obtain ⟨dx, scs, ks, e4, o4⟩ := id hc4
  subst e4
  have hmany := I.many
  have hcl : (steps (first t) es).came.length ≤ 100 := by omega
  have hcl' : (renS nm (steps (first t) es)).came.length ≤ 100 := by show ((steps (first t) es).came.map _).length ≤ 100; rw [List.length_map]; exact hcl
  have hwl := wait_len (steps (first t) es).came (steps (first t) es).done
  have rd : ∀ {f : Sc → D} {dd : D}, dd = f (renS nm (steps (first t) es)) → relV K (cWa' K) exW hNon f (dCr cr (cWa' K) dx exW scs ks hNon :: ([] ++ [.non])) dd := fun e => ⟨cr, _, _, _, rfl, hc4, hcl', e⟩
  refine r_gname ?_
  generalize hss : steps (first t) es = ss at *
  dsimp only
  refine r_seq ?_
  refine (dn_skip (Dt.to (b := false || (!decide (ss.word = ss.word) || false)) (dt_or (dt_test (dv_op (rd_neSame (cm_Ns ss.done) (cm_Ns ss.done)) (dv_methO (dds := [.non]) (mthO c (by decide +kernel) (by decide +kernel)) (dv_var rfl) da_nil (fun _ => .cons .non .nil) (rd rfl)) (dv_op (rd_ix (ds := nowL ss) (j := 2) rfl) (dv_var rfl) (dv_cN rfl)))) fun _ => dt_or (dt_test (dv_op rd_neS (dv_methO (d := .str ss.word) (mthO c (by decide +kernel) (by decide +kernel)) (dv_var rfl) da_nil (fun _ => .nil) ⟨cr, _, _, _, rfl, hc4, rfl⟩) (dv_op (rd_ix (ds := nowL ss) (j := 3) rfl) (dv_var rfl) (dv_cN rfl)))) fun _ => dt_test (dv_op (rd_neSame (cm_Ns (waiting ss.came ss.done)) (cm_Ns (waiting ss.came ss.done))) (dv_methO (dds := [.non]) (mthO c (by decide +kernel) (by decide +kernel)) (dv_var rfl) da_nil (fun _ => .cons .non .nil) (rd (by show _ = dNs (waiting (ss.came.map _) ss.done); rw [waiting_map]))) (dv_call (ds := [dNow ss]) (d := dNs (waiting ss.came ss.done)) (da_cons (dv_var rfl) da_nil) ⟨ss, rfl, hcl, rfl⟩))) (by simp))) _ H4 _ s4 fun σ5 H5 g5 s5 => ?_
  dsimp only
  refine r_seq ?_
  refine (dn_skip (Dt.to (b := false || false) (dt_or (dt_test (dv_op (rd_neSame (cm_Ns (ss.came.map (ix nm))) (cm_Ns (ss.came.map (ix nm)))) (dv_methO (dds := [.non]) (mthO c (by decide +kernel) (by decide +kernel)) (dv_var rfl) da_nil (fun _ => .cons .non .nil) (rd rfl)) (Dv.to (dv_tupL (dl_lc (xs := ss.came) (emb := dN) (f := fun l => dN (ix nm l)) (p := fun _ => true) (di_tup (dv_op (rd_ix (ds := nowL ss) (j := 1) rfl) (dv_var rfl) (dv_cN rfl))) (by omega) (fun x _ => dg_name) (by simp) (fun _ _ => av_N) (fun x _ => dt_yes) fun l hl _ => dv_op (rd_ixN (ns := nm) (by rw [N.len]; exact I.lanes l hl)) (Dv.fru (dv_var rfl)) (dv_var rfl))) (by show D.tup _ = D.tup _; rw [flt_all, List.map_map]; rfl)))) fun _ => dt_test (dv_op (rd_neSame (cm_R (ren nm ss.t)) (cm_R (ren nm ss.t))) (dv_methO (dds := [.non]) (mthO c (by decide +kernel) (by decide +kernel)) (dv_var rfl) da_nil (fun _ => .cons .non .nil) (rd rfl)) (dv_call (ds := [dRule ss.t, .fru nm]) (d := dRule (ren nm ss.t)) (da_cons (dv_op (rd_ix (ds := nowL ss) (j := 0) rfl) (dv_var rfl) (dv_cN rfl)) (da_cons (dv_var rfl) da_nil)) ⟨ss.t, nm, n, rfl, I.rule, N, rfl⟩))) rfl)) _ H5 _ s5 fun σ6 H6 g6 s6 => ?_
  dsimp only
  have htp := I.tops
  have hb' : (back nm ss.tops).length = n := by rw [back_len, N.len]
  refine (dv_opLL (fun a1 a2 => rd_eqSame (p := .list (ss.tops.map fun k : Nat => PyData.int (k : Int))) (cm_lst (cms_N _)) (cm_lst (cms_N _))) (DvL.to (dl_lc (xs := List.range nm.length) (emb := dN) (f := fun l => dN (ix (back nm ss.tops) (ix nm l))) (p := fun _ => true) (di_rng1 (da_cons (dv_lenN (Dv.fru (dv_var rfl))) da_nil) (by rw [N.len]; omega)) (by simp [N.len]; omega) (fun x _ => dg_name) (by simp) (fun _ _ => av_N) (fun x _ => dt_yes) fun l hl _ => dv_op (rd_ixN (ns := back nm ss.tops) (by rw [hb']; exact N.lt (by have := List.mem_range.mp hl; rw [N.len] at this; exact this))) (dv_prop (dv_var rfl) ⟨cr, _, _, _, rfl, hc4, rfl⟩) (dv_op (rd_ixN (ns := nm) (List.mem_range.mp hl)) (Dv.fru (dv_var rfl)) (dv_var rfl))) ?_) (dl_listT (dv_op (rd_ix (ds := nowL ss) (j := 5) rfl) (dv_var rfl) (dv_cN rfl)))) σ6 H6 _ s6 fun v7 H7 g7 a7 => ?_
  · rw [flt_all]
    have := congrArg (List.map dN) (back_at N htp)
    rw [List.map_map] at this
    exact this
  · rw [a7.bl_inv]
    exact q H7 (gg.transS ((g5.trans g6).trans g7).wide) (((hd4.go0 g5).go0 g6).go0 g7)
end
end K70
set_option Elab.async false
set_option linter.all false
set_option maxRecDepth 100000
set_option maxHeartbeats 4000000
namespace K70
open PySem PySem.Spec PyProof.Rows L2
local macro_rules | `(tactic| walk_at "d1") => `(tactic| first
  | ((with_reducible refine' dv_var ?hh); (case hh => exact rfl))
  | with_reducible exact dv_cS
  | with_reducible exact dv_cB
  | with_reducible exact dv_c0
  | ((with_reducible refine' dv_cN ?hh); (case hh => exact rfl))
  | with_reducible exact dv_neg1
  | with_reducible exact dv_cI
  | with_reducible exact da_nil
  | with_reducible refine' da_cons ?_ ?_
  | with_reducible refine' da_starT ?_ ?_
  | with_reducible refine' da_starL ?_ ?_
  | with_reducible refine' dv_op rd_addN ?_ ?_
  | with_reducible refine' dv_op (rd_subN ?_) ?_ ?_
  | with_reducible refine' dv_op rd_ltN ?_ ?_
  | with_reducible refine' dv_op rd_leN ?_ ?_
  | with_reducible refine' dv_op rd_gtN ?_ ?_
  | with_reducible refine' dv_op rd_eqN ?_ ?_
  | with_reducible refine' dv_op rd_neN ?_ ?_
  | with_reducible refine' dv_op rd_eqS ?_ ?_
  | with_reducible refine' dv_op rd_in ?_ ?_
  | with_reducible refine' dv_op rd_notin ?_ ?_
  | with_reducible refine' dv_op rd_eq0 ?_ ?_
  | with_reducible refine' dv_op rd_ne0 ?_ ?_
  | with_reducible refine' dt_test ?_
  | with_reducible refine' dt_tB ?_
  | with_reducible exact dt_yes
  | with_reducible refine' dt_not ?_
  | with_reducible refine' dt_and ?_ fun _ => ?_
  | with_reducible refine' dt_or ?_ fun _ => ?_
  | with_reducible refine' dv_andV ?_ fun _ => ?_
  | with_reducible refine' dv_orV ?_ fun _ => ?_
  | with_reducible refine' dv_notV ?_
  | with_reducible refine' dv_chain rd_leN rd_leN ?_ ?_ ?_
  | ((with_reducible refine' dv_lenN (dv_var ?hh)); (case hh => exact rfl))
  | ((with_reducible refine' dv_lenR (dv_var ?hh)); (case hh => exact rfl))
  | with_reducible refine' dv_lenN ?_
  | with_reducible refine' dv_lenR ?_
  | with_reducible refine' dv_max ?_ ?_
  | with_reducible refine' di_tup ?_
  | with_reducible refine' di_lst ?_)
local macro_rules | `(tactic| walk_at "dv") => `(tactic| all_goals (repeat' walk_at "d1"))

section
variable {P : Program} {w : World} {K : PySem.W.Frag} {mg : Str → Option Value} {base : Heap} {C : Addr} {ex : List Str} {hs : List D}
variable {H H' : Hp} {p L q : Addr} {S : List Addr} {ρ : Rho} {ts : TA} {E : XK}
theorem strOk_app {a b : Str} (h : PyData.canLay0 (.str a) = true) (h' : PyData.canLay0 (.str b) = true) : PyData.canLay0 (.str (a ++ b)) = true := by
  have h1 : (a.cps.all fun c => decide (c < 0x110000)) = true := h
  have h2 : (b.cps.all fun c => decide (c < 0x110000)) = true := h'
  show ((a.cps ++ b.cps).all fun c => decide (c < 0x110000)) = true
  rw [Array.all_append, h1, h2]; rfl
theorem word_step {s : Sc} (h : PyData.canLay0 (.str s.word) = true) (e : Ed) : PyData.canLay0 (.str (step s e).word) = true := by
  cases e with
  | come l => exact strOk_app h (by decide +kernel)
  | chg t => exact h
  | go =>
    unfold step
    cases nextCar s.t s.came s.done with
    | none => exact h
    | some c => exact strOk_app h (by decide +kernel)
theorem word_ok : ∀ (es : List Ed) {s : Sc}, PyData.canLay0 (.str s.word) = true → PyData.canLay0 (.str (steps s es).word) = true
  | [], _, h => h
  | e :: es, s, h => word_ok es (s := step s e) (word_step h e)
theorem di_lstL {te : TE} {ds : List D} (h : DvL te ρ ds) : Di [] (iList K te) ρ ds := fun σ H R s q => h σ H _ s fun a H1 g1 _ a1 => by
  cases a1 with
  | lst h1 h2 => exact ⟨a, rfl, ⟨_, SqL.of h1⟩, q _ H1 g1 (yl_lst h1 h2 h2.av0 (by simp))⟩
/-- len(o), o with its own __len__ -/
def tLenO (C : Addr) (sp : Sp) (ta : TE) : TE := tCB (fun vs H Q => ∃ a dx fs, vs = [.ref a] ∧ H a = some (.ins C dx fs) ∧ sp [.ref a] H (fun v H' => ∃ n : Nat, v = .int (n : Int) ∧ n < 2 ^ 62 ∧ Q (.int (n : Int)) H') E0) (tCons ta tNil)
theorem pe_lenO {X : Cx} {f : Addr} {k j : Nat} {ps : List Str} {sp : Sp} {e : Expr} {p pos : Pos} {ta : TE} (he : PE X e ta) (m : Meth X.K C "__len__" f) (U : Fn X.prog X.w X.K X.mg X.base f k ps [] sp) (hr : Room j X.A) (hk : k + 1 ≤ j) (hm : X.mg "len" = none) (hg : Gl X "len" := by rfl)
    (hst : starEach [e] X.env = (false, eval e X.env) :: starEach [] X.env := by rfl) : PE X (.Call (.Name "len" p) [e] [] pos) (tLenO C sp ta) := by
  obtain ⟨fd, ds, hv, hb, F⟩ := U.ex
  cases hv
  exact pe_callB (call_len_own m.at_ m.fn F (hr.mono hk) hb) hg hm PySem.boot_len (pa_cons he pa_nil hst) (he := hst)
theorem dv_lenO {rel : List D → D → Prop} {ta : TE} {dx : Addr} {ks : List Str} {ds : List D} {n : Nat} (h : Dv ta ρ (.ob p C dx ks ds)) (hr : rel [.ob p C dx ks ds] (dN n)) (hn : n < 1000) : Dv (tLenO C (spP rel) ta) ρ (dN n) := fun σ H Q s q =>
  h σ H _ s fun v H1 g1 a1 => by
    have a1' := a1
    cases a1 with
    | ob h1 h2 h3 => exact ⟨p, dx, _, rfl, h1, _, dN n, .cons a1' .nil, hr, fun v H' g a => ⟨n, a.int_inv, Nat.lt_trans hn (by decide), q _ H' (g1.trans g) (.int _)⟩⟩
theorem u_L_idle_right (T : Tx K mg) (c : Tc P w K mg base (cWa' K) exW hNon) (wi : Fn P w K mg base (He.ma K (He.ga K "WatchedCrossing") "__init__") 12 ["self", "rule", "bound"] [.non] (spWaInit K)) (po : ∃ p, PropOf K (cWa' K) "overs" p (He5.wf K (He.ga K "WatchedCrossing") "property" "overs")) (ml : Meth K (cWa' K) "__len__" (crm K "__len__")) : Use P w K mg base "_law_idle_right" 15 ["_law_dice_here", "_law_table", "_law_edits", "_law_now"] spNames := by
  have scN := (⟨rfl, rfl, rfl, by decide +kernel, rfl, by decide +kernel, by decide +kernel⟩ : FnScope ["_law_dice_here", "_law_table", "_law_edits", "_law_now", "_law_edit_here", "_law_crossing", "_law_found", "_law_spot", "_law_there"] ["_law_dice_here", "_law_table", "_law_edits", "_law_now"] (defScope s_L_idle_right))
  refine mk_use T.f_L_idle_right T.glo_L_idle_right scN (fun kV doc pm an cdv ct us hl => match us, hl with | [_, _, _, _], _ => rfl) (fun vs H Q E ⟨p, L, _, _, _, _, _, _, e, _⟩ => by rw [e]; rfl) fun cdv A outer s0 H vs Q E hr ⟨p, L, vt, b, vn, t, n, es, e1, hd, ht, hb, hnow, R, hv, hlen, hpb, hLb, q⟩ => ?_
  subst e1
  refine ⟨_, (pss_cons (ps_par (i := 7) (j := 8) rfl scN.nd rfl rfl (by decide) rfl rfl (pa_cons (pe_use (u_L_roll T) hr (by decide) rfl (pa_cons (pv 0) (pa_cons (pe_op op_add (pe_callB (call_lenK (K := K)) (by rfl) T.free_len PySem.boot_len (pa_cons (pv 2) pa_nil)) pe_int) pa_nil))) (pa_cons (pe_use (u_L_first T) hr (by decide) rfl (pa_cons (pv 1) (pa_cons (pe_tup pa_nil) pa_nil))) pa_nil)) (by rfl)) (pss_cons (ps_for PassesOwn.never rfl (pi_listK (K := K) (pe_slice (sl_listK (K := K)) (pv 2) po_none (po_some (pv 7)))) (pg_name (i := 4) scN.nd rfl (Or.inl rfl)) (pss_one (ps_set (i := 8) scN.nd rfl (Or.inl rfl) (pe_ix (ix_listK (K := K)) (pe_use (u_L_after T) hr (by decide) rfl (pa_cons (pv 8) (pa_cons (pv 4) (pa_cons pe_non pa_nil)))) pe_int (fun _ _ => rfl))))) (pss_cons (ps_set (i := 5) scN.nd rfl (Or.inl rfl) (pe_use (u_L_done T c) hr (by decide) rfl (pa_cons (pe_makeU T.mkr_WatchedCrossing wi hr (by decide) rfl T.glo_WatchedCrossing (pa_cons (pv 1) pa_nil)) (pa_cons (pe_op op_cat (pe_op op_cat (pe_slice (sl_listK (K := K)) (pv 2) po_none (po_some (pv 7))) (pe_lst (pa_cons (pe_tup (pa_cons pe_str (pa_cons (pe_ix (ix_tupK (K := K)) (pv 8) pe_int (fun _ _ => rfl)) pa_nil))) pa_nil))) (pe_slice (sl_listK (K := K)) (pv 2) (po_some (pv 7)) po_none)) pa_nil)))) (pss_cons (ps_set (i := 6) scN.nd rfl (Or.inl rfl) (pe_lst (pa_cons (pe_meth0U (pv 5) c.cl c.me_passed (u_Cr_passed T c) hr (by decide)) (pa_cons (pe_meth0U (pv 5) c.cl c.me_waiting (u_Cr_waiting T c) hr (by decide)) (pa_cons (pe_meth0U (pv 5) c.cl c.me_word (u_Cr_word T c) hr (by decide)) (pa_cons (pe_propU (pv 5) c.cl po.choose_spec (u_Wa_overs T c) hr (by decide)) (pa_cons (pe_meth0U (pv 5) c.cl c.me_row (u_Cr_row T c) hr (by decide)) (pa_cons (pe_lenO (pv 5) ml (u_Cr_len T c) hr (by decide) T.free_len) pa_nil)))))))) (pss_one (ps_ret (pe_cmpR (op_eqDK (K := K) hr.units) (pv 6) (pe_lst (pa_cons (pe_ix (ix_tupK (K := K)) (pv 3) pe_int (fun _ _ => rfl)) (pa_cons (pe_use (u_L_waiting T) hr (by decide) rfl (pa_cons (pv 3) pa_nil)) (pa_cons (pe_ix (ix_tupK (K := K)) (pv 3) pe_int (fun _ _ => rfl)) (pa_cons (pe_ix (ix_tupK (K := K)) (pv 3) pe_int (fun _ _ => rfl)) (pa_cons (pe_ix (ix_tupK (K := K)) (pv 3) pe_int (fun _ _ => rfl)) (pa_cons (pe_op op_add (pe_callB (call_lenK (K := K)) (by rfl) T.free_len PySem.boot_len (pa_cons (pv 2) pa_nil)) pe_int) pa_nil))))))) (nomark _)))))))), ?_⟩
  have hS : Sd H _ (startD ["_law_dice_here", "_law_table", "_law_edits", "_law_now", "_law_edit_here", "_law_crossing", "_law_found", "_law_spot", "_law_there"] [.raw (.ref p), dRule t, .lst b (dEds es), dNow (steps (first t) es)]) := Sd.start (.cons (.raw _) (.cons ht (.cons hb (.cons hnow .nil)))) ["_law_dice_here", "_law_table", "_law_edits", "_law_now", "_law_edit_here", "_law_crossing", "_law_found", "_law_spot", "_law_there"]
  have hR : AvR [p, L] (startD ["_law_dice_here", "_law_table", "_law_edits", "_law_now", "_law_edit_here", "_law_crossing", "_law_found", "_law_spot", "_law_there"] [.raw (.ref p), dRule t, .lst b (dEds es), dNow (steps (first t) es)]) := avr_cons (.raw _) (avr_cons av_R (avr_cons (.lst (by simp; exact ⟨hpb.symm, hLb.symm⟩) av_Eds) (avr_cons av_Now (avr_none (avr_none (avr_none (avr_none (avr_none avr_nil))))))))
  have J := inv_first R
  refine r_seq ?_
  refine r_cons ?_
  refine run_roll (many := es.length + 1) (da_cons (dv_var rfl) (da_cons (dv_op rd_addN (dv_lenL (a := b) (ds := dEds es) (n := es.length) (dv_var rfl) (by simp)) (dv_cN rfl)) da_nil)) (by omega) (by omega) _ H _ hS hd fun k H1 hk g1 hd1 => ?_
  have s1 := hS.goS g1 hR
  refine r_cons ?_
  refine (dv_call (rel := relFirst) (ds := [dRule t, .tup []]) (d := dNow (first t)) (da_cons (dv_var (i := 1) rfl) (da_cons (dv_tup da_nil (by simp)) da_nil)) ⟨t, n, rfl, R, rfl⟩) _ H1 _ s1 fun v2 H2 g2 a2 => ?_
  refine ⟨_, _, rfl, ?_⟩
  have hke : k ≤ es.length := by omega
  have s2 := ((s1.go g2).set (i := 7) (.int (k : Int))).set (i := 8) a2
  have hd2 := hd1.go0 g2
  have gg2 := g1.transS g2.wide
  dsimp only
  refine r_seq ?_
  -- the state at the spot
  have hva : ∀ i, i ≤ k → ValS n (first t) ((es.take k).take i) := fun i hi => by
    have e : es = es.take i ++ es.drop i := (List.take_append_drop i es).symm
    rw [List.take_take, Nat.min_eq_left hi]
    rw [e] at hv
    exact hv.left
  refine (dn_for (src := dEds (es.take k)) (ρi := fun i => (((startD ["_law_dice_here", "_law_table", "_law_edits", "_law_now", "_law_edit_here", "_law_crossing", "_law_found", "_law_spot", "_law_there"] [.raw (.ref p), dRule t, .lst b (dEds es), dNow (steps (first t) es)]).set 7 (some (dN k))).set 8 (some (dNow (steps (first t) ((es.take k).take i))))))
    (ρg := fun i => ((((startD ["_law_dice_here", "_law_table", "_law_edits", "_law_now", "_law_edit_here", "_law_crossing", "_law_found", "_law_spot", "_law_there"] [.raw (.ref p), dRule t, .lst b (dEds es), dNow (steps (first t) es)]).set 7 (some (dN k))).set 8 (some (dNow (steps (first t) ((es.take k).take i))))).set 4 (some (dEd ((es.take k).getD i .go)))))
    (sl := fun _ => [4]) (di_lstL (DvL.to (dl_slTo (a := b) (ds := dEds es) (j := k) (dv_var rfl) (dv_var rfl) (by simp; omega)) (by rw [← List.map_take]))) (fun i d e => ?_) (fun i d e => ?_)) _ H2 _ s2 fun σ3 H3 g3 s3 => ?_
  · rw [List.getElem?_map] at e
    cases q2 : (es.take k)[i]? with
    | none => rw [q2] at e; cases e
    | some ed =>
      rw [q2] at e
      have e' : dEd ed = d := Option.some.inj e
      subst e'
      rw [List.getD_eq_getElem?_getD, q2]
      exact dg_name
  · rw [List.getElem?_map] at e
    cases q2 : (es.take k)[i]? with
    | none => rw [q2] at e; cases e
    | some ed =>
      have hi : i < (es.take k).length := (List.getElem?_eq_some_iff.mp q2).1
      have hik : i < k := by rw [List.length_take] at hi; omega
      rw [List.getD_eq_getElem?_getD, q2]
      have hv1 := hva (i + 1) hik
      have htm : (es.take k).take (i + 1) = (es.take k).take i ++ [ed] := take_more q2
      rw [htm] at hv1 ⊢
      rw [steps_append]
      have I1 := J.steps hv1.left
      have hlt : ((es.take k).take i).length ≤ 38 := by rw [List.length_take, List.length_take]; omega
      exact (dn_asg (i := 8) (d := dNow (step (steps (first t) ((es.take k).take i)) ed)) (dv_ixL (f1 := [.non, dNow (step (steps (first t) ((es.take k).take i)) ed)]) (j := 1) (dl_call (rel := relAfter) (ds := [dNow (steps (first t) ((es.take k).take i)), dEd ed, .non]) (da_cons (dv_var rfl) (da_cons (dv_var rfl) (da_cons dv_c0 da_nil))) ⟨_, ed, n, _, rfl, I1, hv1.right.1, by omega, rfl⟩) (dv_cN rfl) rfl)).weak (by
        refine ⟨rfl, fun j d hj => ?_⟩
        match j, hj with
        | 0, hj => exact hj
        | 1, hj => exact hj
        | 2, hj => exact hj
        | 3, hj => exact hj
        | 4, hj => cases hj
        | 5, hj => exact hj
        | 6, hj => exact hj
        | 7, hj => exact hj
        | 8, hj => exact hj)
  have htk : (es.take k).take (dEds (es.take k)).length = es.take k := by
    rw [List.length_map]; exact List.take_length
  rw [htk] at s3
  have hd3 := hd2.go0 g3
  have gg3 := gg2.transS g3.wide
  have hval : ValS n (first t) (es.take k ++ [.chg (steps (first t) (es.take k)).t] ++ es.drop k) := idle_val J (by rw [List.take_append_drop]; exact hv)
  have hst : steps (first t) (es.take k ++ [.chg (steps (first t) (es.take k)).t] ++ es.drop k) = steps (first t) es := by rw [idle_steps, List.take_append_drop]
  have hlen' : (es.take k ++ [Ed.chg (steps (first t) (es.take k)).t] ++ es.drop k).length = es.length + 1 := by simp; omega
  have I := J.steps hv
  dsimp only
  refine r_seq (r_asg (r_call (r_cons ?_)))
  refine run_mkWa (K := K) (t := t) (n := n) (da_cons (dv_var (i := 1) rfl) da_nil) R _ H3 _ s3 fun cr H4 d4 g4 hcr hc4 ha4 => ?_
  have hRc : AvR [cr] _ := s3.avN hcr
  have s4 := s3.go g4
  refine r_cons ?_
  refine (dl_cat (dl_cat (dl_slTo (a := b) (ds := dEds es) (j := k) (dv_var (i := 2) rfl) (dv_var (i := 7) rfl) (by simp; omega)) (dl_lst (ds := [dEd (.chg (steps (first t) (es.take k)).t)]) (da_cons (dv_tup (da_cons dv_cS (da_cons (dv_op (rd_ix (ds := nowL (steps (first t) (es.take k))) (j := 0) rfl) (dv_var (i := 8) rfl) (dv_cN rfl)) da_nil)) (by simp)) da_nil) (by simp)) (by simp; omega)) (dl_slFrom (a := b) (ds := dEds es) (j := k) (dv_var (i := 2) rfl) (dv_var (i := 7) rfl) (by simp; omega)) (by simp; omega)) _ H4 _ s4 fun b5 H5 g5 _ ha5 => ?_
  refine r_nil ?_
  have e5 : (dEds es).take k ++ [dEd (.chg (steps (first t) (es.take k)).t)] ++ (dEds es).drop k = dEds (es.take k ++ [.chg (steps (first t) (es.take k)).t] ++ es.drop k) := by
    show _ = (es.take k ++ [Ed.chg _] ++ es.drop k).map dEd
    rw [List.map_append, List.map_append, List.map_take, List.map_drop]
    rfl
  rw [e5] at ha5
  refine run_done (K := K) (C := cWa' K) (ex := exW) (hs := hNon) (ha4.go g5) hc4 ha5 J hval (by rw [hlen']; omega) (by rw [hlen']; omega) fun H6 d6 g6 hc6 ha6 => ?_
  rw [hst, hlen'] at hc6
  have s6 := ((s4.go g5).goS g6 hRc).set (i := 5) ha6
  have hd6 : Dice H6 p L := by
    have hne : p ≠ cr ∧ L ≠ cr := by
      obtain ⟨cs, r, a, b, _⟩ := hd3
      exact ⟨ne_of_none a hcr, ne_of_none b hcr⟩
    exact ((hd3.go0 g4).go0 g5).go g6 (by simpa using hne.1) (by simpa using hne.2)
  have gg : Go [p, L] H H6 := gg3.transS (((g4.trans g5).loc hcr g6).wide)
  obtain ⟨dx, scs, ks, e4, o4⟩ := id hc6
  subst e4
  have hmany := I.many
  have hcl : (steps (first t) es).came.length ≤ 100 := by omega
  have hwk : PyData.canLay0 (.str (steps (first t) es).word) = true := word_ok es (by show PyData.canLay0 (.str "") = true; decide +kernel)
  generalize hss : steps (first t) es = ss at *
  have rd : ∀ {f : Sc → D} {dd : D}, dd = f ss → relV K (cWa' K) exW hNon f (dCr cr (cWa' K) dx exW scs ks hNon :: ([] ++ [.non])) dd := fun e => ⟨cr, _, _, _, rfl, hc6, hcl, e⟩
  refine r_gname ?_
  dsimp only
  refine r_seq (r_asg ?_)
  have cmF : ∀ {a : Addr}, Cm 64 (.lst a [dNs ss.done, dNs (waiting ss.came ss.done), .str ss.word, dNs ss.tops, dNs ss.came, dN (es.length + 1)]) _ := fun {a} => cm_lst (cms_cons (cm_Ns _) (cms_cons (cm_Ns _) (cms_cons (cm_S hwk) (cms_cons (cm_Ns _) (cms_cons (cm_Ns _) (cms_cons cm_N cms_nil))))))
  refine (dl_lst (ds := [dNs ss.done, dNs (waiting ss.came ss.done), .str ss.word, dNs ss.tops, dNs ss.came, dN (es.length + 1)]) (da_cons (dv_methO (dds := [.non]) (mthO c (by decide +kernel) (by decide +kernel)) (dv_var rfl) da_nil (fun _ => .cons .non .nil) (rd rfl)) (da_cons (dv_methO (dds := [.non]) (mthO c (by decide +kernel) (by decide +kernel)) (dv_var rfl) da_nil (fun _ => .cons .non .nil) (rd rfl)) (da_cons (dv_methO (d := .str ss.word) (mthO c (by decide +kernel) (by decide +kernel)) (dv_var rfl) da_nil (fun _ => .nil) ⟨cr, _, _, _, rfl, hc6, rfl⟩) (da_cons (dv_prop (dv_var rfl) ⟨cr, _, _, _, rfl, hc6, rfl⟩) (da_cons (dv_methO (dds := [.non]) (mthO c (by decide +kernel) (by decide +kernel)) (dv_var rfl) da_nil (fun _ => .cons .non .nil) (rd rfl)) (da_cons (dv_lenO (dv_var rfl) ⟨cr, _, _, _, rfl, hc6, by rw [Nat.zero_add]⟩ (by omega)) da_nil)))))) (by simp)) _ H6 _ s6 fun f7 H7 g7 _ ha7 => ?_
  have s7 := (s6.go g7).set (i := 6) ha7
  refine r_gname ?_
  dsimp only
  refine (dv_opVL (fun a2 => rd_eqSame cmF cmF) (dv_var (i := 6) rfl) (dl_lst (ds := [dNs ss.done, dNs (waiting ss.came ss.done), .str ss.word, dNs ss.tops, dNs ss.came, dN (es.length + 1)]) (da_cons (dv_op (rd_ix (ds := nowL ss) (j := 2) rfl) (dv_var rfl) (dv_cN rfl)) (da_cons (dv_call (ds := [dNow ss]) (d := dNs (waiting ss.came ss.done)) (da_cons (dv_var rfl) da_nil) ⟨ss, rfl, hcl, rfl⟩) (da_cons (dv_op (rd_ix (ds := nowL ss) (j := 3) rfl) (dv_var rfl) (dv_cN rfl)) (da_cons (dv_op (rd_ix (ds := nowL ss) (j := 5) rfl) (dv_var rfl) (dv_cN rfl)) (da_cons (dv_op (rd_ix (ds := nowL ss) (j := 1) rfl) (dv_var rfl) (dv_cN rfl)) (da_cons (dv_op rd_addN (dv_lenL (a := b) (ds := dEds es) (n := es.length) (dv_var rfl) (by simp)) (dv_cN rfl)) da_nil)))))) (by simp))) _ H7 _ s7 fun v8 H8 g8 a8 => ?_
  rw [a8.bl_inv]
  exact q H8 (gg.transS (g7.trans g8).wide) ((hd6.go0 g7).go0 g8)
end
end K70
set_option Elab.async false
set_option linter.all false
set_option maxRecDepth 100000
set_option maxHeartbeats 4000000
namespace K70
open PySem PySem.Spec PyProof.Rows L2
local macro_rules | `(tactic| walk_at "d1") => `(tactic| first
  | ((with_reducible refine' dv_var ?hh); (case hh => exact rfl))
  | with_reducible exact dv_cS
  | with_reducible exact dv_cB
  | with_reducible exact dv_c0
  | ((with_reducible refine' dv_cN ?hh); (case hh => exact rfl))
  | with_reducible exact dv_neg1
  | with_reducible exact dv_cI
  | with_reducible exact da_nil
  | with_reducible refine' da_cons ?_ ?_
  | with_reducible refine' da_starT ?_ ?_
  | with_reducible refine' da_starL ?_ ?_
  | with_reducible refine' dv_op rd_addN ?_ ?_
  | with_reducible refine' dv_op (rd_subN ?_) ?_ ?_
  | with_reducible refine' dv_op rd_ltN ?_ ?_
  | with_reducible refine' dv_op rd_leN ?_ ?_
  | with_reducible refine' dv_op rd_gtN ?_ ?_
  | with_reducible refine' dv_op rd_eqN ?_ ?_
  | with_reducible refine' dv_op rd_neN ?_ ?_
  | with_reducible refine' dv_op rd_eqS ?_ ?_
  | with_reducible refine' dv_op rd_in ?_ ?_
  | with_reducible refine' dv_op rd_notin ?_ ?_
  | with_reducible refine' dv_op rd_eq0 ?_ ?_
  | with_reducible refine' dv_op rd_ne0 ?_ ?_
  | with_reducible refine' dt_test ?_
  | with_reducible refine' dt_tB ?_
  | with_reducible exact dt_yes
  | with_reducible refine' dt_not ?_
  | with_reducible refine' dt_and ?_ fun _ => ?_
  | with_reducible refine' dt_or ?_ fun _ => ?_
  | with_reducible refine' dv_andV ?_ fun _ => ?_
  | with_reducible refine' dv_orV ?_ fun _ => ?_
  | with_reducible refine' dv_notV ?_
  | with_reducible refine' dv_chain rd_leN rd_leN ?_ ?_ ?_
  | ((with_reducible refine' dv_lenN (dv_var ?hh)); (case hh => exact rfl))
  | ((with_reducible refine' dv_lenR (dv_var ?hh)); (case hh => exact rfl))
  | with_reducible refine' dv_lenN ?_
  | with_reducible refine' dv_lenR ?_
  | with_reducible refine' dv_max ?_ ?_
  | with_reducible refine' di_tup ?_
  | with_reducible refine' di_lst ?_)
local macro_rules | `(tactic| walk_at "dv") => `(tactic| all_goals (repeat' walk_at "d1"))

section
variable {P : Program} {w : World} {K : PySem.W.Frag} {mg : Str → Option Value} {base : Heap}
variable {H H' : Hp} {p L q : Addr} {S : List Addr} {ρ : Rho} {ts : TA} {E : XK}
theorem pe_smethU {X : Cx} {k j : Nat} {C p g : Addr} {ps : List Str} {sp : Sp} {o e : Expr} {es : List Expr} {m : Str} {apos pos : Pos} {ta : TE} {t : TA} {pl : Sem Bool}
    (he : PE X o ta) (c : SMet X.K C m p g) (U : Fn X.prog X.w X.K X.mg X.base g k ps [] sp) (hr : Room j X.A) (hk : k ≤ j) (ha : PA X (e :: es) t)
    (hst : starEach (e :: es) X.env = (false, eval e X.env) :: starEach es X.env := by rfl) (hpl : (backTo pos (starEach es X.env)).any (·.1) = false := by rfl)
    (ht : eval (.Call (.Attribute o m apos) (e :: es) [] pos) X.env = (do
      let ov ← eval o X.env
      standAt apos.atName
      let (f, first) ← holding [ov] (getMethod ov m pl)
      callWith pos f first (backTo pos (starEach (e :: es) X.env)) (backToKw pos (keywordEach [] X.env))) := by rfl) :
    PE X (.Call (.Attribute o m apos) (e :: es) [] pos) (tSMeth C sp E0 ta t) := by
  obtain ⟨fd, ds, hv, hb, F⟩ := U.ex
  cases hv
  exact pe_smeth he c F (hr.mono hk) hb pass0 ha hst hpl ht
theorem dv_smeth {C : Addr} {rel : List D → D → Prop} {ds : List D} {d : D} (ha : Da ts ρ ds) (hr : rel ds d) : Dv (tSMeth C (spP rel) E (tC (.ref C)) ts) ρ d := fun σ H Q s q =>
  ⟨rfl, ha σ H _ s fun vs H1 g1 a1 => ⟨ds, d, a1, hr, fun v H' g a => q v H' (g1.trans g) a⟩⟩
theorem run_names {t : Rule} {n : Nat} {b : Addr} {es : List Ed} (ha : Da ts ρ [.raw (.ref p), dRule t, .lst b (dEds es), dNow (steps (first t) es)]) (R : RuleOk n t) (hv : ValS n (first t) es) (hl : es.length ≤ 38) (h1 : p ≠ b) (h2 : L ≠ b) (σ : L2.St) (H : Hp) (Q : VK) (s : Sd H σ ρ) (d : Dice H p L) (q : ∀ H', Go [p, L] H H' → Dice H' p L → Q (.bl true) H') : tCall spNames [] E ts σ H Q :=
  ha σ H _ s fun vs H1 g1 a1 => by
    cases a1 with
    | cons a1 a2 =>
    cases a2 with
    | cons a2 a3 =>
    cases a3 with
    | cons a3 a4 =>
    cases a4 with
    | cons a4 a5 =>
    cases a5
    cases a1
    have e3 := a3
    cases a3 with
    | lst b1 b2 => exact ⟨p, L, _, b, _, t, n, es, rfl, d.go0 g1, a2, e3, a4, R, hv, hl, h1, h2, fun H' g d' => q H' (g1.wide.transS g) d'⟩
def spLaw (K : PySem.W.Frag) : Sp := fun vs H Q _ => ∃ (a : Addr) (zs : List Int), vs = [.ref a] ∧ SqL K H a (zs.map V.int) ∧ zs.length ≤ 63 ∧ ∀ H', Q (.bl true) H'
theorem mk_law {x : Str} {st : Stmt} {f : Addr} {fd : FuncData} {N ps : List Str} {k : Nat} {sp : Sp} (F : FunD K x x (defArgs st) (defBody st) (defScope st) [] [] f fd) (S : FnScope N ps (defScope st))
    (len : ∀ vs H Q E, sp vs H Q E → vs.length = ps.length)
    (body : ∀ (cdv : Value) (A : Around) (outer : List Env) (s : Shared) (H : Hp) (vs : List V) (Q : VK) (E : XK), Room k (A.deeper (envOfC x (defScope st) s.heap.objs.size f cdv)) → sp vs H Q E →
      ∃ t, PSs (cxOf CX0 P w K mg base N x (defScope st) f cdv A outer s H E).nox (defBody st) t ∧ t { nx := fun _ H' => Q .non H', rt := Q } (L2.start N vs) H) : FnOk P w K mg base CX0 (k + 1) f fd ps sp :=
  F.ok S len fun cdv A outer s H vs Q E hr h => let ⟨t, h1, h2⟩ := body cdv A outer s H vs Q E hr h; ⟨t, h1.nox, h2⟩
theorem u_law (T : Tx K mg) (c : Tc P w K mg base (He.ga K "Crossing") [] []) (cw : Tc P w K mg base (cWa' K) exW hNon) (wi : Fn P w K mg base (He.ma K (He.ga K "WatchedCrossing") "__init__") 12 ["self", "rule", "bound"] [.non] (spWaInit K)) (po : ∃ p, PropOf K (cWa' K) "overs" p (He5.wf K (He.ga K "WatchedCrossing") "property" "overs")) (ml : Meth K (cWa' K) "__len__" (crm K "__len__"))
    {psm : Addr} (sm : SMet K (He.ga K "Crossing") "turned" psm (He5.wf K (He.ga K "Crossing") "staticmethod" "turned")) {fdl : FuncData} (FL : FunD K "law" "law" (defArgs s_law) (defBody s_law) (defScope s_law) [] [] (He.ga K "law") fdl) : FnOk P w K mg base CX0 16 (He.ga K "law") fdl ["_law_script"] (spLaw K) := by
  have scN := (⟨rfl, rfl, rfl, by decide +kernel, rfl, by decide +kernel, by decide +kernel⟩ : FnScope ["_law_script", "_law_dice_here", "_law_turn", "_law_table", "_law_crossing", "_law_edits", "_law_now"] ["_law_script"] (defScope s_law))
  refine mk_law FL scN (fun vs H Q E ⟨a, zs, e, _⟩ => by rw [e]; rfl) fun cdv A outer s0 H vs Q E hr ⟨a, zs, e1, hq, hl, q⟩ => ?_
  subst e1
  refine ⟨_, (pss_cons (ps_set (i := 1) scN.nd rfl (Or.inl rfl) (pe_use (u_L_dice T) hr (by decide) rfl (pa_cons (pv 0) pa_nil))) (pss_cons (ps_for PassesOwn.never rfl (pi_range1 rfl T.free_range (pa_cons pe_int pa_nil)) (pg_name (i := 2) scN.nd rfl (Or.inl rfl)) (pss_cons (ps_set (i := 3) scN.nd rfl (Or.inl rfl) (pe_use (u_L_rule T) hr (by decide) rfl (pa_cons (pv 1) (pa_cons (pe_op op_add pe_int (pe_use (u_L_roll T) hr (by decide) rfl (pa_cons (pv 1) (pa_cons pe_int pa_nil)))) pa_nil)))) (pss_cons (ps_asg (pe_use (u_L_planned T) hr (by decide) rfl (pa_cons (pv 1) (pa_cons (pv 3) (pa_cons (pe_use (u_L_roll T) hr (by decide) rfl (pa_cons (pv 1) (pa_cons pe_int pa_nil))) pa_nil)))) (pg_unl rfl (pgs_cons (pg_name (i := 5) scN.nd rfl (Or.inl rfl)) (pgs_cons (pg_name (i := 6) scN.nd rfl (Or.inl rfl)) pgs_nil)))) (pss_cons (ps_set (i := 4) scN.nd rfl (Or.inl rfl) (pe_use (u_L_done T c) hr (by decide) rfl (pa_cons (pe_makeU T.mkr_Crossing (u_Cr_init T) hr (by decide) rfl T.glo_Crossing (pa_cons (pv 3) pa_nil)) (pa_cons (pv 5) pa_nil)))) (pss_cons (ps_if (PW.pt (pw_or (pt_cmpR (op_neDK (K := K) hr.units) (pe_lst (pa_cons (pe_meth0U (pv 4) c.cl c.me_current (u_Cr_current T c) hr (by decide)) (pa_cons (pe_meth0U (pv 4) c.cl c.me_row (u_Cr_row T c) hr (by decide)) (pa_cons (pe_meth0U (pv 4) c.cl c.me_passed (u_Cr_passed T c) hr (by decide)) pa_nil)))) (pe_callTy (call_listK (K := K)) (by rfl) T.free_list (by decide +kernel) (pa_cons (pe_slice (sl_tupK (K := K)) (pv 6) po_none (po_some pe_int)) pa_nil)) (nomark _)) (pw_or1 (pt_not (pt_val (pe_use (u_L_lanes_right T) hr (by decide) rfl (pa_cons (pv 6) pa_nil))))))) (pss_one (ps_ret pe_bl)) pss_nil) (pss_cons (ps_if (PW.pt (pw_or (pt_not (pt_val (pe_use (u_L_names_right T cw wi po) hr (by decide) rfl (pa_cons (pv 1) (pa_cons (pv 3) (pa_cons (pv 5) (pa_cons (pv 6) pa_nil))))))) (pw_or1 (pt_not (pt_val (pe_use (u_L_idle_right T cw wi po ml) hr (by decide) rfl (pa_cons (pv 1) (pa_cons (pv 3) (pa_cons (pv 5) (pa_cons (pv 6) pa_nil)))))))))) (pss_one (ps_ret pe_bl)) pss_nil) (pss_one (ps_if (PW.pt (pw_or (pt_not (pt_val (pe_use (u_L_single_right T c) hr (by decide) rfl (pa_cons (pv 5) pa_nil)))) (pw_or1 (pt_cmpR (op_neDK (K := K) hr.units) (pe_smethU (pe_glob (v := .ref (He.ga K "Crossing")) rfl T.glo_Crossing rfl) sm (u_turned T) hr (by decide) (pa_cons (pe_smethU (pe_glob (v := .ref (He.ga K "Crossing")) rfl T.glo_Crossing rfl) sm (u_turned T) hr (by decide) (pa_cons (pv 3) pa_nil)) pa_nil)) (pv 3) (nomark _))))) (pss_one (ps_ret pe_bl)) pss_nil)))))))) (pss_one (ps_ret pe_bl)))), ?_⟩
  refine ⟨_, rfl, a, zs, rfl, hq, by omega, fun p L H1 g1 hd1 => ?_⟩
  refine ⟨4, rfl, by decide, by decide, ?_⟩
  have sd : Sd H1 [some (.ref a), some (.ref p), none, none, none, none, none] ((startD ["_law_script", "_law_dice_here", "_law_turn", "_law_table", "_law_crossing", "_law_edits", "_law_now"] [.raw (.ref a)]).set 1 (some (.raw (.ref p)))) := (Sd.start (.cons (.raw (.ref a)) .nil) ["_law_script", "_law_dice_here", "_law_turn", "_law_table", "_law_crossing", "_law_edits", "_law_now"]).set (i := 1) (.raw (.ref p))
  refine for_range (lo := 0) (n := 4) (fun i σ' H' => Sd H' σ' ((startD ["_law_script", "_law_dice_here", "_law_turn", "_law_table", "_law_crossing", "_law_edits", "_law_now"] [.raw (.ref a)]).set 1 (some (.raw (.ref p)))) ∧ Dice H' p L) ⟨sd, hd1⟩ ?_ (fun σ' H' _ => q H')
  rintro i σ2 H2 hi ⟨s2, hd2⟩
  have s2' := s2.set (i := 2) (At.int (H := H2) (0 + (i : Int)))
  have hR2 : ∀ {S}, AvR S (((startD ["_law_script", "_law_dice_here", "_law_turn", "_law_table", "_law_crossing", "_law_edits", "_law_now"] [.raw (.ref a)]).set 1 (some (.raw (.ref p)))).set 2 (some (.int (0 + (i : Int))))) := avr_cons (.raw _) (avr_cons (.raw _) (avr_cons (.int _) (avr_none (avr_none (avr_none (avr_none avr_nil))))))
  refine r_gname ?_
  refine r_seq (r_asg (r_call (r_cons ?_)))
  refine (dv_var (i := 1) (d := .raw (.ref p)) rfl) _ H2 _ s2' fun v3 H3 g3 a3 => ?_
  cases a3
  have s3 := s2'.go g3
  refine r_cons (r_op (r_c ?_))
  refine run_roll (many := 6) (da_cons (dv_var (i := 1) rfl) (da_cons (dv_cN (n := 6) rfl) da_nil)) (by decide) (by decide) _ H3 _ s3 (hd2.go0 g3) fun k H4 hk g4 hd4 => ?_
  have s4 := s3.goS g4 hR2
  refine ⟨_, _, rfl, rfl, r_nil ?_⟩
  refine ⟨p, L, 1 + k, by show [V.ref p, V.int (1 + (k : Int))] = [V.ref p, V.int ((1 + k : Nat) : Int)]; rw [Int.natCast_add]; rfl, hd4, by omega, by omega, fun vt t H5 R g5 hd5 at5 => ?_⟩
  have s5 := (s4.goS g5 hR2).set (i := 3) at5
  have hR5 : ∀ {S}, AvR S ((((startD ["_law_script", "_law_dice_here", "_law_turn", "_law_table", "_law_crossing", "_law_edits", "_law_now"] [.raw (.ref a)]).set 1 (some (.raw (.ref p)))).set 2 (some (.int (0 + (i : Int))))).set 3 (some (dRule t))) := hR2.set av_R
  refine r_gname ?_
  dsimp only
  refine r_seq (r_asg (r_call (r_cons ?_)))
  refine (dv_var (i := 1) (d := .raw (.ref p)) rfl) _ H5 _ s5 fun v6 H6 g6 a6 => ?_
  cases a6
  have s6 := s5.go g6
  refine r_cons ?_
  refine (dv_var (i := 3) (d := dRule t) rfl) _ H6 _ s6 fun v7 H7 g7 a7 => ?_
  have s7 := s6.go g7
  refine r_cons ?_
  refine run_roll (many := 31) (da_cons (dv_var (i := 1) rfl) (da_cons (dv_cN (n := 31) rfl) da_nil)) (by decide) (by decide) _ H7 _ s7 ((hd5.go0 g6).go0 g7) fun m H8 hm g8 hd8 => ?_
  have s8 := s7.goS g8 hR5
  refine r_nil ?_
  refine ⟨p, L, v7, t, 1 + k, m, rfl, hd8, a7.goS g8 av_R, R, by omega, fun Rr B es H9 hv hes g9 hd9 hB a9 => ?_⟩
  have s9 := s8.goS g9 hR5
  have hnB : p ≠ B ∧ L ≠ B := by
    obtain ⟨cs, r, x, y, _⟩ := hd8
    exact ⟨ne_of_none x hB, ne_of_none y hB⟩
  cases a9 with
  | lst hr1 hr2 =>
  cases hr2 with
  | cons hb1 hr2 =>
  cases hr2 with
  | cons hb2 hr3 =>
  cases hr3
  refine ⟨Rr, _, rfl, SqL.of hr1, rfl, _, _, rfl, _, _, rfl, rfl, ?_⟩
  have s10 := (s9.set (i := 5) hb1).set (i := 6) hb2
  dsimp only
  refine r_seq (r_asg (r_call (r_cons ?_)))
  refine run_mkCr (K := K) (t := t) (n := 1 + k) (da_cons (dv_var (i := 3) rfl) da_nil) R _ H9 _ s10 fun cr H11 d11 g11 hcr hc11 ha11 => ?_
  have hRc : AvR [cr] _ := s10.avN hcr
  have s11 := s10.go g11
  refine r_cons ?_
  refine (dv_var (i := 5) (d := .lst B (dEds es)) rfl) _ H11 _ s11 fun v12 H12 g12 a12 => ?_
  have s12 := s11.go g12
  refine r_nil ?_
  have J := inv_first R
  refine run_done (K := K) (C := He.ga K "Crossing") (ex := []) (hs := []) (ha11.go g12) hc11 a12 J hv (by omega) (by omega) fun H13 d13 g13 hc13 ha13 => ?_
  have s13 := (s12.goS g13 hRc).set (i := 4) ha13
  have hne : p ≠ cr ∧ L ≠ cr := by
    obtain ⟨cs, r, x, y, _⟩ := hd9
    exact ⟨ne_of_none x hcr, ne_of_none y hcr⟩
  have hd13 : Dice H13 p L := ((hd9.go0 g11).go0 g12).go g13 (by simpa using hne.1) (by simpa using hne.2)
  have hcrB : B ≠ cr := by
    have := hRc 5 (.lst B (dEds es)) rfl
    cases this with
    | lst h _ => simpa using h
  obtain ⟨dx, scs, ks, e4, o4⟩ := id hc13
  subst e4
  have I := J.steps hv
  have hmany := I.many
  have hcl : (steps (first t) es).came.length ≤ 100 := by omega
  have lanes : ∀ l, LaneOk (steps (first t) es) l := fun l => lane_steps J hv (lane_first t l)
  have hR13 : AvR [p, L] (((((((((startD ["_law_script", "_law_dice_here", "_law_turn", "_law_table", "_law_crossing", "_law_edits", "_law_now"] [.raw (.ref a)]).set 1 (some (.raw (.ref p)))).set 2 (some (.int (0 + (i : Int))))).set 3 (some (dRule t))).set 5 (some (.lst B (dEds es)))).set 6 (some (dNow (steps (first t) es)))).set 4 (some (dCr cr (He.ga K "Crossing") dx [] scs ks []))))) :=
    avr_cons (.raw _) (avr_cons (.raw _) (avr_cons (.int _) (avr_cons av_R (avr_cons (.ob (by simp; exact ⟨hne.1.symm, hne.2.symm⟩) (av_fields c o4.avS o4.avK)) (avr_cons (.lst (by simp; exact ⟨hnB.1.symm, hnB.2.symm⟩) av_Eds) (avr_cons av_Now avr_nil))))))
  refine r_gname ?_
  dsimp only
  generalize hss : steps (first t) es = ss at *
  generalize hsg : List.set _ 4 (some (V.ref cr)) = σ13 at *
  have rd : ∀ {f : Sc → D} {dd : D}, dd = f ss → relV K (He.ga K "Crossing") [] [] f (dCr cr (He.ga K "Crossing") dx [] scs ks [] :: ([] ++ [.non])) dd := fun e => ⟨cr, _, _, _, rfl, hc13, hcl, e⟩
  have cmA : ∀ {x : Addr}, Cm 64 (.lst x [dRule ss.t, dNs ss.came, dNs ss.done]) _ := fun {x} => cm_lst (cms_cons (cm_R _) (cms_cons (cm_Ns _) (cms_cons (cm_Ns _) cms_nil)))
  refine r_seq ?_
  refine (dn_skip (Dt.to (b := false || !true) (dt_or (dt_test (dv_opLL (fun a1 a2 => rd_neSame cmA cmA) (dl_lst (ds := [dRule ss.t, dNs ss.came, dNs ss.done]) (da_cons (dv_methO (dds := [.non]) (mthO c (by decide +kernel) (by decide +kernel)) (dv_var rfl) da_nil (fun _ => .cons .non .nil) (rd rfl)) (da_cons (dv_methO (dds := [.non]) (mthO c (by decide +kernel) (by decide +kernel)) (dv_var rfl) da_nil (fun _ => .cons .non .nil) (rd rfl)) (da_cons (dv_methO (dds := [.non]) (mthO c (by decide +kernel) (by decide +kernel)) (dv_var rfl) da_nil (fun _ => .cons .non .nil) (rd rfl)) da_nil))) (by simp)) (dl_listT (Dv.to (dv_sl3 (ds := nowL ss) (j := 3) (dv_var rfl) (dv_cN rfl) (by show 3 < 6; decide)) rfl)))) fun _ => dt_not (dt_tB (dv_call (ds := [dNow ss]) (d := .bl true) (da_cons (dv_var rfl) da_nil) ⟨ss, _, _, rfl, I, by omega, lanes, rfl⟩))) rfl)) _ H13 _ s13 fun σ14 H14 g14 s14 => ?_
  dsimp only
  refine r_seq ?_
  refine r_ifS (r_or (r_not (r_tB ?_)))
  have hd14 := hd13.go0 g14
  refine run_names (t := t) (b := B) (es := es) (da_cons (dv_var (i := 1) rfl) (da_cons (dv_var (i := 3) rfl) (da_cons (dv_var (i := 5) rfl) (da_cons (dv_var (i := 6) (by rw [hss]; rfl)) da_nil)))) R hv (by omega) hnB.1 hnB.2 _ H14 _ s14 hd14 fun H15 g15 hd15 => ⟨true, rfl, ?_⟩
  have s15 := s14.goS g15 hR13
  refine iteF (r_not (r_tB ?_))
  refine run_names (t := t) (b := B) (es := es) (da_cons (dv_var (i := 1) rfl) (da_cons (dv_var (i := 3) rfl) (da_cons (dv_var (i := 5) rfl) (da_cons (dv_var (i := 6) (by rw [hss]; rfl)) da_nil)))) R hv (by omega) hnB.1 hnB.2 _ H15 _ s15 hd15 fun H16 g16 hd16 => ⟨true, rfl, ?_⟩
  have s16 := s15.goS g16 hR13
  refine iteF ?_
  have hlt := R.len
  refine (dn_skip (Dt.to (b := !true || false) (dt_or (dt_not (dt_tB (dv_call (ds := [.lst B (dEds es)]) (d := .bl true) (da_cons (dv_var (i := 5) rfl) da_nil) ⟨B, es, t, 1 + k, rfl, R, hv, by omega, rfl⟩))) fun _ => dt_test (dv_op (rd_neSame (cm_R t) (cm_R t)) (dv_smeth (ds := [dRule (turned t)]) (d := dRule t) (da_cons (dv_smeth (ds := [dRule t]) (d := dRule (turned t)) (da_cons (dv_var (i := 3) rfl) da_nil) ⟨t, rfl, by omega, rfl⟩) da_nil) ⟨turned t, rfl, by simp [turned]; omega, by rw [turned_twice]⟩) (dv_var (i := 3) rfl))) rfl)) _ H16 _ s16 fun σ17 H17 g17 s17 => ?_
  refine ⟨s17.weak ?_, hd16.go0 g17⟩
  refine ⟨rfl, fun j d hj => ?_⟩
  match j, hj with
  | 0, hj => exact hj
  | 1, hj => exact hj
  | 2, hj => cases hj
  | 3, hj => cases hj
  | 4, hj => cases hj
  | 5, hj => cases hj
  | 6, hj => cases hj
end
end K70
set_option Elab.async false
set_option linter.all false
set_option maxRecDepth 100000
set_option maxHeartbeats 4000000
namespace K70
open PySem PySem.Spec PyProof.Rows L2
section
variable {P : Program} {w : World} {K : PySem.W.Frag} {mg : Str → Option Value} {base : Heap}
structure Ex (K : PySem.W.Frag) : Prop where
  cc : PropOf K (He.ga K "Crossing") "cars" (He.ma K (He.ga K "Crossing") "cars") (He5.wf K (He.ga K "Crossing") "property" "cars")
  cl : PropOf K (He.ga K "Crossing") "length" (He.ma K (He.ga K "Crossing") "length") (He5.wf K (He.ga K "Crossing") "property" "length")
  wc : PropOf K (cWa' K) "cars" (He.ma K (cWa' K) "cars") (He5.wf K (He.ga K "Crossing") "property" "cars")
  wl : PropOf K (cWa' K) "length" (He.ma K (cWa' K) "length") (He5.wf K (He.ga K "Crossing") "property" "length")
  wo : PropOf K (cWa' K) "overs" (He.ma K (cWa' K) "overs") (He5.wf K (cWa' K) "property" "overs")
  sm : SMet K (He.ga K "Crossing") "turned" (He.ma K (He.ga K "Crossing") "turned") (He5.wf K (He.ga K "Crossing") "staticmethod" "turned")
  l1 : ∃ u, Con K (He.ga K "Crossing") "LIMIT" (.int 60) u
  l2 : ∃ u, Con K (cWa' K) "LIMIT" (.int 60) u
  inh : ∀ m ∈ inherited, He.ma K (cWa' K) m = He.ma K (He.ga K "Crossing") m
  s1 : SupOk K fileK (He.ma K (cWa' K) "__init__") (cWa' K) "__init__" (He.ma K (He.ga K "Crossing") "__init__")
  s2 : SupOk K fileK (He.ma K (cWa' K) "accept") (cWa' K) "accept" (He.ma K (He.ga K "Crossing") "accept")
theorem Tx.exs (T : Tx K mg) : Ex K := by
  have h := T.says.ex
  unfold exB at h
  obtain ⟨a1, h⟩ := He.ba h
  obtain ⟨a2, h⟩ := He.ba h
  obtain ⟨a3, h⟩ := He.ba h
  obtain ⟨a4, h⟩ := He.ba h
  obtain ⟨a5, h⟩ := He.ba h
  obtain ⟨a6, h⟩ := He.ba h
  obtain ⟨a7, h⟩ := He.ba h
  obtain ⟨a8, h⟩ := He.ba h
  obtain ⟨a9, h⟩ := He.ba h
  obtain ⟨b1, h⟩ := He.ba h
  obtain ⟨b2, h⟩ := He.ba h
  obtain ⟨b3, h⟩ := He.ba h
  obtain ⟨b4, b5⟩ := He.ba h
  obtain ⟨w1, w2⟩ := He5.wrapB_ok a6
  obtain ⟨fd, F⟩ := T.f_Crossing_turned
  exact ⟨propB_ok a1, propB_ok a2, propB_ok a3, propB_ok a4, propB_ok a5, ⟨a7, of_decide_eq_true a8, w1, w2, F.kp⟩, conB_ok b1, conB_ok b2, fun m hm => of_decide_eq_true (List.all_eq_true.mp b3 m hm), supB_ok b4, supB_ok b5⟩
theorem meth_eq {C f g : Addr} {m : Str} (h : Meth K C m f) (e : f = g) : Meth K C m g := e ▸ h
theorem inh_mem {m : Str} (X : Ex K) (h : decide (m ∈ inherited) = true) : He.ma K (cWa' K) m = crm K m := X.inh m (of_decide_eq_true h)
theorem tc_Crossing (T : Tx K mg) : Tc P w K mg base (He.ga K "Crossing") [] [] := by
  have X := T.exs
  exact { cl := T.cls_Crossing, na_scenes := T.noat_Crossing_scenes, na_kept := T.noat_Crossing_kept, na_is_busy := T.noat_Crossing_is_busy, me_require_idle := T.meth_Crossing_require_idle, me_require_lane := T.meth_Crossing_require_lane, me_scene_with_rule := T.meth_Crossing_scene_with_rule, me_scene_after := T.meth_Crossing_scene_after, me_perform := T.meth_Crossing_perform, me_come := T.meth_Crossing_come, me_go := T.meth_Crossing_go, me_change := T.meth_Crossing_change, me_scene_at := T.meth_Crossing_scene_at, me_current := T.meth_Crossing_current, me_row := T.meth_Crossing_row, me_waiting := T.meth_Crossing_waiting, me_passed := T.meth_Crossing_passed, me_word := T.meth_Crossing_word, me_accept := T.meth_Crossing_accept, pr_cars := ⟨_, X.cc⟩, pr_length := ⟨_, X.cl⟩, limit := X.l1, ex6 := .inl rfl, exl := rfl, avH := fun d h => (by cases h), acc := u_Cr_accept0 T [] [] }
theorem tc_Watched (T : Tx K mg) (acc : Fn P w K mg base (He.ma K (cWa' K) "accept") 3 ["self", "scene"] [] (spP fun ds d => ∃ p d0 s k s', ds = [d0, dSc K s'] ∧ Cs K (cWa' K) exW hNon p d0 s k ∧ d = .non)) : Tc P w K mg base (cWa' K) exW hNon := by
  have X := T.exs
  exact { cl := T.cls_WatchedCrossing, na_scenes := T.noat_WatchedCrossing_scenes, na_kept := T.noat_WatchedCrossing_kept, na_is_busy := T.noat_WatchedCrossing_is_busy, me_require_idle := meth_eq T.meth_WatchedCrossing_require_idle (inh_mem X (by decide +kernel)), me_require_lane := meth_eq T.meth_WatchedCrossing_require_lane (inh_mem X (by decide +kernel)), me_scene_with_rule := meth_eq T.meth_WatchedCrossing_scene_with_rule (inh_mem X (by decide +kernel)), me_scene_after := meth_eq T.meth_WatchedCrossing_scene_after (inh_mem X (by decide +kernel)), me_perform := meth_eq T.meth_WatchedCrossing_perform (inh_mem X (by decide +kernel)), me_come := meth_eq T.meth_WatchedCrossing_come (inh_mem X (by decide +kernel)), me_go := meth_eq T.meth_WatchedCrossing_go (inh_mem X (by decide +kernel)), me_change := meth_eq T.meth_WatchedCrossing_change (inh_mem X (by decide +kernel)), me_scene_at := meth_eq T.meth_WatchedCrossing_scene_at (inh_mem X (by decide +kernel)), me_current := meth_eq T.meth_WatchedCrossing_current (inh_mem X (by decide +kernel)), me_row := meth_eq T.meth_WatchedCrossing_row (inh_mem X (by decide +kernel)), me_waiting := meth_eq T.meth_WatchedCrossing_waiting (inh_mem X (by decide +kernel)), me_passed := meth_eq T.meth_WatchedCrossing_passed (inh_mem X (by decide +kernel)), me_word := meth_eq T.meth_WatchedCrossing_word (inh_mem X (by decide +kernel)), me_accept := T.meth_WatchedCrossing_accept, pr_cars := ⟨_, X.wc⟩, pr_length := ⟨_, X.wl⟩, limit := X.l2, ex6 := .inr rfl, exl := rfl, avH := fun d h S => (by rw [List.mem_singleton.mp h]; exact .non), acc := acc }
theorem u_law_T (T : Tx K mg) (acc : Fn P w K mg base (He.ma K (cWa' K) "accept") 3 ["self", "scene"] [] (spP fun ds d => ∃ p d0 s k s', ds = [d0, dSc K s'] ∧ Cs K (cWa' K) exW hNon p d0 s k ∧ d = .non)) (wi : Fn P w K mg base (He.ma K (He.ga K "WatchedCrossing") "__init__") 12 ["self", "rule", "bound"] [.non] (spWaInit K)) {fdl : FuncData} (FL : FunD K "law" "law" (defArgs s_law) (defBody s_law) (defScope s_law) [] [] (He.ga K "law") fdl) : FnOk P w K mg base CX0 16 (He.ga K "law") fdl ["_law_script"] (spLaw K) :=
  u_law T (tc_Crossing T) (tc_Watched T acc) wi ⟨_, T.exs.wo⟩ (meth_eq T.meth_WatchedCrossing_len (inh_mem T.exs (by decide +kernel))) T.exs.sm FL
end
end K70
set_option Elab.async false
set_option linter.all false
set_option maxRecDepth 100000
set_option maxHeartbeats 4000000
namespace K70
open PySem PySem.Spec PyProof.Rows L2
/-! a def with a closure cell __class__ that says super().m(..) first -/
theorem cellsFrom_app : ∀ (names : List (Str × NameKind)) (n : Nat) (a b : List (Str × Addr)), cellsFrom n names (a ++ b) = cellsFrom n names a ++ b
  | [], _, _, _ => rfl
  | (x, k) :: r, n, a, b => by
    unfold cellsFrom
    split
    · exact cellsFrom_app r (n + 1) ((x, n) :: a) b
    · exact cellsFrom_app r n a b
abbrev envK (qual : Str) (scope : Scope) (L f : Addr) (cd : Value) (cc : Addr) : Env := PySem.W.envX qual scope L f cd (cellsFrom (L + 1) scope.names [] ++ [(("__class__" : Str), cc)])
section
variable {M : Model} {A : Around} {E : Value → Shared → Prop} {s0 s : Shared} {m cm : Str → Option Value} {env : Env} {own : List (Str × Addr)}
theorem st_l {n : Str} {v : Value} {Q : Unit → Shared → Prop} (x : InCallC s0 env.locals m own cm s) (hk : env.scope.kind = .function) (hl : env.kindOf n = some .local)
    (h : ∀ s', InCallC s0 env.locals (fun y => if y = n then some v else m y) own cm s' → Q () s') : wpAny M A (storeName env n v) Q E s := by
  refine wpAny_storeName_local hl x.toInCall.ns (fun h' hn' hs' => h _ ⟨⟨?_, hn', fun b o e => ?_, x.toInCall.fresh⟩, fun k c hc => ?_, x.apart, x.above⟩) (by rw [hk]; rfl)
  · obtain ⟨h1, tk, rfl⟩ := x.toInCall.same
    exact ⟨h', _, rfl⟩
  · exact hs'.extBut b o (Nat.ne_of_lt (Nat.lt_of_lt_of_le (Heap.lt_size e) x.toInCall.fresh)) (x.toInCall.keep b o e)
  · exact (x.cell k c hc).sameBut hs' (Nat.ne_of_gt (x.above k c (PySem.mem_of_lookup hc)))
theorem st_c {n : Str} {c : Addr} {v : Value} {Q : Unit → Shared → Prop} (x : InCallC s0 env.locals m own cm s) (hk : env.scope.kind = .function) (hl : env.kindOf n = some .cell)
    (hc : env.cells.lookup n = some c) (hc' : own.lookup n = some c)
    (h : ∀ s', InCallC s0 env.locals m own (fun y => if y = n then some v else cm y) s' → Q () s') : wpAny M A (storeName env n v) Q E s := by
  have hLc := x.above n c (PySem.mem_of_lookup hc')
  refine wpAny_storeName_cell hk hl hc (x.cell n c hc') fun h' hc'' hs' => h _ ⟨⟨?_, x.toInCall.ns.sameBut hs' (Nat.ne_of_lt hLc), fun b o e => ?_, x.toInCall.fresh⟩, fun k c' hk' => ?_, x.apart, x.above⟩
  · obtain ⟨h1, tk, rfl⟩ := x.toInCall.same
    exact ⟨h', _, rfl⟩
  · exact hs'.extBut b o (Nat.ne_of_lt (Nat.lt_trans (Nat.lt_of_lt_of_le (Heap.lt_size e) x.toInCall.fresh) hLc)) (x.toInCall.keep b o e)
  · by_cases hkn : k = n
    · subst hkn
      rw [hc'] at hk'; cases hk'
      simpa using hc''
    · rw [if_neg hkn]
      exact (x.cell k c' hk').sameBut hs' fun e => hkn (name_of_addr x.apart (PySem.mem_of_lookup hk') (e ▸ PySem.mem_of_lookup hc'))
theorem bind_ps (f : Str × Value → PUnit → Sem (ForInStep PUnit)) (hf : ∀ n v u, f (n, v) u = (do storeName env n v; pure (.yield ⟨⟩))) (hk : env.scope.kind = .function) :
    ∀ (binds : List (Str × Value)) (m cm : Str → Option Value) (s : Shared) (Q : PUnit → Shared → Prop), InCallC s0 env.locals m own cm s →
      (∀ x ∈ binds, env.kindOf x.1 = some .local ∨ (env.kindOf x.1 = some .cell ∧ ∃ c, env.cells.lookup x.1 = some c ∧ own.lookup x.1 = some c)) →
      (∀ s', InCallC s0 env.locals (bindL env.kindOf binds m) own (bindC env.kindOf binds cm) s' → Q ⟨⟩ s') → wpAny M A (forIn binds ⟨⟩ f) Q E s
  | [], m, cm, s, Q, x, _, h => by rw [List.forIn_nil]; exact wpAny_pure (h s x)
  | (n, v) :: r, m, cm, s, Q, x, hkind, h => by
    rw [List.forIn_cons, hf]
    have hr : ∀ y ∈ r, env.kindOf y.1 = some .local ∨ (env.kindOf y.1 = some .cell ∧ ∃ c, env.cells.lookup y.1 = some c ∧ own.lookup y.1 = some c) := fun y hy => hkind y (List.mem_cons_of_mem _ hy)
    rcases hkind (n, v) List.mem_cons_self with hl | ⟨hl, c, hc, hc'⟩
    · refine wpAny_bind (wpAny_bind (st_l x hk hl fun s' x' => wpAny_pure (bind_ps f hf hk r _ _ s' Q x' hr fun s'' x'' => h s'' ?_)))
      unfold bindL bindC; rw [if_pos hl, if_pos hl]; exact x''
    · have hnl : ¬ env.kindOf n = some .local := by rw [hl]; decide
      refine wpAny_bind (wpAny_bind (st_c x hk hl hc hc' fun s' x' => wpAny_pure (bind_ps f hf hk r _ _ s' Q x' hr fun s'' x'' => h s'' ?_)))
      unfold bindL bindC; rw [if_neg hnl, if_neg hnl]; exact x''
end
section
variable {M : Model} {A : Around} {E : Value → Shared → Prop} {s : Shared}
theorem new_env {scope : Scope} {globals : Addr} {clo : List (Str × Addr)} {binds : List (Str × Value)} {qual : Str} {func : Option Addr} {code : Value} {builtins : Addr} {Q : Env → Shared → Prop}
    (hk : scope.kind = .function)
    (hkind : ∀ x ∈ binds, scope.names.lookup x.1 = some .local ∨ (scope.names.lookup x.1 = some .cell ∧ ∃ c, (cellsFrom (s.heap.objs.size + 1) scope.names [] ++ clo).lookup x.1 = some c ∧ (cellsFrom (s.heap.objs.size + 1) scope.names []).lookup x.1 = some c))
    (hQ : ∀ env, env = newEnv scope s.heap.objs.size globals (cellsFrom (s.heap.objs.size + 1) scope.names [] ++ clo) qual func code none builtins →
      ∀ s', InCallC s env.locals (bindL env.kindOf binds fun _ => none) (cellsFrom (s.heap.objs.size + 1) scope.names []) (bindC env.kindOf binds fun _ => none) s' → Q env s') :
    wpAny M A (newFunctionEnv scope globals clo binds qual func code none builtins) Q E s := by
  simp only [newFunctionEnv, Option.isSome_none, Bool.false_eq_true, if_false]
  refine wpAny_bind (wpAny_alloc ?_)
  refine wpAny_bind (wpAny_layCells _ (fun name kind cells => by cases hkc : kind == NameKind.cell <;> simp [hkc]) _ _ _ _ ?_)
  have ok := cellsFrom_ok scope.names (s.heap.push { cls := .type "frame", data := .dict #[] }) (s.heap.objs.size + 1) [] ⟨fun _ _ hm => (nomatch hm), List.Pairwise.nil⟩ (by rw [Heap.size_push]; exact Nat.le_refl _)
  rw [Heap.size_push] at ok
  rw [show ({ s with heap := s.heap.push { cls := .type "frame", data := .dict #[] } } : Shared).heap.objs.size = s.heap.objs.size + 1 from Heap.size_push ..]
  rw [show cellsFrom (s.heap.objs.size + 1) scope.names clo = cellsFrom (s.heap.objs.size + 1) scope.names [] ++ clo from cellsFrom_app scope.names _ [] clo]
  refine wpAny_bind (bind_ps (s0 := s) (own := cellsFrom (s.heap.objs.size + 1) scope.names []) (env := newEnv scope s.heap.objs.size globals (cellsFrom (s.heap.objs.size + 1) scope.names [] ++ clo) qual func code none builtins)
    _ (fun _ _ _ => rfl) hk binds (fun _ => none) (fun _ => none) _ _
    ⟨⟨⟨_, _, rfl⟩, (Heap.Ns.new s.heap (.type "frame")).keeps (pushCells_keeps _ _), fun b o e => pushCells_keeps _ _ b o (Heap.get?_push_of_some _ e), Nat.le_refl _⟩,
      fun n c hc => (ok.empty n c (PySem.mem_of_lookup hc)).1, ok.apart, fun n c hm => (ok.empty n c hm).2⟩
    hkind fun s' x => wpAny_pure (hQ _ rfl s' x))
end
structure FnScopeK (P : List Str) (sc : Scope) : Prop where
  kind : sc.kind = .function
  co : sc.isCoroutine = false
  gen : sc.isGenerator = false
  nd : P.Nodup
  par : ∀ x ∈ P, sc.names.lookup x = some .local ∨ sc.names.lookup x = some .cell
  free : ∀ y ∈ sc.names, y.2 = .free → y.1 = "__class__"
  cls : sc.names.lookup ("__class__" : Str) = some NameKind.free
  sup : sc.names.lookup ("super" : Str) = some NameKind.globalImplicit
  own : ∀ n, (cellsFrom n sc.names []).lookup ("__class__" : Str) = none
/-- the context of such a body -/
def cxK (P : Program) (w : World) (K : PySem.W.Frag) (mg : Str → Option Value) (base : Heap) (N : List Str) (qual : Str) (scope : Scope) (f : Addr) (cd : Value) (cc : Addr) (A : Around) (outer : List Env) (s : Shared) (H : Hp) (E : XK) : Cx where
  prog := P
  w := w
  K := K
  mg := mg
  base := base
  A := A.deeper (envK qual scope s.heap.objs.size f cd cc)
  N := N
  s_0 := s
  H_0 := H
  env := envK qual scope s.heap.objs.size f cd cc
  outer := outer
  stack := envK qual scope s.heap.objs.size f cd cc :: outer
  ex := []
  calm := true
  fn := fun x => x != "__class__"
  pn := []
  xe := fun e s' => wpAny (model P w) (A.deeper (envK qual scope s.heap.objs.size f cd cc)) (leaving (envK qual scope s.heap.objs.size f cd cc) e) (fun _ s'' => CX0 outer H s E e s'') (fun e' s'' => CX0 outer H s E e' s'') s'
theorem lk_app {own : List (Str × Addr)} {x : Str} {c cc : Addr} (h : (own ++ [(("__class__" : Str), cc)]).lookup x = some c) : own.lookup x = some c ∨ (x = "__class__" ∧ c = cc) := by
  rw [List.lookup_append] at h
  cases e : own.lookup x with
  | some d => rw [e] at h; exact .inl h
  | none =>
    rw [e] at h
    by_cases hx : x = "__class__"
    · subst hx
      refine .inr ⟨rfl, ?_⟩
      have h2 : some cc = some c := h
      exact (Option.some.inj h2).symm
    · have h2 : (match x == "__class__" with | true => some cc | false => none) = some c := h
      rw [show (x == ("__class__" : Str)) = false from by simpa using hx] at h2
      cases h2
theorem inv_startK {P : Program} {w : World} {K : PySem.W.Frag} {mg : Str → Option Value} {base : Heap} {ps : List Str} {qual : Str} {scope : Scope} {f cc : Addr} {oC : Obj} {cv : Value} {cd : Value} {A : Around} {outer : List Env} {s s1 : Shared} {H : Hp} {E : XK} {us : List Value} {vs : List V}
    (S : FnScopeK ps scope) (hd : A.handled = none) (e0 : Env0 P w K mg base A outer s H) (hl : vs.length = ps.length) (r : Vals vs us) (hcc : base.get? cc = some oC) (hcv : oC.data = .cell (some cv))
    (x : InCallC s s.heap.objs.size (bindL (envK qual scope s.heap.objs.size f cd cc).kindOf (ps.zip us) fun _ => none) (cellsFrom (s.heap.objs.size + 1) scope.names []) (bindC (envK qual scope s.heap.objs.size f cd cc).kindOf (ps.zip us) fun _ => none) s1) :
    L2.Inv (cxK P w K mg base ps qual scope f cd cc A outer s H E) [] (L2.start ps vs) H s1 := by
  obtain ⟨h1, tk, rfl, hk⟩ := x.done
  have hs := e0.bs cc oC hcc
  have hlt : cc < s.heap.objs.size := Heap.lt_size hs.1
  have noA : ∀ b : Addr, b ∉ (cxK P w K mg base ps qual scope f cd cc A outer s H E).ex := fun b z => absurd (show b ∈ ([] : List Addr) from z) (by simp)
  refine ⟨⟨e0.mod, S.kind, rfl, rfl, Nat.le_refl _, fun y z c h1 h2 => ?_, fun y hy => ?_, fun y c hf h => ?_, fun _ => hd, Around.frames_deeper e0.frames, .inr ⟨rfl, rfl⟩, fun b z => absurd z (noA b), e0.bs, e0.bsz, fun b _ _ => noA b, fun b z => absurd z (noA b), e0.funs, e0.frf⟩,
    rfl, e0.bare, Un.kept hk, ⟨_, x.toInCall.ns, fun i y v h1 h2 h3 => ?_⟩, fun y c h => ?_, e0.hok.fresh (Nat.le_refl _), fun y c h => ?_, fun p hp => absurd (show p ∈ ([] : List (Addr × Obj)) from hp) (by simp), e0.hok.kept hk, ?_⟩
  · rcases lk_app h1 with a | ⟨a, a2⟩ <;> rcases lk_app h2 with b | ⟨b, b2⟩
    · exact name_of_addr x.apart (PySem.mem_of_lookup a) (PySem.mem_of_lookup b)
    · have := x.above y c (PySem.mem_of_lookup a)
      rw [b2] at this
      exact absurd (Nat.lt_trans this hlt) (Nat.lt_irrefl _)
    · have := x.above z c (PySem.mem_of_lookup b)
      rw [a2] at this
      exact absurd (Nat.lt_trans this hlt) (Nat.lt_irrefl _)
    · rw [a, b]
  · have hy : scope.names.lookup y = some .cell ∨ scope.names.lookup y = some .free := hy
    rcases hy with hy | hy
    · obtain ⟨c, e⟩ := cell_has (n := s.heap.objs.size + 1) hy
      exact ⟨c, by show List.lookup y (_ ++ _) = _; rw [List.lookup_append, e]; rfl⟩
    · obtain rfl := S.free _ (PySem.mem_of_lookup hy) rfl
      exact ⟨cc, by show List.lookup _ (_ ++ _) = _; rw [List.lookup_append, S.own]; rfl⟩
  · rcases lk_app h with a | ⟨a, _⟩
    · exact Nat.le_of_lt (x.above y c (PySem.mem_of_lookup a))
    · subst a
      exact absurd (show (("__class__" : Str) != ("__class__" : Str)) = true from hf) (by decide)
  · have hi : i < vs.length := by
      unfold L2.start at h2
      by_cases hi : i < vs.length
      · exact hi
      · rw [List.getElem?_append_right (by simpa using hi)] at h2
        rw [List.getElem?_replicate] at h2
        split at h2 <;> cases h2
    have ha : vs[i]? = some v := by
      unfold L2.start at h2
      rw [List.getElem?_append_left (by simpa using hi), List.getElem?_map] at h2
      cases e : vs[i]? with
      | none => rw [e] at h2; cases h2
      | some a => rw [e] at h2; cases h2; rfl
    obtain ⟨u, hu, rv⟩ := r.get ha
    have hp : ps[i]? = some y := h1
    refine ⟨u, rv, ?_⟩
    rcases S.par y (List.mem_of_getElem? hp) with k | k
    · exact .inl ⟨k, bindL_get S.nd hp hu k⟩
    · obtain ⟨c, e⟩ := cell_has (n := s.heap.objs.size + 1) k
      refine .inr ⟨.inl k, c, by show List.lookup y (_ ++ _) = _; rw [List.lookup_append, e]; rfl, ?_⟩
      have q := x.cell y c e
      rw [bindC_get S.nd hp hu (by show scope.names.lookup y ≠ _; rw [k]; decide)] at q
      exact q
  · rcases lk_app h with a | ⟨_, a⟩
    · exact ⟨_, x.cell y c a⟩
    · subst a
      exact ⟨some cv, oC, hk _ _ hs.1, hcv⟩
  · rcases lk_app h with a | ⟨_, a⟩
    · exact e0.hok.fresh (Nat.le_of_lt (x.above y c (PySem.mem_of_lookup a)))
    · subst a
      exact hs.2
  · unfold L2.start
    show _ = ps.length
    rw [List.length_append, List.length_map, List.length_replicate]
    omega
end K70
set_option Elab.async false
set_option linter.all false
set_option maxRecDepth 100000
set_option maxHeartbeats 4000000
namespace K70
open PySem PySem.Spec PyProof.Rows L2
theorem ld_self {X : Cx} {A : Around} {E : Value → Shared → Prop} {pins : List (Addr × Obj)} {s : Shared} {σ : L2.St} {H : Hp} {i : Nat} {x : Str} {v : V} {Q : Value → Shared → Prop} (I : L2.Inv X pins σ H s) (hN : X.N[i]? = some x) (hσ : σ[i]? = some (some v)) (hv : Vis X.env.scope x)
    (hq : ∀ u, RelV v u → Q u s) (hcd : (x == ("__classdict__" : Str)) = false := by decide) : wpAny (model X.prog X.w) A (loadName X.env x) Q E s := by
  obtain ⟨m, hn, hl⟩ := I.loc
  obtain ⟨u, r, l⟩ := hl i x v hN hσ hv
  rcases l with ⟨hk, hm⟩ | ⟨hk, c, hc, hcell⟩
  · exact wpAny_loadName_local I.ok.kind hk hn hm (hq u r)
  · rcases hk with hk | hk
    · exact wpAny_loadName_cell I.ok.kind hk hc hcell (hq u r)
    · exact wpAny_loadName_free I.ok.kind hk hc hcell (hq u r) hcd
theorem bootS : bootBuiltins "super" = some (.type "super") := by kernel_rfl
/-- what is told of the def at f: SupOk, unfolded -/
structure SupF (K : PySem.W.Frag) (f : Addr) (name qual : Str) (params : Arguments) (body : List Stmt) (scope : Scope) (kws : List (Str × V)) (D g : Addr) (m : Str) (fd : FuncData) (cc cda : Addr) : Prop where
  ex : ∃ oc od kV doc pm an ct osl, fd = PySem.W.fnX name qual params body scope [(("__class__" : Str), cc)] .none kV doc pm an (.ref cda) ct ∧ K.lookup f = some ⟨oc, od, .func fd, osl⟩ ∧ PySem.W.codeIn K (.ref cda) qual = true ∧ KwdV K kV kws
  cell : ∃ cl cld csl, K.lookup cc = some ⟨cl, cld, .cell (some (.ref D)), csl⟩
  code : ∃ ccl cdd vs ccs tf, K.lookup cda = some ⟨ccl, cdd, .fields vs, ccs⟩ ∧ vs[2]? = some (.str fileK tf)
theorem sup_f {K : PySem.W.Frag} {d : He5.DefA} {D g : Addr} {m : Str} (e : fnC K (d.at_ K) = valC d) (c : d.ok K = true) (hd : d.dvs K = []) (S : SupOk K fileK (d.at_ K) D m g) :
    ∃ fd cc cda, SupF K (d.at_ K) d.name d.qual d.params d.body d.scope (d.kws K) D g m fd cc cda := by
  obtain ⟨oc, od, fd, osl, n, cc, cd, cl, cld, csl, ccl, cdd, vs, ccs, tf, h1, h2, h3, h4, h5, h6⟩ := S.ex
  obtain ⟨kp, c2⟩ := He.ba c
  rw [h1] at c2
  have c3 : (PySem.W.codeIn K fd.code d.qual && (He.dflB K fd.defaults (d.dvs K) && He.kwdB K fd.kwdefaults (d.kws K))) = true := c2
  obtain ⟨k1, k2⟩ := He.ba c3
  obtain ⟨k3, k4⟩ := He.ba k2
  unfold fnC at e
  rw [h1] at e
  obtain ⟨n1, n2, n3, n4, n5, n6, n7, n8, n9, n10, n11, n12, n13, n14, n15⟩ := fd
  have e2 : (some (n1, n2, n3, n4, n5, n6, n7.map (·.1), n15) : FnC) = some (d.name, d.qual, d.params, FuncBody.stmts d.body, d.scope, mainGlobals, [("__class__" : Str)], builtinsNs) := e
  simp only [Option.some.injEq, Prod.mk.injEq] at e2
  obtain ⟨q1, q2, q3, q4, q5, q6, q7, q8⟩ := e2
  have h2' : n7 = [(n, cc)] := h2
  have h3' : n13 = .ref cd := h3
  subst h2' h3'
  have q7' : [n] = [("__class__" : Str)] := q7
  have qn : n = "__class__" := by simpa using q7'
  subst q1 q2 q3 q4 q5 q6 qn q8
  have hn8 : n8 = .none := by
    rcases He.dflB_ok k3 with ⟨_, z⟩ | ⟨z, _⟩
    · exact z
    · exact absurd hd z
  subst hn8
  exact ⟨_, cc, cd, ⟨oc, od, n9, n10, n11, n12, n14, osl, rfl, h1, k1, He.kwdB_ok k4⟩, ⟨cl, cld, csl, h4⟩, ⟨ccl, cdd, vs, ccs, tf, h5, h6⟩⟩
theorem fn_sup {P : Program} {w : World} {K : PySem.W.Frag} {mg : Str → Option Value} {base : Heap} {k j : Nat} {f D g cc cda : Addr} {name qual m : Str} {params : Arguments} {body rest : List Stmt} {scope : Scope} {kws : List (Str × V)} {fd : FuncData} {ps : List Str} {sp sp' : Sp} {p0 p1 apos pos pE : Pos} {e : Expr} {ar : Arg}
    (T : SupF K f name qual params body scope kws D g m fd cc cda) (O : SupOk K fileK f D m g) (hg : PySem.W.fnIn K g = true) (S : FnScopeK ps scope) (hsuper : mg "super" = none)
    (hfile : ((P.main.file : Str) == fileK) = true) (htop : (P.main.scope.names.lookup ("super" : Str)).isSome = false) (hat : (m == ("__class__" : Str)) = false)
    (hp : (params.posonlyargs ++ params.args).head? = some ar) (h0 : ps[0]? = some ar.arg) (hcd0 : (ar.arg == ("__classdict__" : Str)) = false)
    (hbody : body = .Expr (.Call (.Attribute (.Call (.Name "super" p0) [] [] p1) m apos) [e] [] pos) pE :: rest)
    (F : FnR P w K mg base CX0 j g sp') (hj : j ≤ k)
    (he : ∀ env : Env, env.scope = scope → ∃ pl : Sem Bool, eval (.Call (.Attribute (.Call (.Name "super" p0) [] [] p1) m apos) [e] [] pos) env = (do
      let ov ← attributeBase (.Call (.Name "super" p0) [] [] p1) m env (eval (.Call (.Name "super" p0) [] [] p1) env)
      standAt apos.atName
      let (f, first) ← holding [ov] (getMethod ov m pl)
      callWith pos f first (backTo pos (starEach [e] env)) []))
    (hst : ∀ env, starEach [e] env = (false, eval e env) :: starEach [] env) (hpl : ∀ env, (backTo pos (starEach [] env)).any (·.1) = false)
    (hsw : ∀ env, swapsWith (.Call (.Attribute (.Call (.Name "super" p0) [] [] p1) m apos) [e] [] pos) none pE.line env = pure false) (hin : ∀ (qual : Str) (L f : Addr) (cd : Value) (cc : Addr), interactive (envK qual scope L f cd cc) = false)
    (len : ∀ vs H Q E, sp vs H Q E → vs.length = ps.length)
    (run : ∀ (A : Around) (outer : List Env) (s : Shared) (H : Hp) (vs : List V) (Q : VK) (E : XK), Room k (A.deeper (envK qual scope s.heap.objs.size f (.ref cda) cc)) → sp vs H Q E →
      ∃ t1 t2 p dx fs, vs[0]? = some (.ref p) ∧ H p = some (.ins D dx fs) ∧ PA (cxK P w K mg base ps qual scope f (.ref cda) cc A outer s H E) [e] t1 ∧ PSs (cxK P w K mg base ps qual scope f (.ref cda) cc A outer s H E) rest t2 ∧
        t1 (L2.start ps vs) H fun ws H1 => sp' (.ref p :: ws) H1 (fun _ H2 => t2 { nx := fun _ H' => Q .non H', rt := Q } (L2.start ps vs) H2) E0) :
    FnOk P w K mg base CX0 (k + 1) f fd ps sp := by
  obtain ⟨oc, od, kV, doc, pm, an, ct, osl, rfl, lk, hcd, _⟩ := T.ex
  obtain ⟨cl, cld, csl, lcell⟩ := T.cell
  obtain ⟨ccl, cdd, vsc, ccs, tf, lcode, hvs⟩ := T.code
  refine ⟨len, fun A outer s H args us vs Q E hr e0 hb r hsp => ?_⟩
  have hl := len _ _ _ _ hsp
  have KX : K.In s.heap := e0.mod.kin.keeps fun b o e => (e0.bs b o e).1
  have lim : s.heap.NoLimit := e0.mod.nolimit.keeps fun b o e => (e0.bs b o e).1
  have hkind : ∀ y ∈ ps.zip us, scope.names.lookup y.1 = some NameKind.local ∨ (scope.names.lookup y.1 = some NameKind.cell ∧ ∃ c, (cellsFrom (s.heap.objs.size + 1) scope.names [] ++ [(("__class__" : Str), cc)]).lookup y.1 = some c ∧ (cellsFrom (s.heap.objs.size + 1) scope.names []).lookup y.1 = some c) := fun ⟨n, v⟩ hy => by
    rcases S.par n (List.of_mem_zip hy).1 with q | q
    · exact .inl q
    · obtain ⟨c, z⟩ := cell_has (n := s.heap.objs.size + 1) q
      exact .inr ⟨q, c, by show List.lookup n (_ ++ _) = _; rw [List.lookup_append, z]; rfl, z⟩
  refine codeAny_call_function hr.depth (KX _ _ lk) rfl S.co S.gen rfl (PySem.W.codeRec_of KX hcd) (hb _ _ _ _ ?_)
  refine new_env S.kind hkind fun env hev s1 x => ?_
  subst hev
  refine ⟨lim.keeps x.toInCall.keep, ks_codeAny_funcAt ?_⟩
  obtain ⟨t1, t2, p, dx, fs, hv0, hH, ha, hrest, hw⟩ := run A outer s H vs Q E (hr.deeper _) hsp
  have I : L2.Inv (cxK P w K mg base ps qual scope f (.ref cda) cc A outer s H E) [] (L2.start ps vs) H s1 := inv_startK S hr.hd e0 hl r (e0.mod.kin _ _ lcell) rfl x
  have hσ : (L2.start ps vs)[0]? = some (some (.ref p)) := by
    unfold L2.start
    have hi : 0 < vs.length := (List.getElem?_eq_some_iff.mp hv0).1
    rw [List.getElem?_append_left (by simpa using hi), List.getElem?_map, hv0]
    rfl
  have hvis : Vis scope ar.arg := by
    rcases S.par _ (List.mem_of_getElem? h0) with q | q
    · exact .inl q
    · exact .inr (.inl q)
  subst hbody
  refine ks_wpAt_execs_cons (ks_wpAt_Expr_any ?_ (hin _ _ _ _ _) (hsw _))
  obtain ⟨pl, hev⟩ := he (envK qual scope s.heap.objs.size f (.ref cda) cc) rfl
  refine ks_wpAt_MethodCall (pl := pl) ?_ hev
  have X1 : K.In s1.heap := I.kIn
  refine ks_wpAt_super_base (env := envK qual scope s.heap.objs.size f (.ref cda) cc) S.sup S.cls hat rfl (X1 _ _ lk) rfl hp rfl (X1 _ _ lcode) rfl hvs hfile htop ?_
  obtain ⟨mb, b1, b2⟩ := I.mod.blt
  have hz : (cellsFrom (s.heap.objs.size + 1) scope.names [] ++ [(("__class__" : Str), cc)]).lookup ("__class__" : Str) = some cc := by
    show List.lookup _ (_ ++ _) = _
    rw [List.lookup_append, S.own]
    rfl
  refine PySem.W.ks_loadName_global S.kind S.sup (Calls.loadGlobal_builtin (env := envK qual scope s.heap.objs.size f (.ref cda) cc) (I.mod.glob.keeps I.bk) hsuper (b1.keeps I.bk) ((b2 "super" (by decide)).trans bootS) ⟨rfl, ?_⟩)
  refine wpAny_loadName_free S.kind S.cls hz ⟨_, X1 _ _ lcell, rfl⟩ ?_
  refine ld_self I h0 hσ hvis (fun u ru => ?_) hcd0
  obtain rfl : u = Value.ref p := ru
  obtain ⟨cdD, hcls⟩ := Option.isSome_iff_exists.mp O.cls
  obtain ⟨oD, hD1, hD2⟩ : ∃ oD, s1.heap.get? D = some oD ∧ oD.data = .cls cdD := by
    unfold PySem.W.clsIn at hcls
    split at hcls
    · rename_i c d cd' sl ho
      cases hcls
      exact ⟨_, X1 _ _ ho, rfl⟩
    · cases hcls
  obtain ⟨mA, OM, _⟩ := ins_get I.hok hH
  obtain ⟨odx, J, _⟩ := OM.look
  obtain ⟨of, hof, hofc⟩ : ∃ of, K.lookup g = some of ∧ of.cls = .type "function" := by
    have ht' : (K.lookup g).map (·.cls) = some (.type "function") := O.typ
    cases z : K.lookup g with
    | none => rw [z] at ht'; cases ht'
    | some of => rw [z] at ht'; exact ⟨of, rfl, Option.some.inj ht'⟩
  have hsupI := O.sup
  unfold PySem.W.ks_superIn at hsupI
  rw [hcls] at hsupI
  obtain ⟨hh, gg, dd, tt, oo⟩ := s1
  refine ks_wpAny_isType_cls hD1 hD2 ⟨rfl, ?_⟩
  refine ks_wpAny_call_super hD1 hD2 J.at_ J.cls (fun c e => ?_) (PySem.W.looks_mroIn X1 O.mro) (fun h' e1 kp => ?_)
  · have := J.no
    unfold PySem.W.notCls at this
    rw [e] at this
    exact Bool.noConfusion this
  have I1 := ClX.pin_new (t' := tt) I kp (Nat.le_refl _) e1 (fun v z => nomatch z)
  have X2 : K.In h' := I1.kIn
  have J1 := J
  refine ks_wpAny_getMethod_super (ClX.pin_at I1) (PySem.W.looks_opaque X2 O.any) (l₀ := cdD.mro) ?_ rfl X2 hsupI (X2 _ _ hof) hofc (PySem.W.ks_ne X1 J hcls) hat ?_
  · exact fun A Q E s k q => wpAny_bind ((PySem.W.looks_clsIn X2 hcls) A _ E s k (wpAny_pure q))
  have I2 := ClX.pin_new (o := PySem.W.methodObj (.ref g) (.ref p)) (t' := tt + 1) I1 (h' := h'.push (PySem.W.methodObj (.ref g) (.ref p))) (fun b o e => Heap.get?_push_of_some _ e) (Nat.le_refl _) (Heap.get?_push_at rfl rfl) (fun v z => nomatch z)
  refine ClX.callwith_cm I2 (ClX.base_none I1 (Nat.le_refl _)) hg (thn (ha.run pos _ _ _ H _ I2 hw) fun us s3 ⟨ws, H1, I3, rv, q2⟩ => ⟨⟨ClX.pin_at I3, I3.kIn⟩, ?_⟩) (hst _) (hpl _)
  refine thn (ClX.run_cm F ((hr.deeper _).mono hj) pass0 I3 rv q2) fun u s4 ⟨v, H2, I4, _, q4⟩ => ?_
  refine wpAt_of_wpAny ?_
  have fin : ∀ {σ' : L2.St} {H' : Hp} {v : V} {u : Value} {s' : Shared}, L2.Inv (cxK P w K mg base ps qual scope f (.ref cda) cc A outer s H E) [] σ' H' s' → RelV v u → Q v H' → CE outer P w H s Q u s' :=
    fun {σ' H' v u s'} J rv q => ⟨v, H', J.os, J.bare, J.base, J.hok, rv, q⟩
  refine wpAny_mono (hrest.run [] s4 _ H2 _ (ClX.unpin I4) q4) (fun fl s' hs => ?_) fun e s' hs => hs
  cases fl with
  | ret u =>
    obtain ⟨v, σ', H', J, rv, q⟩ := hs
    exact fin J rv q
  | next =>
    obtain ⟨σ', H', J, q⟩ := hs
    exact fin (v := V.non) (u := Value.none) J rfl q
  | brk =>
    obtain ⟨_, _, _, q⟩ := hs
    exact False.elim q
  | cont =>
    obtain ⟨_, _, _, q⟩ := hs
    exact False.elim q
end K70
set_option Elab.async false
set_option linter.all false
set_option maxRecDepth 100000
set_option maxHeartbeats 4000000
namespace K70
open PySem PySem.Spec PyProof.Rows L2
theorem pt_never {X : Cx} {e : Expr} : PT X e (fun _ _ _ => False) := ⟨fun _ _ _ _ _ _ h => h.elim⟩
section
variable {P : Program} {w : World} {K : PySem.W.Frag} {mg : Str → Option Value} {base : Heap}
theorem wa_accept (T : Tx K mg) (hfile : ((P.main.file : Str) == fileK) = true) (htop : (P.main.scope.names.lookup ("super" : Str)).isSome = false) :
    Fn P w K mg base (He.ma K (cWa' K) "accept") 3 ["self", "scene"] [] (spP fun ds d => ∃ p d0 s k s', ds = [d0, dSc K s'] ∧ Cs K (cWa' K) exW hNon p d0 s k ∧ d = .non) := by
  obtain ⟨c1, c2⟩ := T.says.clo 1 (d := d_WatchedCrossing_accept) rfl
  obtain ⟨fd, cc, cda, F⟩ := sup_f c2 c1 rfl T.exs.s2
  have scN : FnScopeK ["self", "scene"] (defScope s_WatchedCrossing_accept) := ⟨rfl, rfl, rfl, by decide +kernel, by decide +kernel, by decide +kernel, rfl, rfl, fun n => rfl⟩
  obtain ⟨fd0, F0⟩ := T.f_Crossing_accept
  have hg : PySem.W.fnIn K (He.ma K (He.ga K "Crossing") "accept") = true := by
    obtain ⟨oc, od, dV, kV, doc, pm, an, cdv, ct, osl, e, l, _⟩ := F0.ex
    unfold PySem.W.fnIn
    rw [l]
  have U : Fn P w K mg base (crm K "accept") 2 ["self", "scene"] [] (spP fun ds d => ∃ d0 d1, ds = [d0, d1] ∧ d = .non) := by
    have sc0 := (⟨rfl, rfl, rfl, by decide +kernel, rfl, by decide +kernel, by decide +kernel⟩ : FnScope ["self", "scene"] ["self", "scene"] (defScope s_Crossing_accept))
    refine mk_fnP T.f_Crossing_accept sc0 (fun kV doc pm an cdv ct us hl => match us, hl with | [_, _], _ => rfl) (fun ds d ⟨_, _, e, _⟩ => by rw [e]; rfl) fun cdv A outer s0 H E ds d hr ⟨d0, d1, e1, e3⟩ => ?_
    subst e1 e3
    have scN := sc0
    refine ⟨_, (pss_one ps_pass), ?_⟩
    exact df_n dn_next
  obtain ⟨fd', ds', hv', hb', F'⟩ := U.ex
  cases hv'
  have FR := F'.raw hb' .nil
  refine ⟨fd, [], .nil, ?_, ?_⟩
  · obtain ⟨oc, od, kV, doc, pm, an, ct, osl, rfl, lk, hcd, hK⟩ := F.ex
    exact .all fun us hl => match us, hl with | [_, _], _ => rfl
  · refine fn_sup (ps := ["self", "scene"]) F T.exs.s2 hg scN T.free_super hfile htop (by decide +kernel) rfl rfl (by decide +kernel) rfl (FR.mono (k := 2) (by decide)) (Nat.le_refl _) (fun env _ => ⟨_, rfl⟩) (fun _ => rfl) (fun _ => rfl) (fun _ => rfl) (fun _ _ _ _ _ => rfl) (fun vs H Q E ⟨ds, d, h1, ⟨_, _, _, _, _, e, _⟩, _⟩ => by rw [h1.length, e]; rfl) fun A outer s H vs Q E hr ⟨ds, d, h1, ⟨p, d0, sc, k, sc', e1, ⟨dx, scs, ks, e2, ok⟩, e3⟩, q⟩ => ?_
    subst e1 e2 e3
    cases h1 with
    | cons h1 h2 =>
    cases h2 with
    | cons h2 h3 =>
    cases h3
    have h1' := h1
    cases h1 with
    | ob g1 g2 g3 =>
    rename_i xs v2
    refine ⟨_, _, p, dx, _, rfl, g1, pa_cons (pe_var (i := 1) rfl (Or.inl rfl)) pa_nil, PSs.nox (pss_one (ps_if (pt_cmpR op_notN (pe_fldK (K := K) (pe_var (i := 0) rfl (Or.inr (Or.inl rfl)))) pe_non (nomark _)) pss_never pss_nil)), ?_⟩
    have hS := Sd.start (.cons h1' (.cons h2 .nil)) (["self", "scene"] : List Str)
    have hn : (((crN ++ exW).zip ([D.tup scs, .tup ks, .bl false] ++ hNon)).lookup ("height" : Str)) = some .non := rfl
    exact (da_cons (dv_var (i := 1) rfl) da_nil) _ H _ hS fun ws H1 q1 a1 => ⟨_, .non, by rw [List.append_nil]; exact .cons (h1'.go q1) a1, ⟨_, _, rfl, rfl⟩, fun v H2 q2 a2 =>
      (df_n (dn_skip (dt_test (dv_op (rd_notN (d := .non) (fun w h => by cases h)) (dv_fldO T.cls_WatchedCrossing T.noat_WatchedCrossing_height hn (dv_var (i := 0) rfl)) dv_c0)))) _ H2 Q ((hS.go q1).go q2) fun v' H3 q3 a3 => q v' H3 (q1.trans (q2.trans q3)) a3⟩
theorem wa_init (T : Tx K mg) (hfile : ((P.main.file : Str) == fileK) = true) (htop : (P.main.scope.names.lookup ("super" : Str)).isSome = false) :
    Fn P w K mg base (He.ma K (He.ga K "WatchedCrossing") "__init__") 12 ["self", "rule", "bound"] [.non] (spWaInit K) := by
  obtain ⟨c1, c2⟩ := T.says.clo 0 (d := d_WatchedCrossing_init) rfl
  obtain ⟨fd, cc, cda, F⟩ := sup_f c2 c1 rfl T.exs.s1
  have scN : FnScopeK ["self", "rule", "bound"] (defScope s_WatchedCrossing_init) := ⟨rfl, rfl, rfl, by decide +kernel, by decide +kernel, by decide +kernel, rfl, rfl, fun n => rfl⟩
  obtain ⟨fd0, F0⟩ := T.f_Crossing_init
  have hg : PySem.W.fnIn K (He.ma K (He.ga K "Crossing") "__init__") = true := by
    obtain ⟨oc, od, dV, kV, doc, pm, an, cdv, ct, osl, e, l, _⟩ := F0.ex
    unfold PySem.W.fnIn
    rw [l]
  obtain ⟨fd', ds', hv', hb', F'⟩ := (u_Cr_init_of (P := P) (w := w) (mg := mg) (base := base) T T.cls_WatchedCrossing T.noat_WatchedCrossing_scenes T.noat_WatchedCrossing_kept T.noat_WatchedCrossing_is_busy).ex
  cases hv'
  have FR := F'.raw hb' .nil
  have hB : ∃ ds, Vals [V.non] ds ∧ Binds K fd ["self", "rule", "bound"] ds := by
    obtain ⟨oc, od, kV, doc, pm, an, ct, osl, rfl, lk, hcd, hK⟩ := F.ex
    rcases hK with e | ⟨D, rfl, hq⟩
    · cases e
    · obtain ⟨ks, hl, rk, hks⟩ := kwd_vals hq
      refine ⟨ks, rk, fun s us X hlen => ?_⟩
      have l1 : ks.length = 1 := hl
      have l2 : us.length = 2 := by
        rw [List.length_append, l1] at hlen
        have : us.length + 1 = 3 := hlen
        omega
      exact BindsTo.of_looks fun M => KwChain.looks X hks (match us, l2, ks, l1 with | [_, _], _, [_], _ => ⟨_, _, _, _, _, _, rfl, rfl, rfl⟩)
  obtain ⟨ds, hds, hbd⟩ := hB
  refine ⟨fd, ds, hds, hbd, ?_⟩
  refine fn_sup (ps := ["self", "rule", "bound"]) F T.exs.s1 hg scN T.free_super hfile htop (by decide +kernel) rfl rfl (by decide +kernel) rfl (FR.mono (k := 11) (by decide)) (Nat.le_refl _) (fun env _ => ⟨_, rfl⟩) (fun _ => rfl) (fun _ => rfl) (fun _ => rfl) (fun _ _ _ _ _ => rfl) (fun vs H Q E ⟨_, _, _, _, _, e, _⟩ => by rw [e]; rfl) fun A outer s H vs Q E hr ⟨p, dx, v, t, n, e1, hp, ha, R, q⟩ => ?_
  subst e1
  refine ⟨_, _, p, dx, _, rfl, hp, pa_cons (pe_var (i := 1) rfl (Or.inl rfl)) pa_nil, PSs.nox (pss_cons (ps_if (PW.pt (pw_and (pt_cmpR op_notN (pe_var (i := 2) rfl (Or.inl rfl)) pe_non (nomark _)) (pw_and1 pt_never))) pss_never pss_nil) (pss_one (ps_fld (pe_var (i := 0) rfl (Or.inl rfl)) (pe_var (i := 2) rfl (Or.inl rfl)) rfl))), ?_⟩
  have hS := Sd.start (.cons (.raw (.ref p)) (.cons ha (.cons .non .nil))) (["self", "rule", "bound"] : List Str)
  refine (da_cons (dv_var (i := 1) rfl) da_nil) _ H _ hS fun ws H1 q1 a1 => ?_
  cases a1 with
  | cons a1 a2 =>
  cases a2
  refine ⟨p, dx, _, t, n, rfl, q1.keep hp (by simp), a1, R, fun H2 q2 a2 => ?_⟩
  have hS2 := Sd.start (.cons a2 (.cons ((ha.go q1).goS q2 av_R) (.cons .non .nil))) (["self", "rule", "bound"] : List Str)
  have hR : AvR [p] ((startD (["self", "rule", "bound"] : List Str) [.ob p (cWa' K) dx crN [.tup [dSc K (first t)], .tup [], .bl false], dRule t, .non]).set 0 none) := avr_none (avr_cons av_R (avr_cons .non avr_nil))
  show tSeq _ _ { nx := fun _ H' => Q .non H', rt := Q } _ H2
  suffices hh : Ds p _ (startD (["self", "rule", "bound"] : List Str) [.ob p (cWa' K) dx crN [.tup [dSc K (first t)], .tup [], .bl false], dRule t, .non]) ((startD (["self", "rule", "bound"] : List Str) [.ob p (cWa' K) dx crN [.tup [dSc K (first t)], .tup [], .bl false], dRule t, .non]).set 0 (some (.ob p (cWa' K) dx (crN ++ (["height"] : List Str)) ([.tup [dSc K (first t)], .tup [], .bl false] ++ [.non])))) from
    hh _ H2 { nx := fun _ H' => Q .non H', rt := Q } hS2 fun σ' H' g s' => by
      obtain ⟨x, _, k⟩ := s'.at_ 0 _ rfl
      have := k.at_ref
      subst this
      exact q H' (q1.wide.transS (q2.transS g)) k
  refine ds_seq (ds_n (dn_skip (Dt.to (dt_and (b2 := true) (dt_test (dv_op (rd_notN (d := .non) (fun w h => by cases h)) (dv_var (i := 2) rfl) dv_c0)) fun h => by cases h) rfl))) ?_
  exact ds_new T.cls_WatchedCrossing T.noat_WatchedCrossing_height (ks := crN) (ds := [.tup [dSc K (first t)], .tup [], .bl false]) (d := .non) rfl (by decide +kernel) (by decide) hR (av_cons (.tup (av_cons av_Sc av_nil)) (av_cons (.tup av_nil) (av_cons (.bl _) av_nil))) .non (dv_var (i := 2) rfl)
/-- the law's def, from the facts -/
theorem use_law (T : Tx K mg) (hfile : ((P.main.file : Str) == fileK) = true) (htop : (P.main.scope.names.lookup ("super" : Str)).isSome = false) {fdl : FuncData} (FL : FunD K "law" "law" (defArgs s_law) (defBody s_law) (defScope s_law) [] [] (He.ga K "law") fdl) : FnOk P w K mg base CX0 16 (He.ga K "law") fdl ["_law_script"] (spLaw K) := u_law_T T (wa_accept T hfile htop) (wa_init T hfile htop) FL
end
end K70
set_option Elab.async false
set_option linter.all false
set_option maxRecDepth 100000
set_option maxHeartbeats 4000000
namespace K70
open PySem PySem.Spec PyProof.Rows L2
theorem facts {P : Program} {w : World} {K : PySem.W.Frag} {h : Heap} {mg : Str → Option Value} {f : Addr} (X : K.In h) (G : h.Ns mainGlobals mg) (hfa : mg ("law" : Str) = some (.ref f)) (c : SaysK K)
    (hfile : ((P.main.file : Str) == fileK) = true) (htop : (P.main.scope.names.lookup ("super" : Str)).isSome = false) :
    ∃ fd : FuncData, (∀ (s : Shared) (v : Value), BindsTo s fd ⟨[v], []⟩ [(("_law_script" : Str), v)]) ∧ ∀ base : Heap, K.In base → base.Ns mainGlobals mg → FnOk P w K mg base CX0 16 f fd ["_law_script"] (spLaw K) := by
  have T : Tx K mg := ⟨c, h, X, G⟩
  obtain ⟨fd, FL⟩ := T.f_law
  have e := hfa.symm.trans T.glo_law
  cases e
  have b := FunD.bindsA (ps := ["_law_script"]) FL fun _ _ _ _ _ _ us hl => match us, hl with | [_], _ => rfl
  exact ⟨fd, fun s v => b s [v] rfl, fun base X' G' => use_law T hfile htop FL⟩
end K70
open PySem PySem.W PySem.Calls PyProof.Rows
theorem PySem.Challenge.cw_lanerules_k70_whole_lanes_renamed_holds : PySem.Challenge.rw_lanerules_k70_whole_lanes_renamed.Holds := by
  w_on; o_law
  refine HandSHeadRun.head_any (r := OpenLaw.row PySem.Challenge.rw_lanerules_k70_whole_lanes_renamed) (q := view (OpenLaw.row PySem.Challenge.rw_lanerules_k70_whole_lanes_renamed).prog [58]) (H := K70.hookK) (ob := K70.ob) (M := 7000) (loose := K70.loose0 ++ K70.loose1 ++ K70.loose2 ++ K70.loose3 ++ K70.loose4) (d := HandSHeadRun.topDef (OpenLaw.row PySem.Challenge.rw_lanerules_k70_whole_lanes_renamed).prog 58) (kwd := []) K70.ob_eq
    (by kernel_rfl) (fun s => by kernel_rfl) K70.run (by kernel_rfl) (by kernel_rfl) (by kernel_rfl) (by rfl) (by first | assumption | decide +kernel) (by decide +kernel) ⟨rfl, rfl, rfl, rfl, rfl, by decide +kernel⟩ ?hw ?hc
  case hw => w_witness2
  case hc =>
    refine L2.walk_ofE (l := PySem.Challenge.rw_lanerules_k70_whole_lanes_renamed) (n := 63) (k := 16) (x := "_law_script") (CX := L2.CX0) rfl (by decide) (by kernel_rfl) ⟨rfl, by decide, by decide⟩ ?F (fun _ _ _ _ z => z)
    intro w mg fa h Y G hmg0
    obtain ⟨K, KX, c⟩ := Y
    have hmg : mg ("law" : PySem.Str) = some (.ref fa) := by
      have e : (HandSHeadRun.topDef (OpenLaw.row PySem.Challenge.rw_lanerules_k70_whole_lanes_renamed).prog 58).name = ("law" : PySem.Str) := by kernel_rfl
      rw [← e]
      exact hmg0
    obtain ⟨fd, hb, hF⟩ := K70.facts (P := (PySem.Challenge.rw_lanerules_k70_whole_lanes_renamed).prog) (w := w) KX G hmg c (by kernel_rfl) (by kernel_rfl)
    exact ⟨K, fd, K70.spLaw K, KX, hb, fun H a ns hl _ hS => ⟨a, ns, rfl, hS, hl, fun _ => rfl⟩, hF⟩
namespace K70
end K70
