import PyProof.Rows.All
import Wide.All
import OpenK.AllK
import Wide.FinOn
import Open.SpecLaws
import KE.OsGo
import HandS.ForSpec
import HandS.Comp
import HandS.Dict
import HandS.Iter
import HandS.TupLen
import HandS.Zip
import HandS.Walk
import HandS.WordsDict
import PyFlatLaws
import PySem.Challenge.RW_lanesums_s01_answers
set_option Elab.async false
set_option linter.all false
set_option maxRecDepth 100000
set_option maxHeartbeats 4000000
/-! The plain law, 1: what the specification's tables say, step by step. -/
namespace Lw
open Sf79

/-- a table that grows by one entry an item -/
def build {α β : Type} (g : Array β → α → β) (l : List α) (v : Array β) : Array β := l.foldl (fun v t => v.push (g v t)) v
theorem build_size {α β : Type} (g : Array β → α → β) : ∀ (l : List α) (v : Array β), (build g l v).size = v.size + l.length
  | [], v => rfl
  | t :: r, v => by
    show (build g r (v.push (g v t))).size = _
    rw [build_size g r, Array.size_push, List.length_cons]
    omega
theorem build_old {α β : Type} (g : Array β → α → β) (d : β) : ∀ (l : List α) (v : Array β) (i : Nat), i < v.size → (build g l v).getD i d = v.getD i d
  | [], v, i, _ => rfl
  | t :: r, v, i, h => by
    show (build g r (v.push (g v t))).getD i d = _
    rw [build_old g d r _ i (by rw [Array.size_push]; omega)]
    simp only [Array.getD_eq_getD_getElem?, Array.getElem?_push, if_neg (Nat.ne_of_lt h)]
theorem build_append {α β : Type} (g : Array β → α → β) (l r : List α) (v : Array β) : build g (l ++ r) v = build g r (build g l v) := List.foldl_append
theorem build_at {α β : Type} (g : Array β → α → β) (d : β) {l : List α} {i : Nat} {t : α} (h : l[i]? = some t) : (build g l #[]).getD i d = g (build g (l.take i) #[]) t := by
  have hi : i < l.length := (List.getElem?_eq_some_iff.mp h).1
  have e : l = l.take i ++ (t :: l.drop (i + 1)) := by
    have e1 := (List.getElem?_eq_some_iff.mp h).2
    rw [← e1, List.getElem_cons_drop, List.take_append_drop]
  have hs : (build g (l.take i) #[]).size = i := by
    rw [build_size, List.length_take]
    show 0 + _ = _
    omega
  conv => lhs; rw [e, build_append]
  show (build g (l.drop (i + 1)) ((build g (l.take i) #[]).push (g (build g (l.take i) #[]) t))).getD i d = _
  rw [build_old g d _ _ i (by rw [Array.size_push, hs]; omega)]
  rw [Array.getD_eq_getD_getElem?, Array.getElem?_push, if_pos hs.symm]
  rfl
theorem build_take {α β : Type} (g : Array β → α → β) (d : β) {l : List α} {i n : Nat} (h : i < n) (hn : n ≤ l.length) : (build g (l.take n) #[]).getD i d = (build g l #[]).getD i d := by
  conv => rhs; rw [← List.take_append_drop n l, build_append]
  refine (build_old _ _ _ _ _ ?_).symm
  rw [build_size, List.length_take]
  show i < 0 + _
  omega
theorem build_more {α β : Type} (g : Array β → α → β) (d : β) {l r : List α} {i : Nat} (h : i < l.length) : (build g (l ++ r) #[]).getD i d = (build g l #[]).getD i d := by
  rw [build_append, build_old]
  rw [build_size]
  show i < 0 + _
  omega

/-! ### masks -/
def maskG (v : Array Nat) (t : Step) : Nat := match t with
  | .col i => 2 ^ i
  | t => t.parts.foldl (fun (a p : Nat) => a ||| v.getD p 0) 0
theorem masks_build (l : List Step) : masks l = build maskG l #[] := rfl
/-- the mask of a step -/
def mask (l : List Step) (s : Nat) : Nat := (masks l).getD s 0
def WF (l : List Step) : Prop := ∀ (i : Nat) (t : Step), l[i]? = some t → ∀ p ∈ t.parts, p < i
theorem fold_or_congr {f g : Nat → Nat} : ∀ (ps : List Nat) (a : Nat), (∀ p ∈ ps, f p = g p) → ps.foldl (fun a p => a ||| f p) a = ps.foldl (fun a p => a ||| g p) a
  | [], _, _ => rfl
  | p :: r, a, h => by
    rw [List.foldl_cons, List.foldl_cons, h p List.mem_cons_self]
    exact fold_or_congr r _ fun q hq => h q (List.mem_cons_of_mem _ hq)
def maskOf (l : List Step) (t : Step) : Nat := match t with
  | .col i => 2 ^ i
  | t => t.parts.foldl (fun (a p : Nat) => a ||| mask l p) 0
theorem maskG_congr {v w : Array Nat} {t : Step} (h : ∀ p ∈ t.parts, v.getD p 0 = w.getD p 0) : maskG v t = maskG w t := by
  cases t <;> first | rfl | exact fold_or_congr _ _ h
theorem maskOf_eq (l : List Step) (t : Step) : maskOf l t = maskG (masks l) t := by cases t <;> rfl
theorem mask_at {l : List Step} (wf : WF l) {s : Nat} {t : Step} (h : l[s]? = some t) : mask l s = maskOf l t := by
  have hs : s < l.length := (List.getElem?_eq_some_iff.mp h).1
  rw [maskOf_eq]
  unfold mask
  rw [masks_build, build_at maskG 0 h]
  exact maskG_congr fun p hp => build_take maskG 0 (wf s t h p hp) (Nat.le_of_lt hs)
theorem mask_more {l r : List Step} {s : Nat} (h : s < l.length) : mask (l ++ r) s = mask l s := build_more maskG 0 h
theorem maskOf_more {l r : List Step} {t : Step} (h : ∀ p ∈ t.parts, p < l.length) : maskOf (l ++ r) t = maskOf l t := by
  rw [maskOf_eq, maskOf_eq]
  exact maskG_congr fun p hp => build_more maskG 0 (h p hp)
theorem mask_new (l : List Step) (t : Step) : mask (l ++ [t]) l.length = maskOf l t := by
  unfold mask
  rw [masks_build, build_at maskG 0 (t := t) (by simp), maskOf_eq]
  rw [List.take_left]
  rfl
theorem masks_size (l : List Step) : (masks l).size = l.length := by
  rw [masks_build, build_size]
  exact Nat.zero_add _

/-! ### still -/
def still (l : List Step) (s : Nat) : Bool := (stills l).getD s true
theorem still_mask {l : List Step} {s : Nat} (h : s < l.length) : still l s = decide (mask l s = 0) := by
  unfold still stills mask
  have h' : s < (masks l).size := by rw [masks_size]; exact h
  simp only [Array.getD_eq_getD_getElem?, Array.getElem?_map, Array.getElem?_eq_getElem h', Option.map_some, Option.getD_some]
  exact Bool.beq_eq_decide_eq _ _
theorem still_out {l : List Step} {s : Nat} (h : l.length ≤ s) : still l s = true := by
  unfold still stills
  have h' : (masks l).size ≤ s := by rw [masks_size]; exact h
  simp [Array.getD_eq_getD_getElem?, h']
theorem fold_or_zero {f : Nat → Nat} : ∀ (ps : List Nat) (a : Nat), ps.foldl (fun a p => a ||| f p) a = 0 ↔ a = 0 ∧ ∀ p ∈ ps, f p = 0
  | [], a => by simp
  | p :: r, a => by
    rw [List.foldl_cons, fold_or_zero r]
    simp only [Nat.or_eq_zero_iff, List.mem_cons, forall_eq_or_imp, and_assoc]
theorem still_parts {l : List Step} (wf : WF l) {s : Nat} {t : Step} (h : l[s]? = some t) (hs : still l s = true) : ∀ p ∈ t.parts, still l p = true := by
  have hl : s < l.length := (List.getElem?_eq_some_iff.mp h).1
  intro p hp
  have hps := wf s t h p hp
  rw [still_mask hl, decide_eq_true_iff, mask_at wf h] at hs
  rw [still_mask (Nat.lt_trans hps hl), decide_eq_true_iff]
  cases t with
  | col i => cases hp
  | val v => cases hp
  | given i => cases hp
  | op o ps => exact ((fold_or_zero _ _).mp hs).2 p hp
  | cast c q => exact ((fold_or_zero _ _).mp hs).2 p hp
  | choice ps => exact ((fold_or_zero _ _).mp hs).2 p hp
theorem col_not_still {l : List Step} (wf : WF l) {s i : Nat} (h : l[s]? = some (.col i)) : still l s = false := by
  have hl : s < l.length := (List.getElem?_eq_some_iff.mp h).1
  rw [still_mask hl, mask_at wf h]
  show decide (2 ^ i = 0) = false
  have : 0 < 2 ^ i := Nat.pow_pos (by decide)
  exact decide_eq_false (by omega)
theorem still_more {l r : List Step} {s : Nat} (h : s < l.length) : still (l ++ r) s = still l s := by
  rw [still_mask h, still_mask (by rw [List.length_append]; omega), mask_more h]

/-! ### what is known -/
/-- where a step is told for a lane -/
def key (x : S) (s l : Nat) : Nat := if still x.steps s = true then 1024 else l
/-- what is known of a step, from what is known of its parts -/
def vf (x : S) (s l : Nat) (t : Step) (f : Nat → Option Nat) : Option Nat := match t with
  | .val a => some a
  | .given i => some (x.given i)
  | .col _ => x.toldOf s l
  | .op o ps => if ours o = true then ourOf o (ps.map f) else match x.toldOf s (key x s l) with
    | some a => some a
    | none => if wayOf o = .all then none else strictOf (ps.map f)
  | .cast _ p => match x.toldOf s (key x s l) with
    | some a => some a
    | none => strictOf [f p]
  | .choice ps => choiceOf (ps.map f)
theorem vf_of (x : S) (v : Array (Option Nat)) (s l : Nat) (t : Step) : x.valueFrom (stills x.steps) v s l t = vf x s l t (fun p => v.getD p none) := by
  cases t <;> rfl
theorem vf_congr {x : S} {s l : Nat} {t : Step} {f g : Nat → Option Nat} (h : ∀ p ∈ t.parts, f p = g p) : vf x s l t f = vf x s l t g := by
  cases t with
  | col i => rfl
  | val v => rfl
  | given i => rfl
  | op o ps =>
    have e : ps.map f = ps.map g := List.map_congr_left h
    simp only [vf, e]
  | cast c q =>
    have e : f q = g q := h q List.mem_cons_self
    simp only [vf, e]
  | choice ps =>
    have e : ps.map f = ps.map g := List.map_congr_left h
    simp only [vf, e]
def tabG (x : S) (l : Nat) (v : Array (Option Nat)) (t : Step) : Option Nat := x.valueFrom (stills x.steps) v v.size l t
theorem table_build (x : S) (n l : Nat) : x.table (stills x.steps) n l = build (tabG x l) (x.steps.take n) #[] := rfl
/-- of the table: any length tells the same -/
theorem table_known {x : S} {n s l : Nat} (h : s < n) (hn : n ≤ x.steps.length) : (x.table (stills x.steps) n l).getD s none = x.known s l := by
  unfold S.known
  rw [table_build, table_build]
  rw [build_take _ _ h hn, build_take _ _ (Nat.lt_succ_self s) (by omega)]
theorem known_at {x : S} (wf : WF x.steps) {s l : Nat} {t : Step} (h : x.steps[s]? = some t) : x.known s l = vf x s l t (fun p => x.known p l) := by
  have hs : s < x.steps.length := (List.getElem?_eq_some_iff.mp h).1
  unfold S.known
  rw [table_build, build_take _ _ (Nat.lt_succ_self s) (by omega), build_at _ _ h]
  have hz : (build (tabG x l) (x.steps.take s) #[]).size = s := by
    rw [build_size, List.length_take]
    show 0 + _ = _
    omega
  show x.valueFrom (stills x.steps) (build (tabG x l) (x.steps.take s) #[]) (build (tabG x l) (x.steps.take s) #[]).size l t = _
  rw [hz, vf_of]
  exact vf_congr fun p hp => table_known (wf s t h p hp) (Nat.le_of_lt hs)
/-- .. behind the steps' end nothing is known -/
theorem known_out {x : S} {s l : Nat} (h : x.steps.length ≤ s) : x.known s l = none := by
  unfold S.known
  rw [table_build, List.take_of_length_le (by omega)]
  have hz : (build (tabG x l) x.steps #[]).size = x.steps.length := by
    rw [build_size]
    exact Nat.zero_add _
  simp [Array.getD_eq_getD_getElem?, hz, h]
/-- a still step is known alike in all lanes -/
theorem known_still {x : S} (wf : WF x.steps) : ∀ (s : Nat), still x.steps s = true → ∀ l, x.known s l = x.known s 1024 := by
  intro s
  induction s using Nat.strongRecOn with
  | ind s ih =>
    intro hs l
    by_cases hn : s < x.steps.length
    · obtain ⟨t, ht⟩ : ∃ t, x.steps[s]? = some t := ⟨_, List.getElem?_eq_getElem hn⟩
      rw [known_at wf ht, known_at wf ht]
      have e : vf x s l t (fun p => x.known p l) = vf x s l t (fun p => x.known p 1024) :=
        vf_congr fun p hp => ih p (wf s t ht p hp) (still_parts wf ht hs p hp) l
      rw [e]
      have k1 : key x s l = 1024 := if_pos hs
      have k2 : key x s 1024 = 1024 := if_pos hs
      cases t with
      | col i => rw [col_not_still wf ht] at hs; cases hs
      | val v => rfl
      | given i => rfl
      | op o ps => simp only [vf, k1, k2]
      | cast c q => simp only [vf, k1, k2]
      | choice ps => rfl
    · rw [known_out (by omega), known_out (by omega)]
theorem known_key {x : S} (wf : WF x.steps) (s l : Nat) : x.known s (key x s l) = x.known s l := by
  unfold key
  split
  · next h => exact (known_still wf s h l).symm
  · rfl
theorem key_still {x : S} {s : Nat} (l : Nat) (h : still x.steps s = true) : key x s l = 1024 := if_pos h
theorem key_lane {x : S} {s : Nat} (l : Nat) (h : still x.steps s = false) : key x s l = l := if_neg (by rw [h]; exact Bool.false_ne_true)
end Lw
/-! The plain law, 2: what the program says of a step by its parts' values, against the specification. -/
namespace Lw
open Sf79

/-! ### the program's said: 0 and a value; 1 and which part; 2: elsewhere -/
def sMany (vs : List Nat) (many stop alike : Nat) : Nat × Nat :=
  if vs.getLast? = some stop then (0, stop) else if vs.length < many then (1, vs.length) else if vs.all (fun v => decide (v = alike)) = true then (0, alike) else (0, 0)
def sFirst (vs : List Nat) (many : Nat) : Nat × Nat :=
  if vs.getLastD 0 ≠ 0 then (0, vs.getLastD 0) else if vs.length < many then (1, vs.length) else (0, 0)
def sElse (vs : List Nat) (many : Nat) : Nat × Nat :=
  if vs.getLastD 1 = 0 then (0, 0) else if vs.length < many then (1, vs.length) else (2, 0)
def sChoice (vs : List Nat) (many : Nat) : Nat × Nat :=
  if vs.length = 0 then (1, 0)
  else if (1 < vs.length ∧ vs.getD (vs.length - 2) 0 = 2) ∨ 2 * vs.length = many + 1 then (0, vs.getLastD 0)
  else if vs.getLastD 0 = 2 then (1, 2 * vs.length - 1) else (1, 2 * vs.length)
def ofOne (o v : Nat) : Nat :=
  if o = 4 then (if v = 0 then 2 else 1) else if o = 5 then (if v = 2 then 2 else 1) else if v = 1 then 2 else if v = 2 then 1 else 0
def sOp (o : Nat) (vs : List Nat) (many : Nat) : Nat × Nat :=
  if o = 14 ∨ o = 29 ∨ o = 30 ∨ o = 32 then (2, 0)
  else if o = 2 then sMany vs many 1 2
  else if o = 3 then sMany vs many 2 1
  else if o = 31 then sFirst vs many
  else if (o = 1 ∨ o = 4 ∨ o = 5) ∧ vs.length = 0 then (1, 0)
  else if o = 1 ∨ o = 4 ∨ o = 5 then (0, ofOne o (vs.getD 0 0))
  else sElse vs many
def sd (t : Step) (vs : List Nat) : Nat × Nat := match t with
  | .col _ => (2, 0)
  | .val v => (0, v)
  | .given _ => sElse vs 0
  | .op o ps => sOp o vs ps.length
  | .cast _ _ => sElse vs 1
  | .choice ps => sChoice vs ps.length
/-- the loop of said_of: so many turns, the values so far -/
def ask (t : Step) (f : Nat → Option Nat) : Nat → List Nat → Nat × Nat
  | 0, vs => sd t vs
  | k + 1, vs => if (sd t vs).1 = 1 then (match f (t.parts.getD (sd t vs).2 0) with
      | none => sd t vs
      | some v => ask t f k (vs ++ [v])) else sd t vs
/-- said_of -/
def askOf (x : S) (t : Step) (f : Nat → Option Nat) : Nat × Nat := match t with
  | .given i => (0, x.given i)
  | t => ask t f t.parts.length []

/-- more that is known: the same, but where the part asked for is known -/
theorem ask_mono {t : Step} {f g : Nat → Option Nat} (h : ∀ p v, f p = some v → g p = some v) : ∀ (k : Nat) (vs : List Nat),
    ((ask t f k vs).1 = 1 → g (t.parts.getD (ask t f k vs).2 0) = none) → ask t g k vs = ask t f k vs
  | 0, _, _ => rfl
  | k + 1, vs, h1 => by
    unfold ask at h1 ⊢
    by_cases c : (sd t vs).1 = 1
    · rw [if_pos c] at h1 ⊢
      rw [if_pos c]
      cases e : f (t.parts.getD (sd t vs).2 0) with
      | none =>
        rw [e] at h1
        have q : g (t.parts.getD (sd t vs).2 0) = none := h1 c
        rw [q]
      | some v =>
        rw [e] at h1
        rw [h _ _ e]
        exact ask_mono h k _ h1
    · rw [if_neg c, if_neg c]
theorem askOf_mono {x : S} {t : Step} {f g : Nat → Option Nat} (h : ∀ p v, f p = some v → g p = some v)
    (h1 : (askOf x t f).1 = 1 → g (t.parts.getD (askOf x t f).2 0) = none) : askOf x t g = askOf x t f := by
  cases t <;> first | rfl | exact ask_mono h _ _ h1
theorem ask_congr {t : Step} {f g : Nat → Option Nat} (h : ∀ i, f (t.parts.getD i 0) = g (t.parts.getD i 0)) : ∀ (k : Nat) (vs : List Nat), ask t f k vs = ask t g k vs
  | 0, _ => rfl
  | k + 1, vs => by
    unfold ask
    rw [h]
    split
    · split
      · rfl
      · exact ask_congr h k _
    · rfl

/-! ### parts one behind another -/
/-- the linear kinds: what stops, what is then; what is at the end -/
def lin (stop : Nat → Bool) (fs : Nat → Nat × Nat) (fin : List Nat → Nat × Nat) (f : Nat → Option Nat) : List Nat → List Nat → Nat × Nat
  | vs, [] => fin vs
  | vs, p :: r => match f p with
    | none => (1, vs.length)
    | some v => if stop v = true then fs v else lin stop fs fin f (vs ++ [v]) r
structure Lin (t : Step) (stop : Nat → Bool) (fs : Nat → Nat × Nat) (fin : List Nat → Nat × Nat) : Prop where
  go : ∀ vs, (∀ v ∈ vs, stop v = false) → vs.length < t.parts.length → sd t vs = (1, vs.length)
  fin : ∀ vs, (∀ v ∈ vs, stop v = false) → vs.length = t.parts.length → sd t vs = fin vs
  stp : ∀ vs v, stop v = true → sd t (vs ++ [v]) = fs v
  fs1 : ∀ v, (fs v).1 ≠ 1
theorem drop_cons_of {α : Type} {l : List α} {n : Nat} (h : n < l.length) (d : α) : l.drop n = l.getD n d :: l.drop (n + 1) := by
  rw [List.drop_eq_getElem_cons h]
  simp [List.getD_eq_getElem?_getD, List.getElem?_eq_getElem h]
theorem ask_lin {t : Step} {stop : Nat → Bool} {fs : Nat → Nat × Nat} {fin : List Nat → Nat × Nat} (L : Lin t stop fs fin) (f : Nat → Option Nat) : ∀ (k : Nat) (vs : List Nat),
    (∀ v ∈ vs, stop v = false) → vs.length + k = t.parts.length → ask t f k vs = lin stop fs fin f vs (t.parts.drop vs.length)
  | 0, vs, hv, hk => by
    have e : t.parts.drop vs.length = [] := List.drop_eq_nil_of_le (by omega)
    rw [e]
    exact L.fin vs hv (by omega)
  | k + 1, vs, hv, hk => by
    have hl : vs.length < t.parts.length := by omega
    have e := L.go vs hv hl
    unfold ask
    rw [e, if_pos rfl, drop_cons_of hl 0]
    show _ = (match f (t.parts.getD vs.length 0) with
      | none => (1, vs.length)
      | some v => if stop v = true then fs v else lin stop fs fin f (vs ++ [v]) (t.parts.drop (vs.length + 1)))
    cases q : f (t.parts.getD vs.length 0) with
    | none => rfl
    | some v =>
      show ask t f k (vs ++ [v]) = if stop v = true then fs v else lin stop fs fin f (vs ++ [v]) (t.parts.drop (vs.length + 1))
      by_cases c : stop v = true
      · rw [if_pos c]
        have z := L.stp vs v c
        cases k with
        | zero => exact z
        | succ k =>
          show ask t f (k + 1) (vs ++ [v]) = fs v
          unfold ask
          rw [z, if_neg (L.fs1 v)]
      · rw [if_neg c]
        have ih := ask_lin L f k (vs ++ [v]) (fun u hu => by
          rcases List.mem_append.mp hu with hu | hu
          · exact hv u hu
          · have : u = v := by simpa using hu
            subst this
            exact eq_false_of_ne_true c) (by simp; omega)
        rw [ih]
        simp
/-- where it asks -/
theorem lin_asks {stop : Nat → Bool} {fs : Nat → Nat × Nat} {fin : List Nat → Nat × Nat} (h1 : ∀ v, (fs v).1 ≠ 1) (h2 : ∀ vs, (fin vs).1 ≠ 1) (f : Nat → Option Nat) : ∀ (r vs : List Nat) (j : Nat),
    lin stop fs fin f vs r = (1, vs.length + j) ↔ j < r.length ∧ ((r.take j).map f).all (fun v => match v with | none => false | some v => !stop v) = true ∧ f (r.getD j 0) = none
  | [], vs, j => by
    constructor
    · intro e
      exact absurd (congrArg Prod.fst e) (h2 vs)
    · rintro ⟨h, _⟩
      exact absurd h (Nat.not_lt_zero _)
  | p :: r, vs, j => by
    unfold lin
    cases q : f p with
    | none =>
      cases j with
      | zero => simp [q]
      | succ j =>
        constructor
        · intro e
          have := congrArg Prod.snd e
          simp only at this
          omega
        · rintro ⟨_, h, _⟩
          simp [q] at h
    | some v =>
      cases j with
      | zero =>
        constructor
        · intro e
          by_cases c : stop v = true
          · simp only [c, if_true] at e
            exact absurd (congrArg Prod.fst e) (h1 v)
          · simp only [c, if_false] at e
            exfalso
            have key : ∀ (r ws : List Nat), vs.length < ws.length → lin stop fs fin f ws r ≠ (1, vs.length + 0) := by
              intro r
              induction r with
              | nil => intro ws _ e; exact absurd (congrArg Prod.fst e) (h2 ws)
              | cons a r ih =>
                intro ws hw e
                unfold lin at e
                cases qa : f a with
                | none =>
                  rw [qa] at e
                  have := congrArg Prod.snd e
                  simp only at this
                  omega
                | some u =>
                  rw [qa] at e
                  by_cases cu : stop u = true
                  · simp only [cu, if_true] at e
                    exact absurd (congrArg Prod.fst e) (h1 u)
                  · simp only [cu, if_false] at e
                    exact ih (ws ++ [u]) (by simp; omega) e
            exact key r (vs ++ [v]) (by simp) e
        · rintro ⟨_, _, h⟩
          have h : f p = none := h
          rw [q] at h
          cases h
      | succ j =>
        have ih := lin_asks (stop := stop) h1 h2 f r (vs ++ [v]) j
        rw [List.length_append, List.length_singleton] at ih
        have e1 : vs.length + 1 + j = vs.length + (j + 1) := by omega
        rw [e1] at ih
        by_cases c : stop v = true
        · simp only [c, if_true]
          constructor
          · intro e
            exact absurd (congrArg Prod.fst e) (h1 v)
          · rintro ⟨_, h, _⟩
            simp [q, c] at h
        · simp only [c, if_false]
          rw [if_neg (by simp)]
          rw [ih]
          simp [q, c]
/-- what it comes to, by a fold of the specification's -/
theorem lin_ends {stop : Nat → Bool} {fs : Nat → Nat × Nat} {fin : List Nat → Nat × Nat} {f : Nat → Option Nat} (R : List Nat → List (Option Nat) → Option Nat)
    (h0 : ∀ vs, (∀ v ∈ vs, stop v = false) → ((fin vs).1 = 0 ∧ R vs [] = some (fin vs).2) ∨ ((fin vs).1 = 2 ∧ R vs [] = none))
    (hn : ∀ vs r, R vs (none :: r) = none)
    (hs : ∀ vs v r, (∀ v ∈ vs, stop v = false) → stop v = true → (fs v).1 = 0 ∧ R vs (some v :: r) = some (fs v).2)
    (hg : ∀ vs v r, (∀ v ∈ vs, stop v = false) → stop v = false → R vs (some v :: r) = R (vs ++ [v]) r) : ∀ (r vs : List Nat), (∀ v ∈ vs, stop v = false) →
    ((lin stop fs fin f vs r).1 = 0 ∧ R vs (r.map f) = some (lin stop fs fin f vs r).2) ∨ (((lin stop fs fin f vs r).1 = 2 ∨ (lin stop fs fin f vs r).1 = 1) ∧ R vs (r.map f) = none)
  | [], vs, hv => by
    rcases h0 vs hv with h | h
    · exact .inl h
    · exact .inr ⟨.inl h.1, h.2⟩
  | p :: r, vs, hv => by
    unfold lin
    rw [List.map_cons]
    cases q : f p with
    | none => exact .inr ⟨.inr rfl, hn _ _⟩
    | some v =>
      by_cases c : stop v = true
      · simp only [c, if_true]
        exact .inl (hs vs v _ hv c)
      · have c' : stop v = false := eq_false_of_ne_true c
        simp only [c', Bool.false_eq_true, if_false]
        rw [hg vs v _ hv c']
        exact lin_ends R h0 hn hs hg r (vs ++ [v]) (fun u hu => by
          rcases List.mem_append.mp hu with hu | hu
          · exact hv u hu
          · have : u = v := by simpa using hu
            subst this
            exact c')
end Lw
/-! The plain law, 3: what said_of comes to is what the specification knows; where it asks is the part that counts. -/
namespace Lw
open Sf79

def OKS : Step → Prop
  | .col i => i < 64
  | .val v => v < 2 ^ 64
  | .given i => i < 64
  | .op o ps => o < 256 ∧ partsOk o ps.length = true
  | .cast c _ => c < 65536
  | .choice ps => 3 ≤ ps.length ∧ ps.length ≤ 129 ∧ ps.length % 2 = 1
def free : Step → Bool
  | .op o _ => decide (o = 14 ∨ o = 29 ∨ o = 30 ∨ o = 32)
  | _ => false
theorem getLastD_mem {vs : List Nat} {d : Nat} : vs.getLastD d = d ∨ vs.getLastD d ∈ vs := by
  cases vs with
  | nil => exact .inl rfl
  | cons a r =>
    right
    rw [List.getLastD_cons]
    have : ∀ (r : List Nat) (a : Nat), r.getLastD a ∈ a :: r := by
      intro r
      induction r with
      | nil => intro a; exact List.mem_cons_self
      | cons b r ih => intro a; rw [List.getLastD_cons]; exact List.mem_cons_of_mem _ (ih b)
    exact this r a
theorem lin_else {t : Step} (h : ∀ vs, sd t vs = sElse vs t.parts.length) : Lin t (fun v => decide (v = 0)) (fun _ => (0, 0)) (fun _ => (2, 0)) where
  go := fun vs hv hl => by
    have q : vs.getLastD 1 ≠ 0 := by
      rcases getLastD_mem (vs := vs) (d := 1) with e | e
      · rw [e]; decide
      · exact of_decide_eq_false (hv _ e)
    rw [h, sElse, if_neg q, if_pos hl]
  fin := fun vs hv hl => by
    have q : vs.getLastD 1 ≠ 0 := by
      rcases getLastD_mem (vs := vs) (d := 1) with e | e
      · rw [e]; decide
      · exact of_decide_eq_false (hv _ e)
    rw [h, sElse, if_neg q, if_neg (by omega)]
  stp := fun vs v hs => by
    have e : v = 0 := of_decide_eq_true hs
    subst e
    rw [h, sElse, if_pos (by simp)]
  fs1 := fun _ => by decide
theorem lin_first {t : Step} (h : ∀ vs, sd t vs = sFirst vs t.parts.length) : Lin t (fun v => decide (v ≠ 0)) (fun v => (0, v)) (fun _ => (0, 0)) where
  go := fun vs hv hl => by
    have q : ¬ vs.getLastD 0 ≠ 0 := by
      rcases getLastD_mem (vs := vs) (d := 0) with e | e
      · rw [e]; decide
      · exact of_decide_eq_false (hv _ e)
    rw [h, sFirst, if_neg q, if_pos hl]
  fin := fun vs hv hl => by
    have q : ¬ vs.getLastD 0 ≠ 0 := by
      rcases getLastD_mem (vs := vs) (d := 0) with e | e
      · rw [e]; decide
      · exact of_decide_eq_false (hv _ e)
    rw [h, sFirst, if_neg q, if_neg (by omega)]
  stp := fun vs v hs => by
    have e : v ≠ 0 := of_decide_eq_true hs
    rw [h, sFirst, if_pos (by simpa using e)]
    simp
  fs1 := fun _ => Nat.zero_ne_one
theorem lin_many {t : Step} {stop alike : Nat} (h : ∀ vs, sd t vs = sMany vs t.parts.length stop alike) :
    Lin t (fun v => decide (v = stop)) (fun _ => (0, stop)) (fun vs => if vs.all (fun v => decide (v = alike)) = true then (0, alike) else (0, 0)) where
  go := fun vs hv hl => by
    have q : ¬ vs.getLast? = some stop := fun e => of_decide_eq_false (hv _ (List.mem_of_getLast? e)) rfl
    rw [h, sMany, if_neg q, if_pos hl]
  fin := fun vs hv hl => by
    have q : ¬ vs.getLast? = some stop := fun e => of_decide_eq_false (hv _ (List.mem_of_getLast? e)) rfl
    rw [h, sMany, if_neg q, if_neg (by omega)]
  stp := fun vs v hs => by
    have e : v = stop := of_decide_eq_true hs
    subst e
    rw [h, sMany, if_pos (by simp)]
  fs1 := fun _ => by show (0 : Nat) ≠ 1; decide

/-! ### the folds -/
theorem ends_else (f : Nat → Option Nat) (r : List Nat) :
    ((lin (fun v => decide (v = 0)) (fun _ => (0, 0)) (fun _ => (2, 0)) f [] r).1 = 0 ∧ strictOf (r.map f) = some (lin (fun v => decide (v = 0)) (fun _ => (0, 0)) (fun _ => (2, 0)) f [] r).2) ∨
    (((lin (fun v => decide (v = 0)) (fun _ => (0, 0)) (fun _ => (2, 0)) f [] r).1 = 2 ∨ (lin (fun v => decide (v = 0)) (fun _ => (0, 0)) (fun _ => (2, 0)) f [] r).1 = 1) ∧ strictOf (r.map f) = none) := by
  refine lin_ends (fun _ l => strictOf l) (fun vs _ => .inr ⟨rfl, rfl⟩) (fun vs r => rfl) (fun vs v r _ c => ⟨rfl, ?_⟩) (fun vs v r _ c => ?_) r [] (fun _ h => nomatch h)
  · have e : v = 0 := of_decide_eq_true c
    show strictOf (some v :: r) = some 0
    unfold strictOf
    rw [if_pos e]
  · have e : ¬ v = 0 := of_decide_eq_false c
    show strictOf (some v :: r) = strictOf r
    rw [strictOf, if_neg e]
theorem ends_first (f : Nat → Option Nat) (r : List Nat) :
    ((lin (fun v => decide (v ≠ 0)) (fun v => (0, v)) (fun _ => (0, 0)) f [] r).1 = 0 ∧ firstOf (r.map f) = some (lin (fun v => decide (v ≠ 0)) (fun v => (0, v)) (fun _ => (0, 0)) f [] r).2) ∨
    (((lin (fun v => decide (v ≠ 0)) (fun v => (0, v)) (fun _ => (0, 0)) f [] r).1 = 2 ∨ (lin (fun v => decide (v ≠ 0)) (fun v => (0, v)) (fun _ => (0, 0)) f [] r).1 = 1) ∧ firstOf (r.map f) = none) := by
  refine lin_ends (fun _ l => firstOf l) (fun vs _ => .inl ⟨rfl, rfl⟩) (fun vs r => rfl) (fun vs v r _ c => ⟨rfl, ?_⟩) (fun vs v r _ c => ?_) r [] (fun _ h => nomatch h)
  · have e : v ≠ 0 := of_decide_eq_true c
    show firstOf (some v :: r) = some v
    rw [firstOf, if_neg e]
  · have e : ¬ v ≠ 0 := of_decide_eq_false c
    show firstOf (some v :: r) = firstOf r
    rw [firstOf, if_pos (Decidable.not_not.mp e)]
def accOf (alike : Nat) (vs : List Nat) : Nat := if vs.all (fun v => decide (v = alike)) = true then alike else 0
theorem accOf_more (alike : Nat) (vs : List Nat) (v : Nat) : accOf alike (vs ++ [v]) = if v = alike then accOf alike vs else 0 := by
  unfold accOf
  rw [List.all_append]
  by_cases c : v = alike <;> simp [c]
theorem fin_acc (alike : Nat) (vs : List Nat) : (if vs.all (fun v => decide (v = alike)) = true then ((0, alike) : Nat × Nat) else (0, 0)) = (0, accOf alike vs) := by
  unfold accOf
  split <;> rfl
theorem ends_and (f : Nat → Option Nat) (r : List Nat) : let L := lin (fun v => decide (v = 1)) (fun _ => (0, 1)) (fun vs => if vs.all (fun v => decide (v = 2)) = true then (0, 2) else (0, 0)) f [] r
    (L.1 = 0 ∧ andOf YES (r.map f) = some L.2) ∨ ((L.1 = 2 ∨ L.1 = 1) ∧ andOf YES (r.map f) = none) := by
  refine lin_ends (fun vs l => andOf (accOf 2 vs) l) (fun vs _ => .inl ?_) (fun vs r => rfl) (fun vs v r _ c => ⟨rfl, ?_⟩) (fun vs v r _ c => ?_) r [] (fun _ h => nomatch h)
  · rw [fin_acc]
    exact ⟨rfl, rfl⟩
  · have e : v = 1 := of_decide_eq_true c
    show andOf _ (some v :: r) = some 1
    rw [andOf, if_pos (show v = NO from e)]
    rfl
  · have e : ¬ v = 1 := of_decide_eq_false c
    show andOf _ (some v :: r) = andOf (accOf 2 (vs ++ [v])) r
    rw [andOf, if_neg (show ¬ v = NO from e), accOf_more]
    rfl
theorem ends_or (f : Nat → Option Nat) (r : List Nat) : let L := lin (fun v => decide (v = 2)) (fun _ => (0, 2)) (fun vs => if vs.all (fun v => decide (v = 1)) = true then (0, 1) else (0, 0)) f [] r
    (L.1 = 0 ∧ orOf NO (r.map f) = some L.2) ∨ ((L.1 = 2 ∨ L.1 = 1) ∧ orOf NO (r.map f) = none) := by
  refine lin_ends (fun vs l => orOf (accOf 1 vs) l) (fun vs _ => .inl ?_) (fun vs r => rfl) (fun vs v r _ c => ⟨rfl, ?_⟩) (fun vs v r _ c => ?_) r [] (fun _ h => nomatch h)
  · rw [fin_acc]
    exact ⟨rfl, rfl⟩
  · have e : v = 2 := of_decide_eq_true c
    show orOf _ (some v :: r) = some 2
    rw [orOf, if_pos (show v = YES from e)]
    rfl
  · have e : ¬ v = 2 := of_decide_eq_false c
    show orOf _ (some v :: r) = orOf (accOf 1 (vs ++ [v])) r
    rw [orOf, if_neg (show ¬ v = YES from e), accOf_more]
    rfl

/-! ### reached, by the stops -/
def pass (stop : Nat → Bool) (v : Option Nat) : Bool := match v with | none => false | some v => !stop v
theorem reached_and (b : List (Option Nat)) : reached .and_ b = b.all (pass fun v => decide (v = 1)) := by
  show b.all _ = _
  congr 1
  funext v
  cases v with
  | none => rfl
  | some v => by_cases c : v = 1 <;> simp [pass, NO, c]
theorem reached_or (b : List (Option Nat)) : reached .or_ b = b.all (pass fun v => decide (v = 2)) := by
  show b.all _ = _
  congr 1
  funext v
  cases v with
  | none => rfl
  | some v => by_cases c : v = 2 <;> simp [pass, YES, c]
theorem reached_first (b : List (Option Nat)) : reached .first b = b.all (pass fun v => decide (v ≠ 0)) := by
  show b.all _ = _
  congr 1
  funext v
  cases v with
  | none => rfl
  | some v => by_cases c : v = 0 <;> simp [pass, c]
theorem reached_strict (b : List (Option Nat)) : reached .strict b = b.all (pass fun v => decide (v = 0)) := by
  show b.all _ = _
  congr 1
  funext v
  cases v with
  | none => rfl
  | some v => by_cases c : v = 0 <;> simp [pass, c]
/-- what both sides say of a step -/
structure Agree (t : Step) (f : Nat → Option Nat) (a : Nat × Nat) (r : Option Nat) : Prop where
  ends : (a.1 = 0 ∧ r = some a.2) ∨ ((a.1 = 2 ∨ a.1 = 1) ∧ r = none)
  asks : ∀ i, a = (1, i) ↔ i < t.parts.length ∧ reached t.way ((t.parts.take i).map f) = true ∧ f (t.parts.getD i 0) = none
theorem agree_lin {t : Step} {stop : Nat → Bool} {fs : Nat → Nat × Nat} {fin : List Nat → Nat × Nat} (L : Lin t stop fs fin) {f : Nat → Option Nat} {r : Option Nat} (h2 : ∀ vs, (fin vs).1 ≠ 1)
    (hr : ∀ b, reached t.way b = b.all (pass stop)) (he : let a := lin stop fs fin f [] t.parts; (a.1 = 0 ∧ r = some a.2) ∨ ((a.1 = 2 ∨ a.1 = 1) ∧ r = none)) : Agree t f (ask t f t.parts.length []) r := by
  have e := ask_lin L f t.parts.length [] (fun _ h => nomatch h) (by simp)
  have e : ask t f t.parts.length [] = lin stop fs fin f [] t.parts := e
  rw [e]
  refine ⟨he, fun i => ?_⟩
  have q := lin_asks (stop := stop) L.fs1 h2 f t.parts [] i
  simp only [List.length_nil, Nat.zero_add] at q
  rw [q, hr]
  rfl

/-! ### choices -/
def chRun (f : Nat → Option Nat) : Nat → List Nat → Nat × Nat
  | n, p :: w :: r => match f p with
    | none => (1, 2 * n)
    | some v => if v = 2 then (match f w with
        | none => (1, 2 * n + 1)
        | some u => (0, u)) else chRun f (n + 1) r
  | n, [e] => match f e with
    | none => (1, 2 * n)
    | some v => (0, v)
  | _, [] => (0, 0)
theorem sch_go {vs : List Nat} {many : Nat} (h : ∀ v ∈ vs, v ≠ 2) (hm : 2 * vs.length + 1 ≤ many) : sChoice vs many = (1, 2 * vs.length) := by
  unfold sChoice
  by_cases c : vs.length = 0
  · rw [if_pos c, c]
  · have q1 : ¬ ((1 < vs.length ∧ vs.getD (vs.length - 2) 0 = 2) ∨ 2 * vs.length = many + 1) := by
      rintro (⟨a, b⟩ | a)
      · have hi : vs.length - 2 < vs.length := by omega
        rw [List.getD_eq_getElem?_getD, List.getElem?_eq_getElem hi] at b
        exact h _ (List.getElem_mem hi) b
      · omega
    have q2 : ¬ vs.getLastD 0 = 2 := by
      rcases getLastD_mem (vs := vs) (d := 0) with e | e
      · rw [e]; decide
      · exact h _ e
    rw [if_neg c, if_neg q1, if_neg q2]
theorem sch_true {vs : List Nat} {many : Nat} (h : ∀ v ∈ vs, v ≠ 2) (hm : 2 * vs.length + 3 ≤ many) : sChoice (vs ++ [2]) many = (1, 2 * vs.length + 1) := by
  unfold sChoice
  have q1 : ¬ ((1 < (vs ++ [2]).length ∧ (vs ++ [2]).getD ((vs ++ [2]).length - 2) 0 = 2) ∨ 2 * (vs ++ [2]).length = many + 1) := by
    rw [List.length_append, List.length_singleton]
    rintro (⟨a, b⟩ | a)
    · have hi : vs.length + 1 - 2 < vs.length := by omega
      rw [List.getD_eq_getElem?_getD, List.getElem?_append_left hi, List.getElem?_eq_getElem hi] at b
      exact h _ (List.getElem_mem hi) b
    · omega
  rw [if_neg (by simp), if_neg q1, if_pos (by simp)]
  simp
  omega
theorem sch_taken {vs : List Nat} {many u : Nat} : sChoice (vs ++ [2] ++ [u]) many = (0, u) := by
  unfold sChoice
  rw [if_neg (by simp), if_pos (.inl ⟨by simp, by simp⟩)]
  simp
theorem sch_else {vs : List Nat} {many u : Nat} (hm : many = 2 * vs.length + 1) : sChoice (vs ++ [u]) many = (0, u) := by
  unfold sChoice
  rw [if_neg (by simp), if_pos (.inr (by simp; omega))]
  simp
theorem ask_done {t : Step} {f : Nat → Option Nat} {vs : List Nat} (h : (sd t vs).1 ≠ 1) : ∀ k, ask t f k vs = sd t vs
  | 0 => rfl
  | k + 1 => by unfold ask; rw [if_neg h]
theorem ask_none {t : Step} {f : Nat → Option Nat} {vs : List Nat} {k i : Nat} (h : sd t vs = (1, i)) (hf : f (t.parts.getD i 0) = none) : ask t f k vs = (1, i) := by
  cases k with
  | zero => exact h
  | succ k =>
    unfold ask
    rw [h, if_pos rfl]
    show (match f (t.parts.getD i 0) with | none => _ | some v => _) = _
    rw [hf]
theorem ask_some {t : Step} {f : Nat → Option Nat} {vs : List Nat} {k i v : Nat} (h : sd t vs = (1, i)) (hf : f (t.parts.getD i 0) = some v) : ask t f (k + 1) vs = ask t f k (vs ++ [v]) := by
  conv => lhs; unfold ask
  rw [h, if_pos rfl]
  show (match f (t.parts.getD i 0) with | none => _ | some v => ask t f k (vs ++ [v])) = _
  rw [hf]
theorem ask_choice {ps : List Nat} (f : Nat → Option Nat) (ho : ps.length % 2 = 1) : ∀ (r : List Nat) (vs : List Nat) (k : Nat), r = ps.drop (2 * vs.length) → 2 * vs.length < ps.length → (∀ v ∈ vs, v ≠ 2) → r.length ≤ k →
    ask (.choice ps) f k vs = chRun f vs.length r := by
  intro r
  induction hn : r.length using Nat.strongRecOn generalizing r with
  | ind n ih =>
    intro vs k hr hl hv hk
    have hlen : r.length = ps.length - 2 * vs.length := by rw [hr, List.length_drop]
    have s0 : sd (.choice ps) vs = (1, 2 * vs.length) := sch_go hv (by omega)
    have g0 : (Step.choice ps).parts.getD (2 * vs.length) 0 = r.getD 0 0 := by
      show ps.getD _ 0 = _
      rw [hr, List.getD_eq_getElem?_getD, List.getD_eq_getElem?_getD, List.getElem?_drop]
      rfl
    have g1 : (Step.choice ps).parts.getD (2 * vs.length + 1) 0 = r.getD 1 0 := by
      show ps.getD _ 0 = _
      rw [hr, List.getD_eq_getElem?_getD, List.getD_eq_getElem?_getD, List.getElem?_drop]
    match r, hr, hlen, g0, g1, hn, hk with
    | [], _, hlen, _, _, _, _ => simp at hlen; omega
    | [e], _, hlen, g0, _, hn, hk =>
      have g0 : (Step.choice ps).parts.getD (2 * vs.length) 0 = e := g0
      have hlen : 1 = ps.length - 2 * vs.length := hlen
      unfold chRun
      cases q : f e with
      | none => exact ask_none s0 (by rw [g0]; exact q)
      | some v =>
        have hk1 : 1 ≤ k := by rw [← hn] at hk; exact hk
        obtain ⟨k', rfl⟩ : ∃ k', k = k' + 1 := ⟨k - 1, by omega⟩
        rw [ask_some s0 (by rw [g0]; exact q)]
        have z : sd (.choice ps) (vs ++ [v]) = (0, v) := sch_else (by omega)
        rw [ask_done (by rw [z]; exact Nat.zero_ne_one), z]
    | p :: w :: r', hr, hlen, g0, g1, hn, hk =>
      have g0 : (Step.choice ps).parts.getD (2 * vs.length) 0 = p := g0
      have g1 : (Step.choice ps).parts.getD (2 * vs.length + 1) 0 = w := g1
      have hlen : r'.length + 1 + 1 = ps.length - 2 * vs.length := hlen
      have hk' : r'.length + 2 ≤ k := by have := hk; simp at this hn; omega
      have hn' : r'.length + 2 = n := by simpa using hn
      unfold chRun
      cases q : f p with
      | none => exact ask_none s0 (by rw [g0]; exact q)
      | some v =>
        obtain ⟨k', rfl⟩ : ∃ k', k = k' + 1 + 1 := ⟨k - 2, by omega⟩
        rw [ask_some s0 (by rw [g0]; exact q)]
        show _ = if v = 2 then (match f w with | none => (1, 2 * vs.length + 1) | some u => (0, u)) else chRun f (vs.length + 1) r'
        by_cases c : v = 2
        · subst c
          rw [if_pos rfl]
          have s1 : sd (.choice ps) (vs ++ [2]) = (1, 2 * vs.length + 1) := sch_true hv (by omega)
          cases q2 : f w with
          | none => exact ask_none s1 (by rw [g1]; exact q2)
          | some u =>
            rw [ask_some s1 (by rw [g1]; exact q2)]
            have z : sd (.choice ps) (vs ++ [2] ++ [u]) = (0, u) := sch_taken
            rw [ask_done (by rw [z]; exact Nat.zero_ne_one), z]
        · rw [if_neg c]
          have e2 : 2 * (vs ++ [v]).length = 2 * vs.length + 2 := by simp; omega
          have := ih r'.length (by omega) r' rfl (vs ++ [v]) (k' + 1) (by
            rw [e2, ← List.drop_drop, ← hr]
            rfl) (by rw [e2]; omega) (fun u hu => by
              rcases List.mem_append.mp hu with hu | hu
              · exact hv u hu
              · have : u = v := by simpa using hu
                rw [this]; exact c) (by omega)
          rw [this, List.length_append]
          rfl
theorem chRun_ends (f : Nat → Option Nat) : ∀ (r : List Nat) (n : Nat), ((chRun f n r).1 = 0 ∧ choiceOf (r.map f) = some (chRun f n r).2) ∨ (((chRun f n r).1 = 2 ∨ (chRun f n r).1 = 1) ∧ choiceOf (r.map f) = none)
  | [], n => .inl ⟨rfl, rfl⟩
  | [e], n => by
    unfold chRun
    show (_ ∧ f e = some _) ∨ (_ ∧ f e = none)
    cases q : f e with
    | none => exact .inr ⟨.inr rfl, rfl⟩
    | some v => exact .inl ⟨rfl, rfl⟩
  | p :: w :: r, n => by
    unfold chRun
    simp only [List.map_cons]
    cases q : f p with
    | none => exact .inr ⟨.inr rfl, by rw [choiceOf]⟩
    | some v =>
      rw [choiceOf]
      by_cases c : v = 2
      · subst c
        simp only [if_true]
        rw [if_pos (show (2 : Nat) = YES from rfl)]
        cases q2 : f w with
        | none => exact .inr ⟨.inr rfl, rfl⟩
        | some u => exact .inl ⟨rfl, rfl⟩
      · simp only [if_neg c]
        rw [if_neg (show ¬ v = YES from c)]
        exact chRun_ends f r (n + 1)
theorem reached_c0 : reached .choice [] = true := rfl
theorem reached_c1 (a : Option Nat) : reached .choice [a] = (a == some 2) := by
  show (_ && _) = _
  simp [YES]
theorem reached_c2 (a b : Option Nat) (r : List (Option Nat)) : reached .choice (a :: b :: r) = ((a != some 2 && a.isSome) && reached .choice r) := by
  have e1 : (a :: b :: r).length / 2 = r.length / 2 + 1 := by simp; omega
  have e2 : (a :: b :: r).length % 2 = r.length % 2 := by simp; omega
  unfold reached
  simp only [e1, e2]
  rw [List.range_succ_eq_map]
  simp only [List.map_cons, List.map_map, List.all_cons]
  have e3 : (List.range (r.length / 2)).map ((fun i => (a :: b :: r).getD (2 * i) none) ∘ Nat.succ) = (List.range (r.length / 2)).map fun i => r.getD (2 * i) none := by
    refine List.map_congr_left fun i _ => ?_
    show (a :: b :: r).getD (2 * (i + 1)) none = _
    rw [show 2 * (i + 1) = 2 * i + 1 + 1 by omega]
    rfl
  have e4 : (a :: b :: r).getD (2 * (r.length / 2 + 1)) none = r.getD (2 * (r.length / 2)) none := by
    rw [show 2 * (r.length / 2 + 1) = 2 * (r.length / 2) + 1 + 1 by omega]
    rfl
  rw [e3, e4]
  have e5 : (a :: b :: r).getD (2 * 0) none = a := rfl
  rw [e5, Bool.and_assoc]
  rfl
theorem chRun_ge (f : Nat → Option Nat) : ∀ (r : List Nat) (n j : Nat), chRun f n r = (1, j) → 2 * n ≤ j
  | [], n, j, h => by cases h
  | [e], n, j, h => by
    unfold chRun at h
    cases q : f e with
    | none => rw [q] at h; cases h; omega
    | some v => rw [q] at h; cases h
  | p :: w :: r, n, j, h => by
    unfold chRun at h
    cases q : f p with
    | none => rw [q] at h; cases h; omega
    | some v =>
      rw [q] at h
      by_cases c : v = 2
      · simp only [c, if_true] at h
        cases q2 : f w with
        | none => rw [q2] at h; cases h; omega
        | some u => rw [q2] at h; cases h
      · simp only [c, if_false] at h
        have := chRun_ge f r (n + 1) j h
        omega
theorem chRun_asks (f : Nat → Option Nat) : ∀ (r : List Nat) (n j : Nat), r.length % 2 = 1 → (chRun f n r = (1, 2 * n + j) ↔ j < r.length ∧ reached .choice ((r.take j).map f) = true ∧ f (r.getD j 0) = none)
  | [], n, j, h => by simp at h
  | [e], n, j, _ => by
    unfold chRun
    cases j with
    | zero =>
      cases q : f e with
      | none => simp [reached_c0, q]
      | some v => simp [q]
    | succ j =>
      cases q : f e with
      | none => simp
      | some v => simp
  | p :: w :: r, n, j, h => by
    have h' : r.length % 2 = 1 := by simp at h; omega
    have hr : 0 < r.length := by omega
    match j with
    | 0 =>
      cases q : f p with
      | none => simp [chRun, q, reached_c0]
      | some v =>
        constructor
        · intro e
          unfold chRun at e
          rw [q] at e
          by_cases c : v = 2
          · simp only [c, if_true] at e
            cases q2 : f w with
            | none => rw [q2] at e; have := congrArg Prod.snd e; simp only at this; omega
            | some u => rw [q2] at e; cases e
          · simp only [c, if_false] at e
            have := chRun_ge f r (n + 1) _ e
            omega
        · rintro ⟨_, _, z⟩
          have z : f p = none := z
          rw [q] at z; cases z
    | 1 =>
      show _ ↔ 1 < r.length + 1 + 1 ∧ reached .choice [f p] = true ∧ f w = none
      rw [reached_c1]
      unfold chRun
      cases q : f p with
      | none =>
        constructor
        · intro e
          have := congrArg Prod.snd e; simp only at this; omega
        · rintro ⟨_, z, _⟩
          cases z
      | some v =>
        by_cases c : v = 2
        · simp only [c, if_true]
          cases q2 : f w with
          | none => simp
          | some u => simp
        · simp only [c, if_false]
          constructor
          · intro e
            have := chRun_ge f r (n + 1) _ e
            omega
          · rintro ⟨_, z, _⟩
            exact absurd (Option.some.inj (eq_of_beq z)) c
    | j + 2 =>
      have e1 : ((p :: w :: r).take (j + 2)).map f = f p :: f w :: (r.take j).map f := rfl
      have e2 : (p :: w :: r).getD (j + 2) 0 = r.getD j 0 := rfl
      rw [e1, e2, reached_c2]
      have ih := chRun_asks f r (n + 1) j h'
      rw [show 2 * (n + 1) + j = 2 * n + (j + 2) by omega] at ih
      unfold chRun
      cases q : f p with
      | none =>
        constructor
        · intro e
          have := congrArg Prod.snd e; simp only at this; omega
        · rintro ⟨_, z, _⟩
          simp at z
      | some v =>
        by_cases c : v = 2
        · simp only [c, if_true]
          constructor
          · intro e
            cases q2 : f w with
            | none => rw [q2] at e; have := congrArg Prod.snd e; simp only at this; omega
            | some u => rw [q2] at e; cases e
          · rintro ⟨_, z, _⟩
            simp at z
        · simp only [c, if_false]
          rw [ih]
          simp [c]
theorem agree_choice {ps : List Nat} {f : Nat → Option Nat} (h : ps.length % 2 = 1) : Agree (.choice ps) f (ask (.choice ps) f ps.length []) (choiceOf (ps.map f)) := by
  have e := ask_choice f h ps [] ps.length rfl (by simp; omega) (fun _ h => nomatch h) (Nat.le_refl _)
  rw [e]
  refine ⟨chRun_ends f ps 0, fun i => ?_⟩
  have q := chRun_asks f ps 0 i h
  simp only [Nat.mul_zero, Nat.zero_add] at q
  exact q

/-! ### all kinds -/
theorem told_none {x : S} {s l : Nat} {o : Nat} {ps : List Nat} {f : Nat → Option Nat} (nt : x.toldOf s (key x s l) = none) :
    vf x s l (.op o ps) f = if ours o = true then ourOf o (ps.map f) else if wayOf o = .all then none else strictOf (ps.map f) := by
  simp only [vf, nt]
theorem agree {x : S} {s l : Nat} {t : Step} {f : Nat → Option Nat} (ok : OKS t) (nf : free t = false) (nt : x.toldOf s (key x s l) = none) (hc : ∀ i, t = .col i → key x s l = l) :
    Agree t f (askOf x t f) (vf x s l t f) := by
  cases t with
  | col i =>
    refine ⟨.inr ⟨.inl rfl, ?_⟩, fun i => ⟨fun e => (by cases congrArg Prod.fst e), fun ⟨h, _⟩ => absurd h (Nat.not_lt_zero _)⟩⟩
    rw [hc i rfl] at nt
    exact nt
  | val v => exact ⟨.inl ⟨rfl, rfl⟩, fun i => ⟨fun e => (by cases congrArg Prod.fst e), fun ⟨h, _⟩ => absurd h (Nat.not_lt_zero _)⟩⟩
  | given i => exact ⟨.inl ⟨rfl, rfl⟩, fun i => ⟨fun e => (by cases congrArg Prod.fst e), fun ⟨h, _⟩ => absurd h (Nat.not_lt_zero _)⟩⟩
  | cast c p =>
    have e : vf x s l (.cast c p) f = strictOf ([p].map f) := by simp only [vf, nt]; rfl
    rw [e]
    exact agree_lin (lin_else fun _ => rfl) (fun _ => by decide) reached_strict (ends_else f [p])
  | choice ps => exact agree_choice ok.2.2
  | op o ps =>
    rw [told_none nt]
    have nf' : ¬ (o = 14 ∨ o = 29 ∨ o = 30 ∨ o = 32) := of_decide_eq_false nf
    by_cases c2 : o = 2
    · subst c2
      exact agree_lin (lin_many (stop := 1) (alike := 2) fun vs => rfl) (fun vs => by split <;> decide) reached_and (ends_and f ps)
    by_cases c3 : o = 3
    · subst c3
      exact agree_lin (lin_many (stop := 2) (alike := 1) fun vs => rfl) (fun vs => by split <;> decide) reached_or (ends_or f ps)
    by_cases c31 : o = 31
    · subst c31
      exact agree_lin (lin_first fun vs => rfl) (fun vs => by decide) reached_first (ends_first f ps)
    by_cases c1 : o = 1 ∨ o = 4 ∨ o = 5
    · have hp : ps.length = 1 := by
        have := ok.2
        rcases c1 with rfl | rfl | rfl <;> simpa [partsOk] using this
      obtain ⟨p, rfl⟩ : ∃ p, ps = [p] := by
        match ps, hp with
        | [p], _ => exact ⟨p, rfl⟩
      have s0 : sd (.op o [p]) [] = (1, 0) := by
        show sOp o [] 1 = _
        rw [sOp, if_neg nf', if_neg c2, if_neg c3, if_neg c31, if_pos ⟨c1, rfl⟩]
      have s1 : ∀ v, sd (.op o [p]) [v] = (0, ofOne o v) := fun v => by
        show sOp o [v] 1 = _
        rw [sOp, if_neg nf', if_neg c2, if_neg c3, if_neg c31, if_neg (by simp), if_pos c1]
        rfl
      have hr : reached (Step.op o [p]).way [] = true := by
        show reached (wayOf o) [] = true
        rcases c1 with rfl | rfl | rfl <;> rfl
      have hv : ours o = true := by rcases c1 with rfl | rfl | rfl <;> rfl
      rw [if_pos hv]
      show Agree _ _ (ask (.op o [p]) f 1 []) _
      cases q : f p with
      | none =>
        rw [ask_none s0 q]
        refine ⟨.inr ⟨.inr rfl, ?_⟩, fun i => ?_⟩
        · show ourOf o [f p] = none
          rw [q]
          rcases c1 with rfl | rfl | rfl <;> rfl
        · constructor
          · intro e
            have : i = 0 := (congrArg Prod.snd e).symm
            subst this
            exact ⟨Nat.zero_lt_one, hr, q⟩
          · rintro ⟨h, _⟩
            have : i = 0 := Nat.lt_one_iff.mp h
            rw [this]
      | some v =>
        rw [ask_some s0 q]
        show Agree _ _ (sd (.op o [p]) [v]) _
        rw [s1]
        refine ⟨.inl ⟨rfl, ?_⟩, fun i => ?_⟩
        · show ourOf o [f p] = _
          rw [q]
          rcases c1 with rfl | rfl | rfl <;> rfl
        · constructor
          · intro e
            cases congrArg Prod.fst e
          · rintro ⟨h, _, z⟩
            have : i = 0 := Nat.lt_one_iff.mp h
            rw [this] at z
            have z : f p = none := z
            rw [q] at z
            cases z
    · have hv : ours o = false := by
        simp only [not_or] at c1
        simp [ours, c1, c2, c3, c31]
      have hw : wayOf o = .strict := by
        simp only [not_or] at c1 nf'
        simp [wayOf, c1, c2, c3, c31, nf']
      rw [if_neg (by rw [hv]; exact Bool.false_ne_true), if_neg (by rw [hw]; exact fun e => nomatch e)]
      have hs : ∀ vs, sd (.op o ps) vs = sElse vs ps.length := fun vs => by
        show sOp o vs ps.length = _
        rw [sOp, if_neg nf', if_neg c2, if_neg c3, if_neg c31, if_neg (fun h => c1 h.1), if_neg c1]
      exact agree_lin (lin_else hs) (fun _ => by decide) (fun b => by show reached (wayOf o) b = _; rw [hw]; exact reached_strict b) (ends_else f ps)
/-- the free ones: elsewhere, whatever their parts are -/
theorem free_ask {x : S} {t : Step} (nf : free t = true) (f : Nat → Option Nat) : askOf x t f = (2, 0) := by
  cases t with
  | op o ps =>
    have h : o = 14 ∨ o = 29 ∨ o = 30 ∨ o = 32 := of_decide_eq_true nf
    have e : sd (.op o ps) [] = (2, 0) := by
      show sOp o [] _ = _
      rw [sOp, if_pos h]
    show ask (.op o ps) f _ [] = _
    rw [ask_done (by rw [e]; decide), e]
  | col i => cases nf
  | val v => cases nf
  | given i => cases nf
  | cast c p => cases nf
  | choice ps => cases nf
theorem free_vf {x : S} {s l : Nat} {t : Step} {f : Nat → Option Nat} (nf : free t = true) (nt : x.toldOf s (key x s l) = none) : vf x s l t f = none := by
  cases t with
  | op o ps =>
    have h : o = 14 ∨ o = 29 ∨ o = 30 ∨ o = 32 := of_decide_eq_true nf
    rw [told_none nt]
    rcases h with rfl | rfl | rfl | rfl <;> rfl
  | col i => cases nf
  | val v => cases nf
  | given i => cases nf
  | cast c p => cases nf
  | choice ps => cases nf
theorem free_way {t : Step} (nf : free t = true) (b : List (Option Nat)) : reached t.way b = true := by
  cases t with
  | op o ps =>
    have h : o = 14 ∨ o = 29 ∨ o = 30 ∨ o = 32 := of_decide_eq_true nf
    rcases h with rfl | rfl | rfl | rfl <;> rfl
  | col i => cases nf
  | val v => cases nf
  | given i => cases nf
  | cast c p => cases nf
  | choice ps => cases nf
/-- both: what said_of comes to from the parts as they are known -/
theorem ask_ends {x : S} {s l : Nat} {t : Step} {f : Nat → Option Nat} (ok : OKS t) (nt : x.toldOf s (key x s l) = none) (hc : ∀ i, t = .col i → key x s l = l) :
    ((askOf x t f).1 = 0 ∧ vf x s l t f = some (askOf x t f).2) ∨ (((askOf x t f).1 = 2 ∨ (askOf x t f).1 = 1) ∧ vf x s l t f = none) := by
  cases h : free t with
  | false => exact (agree ok h nt hc).ends
  | true =>
    rw [free_ask h f, free_vf h nt]
    exact .inr ⟨.inl rfl, rfl⟩
end Lw
/-! The plain law, 4: what is needed next, part by part. -/
namespace Lw
open Sf79

/-! ### said_of leans on the parts alone -/
theorem lin_congr {stop : Nat → Bool} {fs : Nat → Nat × Nat} {fin : List Nat → Nat × Nat} {f g : Nat → Option Nat} : ∀ (r vs : List Nat), (∀ p ∈ r, f p = g p) → lin stop fs fin f vs r = lin stop fs fin g vs r
  | [], _, _ => rfl
  | p :: r, vs, h => by
    unfold lin
    rw [h p List.mem_cons_self]
    cases g p with
    | none => rfl
    | some v => simp only [lin_congr r (vs ++ [v]) fun q hq => h q (List.mem_cons_of_mem _ hq)]
theorem chRun_congr {f g : Nat → Option Nat} : ∀ (r : List Nat) (n : Nat), (∀ p ∈ r, f p = g p) → chRun f n r = chRun g n r
  | [], _, _ => rfl
  | [e], n, h => by
    unfold chRun
    rw [h e List.mem_cons_self]
  | p :: w :: r, n, h => by
    unfold chRun
    rw [h p List.mem_cons_self, h w (List.mem_cons_of_mem _ List.mem_cons_self)]
    cases g p with
    | none => rfl
    | some v => simp only [chRun_congr r (n + 1) fun q hq => h q (List.mem_cons_of_mem _ (List.mem_cons_of_mem _ hq))]
theorem ask_lin_congr {t : Step} {stop : Nat → Bool} {fs : Nat → Nat × Nat} {fin : List Nat → Nat × Nat} (L : Lin t stop fs fin) {f g : Nat → Option Nat} (h : ∀ p ∈ t.parts, f p = g p) : ask t f t.parts.length [] = ask t g t.parts.length [] := by
  rw [ask_lin L f t.parts.length [] (fun _ h => nomatch h) (by simp), ask_lin L g t.parts.length [] (fun _ h => nomatch h) (by simp)]
  exact lin_congr _ _ h
theorem askOf_congr {x : S} {t : Step} {f g : Nat → Option Nat} (ok : OKS t) (h : ∀ p ∈ t.parts, f p = g p) : askOf x t f = askOf x t g := by
  cases hf : free t with
  | true => rw [free_ask hf, free_ask hf]
  | false =>
    cases t with
    | col i => rfl
    | val v => rfl
    | given i => rfl
    | cast c p => exact ask_lin_congr (lin_else fun _ => rfl) h
    | choice ps =>
      show ask (.choice ps) f ps.length [] = ask (.choice ps) g ps.length []
      rw [ask_choice f ok.2.2 ps [] ps.length rfl (by have := ok.1; simp; omega) (fun _ h => nomatch h) (Nat.le_refl _), ask_choice g ok.2.2 ps [] ps.length rfl (by have := ok.1; simp; omega) (fun _ h => nomatch h) (Nat.le_refl _)]
      exact chRun_congr _ _ h
    | op o ps =>
      have nf' : ¬ (o = 14 ∨ o = 29 ∨ o = 30 ∨ o = 32) := of_decide_eq_false hf
      by_cases c2 : o = 2
      · subst c2
        exact ask_lin_congr (lin_many (stop := 1) (alike := 2) fun vs => rfl) h
      by_cases c3 : o = 3
      · subst c3
        exact ask_lin_congr (lin_many (stop := 2) (alike := 1) fun vs => rfl) h
      by_cases c31 : o = 31
      · subst c31
        exact ask_lin_congr (lin_first fun vs => rfl) h
      by_cases c1 : o = 1 ∨ o = 4 ∨ o = 5
      · have hp : ps.length = 1 := by
          have := ok.2
          rcases c1 with rfl | rfl | rfl <;> simpa [partsOk] using this
        obtain ⟨p, rfl⟩ : ∃ p, ps = [p] := by
          match ps, hp with
          | [p], _ => exact ⟨p, rfl⟩
        have s0 : sd (.op o [p]) [] = (1, 0) := by
          show sOp o [] 1 = _
          rw [sOp, if_neg nf', if_neg c2, if_neg c3, if_neg c31, if_pos ⟨c1, rfl⟩]
        have e : f p = g p := h p List.mem_cons_self
        show ask (.op o [p]) f 1 [] = ask (.op o [p]) g 1 []
        cases q : f p with
        | none => rw [ask_none s0 q, ask_none s0 (e.symm.trans q)]
        | some v => rw [ask_some s0 q, ask_some s0 (e.symm.trans q)]; rfl
      · have hs : ∀ vs, sd (.op o ps) vs = sElse vs ps.length := fun vs => by
          show sOp o vs ps.length = _
          rw [sOp, if_neg nf', if_neg c2, if_neg c3, if_neg c31, if_neg (fun h => c1 h.1), if_neg c1]
        exact ask_lin_congr (lin_else hs) h

/-! ### a state that the calls can come to -/
def Lanes (x : S) (l : List Nat) : Prop := l.Pairwise (· < ·) ∧ ∀ a ∈ l, a < x.rows
def TaskOk (x : S) : Prop := match x.task with
  | none => True
  | some (.run s lanes) => s < x.steps.length ∧ Lanes x lanes
  | some (.choose ss lanes) => (∀ s ∈ ss, s < x.steps.length) ∧ ss.length ≤ 64 ∧ Lanes x lanes
structure Ok (x : S) : Prop where
  wf : WF x.steps
  oks : ∀ (s : Nat) (t : Step), x.steps[s]? = some t → OKS t
  nd : x.steps.Nodup
  most : x.steps.length ≤ 4096
  told : ∀ e ∈ x.told, e.1 < x.steps.length ∧ (if still x.steps e.1 = true then e.2.1 = 1024 else e.2.1 < 1024)
  rows : x.rows ≤ 1024
  asked : ∀ s ∈ x.asked, s < x.steps.length
  task : TaskOk x

/-! ### what has been found -/
abbrev Kn := Nat → Nat → Option Nat
structure Good (x : S) (kn : Kn) : Prop where
  tru : ∀ s k v, kn s k = some v → x.known s k = some v
  told : ∀ s l v, x.toldOf s l = some v → kn s l = some v
def fnd (x : S) (kn : Kn) (s l : Nat) : Option Nat := kn s (key x s l)
def Le (kn kn' : Kn) : Prop := ∀ s k v, kn s k = some v → kn' s k = some v
theorem Le.refl (kn : Kn) : Le kn kn := fun _ _ _ h => h
theorem Le.trans {a b c : Kn} (h : Le a b) (g : Le b c) : Le a c := fun s k v e => g s k v (h s k v e)
def put (kn : Kn) (s k v : Nat) : Kn := fun s' k' => if s' = s ∧ k' = k then some v else kn s' k'
section
variable {x : S} {kn kn' : Kn}
theorem Good.fnd (G : Good x kn) (wf : WF x.steps) {s l v : Nat} (h : fnd x kn s l = some v) : x.known s l = some v := by
  have := G.tru _ _ _ h
  rwa [known_key wf] at this
theorem Good.non (G : Good x kn) (wf : WF x.steps) {s l : Nat} (h : x.known s l = none) : Lw.fnd x kn s l = none := by
  cases e : Lw.fnd x kn s l with
  | none => rfl
  | some v => rw [G.fnd wf e] at h; cases h
theorem Good.nt (G : Good x kn) {s l : Nat} (h : Lw.fnd x kn s l = none) : x.toldOf s (key x s l) = none := by
  cases e : x.toldOf s (key x s l) with
  | none => rfl
  | some v =>
    have q : Lw.fnd x kn s l = some v := G.told _ _ _ e
    rw [h] at q; cases q
theorem Good.put (G : Good x kn) (wf : WF x.steps) {s l v : Nat} (h : x.known s l = some v) : Good x (put kn s (key x s l) v) where
  tru := fun s' k' v' e => by
    unfold Lw.put at e
    split at e
    · next c =>
      cases e
      rw [c.1, c.2, known_key wf]
      exact h
    · exact G.tru _ _ _ e
  told := fun s' l' v' e => by
    have q := G.told _ _ _ e
    unfold Lw.put
    split
    · next c =>
      have z := G.tru _ _ _ q
      rw [c.1, c.2, known_key wf, h] at z
      exact z
    · exact q
theorem le_put (G : Good x kn) (wf : WF x.steps) {s l v : Nat} (h : x.known s l = some v) : Le kn (put kn s (key x s l) v) := fun s' k' v' e => by
  unfold put
  split
  · next c =>
    have z := G.tru _ _ _ e
    rw [c.1, c.2, known_key wf, h] at z
    exact z
  · exact e
theorem Le.fnd (h : Le kn kn') {s l v : Nat} (e : fnd x kn s l = some v) : Lw.fnd x kn' s l = some v := h _ _ _ e
theorem key_col (wf : WF x.steps) {s i : Nat} {t : Step} (h : x.steps[s]? = some t) (l : Nat) : ∀ i, t = .col i → key x s l = l := fun i e => by
  subst e
  exact key_lane l (col_not_still wf h)

/-! ### unknown, and why -/
inductive Settled (x : S) (kn : Kn) (l : Nat) : Nat → Prop
  | mk {s : Nat} {t : Step} : x.steps[s]? = some t → x.known s l = none → (askOf x t (fun p => fnd x kn p l)).1 ≠ 0 → ((askOf x t (fun p => fnd x kn p l)).1 = 1 → (askOf x t (fun p => fnd x kn p l)).2 < t.parts.length) →
      ((askOf x t (fun p => fnd x kn p l)).1 = 1 → Settled x kn l (t.parts.getD (askOf x t (fun p => fnd x kn p l)).2 0)) → Settled x kn l s
theorem Settled.known {l s : Nat} (h : Settled x kn l s) : x.known s l = none := by
  cases h with
  | mk _ h _ _ _ => exact h
theorem Settled.mono {l s : Nat} (G : Good x kn') (wf : WF x.steps) (hl : Le kn kn') (h : Settled x kn l s) : Settled x kn' l s := by
  induction h with
  | mk ht hk h0 hb h1 ih =>
    have e := askOf_mono (x := x) (f := fun p => fnd x kn p l) (g := fun p => fnd x kn' p l) (fun p v e => hl.fnd e) (fun c => G.non wf (h1 c).known)
    exact .mk ht hk (by rw [e]; exact h0) (by rw [e]; exact hb) (by rw [e]; exact ih)
/-- from the parts as they are known: the same -/
theorem Settled.ideal {l s : Nat} {t : Step} (G : Good x kn) (wf : WF x.steps) (h : Settled x kn l s) (ht : x.steps[s]? = some t) :
    askOf x t (fun p => x.known p l) = askOf x t (fun p => fnd x kn p l) ∧ (askOf x t (fun p => fnd x kn p l)).1 ≠ 0 ∧ ((askOf x t (fun p => fnd x kn p l)).1 = 1 → (askOf x t (fun p => fnd x kn p l)).2 < t.parts.length) ∧
      ((askOf x t (fun p => fnd x kn p l)).1 = 1 → Settled x kn l (t.parts.getD (askOf x t (fun p => fnd x kn p l)).2 0)) := by
  cases h with
  | mk ht' hk h0 hb h1 =>
    cases ht.symm.trans ht'
    exact ⟨askOf_mono (fun p v e => G.fnd wf e) (fun c => (h1 c).known), h0, hb, h1⟩
theorem Settled.still {l l' s : Nat} (O : Ok x) (h : Settled x kn l s) (hs : still x.steps s = true) : Settled x kn l' s := by
  induction h with
  | @mk s t ht hk h0 hb h1 ih =>
    have e : askOf x t (fun p => fnd x kn p l') = askOf x t (fun p => fnd x kn p l) := askOf_congr (O.oks s t ht) fun p hp => by
      have q := still_parts O.wf ht hs p hp
      show kn p (key x p l') = kn p (key x p l)
      rw [key_still _ q, key_still _ q]
    refine .mk ht ?_ (by rw [e]; exact h0) (by rw [e]; exact hb) (by
      rw [e]
      intro c
      refine ih c (still_parts O.wf ht hs _ ?_)
      rw [List.getD_eq_getElem?_getD, List.getElem?_eq_getElem (hb c)]
      exact List.getElem_mem (hb c))
    have := known_still O.wf s hs l
    rw [known_still O.wf s hs l', ← this]
    exact hk
end

/-! ### where a step stops in a lane -/
def cnt (x : S) (l : Nat) (t : Step) (i : Nat) : Bool := reached t.way ((t.parts.take i).map fun p => x.known p l) && (x.known (t.parts.getD i 0) l).isNone
def stopS (x : S) (l : Nat) (t : Step) : Nat := ((List.range t.parts.length).find? (cnt x l t)).getD t.parts.length
theorem stop_le (x : S) (l : Nat) (t : Step) : stopS x l t ≤ t.parts.length := by
  unfold stopS
  cases e : (List.range t.parts.length).find? (cnt x l t) with
  | none => exact Nat.le_refl _
  | some i => exact Nat.le_of_lt (List.mem_range.mp (List.mem_of_find?_eq_some e))
theorem stop_at {x : S} {l : Nat} {t : Step} (h : stopS x l t < t.parts.length) : cnt x l t (stopS x l t) = true := by
  unfold stopS at h ⊢
  cases e : (List.range t.parts.length).find? (cnt x l t) with
  | none => rw [e] at h; exact absurd h (Nat.lt_irrefl _)
  | some i => exact List.find?_some e
theorem find_range {p : Nat → Bool} : ∀ {n i : Nat}, (List.range n).find? p = some i → ∀ j, j < i → p j = false
  | 0, i, h, _, _ => by simp at h
  | n + 1, i, h, j, hj => by
    rw [List.range_succ, List.find?_append] at h
    cases e : (List.range n).find? p with
    | none =>
      rw [e] at h
      have hi : i = n := by
        have := List.mem_of_find?_eq_some (show [n].find? p = some i by simpa using h)
        simpa using this
      rw [hi] at hj
      exact eq_false_of_ne_true (List.find?_eq_none.mp e j (List.mem_range.mpr hj))
    | some k =>
      rw [e] at h
      have : k = i := by simpa using h
      subst this
      exact find_range e j hj
theorem stop_before {x : S} {l : Nat} {t : Step} {i : Nat} (h : i < stopS x l t) : cnt x l t i = false := by
  have hl := Nat.lt_of_lt_of_le h (stop_le x l t)
  unfold stopS at h
  cases e : (List.range t.parts.length).find? (cnt x l t) with
  | none => exact eq_false_of_ne_true (List.find?_eq_none.mp e i (List.mem_range.mpr hl))
  | some k => rw [e] at h; exact find_range e i h
theorem stop_of {x : S} {l : Nat} {t : Step} {i : Nat} (hi : i < t.parts.length) (h : cnt x l t i = true) (hb : ∀ j, j < i → cnt x l t j = false) : stopS x l t = i := by
  rcases Nat.lt_trichotomy (stopS x l t) i with h1 | h1 | h1
  · have := stop_at (x := x) (l := l) (t := t) (by omega)
    rw [hb _ h1] at this; cases this
  · exact h1
  · rw [stop_before h1] at h; cases h
theorem stop_end {x : S} {l : Nat} {t : Step} (h : ∀ j, j < t.parts.length → cnt x l t j = false) : stopS x l t = t.parts.length := by
  rcases Nat.lt_or_ge (stopS x l t) t.parts.length with h1 | h1
  · have := stop_at h1
    rw [h _ h1] at this; cases this
  · exact Nat.le_antisymm (stop_le x l t) h1
theorem stop_free {x : S} {l : Nat} {t : Step} (hf : free t = true) (i : Nat) : cnt x l t i = (x.known (t.parts.getD i 0) l).isNone := by
  unfold cnt
  rw [free_way hf, Bool.true_and]
theorem cnt_iff {x : S} {l : Nat} {t : Step} {i : Nat} : cnt x l t i = true ↔ reached t.way ((t.parts.take i).map fun p => x.known p l) = true ∧ x.known (t.parts.getD i 0) l = none := by
  unfold cnt
  rw [Bool.and_eq_true, Option.isNone_iff_eq_none]
/-- stopped_at, of a step that isn't free -/
theorem stop_asks {x : S} {kn : Kn} {l s : Nat} {t : Step} (O : Ok x) (G : Good x kn) (ht : x.steps[s]? = some t) (hf : free t = false) (h : Settled x kn l s) :
    ((askOf x t (fun p => fnd x kn p l)).1 = 1 → stopS x l t = (askOf x t (fun p => fnd x kn p l)).2 ∧ stopS x l t < t.parts.length) ∧ ((askOf x t (fun p => fnd x kn p l)).1 ≠ 1 → stopS x l t = t.parts.length) := by
  obtain ⟨e, h0, _, h1⟩ := h.ideal G O.wf ht
  have A := agree (x := x) (s := s) (l := l) (f := fun p => x.known p l) (O.oks s t ht) hf (G.nt (G.non O.wf h.known)) (key_col O.wf (i := 0) ht l)
  rw [← e]
  constructor
  · intro c
    obtain ⟨a, b, d⟩ := (A.asks _).mp (Prod.ext c rfl)
    have z := stop_of (x := x) (l := l) a (cnt_iff.mpr ⟨b, d⟩) (fun j hj => by
      cases q : cnt x l t j with
      | false => rfl
      | true =>
        obtain ⟨q1, q2⟩ := cnt_iff.mp q
        have := (A.asks j).mpr ⟨Nat.lt_trans hj a, q1, q2⟩
        have := congrArg Prod.snd this
        exact absurd hj (Nat.not_lt_of_le (Nat.le_of_eq this)))
    exact ⟨z, by rw [z]; exact a⟩
  · intro c
    refine stop_end fun j hj => ?_
    cases q : cnt x l t j with
    | false => rfl
    | true =>
      obtain ⟨q1, q2⟩ := cnt_iff.mp q
      exact absurd (congrArg Prod.fst ((A.asks j).mpr ⟨hj, q1, q2⟩)) c
theorem stop_part {x : S} {l s : Nat} {t : Step} (wf : WF x.steps) (ht : x.steps[s]? = some t) (h : stopS x l t < t.parts.length) : t.parts.getD (stopS x l t) 0 < s ∧ x.known (t.parts.getD (stopS x l t) 0) l = none := by
  refine ⟨wf s t ht _ ?_, (cnt_iff.mp (stop_at h)).2⟩
  rw [List.getD_eq_getElem?_getD, List.getElem?_eq_getElem h]
  exact List.getElem_mem h

/-! ### what is needed next -/
def opn (x : S) (s : Nat) (lanes : List Nat) : List Nat := if still x.steps s = true then (if lanes.isEmpty = false ∧ x.known s 1024 = none then [1024] else []) else lanes.filter fun l => (x.known s l).isNone
def rch (x : S) (t : Step) (i l : Nat) : Bool := reached t.way ((t.parts.take i).map fun p => x.known p l)
def nd (x : S) : Nat → Nat → List Nat → Option (Nat × List Nat)
  | 0, _, _ => none
  | f + 1, s, lanes => if opn x s lanes = [] then none
    else match x.steps[s]? with
      | none => none
      | some t => match ((List.range t.parts.length).findSome? fun i => nd x f (t.parts.getD i 0) ((opn x s lanes).filter (rch x t i))) with
        | some n => some n
        | none => some (s, opn x s lanes)
theorem opn_sub {x : S} {s l : Nat} {lanes : List Nat} (h : l ∈ opn x s lanes) : l = 1024 ∨ l ∈ lanes := by
  unfold opn at h
  split at h
  · split at h
    · left; simpa using h
    · cases h
  · exact .inr (List.mem_filter.mp h).1
theorem findSome_congr {α β : Type} {f g : α → Option β} : ∀ (l : List α), (∀ a ∈ l, f a = g a) → l.findSome? f = l.findSome? g
  | [], _ => rfl
  | a :: r, h => by
    rw [List.findSome?_cons, List.findSome?_cons, h a List.mem_cons_self, findSome_congr r fun b hb => h b (List.mem_cons_of_mem _ hb)]
theorem getD_mem {l : List Nat} {i : Nat} (h : i < l.length) : l.getD i 0 ∈ l := by
  rw [List.getD_eq_getElem?_getD, List.getElem?_eq_getElem h]
  exact List.getElem_mem h
theorem needFrom_nd {x : S} (wf : WF x.steps) {k : Array (Array (Option Nat))} : ∀ (f s : Nat) (lanes : List Nat), (∀ p l, p ≤ s → (l = 1024 ∨ l ∈ lanes) → knownIn k p l = x.known p l) →
    x.needFrom (stills x.steps) k f s lanes = nd x f s lanes
  | 0, _, _, _ => rfl
  | f + 1, s, lanes, h => by
    have e1 : (if (stills x.steps).getD s true = true then (if lanes.isEmpty = false ∧ knownIn k s STILL = none then [STILL] else []) else lanes.filter fun (l : Nat) => (knownIn k s l).isNone) = opn x s lanes := by
      unfold opn
      show (if still x.steps s = true then _ else _) = _
      rw [h s STILL (Nat.le_refl _) (.inl rfl)]
      split
      · rfl
      · refine List.filter_congr fun l hl => ?_
        rw [h s l (Nat.le_refl _) (.inr hl)]
    unfold S.needFrom nd
    simp only [e1]
    split
    · rfl
    · cases ht : x.steps[s]? with
      | none => rfl
      | some t =>
        simp only
        have e2 : ∀ i ∈ List.range t.parts.length, x.needFrom (stills x.steps) k f (t.parts.getD i 0) ((opn x s lanes).filter fun (l : Nat) => reached t.way ((t.parts.take i).map fun (p : Nat) => knownIn k p l)) = nd x f (t.parts.getD i 0) ((opn x s lanes).filter (rch x t i)) := fun i hi => by
          have hi := List.mem_range.mp hi
          have e3 : ((opn x s lanes).filter fun (l : Nat) => reached t.way ((t.parts.take i).map fun (p : Nat) => knownIn k p l)) = (opn x s lanes).filter (rch x t i) := by
            refine List.filter_congr fun l hl => ?_
            unfold rch
            congr 1
            refine List.map_congr_left fun p hp => ?_
            exact h p l (Nat.le_of_lt (wf s t ht p (List.mem_of_mem_take hp))) (opn_sub hl)
          rw [e3]
          refine needFrom_nd wf f _ _ fun p l hp hl => h p l ?_ ?_
          · exact Nat.le_trans hp (Nat.le_of_lt (wf s t ht _ (getD_mem hi)))
          · rcases hl with hl | hl
            · exact .inl hl
            · exact opn_sub (List.mem_filter.mp hl).1
        rw [findSome_congr _ e2]
        rfl
theorem knownIn_tables {x : S} {n p l : Nat} {lanes : List Nat} (hp : p < n) (hn : n ≤ x.steps.length) (hl : l = 1024 ∨ l ∈ lanes) (hb : l ≤ 1024) : knownIn (x.tables n lanes) p l = x.known p l := by
  unfold knownIn S.tables
  have e : (((List.range (STILL + 1)).map fun (l : Nat) => if (l == STILL || lanes.contains l) = true then x.table (stills x.steps) n l else #[]).toArray).getD l #[] = x.table (stills x.steps) n l := by
    have hr : l < STILL + 1 := Nat.lt_succ_of_le hb
    simp only [Array.getD_eq_getD_getElem?, List.getElem?_toArray, List.getElem?_map, List.getElem?_range hr, Option.map_some, Option.getD_some]
    rw [if_pos]
    rcases hl with rfl | hl
    · rfl
    · simp [hl]
  show ((((List.range (STILL + 1)).map fun (l : Nat) => if (l == STILL || lanes.contains l) = true then x.table (stills x.steps) n l else #[]).toArray).getD l #[]).getD p none = _
  rw [e, table_known hp hn]
theorem nd_fuel {x : S} (wf : WF x.steps) : ∀ (s f : Nat) (lanes : List Nat), s < f → nd x f s lanes = nd x (s + 1) s lanes := by
  intro s
  induction s using Nat.strongRecOn with
  | ind s ih =>
    intro f lanes hf
    obtain ⟨f, rfl⟩ : ∃ g, f = g + 1 := ⟨f - 1, by omega⟩
    unfold nd
    split
    · rfl
    · cases ht : x.steps[s]? with
      | none => rfl
      | some t =>
        simp only
        rw [findSome_congr _ fun i hi => ?_]
        have hp := wf s t ht _ (getD_mem (List.mem_range.mp hi))
        rw [ih _ hp f _ (by omega), ih _ hp s _ hp]
theorem nd_none {x : S} {s f : Nat} {lanes : List Nat} (hs : s < x.steps.length) : nd x (f + 1) s lanes = none ↔ opn x s lanes = [] := by
  unfold nd
  constructor
  · intro h
    split at h
    · assumption
    · rw [List.getElem?_eq_getElem hs] at h
      simp only at h
      split at h <;> cases h
  · intro h
    rw [if_pos h]
theorem nd_opn {x : S} {s f : Nat} {lanes lanes' : List Nat} (h : opn x s lanes = opn x s lanes') : nd x (f + 1) s lanes = nd x (f + 1) s lanes' := by
  unfold nd
  rw [h]
theorem findSome_range {β : Type} {F : Nat → Option β} {y : β} : ∀ {n k : Nat}, k < n → (∀ i, i < k → F i = none) → F k = some y → (List.range n).findSome? F = some y
  | n + 1, k, hk, h1, h2 => by
    rw [List.range_succ, List.findSome?_append]
    by_cases c : k < n
    · rw [findSome_range c h1 h2]
      rfl
    · have e : k = n := by omega
      subst e
      have : (List.range k).findSome? F = none := List.findSome?_eq_none_iff.mpr fun i hi => h1 i (List.mem_range.mp hi)
      rw [this]
      simp [h2]
def rowsOf (x : S) (s : Nat) (rows : List Nat) : List Nat := if still x.steps s = true ∧ rows.length > 0 then [1024] else rows
theorem opn_before {x : S} (wf : WF x.steps) {s i : Nat} {t : Step} {open_ : List Nat} (hb : ∀ l ∈ open_, i < stopS x l t) : opn x (t.parts.getD i 0) (open_.filter (rch x t i)) = [] := by
  have no : ∀ l ∈ open_.filter (rch x t i), x.known (t.parts.getD i 0) l ≠ none := fun l hl z => by
    obtain ⟨h1, h2⟩ := List.mem_filter.mp hl
    have := stop_before (hb l h1)
    rw [cnt_iff.mpr ⟨h2, z⟩] at this
    cases this
  unfold opn
  split
  · next hs =>
    rw [if_neg]
    rintro ⟨a, b⟩
    cases e : open_.filter (rch x t i) with
    | nil => rw [e] at a; cases a
    | cons l r =>
      refine no l (by rw [e]; exact List.mem_cons_self) ?_
      rw [known_still wf _ hs]
      exact b
  · refine List.filter_eq_nil_iff.mpr fun l hl z => no l hl ?_
    exact Option.isNone_iff_eq_none.mp z
theorem opn_first {x : S} (wf : WF x.steps) {i : Nat} {t : Step} {open_ : List Nat} (hi : i < t.parts.length) (hb : ∀ l ∈ open_, i ≤ stopS x l t) (he : ∃ l ∈ open_, stopS x l t = i) :
    opn x (t.parts.getD i 0) (open_.filter (rch x t i)) = rowsOf x (t.parts.getD i 0) (open_.filter fun l => decide (stopS x l t = i)) := by
  have iff : ∀ l ∈ open_, stopS x l t = i ↔ rch x t i l = true ∧ x.known (t.parts.getD i 0) l = none := fun l hl => by
    constructor
    · intro e
      have := stop_at (x := x) (l := l) (t := t) (by omega)
      rw [e] at this
      exact cnt_iff.mp this
    · intro h
      rcases Nat.lt_or_eq_of_le (hb l hl) with c | c
      · have := stop_before c
        rw [cnt_iff.mpr h] at this; cases this
      · exact c.symm
  obtain ⟨l0, h0, e0⟩ := he
  have ne : 0 < (open_.filter fun l => decide (stopS x l t = i)).length := List.length_pos_of_mem (List.mem_filter.mpr ⟨h0, decide_eq_true e0⟩)
  obtain ⟨r0, k0⟩ := (iff l0 h0).mp e0
  unfold opn rowsOf
  by_cases hs : still x.steps (t.parts.getD i 0) = true
  · have h3 : (open_.filter (rch x t i)).isEmpty = false ∧ x.known (t.parts.getD i 0) 1024 = none := ?_
    · have h4 : still x.steps (t.parts.getD i 0) = true ∧ (open_.filter fun l => decide (stopS x l t = i)).length > 0 := ⟨hs, ne⟩
      rw [if_pos hs, if_pos h3, if_pos h4]
    refine ⟨?_, by rw [← known_still wf _ hs l0]; exact k0⟩
    have : 0 < (open_.filter (rch x t i)).length := List.length_pos_of_mem (List.mem_filter.mpr ⟨h0, r0⟩)
    cases e : open_.filter (rch x t i) with
    | nil => rw [e] at this; cases this
    | cons a b => rfl
  · rw [if_neg hs, if_neg (fun h => hs h.1), List.filter_filter]
    refine List.filter_congr fun l hl => ?_
    have q := iff l hl
    by_cases c : stopS x l t = i
    · obtain ⟨a, b⟩ := q.mp c
      rw [decide_eq_true c, a, b]
      rfl
    · rw [decide_eq_false c]
      cases a : rch x t i l with
      | false => simp
      | true =>
        cases b : x.known (t.parts.getD i 0) l with
        | none => exact absurd (q.mpr ⟨a, b⟩) c
        | some v => rfl
theorem opn_rowsOf {x : S} (wf : WF x.steps) {s : Nat} {rows : List Nat} (h : ∀ l ∈ rows, x.known s l = none) : opn x s (rowsOf x s rows) = rowsOf x s rows := by
  unfold opn rowsOf
  by_cases hs : still x.steps s = true
  · rw [if_pos hs]
    cases rows with
    | nil => simp
    | cons l r =>
      have h4 : still x.steps s = true ∧ (l :: r).length > 0 := ⟨hs, Nat.succ_pos _⟩
      have h5 : x.known s 1024 = none := by
        rw [← known_still wf _ hs l]
        exact h l List.mem_cons_self
      rw [if_pos h4, if_pos ⟨rfl, h5⟩]
  · rw [if_neg hs, if_neg (fun h => hs h.1)]
    refine List.filter_eq_self.mpr fun l hl => ?_
    rw [h l hl]
    rfl
/-- one level deeper -/
theorem nd_step {x : S} (wf : WF x.steps) {s first : Nat} {t : Step} {rows : List Nat} (ht : x.steps[s]? = some t) (hne : rows ≠ []) (ho : opn x s rows = rows)
    (hm : ∃ l ∈ rows, stopS x l t = first) (hb : ∀ l ∈ rows, first ≤ stopS x l t) :
    (first = t.parts.length → nd x (s + 1) s rows = some (s, rows)) ∧
    (first < t.parts.length → nd x (s + 1) s rows = nd x (t.parts.getD first 0 + 1) (t.parts.getD first 0) (rowsOf x (t.parts.getD first 0) (rows.filter fun l => decide (stopS x l t = first)))) := by
  have hs : s < x.steps.length := (List.getElem?_eq_some_iff.mp ht).1
  have before : ∀ i, i < first → nd x s (t.parts.getD i 0) (rows.filter (rch x t i)) = none := fun i hi => by
    have hil : i < t.parts.length := by
      obtain ⟨l, _, e⟩ := hm
      have := stop_le x l t
      omega
    have hp := wf s t ht _ (getD_mem hil)
    obtain ⟨s', rfl⟩ : ∃ s', s = s' + 1 := ⟨s - 1, by omega⟩
    exact (nd_none (by omega)).mpr (opn_before wf (s := s' + 1) fun l hl => by have := hb l hl; omega)
  constructor
  · intro e
    unfold nd
    rw [ho, if_neg hne, ht]
    simp only
    have : ((List.range t.parts.length).findSome? fun i => nd x s (t.parts.getD i 0) (rows.filter (rch x t i))) = none :=
      List.findSome?_eq_none_iff.mpr fun i hi => before i (by rw [e]; exact List.mem_range.mp hi)
    rw [this]
  · intro hl
    have hp := wf s t ht _ (getD_mem hl)
    have e1 := opn_first wf hl hb hm
    have ek : ∀ l ∈ rows.filter (fun l => decide (stopS x l t = first)), x.known (t.parts.getD first 0) l = none := fun l hl' => by
      obtain ⟨_, b⟩ := List.mem_filter.mp hl'
      have b : stopS x l t = first := of_decide_eq_true b
      have := (stop_part wf ht (l := l) (by omega)).2
      rw [b] at this
      exact this
    have e2 : nd x s (t.parts.getD first 0) (rows.filter (rch x t first)) = nd x (t.parts.getD first 0 + 1) (t.parts.getD first 0) (rowsOf x (t.parts.getD first 0) (rows.filter fun l => decide (stopS x l t = first))) := by
      rw [nd_fuel wf _ s _ hp]
      refine nd_opn ?_
      rw [e1, opn_rowsOf wf ek]
    have ne2 : rowsOf x (t.parts.getD first 0) (rows.filter fun l => decide (stopS x l t = first)) ≠ [] := by
      obtain ⟨l, a, b⟩ := hm
      have := List.length_pos_of_mem (List.mem_filter (p := fun l => decide (stopS x l t = first)) |>.mpr ⟨a, decide_eq_true b⟩)
      unfold rowsOf
      split
      · exact List.cons_ne_nil _ _
      · intro z
        rw [z] at this
        cases this
    cases e3 : nd x (t.parts.getD first 0 + 1) (t.parts.getD first 0) (rowsOf x (t.parts.getD first 0) (rows.filter fun l => decide (stopS x l t = first))) with
    | none =>
      exfalso
      have := (nd_none (by omega)).mp e3
      rw [opn_rowsOf wf ek] at this
      exact ne2 this
    | some y =>
      conv => lhs; unfold nd
      rw [ho, if_neg hne, ht]
      simp only
      rw [findSome_range hl before (e2.trans e3)]

/-! ### the task -/
theorem need_nd {x : S} (O : Ok x) {s : Nat} {lanes : List Nat} (hs : s < x.steps.length) (hl : ∀ l ∈ lanes, l ≤ 1024) : x.need (s + 1) s lanes = nd x (s + 1) s lanes :=
  needFrom_nd O.wf _ _ _ fun p l hp h => knownIn_tables (by omega) hs h (by
    rcases h with rfl | h
    · exact Nat.le_refl _
    · exact hl l h)
def yes (x : S) (s : Nat) (lanes : List Nat) : List Nat := lanes.filter fun l => decide (x.known s l = some 2)
def ndAll (x : S) : List Nat → List Nat → Option (Nat × List Nat)
  | [], _ => none
  | s :: r, lanes => match nd x (s + 1) s lanes with
    | some n => some n
    | none => ndAll x r (yes x s lanes)
theorem ndAll_find {x : S} : ∀ (ss lanes : List Nat), ((List.range ss.length).findSome? fun i => nd x (ss.getD i 0 + 1) (ss.getD i 0) (lanes.filter fun l => (ss.take i).all fun s => decide (x.known s l = some 2))) = ndAll x ss lanes
  | [], _ => rfl
  | s :: r, lanes => by
    rw [List.length_cons, List.range_succ_eq_map, List.findSome?_cons]
    have e0 : (lanes.filter fun l => ((s :: r).take 0).all fun s => decide (x.known s l = some 2)) = lanes := by simp
    rw [e0]
    unfold ndAll
    cases e : nd x (s + 1) s lanes with
    | some n =>
      have e' : nd x ((s :: r).getD 0 0 + 1) ((s :: r).getD 0 0) lanes = some n := e
      rw [e']
    | none =>
      have e' : nd x ((s :: r).getD 0 0 + 1) ((s :: r).getD 0 0) lanes = none := e
      rw [e']
      simp only
      rw [← ndAll_find r (yes x s lanes), List.findSome?_map]
      refine findSome_congr _ fun i _ => ?_
      show nd x (r.getD i 0 + 1) (r.getD i 0) (lanes.filter fun l => ((s :: r).take (i + 1)).all fun s => decide (x.known s l = some 2)) = _
      congr 1
      unfold yes
      rw [List.filter_filter]
      refine List.filter_congr fun l _ => ?_
      rw [List.take_succ_cons, List.all_cons, Bool.and_comm]
theorem needAll_nd {x : S} (O : Ok x) {ss lanes : List Nat} (hs : ∀ s ∈ ss, s < x.steps.length) (hl : ∀ l ∈ lanes, l ≤ 1024) : x.needAll ss lanes = ndAll x ss lanes := by
  rw [← ndAll_find]
  unfold S.needAll
  refine findSome_congr _ fun i hi => ?_
  have hi := List.mem_range.mp hi
  have key : ∀ p l, p < x.steps.length → (l = 1024 ∨ l ∈ lanes) → knownIn (x.tables x.steps.length lanes) p l = x.known p l := fun p l hp h => knownIn_tables hp (Nat.le_refl _) h (by
    rcases h with rfl | h
    · exact Nat.le_refl _
    · exact hl l h)
  have e : (lanes.filter fun (l : Nat) => (ss.take i).all fun (s : Nat) => knownIn (x.tables x.steps.length lanes) s l == some YES) = lanes.filter fun l => (ss.take i).all fun s => decide (x.known s l = some 2) := by
    refine List.filter_congr fun l hl' => ?_
    rw [Bool.eq_iff_iff, List.all_eq_true, List.all_eq_true]
    refine forall_congr' fun s => forall_congr' fun hs' => ?_
    rw [key s l (hs s (List.mem_of_mem_take hs')) (.inr hl')]
    simp [YES]
  simp only [e]
  have hss := hs _ (getD_mem hi)
  exact needFrom_nd O.wf _ _ _ fun p l hp h => key p l (by omega) (by
    rcases h with h | h
    · exact .inl h
    · exact .inr (List.mem_filter.mp h).1)
/-- the task's steps and lanes -/
def taskSteps : Job → List Nat
  | .run s _ => [s]
  | .choose ss _ => ss
def taskLanes : Job → List Nat
  | .run _ l => l
  | .choose _ l => l
theorem lanes_le {x : S} (O : Ok x) {l : List Nat} (h : Lanes x l) : ∀ a ∈ l, a ≤ 1024 := fun a ha => by
  have := h.2 a ha
  have := O.rows
  omega
theorem task_steps {x : S} (O : Ok x) {j : Job} (h : x.task = some j) : (∀ s ∈ taskSteps j, s < x.steps.length) ∧ Lanes x (taskLanes j) ∧ (taskSteps j).length ≤ 64 := by
  have := O.task
  unfold TaskOk at this
  rw [h] at this
  cases j with
  | run s l => exact ⟨fun s' hs' => by rw [List.mem_singleton.mp hs']; exact this.1, this.2, by show 1 ≤ 64; decide⟩
  | choose ss l => exact ⟨this.1, this.2.2, this.2.1⟩
theorem next_nd {x : S} (O : Ok x) : x.next = match x.task with | none => none | some j => ndAll x (taskSteps j) (taskLanes j) := by
  unfold S.next
  cases h : x.task with
  | none => rfl
  | some j =>
    obtain ⟨h1, h2, _⟩ := task_steps O h
    cases j with
    | run s l =>
      show x.need (s + 1) s l = _
      have e := need_nd O (s := s) (lanes := l) (h1 s List.mem_cons_self) (lanes_le O h2)
      rw [e]
      show _ = (match nd x (s + 1) s l with | some n => some n | none => none)
      cases nd x (s + 1) s l <;> rfl
    | choose ss l => exact needAll_nd O h1 (lanes_le O h2)
end Lw
/-! The plain law, 5: which part said_of asks for is there. -/
namespace Lw
open Sf79
def RI (t : Step) (vs : List Nat) : Prop := match t with
  | .choice ps => ∃ cs : List Nat, (∀ c ∈ cs, c ≠ 2) ∧ 2 * cs.length < ps.length ∧ (vs = cs ∨ (vs = cs ++ [2] ∧ 2 * cs.length + 1 < ps.length) ∨ (sd (.choice ps) vs).1 = 0)
  | _ => True
theorem RI.start {t : Step} (ok : OKS t) : RI t [] := by
  cases t with
  | choice ps => exact ⟨[], fun _ h => (nomatch h), by have := ok.1; simp; omega, .inl rfl⟩
  | _ => trivial
theorem RI.more {t : Step} {vs : List Nat} {v : Nat} (ok : OKS t) (h : RI t vs) (ha : (sd t vs).1 = 1) : RI t (vs ++ [v]) := by
  cases t with
  | choice ps =>
    have od := ok.2.2
    obtain ⟨cs, hc, hl, e | ⟨e, h2⟩ | e⟩ := h
    · subst e
      by_cases c1 : 2 * vs.length + 1 = ps.length
      · refine ⟨vs, hc, hl, .inr (.inr ?_)⟩
        have := sch_else (vs := vs) (many := ps.length) (u := v) c1.symm
        show (sChoice (vs ++ [v]) ps.length).1 = 0
        rw [this]
      · by_cases c2 : v = 2
        · subst c2
          exact ⟨vs, hc, hl, .inr (.inl ⟨rfl, by omega⟩)⟩
        · refine ⟨vs ++ [v], fun c hm => ?_, by rw [List.length_append, List.length_singleton]; omega, .inl rfl⟩
          rcases List.mem_append.mp hm with hm | hm
          · exact hc c hm
          · rw [List.mem_singleton.mp hm]; exact c2
    · subst e
      refine ⟨cs, hc, hl, .inr (.inr ?_)⟩
      show (sChoice (cs ++ [2] ++ [v]) ps.length).1 = 0
      rw [sch_taken]
    · rw [e] at ha; cases ha
  | _ => trivial
theorem RI.range {t : Step} {vs : List Nat} (ok : OKS t) (h : RI t vs) (ha : (sd t vs).1 = 1) : (sd t vs).2 < t.parts.length := by
  have el : ∀ many, (sElse vs many).1 = 1 → (sElse vs many).2 < many := fun many h => by
    unfold sElse at h ⊢
    by_cases c : vs.getLastD 1 = 0
    · rw [if_pos c] at h; cases h
    · rw [if_neg c] at h ⊢
      by_cases d : vs.length < many
      · rw [if_pos d]; exact d
      · rw [if_neg d] at h; cases h
  have mn : ∀ many stop alike, (sMany vs many stop alike).1 = 1 → (sMany vs many stop alike).2 < many := fun many stop alike h => by
    unfold sMany at h ⊢
    by_cases c : vs.getLast? = some stop
    · rw [if_pos c] at h; cases h
    · rw [if_neg c] at h ⊢
      by_cases d : vs.length < many
      · rw [if_pos d]; exact d
      · rw [if_neg d] at h
        split at h <;> cases h
  have fr : ∀ many, (sFirst vs many).1 = 1 → (sFirst vs many).2 < many := fun many h => by
    unfold sFirst at h ⊢
    by_cases c : vs.getLastD 0 ≠ 0
    · rw [if_pos c] at h; cases h
    · rw [if_neg c] at h ⊢
      by_cases d : vs.length < many
      · rw [if_pos d]; exact d
      · rw [if_neg d] at h; cases h
  cases t with
  | col i => cases ha
  | val v => cases ha
  | given i => exact el 0 ha
  | cast c p => exact el 1 ha
  | choice ps =>
    have od := ok.2.2
    obtain ⟨cs, hc, hl, e | ⟨e, h2⟩ | e⟩ := h
    · subst e
      have := sch_go (vs := vs) (many := ps.length) hc (by omega)
      show (sChoice vs ps.length).2 < ps.length
      rw [this]
      exact hl
    · subst e
      have := sch_true (vs := cs) (many := ps.length) hc (by omega)
      show (sChoice (cs ++ [2]) ps.length).2 < ps.length
      rw [this]
      exact h2
    · rw [e] at ha; cases ha
  | op o ps =>
    show (sOp o vs ps.length).2 < ps.length
    have ha : (sOp o vs ps.length).1 = 1 := ha
    unfold sOp at ha ⊢
    by_cases c : o = 14 ∨ o = 29 ∨ o = 30 ∨ o = 32
    · rw [if_pos c] at ha; cases ha
    rw [if_neg c] at ha ⊢
    by_cases c2 : o = 2
    · rw [if_pos c2] at ha ⊢; exact mn _ _ _ ha
    rw [if_neg c2] at ha ⊢
    by_cases c3 : o = 3
    · rw [if_pos c3] at ha ⊢; exact mn _ _ _ ha
    rw [if_neg c3] at ha ⊢
    by_cases c31 : o = 31
    · rw [if_pos c31] at ha ⊢; exact fr _ ha
    rw [if_neg c31] at ha ⊢
    by_cases c1 : (o = 1 ∨ o = 4 ∨ o = 5) ∧ vs.length = 0
    · rw [if_pos c1]
      have := ok.2
      have hp : ps.length = 1 := by
        rcases c1.1 with rfl | rfl | rfl <;> simpa [partsOk] using this
      show 0 < ps.length
      omega
    rw [if_neg c1] at ha ⊢
    by_cases c4 : o = 1 ∨ o = 4 ∨ o = 5
    · rw [if_pos c4] at ha; cases ha
    · rw [if_neg c4] at ha ⊢; exact el _ ha
theorem parts_few {t : Step} (ok : OKS t) : t.parts.length ≤ 129 := by
  cases t with
  | choice ps => exact ok.2.1
  | op o ps =>
    have := ok.2
    unfold partsOk at this
    show ps.length ≤ 129
    split at this
    · have : ps.length = 1 := by simpa using this
      omega
    · simp at this; omega
  | cast c p => show 1 ≤ 129; decide
  | col i => exact Nat.zero_le _
  | val v => exact Nat.zero_le _
  | given i => exact Nat.zero_le _
/-- numbers that differ below a bound are few -/
theorem nodup_bound : ∀ (n : Nat) (l : List Nat), l.Nodup → (∀ a ∈ l, a < n) → l.length ≤ n
  | 0, l, _, h => by
    cases l with
    | nil => exact Nat.le_refl _
    | cons a r => exact absurd (h a List.mem_cons_self) (Nat.not_lt_zero _)
  | n + 1, l, hn, h => by
    have h1 : (l.erase n).length ≤ n := nodup_bound n (l.erase n) (hn.erase n) fun a ha => by
      have h2 := h a (List.mem_of_mem_erase ha)
      have h3 : a ≠ n := fun e => by
        subst e
        exact (List.Nodup.not_mem_erase hn) ha
      omega
    have := List.length_erase (a := n) (l := l)
    split at this <;> omega
end Lw
/-! The plain law, 6: one turn of the search for a value. -/
namespace Lw
open Sf79
theorem said_cases {x : S} {kn : Kn} {r s : Nat} {t : Step} (O : Ok x) (G : Good x kn) (ht : x.steps[s]? = some t) (hf : fnd x kn s r = none) :
    ((askOf x t (fun p => fnd x kn p r)).1 = 0 ∧ x.known s r = some (askOf x t (fun p => fnd x kn p r)).2) ∨
    ((askOf x t (fun p => fnd x kn p r)).1 = 2 ∧ Settled x kn r s) ∨
    ((askOf x t (fun p => fnd x kn p r)).1 = 1 ∧ (askOf x t (fun p => fnd x kn p r)).2 < t.parts.length ∧ fnd x kn (t.parts.getD (askOf x t (fun p => fnd x kn p r)).2 0) r = none ∧
      (Settled x kn r (t.parts.getD (askOf x t (fun p => fnd x kn p r)).2 0) → Settled x kn r s)) := by
  have nt := G.nt hf
  have ok := O.oks s t ht
  have kc := key_col O.wf (i := 0) ht r
  have kn0 : x.known s r = vf x s r t (fun p => x.known p r) := known_at O.wf ht
  by_cases c1 : (askOf x t (fun p => fnd x kn p r)).1 = 1
  · refine .inr (.inr ⟨c1, ?_⟩)
    have nf : free t = false := by
      cases h : free t with
      | false => rfl
      | true => rw [free_ask h] at c1; cases c1
    obtain ⟨a, _, b⟩ := ((agree (f := fun p => fnd x kn p r) ok nf nt kc).asks _).mp (Prod.ext c1 rfl)
    refine ⟨a, b, fun st => ?_⟩
    have e := askOf_mono (x := x) (t := t) (f := fun p => fnd x kn p r) (g := fun p => x.known p r) (fun p v e => G.fnd O.wf e) (fun _ => st.known)
    rcases ask_ends (f := fun p => x.known p r) ok nt kc with ⟨h, _⟩ | ⟨_, h⟩
    · rw [e, c1] at h; cases h
    · exact .mk ht (kn0.trans h) (by rw [c1]; decide) (fun _ => a) (fun _ => st)
  · have e := askOf_mono (x := x) (t := t) (f := fun p => fnd x kn p r) (g := fun p => x.known p r) (fun p v e => G.fnd O.wf e) (fun c => absurd c c1)
    rcases ask_ends (f := fun p => x.known p r) ok nt kc with ⟨h, h2⟩ | ⟨h, h2⟩
    · rw [e] at h h2
      exact .inl ⟨h, kn0.trans h2⟩
    · rw [e] at h
      have c2 : (askOf x t (fun p => fnd x kn p r)).1 = 2 := h.resolve_right c1
      exact .inr (.inl ⟨c2, .mk ht (kn0.trans h2) (by rw [c2]; decide) (fun c => absurd c c1) (fun c => absurd c c1)⟩)
/-! ### the measure -/
def wt (res : Nat → Prop) [DecidablePred res] (st : List Nat) (s : Nat) : Nat := if res s then (if s ∈ st then 1 else 0) else (if s ∈ st then 2 else 3)
def meas (f : Nat → Nat) : Nat → Nat
  | 0 => 0
  | n + 1 => meas f n + f n
theorem meas_le {f g : Nat → Nat} : ∀ {n : Nat}, (∀ s, s < n → f s ≤ g s) → meas f n ≤ meas g n
  | 0, _ => Nat.le_refl _
  | n + 1, h => Nat.add_le_add (meas_le fun s hs => h s (Nat.lt_succ_of_lt hs)) (h n (Nat.lt_succ_self n))
theorem meas_lt {f g : Nat → Nat} : ∀ {n a : Nat}, (∀ s, s < n → s ≠ a → f s = g s) → a < n → f a < g a → meas f n < meas g n
  | 0, _, _, h, _ => absurd h (Nat.not_lt_zero _)
  | n + 1, a, h, ha, hl => by
    show meas f n + f n < meas g n + g n
    by_cases c : a = n
    · subst c
      have := meas_le (f := f) (g := g) (n := a) fun s hs => Nat.le_of_eq (h s (Nat.lt_succ_of_lt hs) (Nat.ne_of_lt hs))
      omega
    · have := meas_lt (f := f) (g := g) (n := n) (a := a) (fun s hs hn => h s (Nat.lt_succ_of_lt hs) hn) (by omega) hl
      have := h n (Nat.lt_succ_self n) (fun z => c z.symm)
      omega
end Lw
/-! The plain law, 7: the rows that are open. -/
namespace Lw
open Sf79
theorem opn_eq (x : S) (s : Nat) (rows : List Nat) : opn x s rows = (rowsOf x s rows).filter fun l => (x.known s l).isNone := by
  unfold opn rowsOf
  by_cases h : still x.steps s = true
  · rw [if_pos h]
    cases rows with
    | nil => simp
    | cons a r =>
      have e : still x.steps s = true ∧ (a :: r).length > 0 := ⟨h, Nat.succ_pos _⟩
      simp only [if_pos e]
      cases k : x.known s 1024 with
      | none => simp [k]
      | some v => simp [k]
  · rw [if_neg h, if_neg fun z => h z.1]
theorem opn_idem (x : S) (s : Nat) (rows : List Nat) : opn x s (opn x s rows) = opn x s rows := by
  unfold opn
  by_cases h : still x.steps s = true
  · simp only [if_pos h]
    by_cases c : rows.isEmpty = false ∧ x.known s 1024 = none
    · rw [if_pos c, if_pos ⟨rfl, c.2⟩]
    · rw [if_neg c, if_neg fun z => (nomatch z.1)]
  · simp only [if_neg h]
    rw [List.filter_filter]
    simp
theorem rowsOf_len (x : S) (s : Nat) (rows : List Nat) : (rowsOf x s rows).length ≤ rows.length := by
  unfold rowsOf
  split
  · next h => exact h.2
  · exact Nat.le_refl _
theorem opn_len (x : S) (s : Nat) (rows : List Nat) : (opn x s rows).length ≤ rows.length := by
  rw [opn_eq]
  exact Nat.le_trans (List.length_filter_le _ _) (rowsOf_len x s rows)
theorem rowsOf_le {x : S} {s : Nat} {rows : List Nat} (h : ∀ l ∈ rows, l ≤ 1024) : ∀ l ∈ rowsOf x s rows, l ≤ 1024 := fun l hl => by
  unfold rowsOf at hl
  split at hl
  · rw [List.mem_singleton.mp hl]; exact Nat.le_refl _
  · exact h l hl
theorem opn_le {x : S} {s : Nat} {rows : List Nat} (h : ∀ l ∈ rows, l ≤ 1024) : ∀ l ∈ opn x s rows, l ≤ 1024 := fun l hl => by
  rw [opn_eq] at hl
  exact rowsOf_le h l (List.mem_filter.mp hl).1
/-- open rows of a step: unknown, as they come, some -/
structure Opn (x : S) (kn : Kn) (n : Nat) (rows : List Nat) : Prop where
  lt : n < x.steps.length
  ne : rows ≠ []
  op : opn x n rows = rows
  le : ∀ l ∈ rows, l ≤ 1024
  len : rows.length ≤ 2000
  se : ∀ l ∈ rows, Settled x kn l n
theorem Opn.mono {x : S} {kn kn' : Kn} {n : Nat} {rows : List Nat} (h : Opn x kn n rows) (G : Good x kn') (wf : WF x.steps) (l : Le kn kn') : Opn x kn' n rows :=
  ⟨h.lt, h.ne, h.op, h.le, h.len, fun r hr => (h.se r hr).mono G wf l⟩
/-- one level deeper -/
theorem Opn.deeper {x : S} {kn : Kn} {n first : Nat} {t : Step} {rows : List Nat} (O : Ok x) (h : Opn x kn n rows) (ht : x.steps[n]? = some t) (hm : ∃ l ∈ rows, stopS x l t = first) (hb : ∀ l ∈ rows, first ≤ stopS x l t)
    (hf : first < t.parts.length) (hs : ∀ l ∈ rows, stopS x l t < t.parts.length → Settled x kn l (t.parts.getD (stopS x l t) 0)) :
    Opn x kn (t.parts.getD first 0) (rowsOf x (t.parts.getD first 0) (rows.filter fun l => decide (stopS x l t = first))) := by
  have hp := O.wf n t ht _ (getD_mem hf)
  have ek : ∀ l ∈ rows.filter (fun l => decide (stopS x l t = first)), Settled x kn l (t.parts.getD first 0) := fun l hl' => by
    obtain ⟨a, b⟩ := List.mem_filter.mp hl'
    have b : stopS x l t = first := of_decide_eq_true b
    have := hs l a (by omega)
    rw [b] at this
    exact this
  obtain ⟨l0, a0, b0⟩ := hm
  have m0 : l0 ∈ rows.filter fun l => decide (stopS x l t = first) := List.mem_filter.mpr ⟨a0, decide_eq_true b0⟩
  refine ⟨Nat.lt_trans hp h.lt, ?_, opn_rowsOf O.wf fun l hl => (ek l hl).known, rowsOf_le fun l hl => h.le l (List.mem_filter.mp hl).1, Nat.le_trans (rowsOf_len _ _ _) (Nat.le_trans (List.length_filter_le _ _) h.len), fun l hl => ?_⟩
  · unfold rowsOf
    split
    · exact List.cons_ne_nil _ _
    · intro z
      rw [z] at m0
      cases m0
  · unfold rowsOf at hl
    split at hl
    · next hs' =>
      exact (ek l0 m0).still O hs'.1
    · exact ek l hl
end Lw
/-! The plain law, 8: what each call does to what is known. -/
namespace Lw
open Sf79
/-! ### another state, the same known -/
/-- what vf leans on -/
theorem known_eq {x y : S} (wfx : WF x.steps) {n : Nat} (hn : n ≤ x.steps.length) (hs : ∀ s, s < n → y.steps[s]? = x.steps[s]?) (wfy : WF y.steps) (hv : ∀ s l t f, s < n → x.steps[s]? = some t → vf y s l t f = vf x s l t f) :
    ∀ s, s < n → ∀ l, y.known s l = x.known s l := by
  intro s
  induction s using Nat.strongRecOn with
  | ind s ih =>
    intro h l
    obtain ⟨t, ht⟩ : ∃ t, x.steps[s]? = some t := ⟨_, List.getElem?_eq_getElem (by omega)⟩
    rw [known_at wfx ht, known_at wfy ((hs s h).trans ht), hv s l t _ h ht]
    exact vf_congr fun p hp => ih p (wfx s t ht p hp) (Nat.lt_trans (wfx s t ht p hp) h) l

/-! ### one step more -/
def more (x : S) (t : Step) : S := { x with steps := x.steps ++ [t] }
theorem wf_more {l : List Step} {t : Step} (wf : WF l) (h : ∀ p ∈ t.parts, p < l.length) : WF (l ++ [t]) := fun i u hu p hp => by
  by_cases c : i < l.length
  · rw [List.getElem?_append_left c] at hu
    exact wf i u hu p hp
  · rw [List.getElem?_append_right (by omega)] at hu
    have hi : i - l.length = 0 := by
      cases e : i - l.length with
      | zero => rfl
      | succ k => rw [e] at hu; cases hu
    rw [hi] at hu
    cases hu
    have := h p hp
    omega
section
variable {x : S} {kn : Kn} {t : Step}
theorem known_more (O : Ok x) (hp : ∀ p ∈ t.parts, p < x.steps.length) {s : Nat} (hs : s < x.steps.length) (l : Nat) : (more x t).known s l = x.known s l := by
  refine known_eq O.wf (Nat.le_refl _) (fun s h => List.getElem?_append_left h) (wf_more O.wf hp) (fun s l u f h hu => ?_) s hs l
  have k : key (more x t) s l = key x s l := by
    unfold key
    rw [show still (more x t).steps s = still x.steps s from still_more h]
  cases u with
  | col i => rfl
  | val v => rfl
  | given i => rfl
  | op o ps => simp only [vf, k]; rfl
  | cast c p => simp only [vf, k]; rfl
  | choice ps => rfl
theorem Ok.more (O : Ok x) (ht : OKS t) (hp : ∀ p ∈ t.parts, p < x.steps.length) (nn : t ∉ x.steps) (hl : x.steps.length < 4096) : Ok (Lw.more x t) where
  wf := wf_more O.wf hp
  oks := fun s u hu => by
    have hu : (x.steps ++ [t])[s]? = some u := hu
    by_cases c : s < x.steps.length
    · rw [List.getElem?_append_left c] at hu
      exact O.oks s u hu
    · rw [List.getElem?_append_right (by omega)] at hu
      have hi : s - x.steps.length = 0 := by
        cases e : s - x.steps.length with
        | zero => rfl
        | succ k => rw [e] at hu; cases hu
      rw [hi] at hu
      cases hu
      exact ht
  nd := by
    show (x.steps ++ [t]).Nodup
    rw [List.nodup_append]
    exact ⟨O.nd, List.nodup_cons.mpr ⟨List.not_mem_nil, List.nodup_nil⟩, fun a ha b hb e => nn (by rw [← List.mem_singleton.mp hb, ← e]; exact ha)⟩
  most := by
    show (x.steps ++ [t]).length ≤ 4096
    rw [List.length_append, List.length_singleton]
    omega
  told := fun e he => by
    obtain ⟨h1, h2⟩ := O.told e he
    refine ⟨?_, ?_⟩
    · show e.1 < (x.steps ++ [t]).length
      rw [List.length_append]
      omega
    · rw [show still (Lw.more x t).steps e.1 = still x.steps e.1 from still_more h1]
      exact h2
  rows := O.rows
  asked := fun s hs => by
    show s < (x.steps ++ [t]).length
    rw [List.length_append]
    have := O.asked s hs
    omega
  task := by
    have := O.task
    have hlen : (Lw.more x t).steps.length = x.steps.length + 1 := by
      show (x.steps ++ [t]).length = _
      rw [List.length_append]
      rfl
    unfold TaskOk at this ⊢
    show (match x.task with | none => True | some (.run s lanes) => s < (Lw.more x t).steps.length ∧ Lanes (Lw.more x t) lanes | some (.choose ss lanes) => (∀ s ∈ ss, s < (Lw.more x t).steps.length) ∧ ss.length ≤ 64 ∧ Lanes (Lw.more x t) lanes)
    cases h : x.task with
    | none => trivial
    | some j =>
      rw [h] at this
      cases j with
      | run s l => exact ⟨by have := this.1; omega, this.2⟩
      | choose ss l => exact ⟨fun s hs => by have := this.1 s hs; omega, this.2⟩
def cut (n : Nat) (kn : Kn) : Kn := fun s k => if s < n then kn s k else none
theorem told_lt (O : Ok x) {s l v : Nat} (h : x.toldOf s l = some v) : s < x.steps.length ∧ (if still x.steps s = true then l = 1024 else l < 1024) := by
  unfold S.toldOf at h
  obtain ⟨e, he, _⟩ := Option.map_eq_some_iff.mp h
  have h1 := List.find?_some he
  have h2 := O.told e (List.mem_of_find?_eq_some he)
  rw [Bool.and_eq_true, beq_iff_eq, beq_iff_eq] at h1
  rw [h1.1, h1.2] at h2
  exact h2
theorem Good.more (G : Good x kn) (O : Ok x) (hp : ∀ p ∈ t.parts, p < x.steps.length) : Good (Lw.more x t) (cut x.steps.length kn) where
  tru := fun s k v h => by
    unfold cut at h
    by_cases c : s < x.steps.length
    · rw [if_pos c] at h
      rw [known_more O hp c]
      exact G.tru s k v h
    · rw [if_neg c] at h; cases h
  told := fun s l v h => by
    have h : x.toldOf s l = some v := h
    unfold cut
    rw [if_pos (told_lt O h).1]
    exact G.told s l v h

/-! ### a given value, other rows, a task -/
def setS (x : S) (i v : Nat) : S := { x with givens := (i, v) :: x.givens, told := [], rows := 0, task := none }
theorem Ok.set (O : Ok x) (i v : Nat) : Ok (setS x i v) := ⟨O.wf, O.oks, O.nd, O.most, fun e h => (nomatch h), Nat.zero_le _, O.asked, trivial⟩
theorem Good.set (i v : Nat) : Good (setS x i v) fun _ _ => none := ⟨fun _ _ _ h => (nomatch h), fun s l u h => by cases h⟩
theorem given_set (x : S) (i v j : Nat) : (setS x i v).given j = if j = i then v else x.given j := by
  show (((((i, v) :: x.givens).find? fun (g : Nat × Nat) => g.1 == j).map fun (g : Nat × Nat) => g.2).getD 0) = _
  rw [List.find?_cons]
  by_cases c : j = i
  · subst c
    simp
  · rw [if_neg c, show ((i, v).1 == j) = false from beq_eq_false_iff_ne.mpr fun e => c e.symm]
    rfl
def batchS (x : S) (n : Nat) : S := { x with rows := n, told := x.told.filter fun (t : Nat × Nat × Nat) => t.2.1 == STILL, task := none }
theorem told_batch (x : S) (n s : Nat) : (batchS x n).toldOf s 1024 = x.toldOf s 1024 := by
  show (((x.told.filter fun (t : Nat × Nat × Nat) => t.2.1 == STILL).find? fun (t : Nat × Nat × Nat) => t.1 == s && t.2.1 == 1024).map _) = ((x.told.find? fun (t : Nat × Nat × Nat) => t.1 == s && t.2.1 == 1024).map _)
  congr 1
  rw [List.find?_filter]
  congr 1
  funext t
  by_cases c : t.2.1 = 1024
  · simp [STILL, c, Bool.beq_eq_decide_eq]
  · simp [STILL, c]
theorem known_batch (O : Ok x) (n : Nat) : ∀ s, still x.steps s = true → ∀ l, (batchS x n).known s l = x.known s l := by
  intro s
  induction s using Nat.strongRecOn with
  | ind s ih =>
    intro hs l
    by_cases hn : s < x.steps.length
    · obtain ⟨t, ht⟩ : ∃ t, x.steps[s]? = some t := ⟨_, List.getElem?_eq_getElem hn⟩
      have ht' : (batchS x n).steps[s]? = some t := ht
      rw [known_at O.wf ht, known_at (x := batchS x n) O.wf ht']
      have e : vf (batchS x n) s l t (fun p => (batchS x n).known p l) = vf (batchS x n) s l t (fun p => x.known p l) :=
        vf_congr fun p hp => ih p (O.wf s t ht p hp) (still_parts O.wf ht hs p hp) l
      rw [e]
      have k1 : key x s l = 1024 := if_pos hs
      have k2 : key (batchS x n) s l = 1024 := if_pos hs
      cases t with
      | col i => rw [col_not_still O.wf ht] at hs; cases hs
      | val v => rfl
      | given i => rfl
      | op o ps => simp only [vf, k1, k2, told_batch]
      | cast c q => simp only [vf, k1, k2, told_batch]
      | choice ps => rfl
    · have h : x.steps.length ≤ s := Nat.le_of_not_lt hn
      rw [known_out h, known_out (x := batchS x n) h]
theorem Ok.batch (O : Ok x) {n : Nat} (h : n ≤ 1024) : Ok (batchS x n) := ⟨O.wf, O.oks, O.nd, O.most, fun e he => O.told e (List.mem_filter.mp he).1, h, O.asked, trivial⟩
def keepStill (x : S) (kn : Kn) : Kn := fun s k => if still x.steps s = true then kn s k else none
theorem Good.batch (G : Good x kn) (O : Ok x) {n : Nat} (h : n ≤ 1024) : Good (batchS x n) (keepStill x kn) where
  tru := fun s k v hk => by
    unfold keepStill at hk
    by_cases c : still x.steps s = true
    · rw [if_pos c] at hk
      rw [known_batch O n s c]
      exact G.tru s k v hk
    · rw [if_neg c] at hk; cases hk
  told := fun s l v hk => by
    have h1 := told_lt (O.batch h) hk
    have he : l = 1024 := by
      have hk' : ((x.told.filter fun (t : Nat × Nat × Nat) => t.2.1 == STILL).find? fun (t : Nat × Nat × Nat) => t.1 == s && t.2.1 == l).map (fun (t : Nat × Nat × Nat) => t.2.2) = some v := hk
      obtain ⟨e, he, _⟩ := Option.map_eq_some_iff.mp hk'
      have a1 := List.find?_some he
      have a2 := (List.mem_filter.mp (List.mem_of_find?_eq_some he)).2
      rw [Bool.and_eq_true, beq_iff_eq, beq_iff_eq] at a1
      rw [beq_iff_eq, a1.2] at a2
      exact a2
    subst he
    have c : still x.steps s = true := by
      have := h1.2
      by_cases c : still x.steps s = true
      · exact c
      · rw [show still (batchS x n).steps s = still x.steps s from rfl, if_neg c] at this
        exact absurd this (Nat.lt_irrefl _)
    unfold keepStill
    rw [if_pos c]
    rw [told_batch] at hk
    exact G.told s 1024 v hk
def taskS (x : S) (j : Job) : S := { x with task := some j }
theorem known_task (x : S) (j : Job) (s l : Nat) : (taskS x j).known s l = x.known s l := rfl
theorem Ok.taskRun (O : Ok x) {s : Nat} {l : List Nat} (hs : s < x.steps.length) (hl : Lanes x l) : Ok (taskS x (.run s l)) := ⟨O.wf, O.oks, O.nd, O.most, O.told, O.rows, O.asked, hs, hl⟩
theorem Ok.taskChoose (O : Ok x) {ss l : List Nat} (hs : ∀ s ∈ ss, s < x.steps.length) (h64 : ss.length ≤ 64) (hl : Lanes x l) : Ok (taskS x (.choose ss l)) := ⟨O.wf, O.oks, O.nd, O.most, O.told, O.rows, O.asked, hs, h64, hl⟩
theorem Good.task (G : Good x kn) (j : Job) : Good (taskS x j) kn := ⟨G.tru, G.told⟩

/-! ### what is needed next is worked out elsewhere -/
def tell : Step → Bool
  | .col _ => true
  | .op o _ => !ours o
  | .cast _ _ => true
  | _ => false
theorem ask_tell {f : Nat → Option Nat} (ok : OKS t) (h : (askOf x t f).1 = 2) : tell t = true := by
  cases t with
  | col i => rfl
  | cast c p => rfl
  | val v => cases h
  | given i => cases h
  | choice ps =>
    exfalso
    have e : askOf x (.choice ps) f = chRun f 0 ps := ask_choice f ok.2.2 ps [] ps.length rfl (by have := ok.1; simp; omega) (fun _ h => nomatch h) (Nat.le_refl _)
    rw [e] at h
    have : ∀ (r : List Nat) (n : Nat), (chRun f n r).1 ≠ 2 := by
      intro r
      induction hn : r.length using Nat.strongRecOn generalizing r with
      | ind k ih =>
        intro n
        match r, hn with
        | [], _ => exact fun z => nomatch z
        | [e], _ =>
          unfold chRun
          cases f e <;> exact fun z => nomatch z
        | p :: w :: r', hn =>
          unfold chRun
          cases f p with
          | none => exact fun z => nomatch z
          | some v =>
            simp only
            split
            · cases f w <;> exact fun z => nomatch z
            · exact ih r'.length (by rw [← hn]; simp; omega) r' rfl (n + 1)
    exact this ps 0 h
  | op o ps =>
    show (!ours o) = true
    cases ho : ours o with
    | false => rfl
    | true =>
      exfalso
      have nf : free (.op o ps) = false := by
        have : o = 1 ∨ o = 2 ∨ o = 3 ∨ o = 4 ∨ o = 5 ∨ o = 31 := by simpa [ours] using ho
        rcases this with rfl | rfl | rfl | rfl | rfl | rfl <;> rfl
      -- the values alone
      have A := agree (x := { x with told := [], steps := [] }) (s := 0) (l := 1024) (f := f) ok nf rfl (fun i e => nomatch e)
      have e0 : askOf { x with told := [], steps := [] } (.op o ps) f = askOf x (.op o ps) f := rfl
      rw [e0] at A
      have lin2 : ∀ {stop fs fin} (L : Lin (.op o ps) stop fs fin), (∀ v, (fs v).1 ≠ 2) → (∀ vs, (fin vs).1 ≠ 2) → False := fun {stop fs fin} L h1 h2 => by
        have e : askOf x (.op o ps) f = lin stop fs fin f [] ps := ask_lin L f ps.length [] (fun _ h => nomatch h) (by show 0 + ps.length = ps.length; omega)
        rw [e] at h
        have : ∀ (r vs : List Nat), (lin stop fs fin f vs r).1 ≠ 2 := by
          intro r
          induction r with
          | nil => intro vs; exact h2 vs
          | cons p r ih =>
            intro vs
            unfold lin
            cases f p with
            | none => exact fun z => nomatch z
            | some v =>
              simp only
              split
              · exact h1 v
              · exact ih _
        exact this ps [] h
      have : o = 1 ∨ o = 2 ∨ o = 3 ∨ o = 4 ∨ o = 5 ∨ o = 31 := by simpa [ours] using ho
      by_cases c2 : o = 2
      · subst c2
        exact lin2 (lin_many (stop := 1) (alike := 2) fun vs => rfl) (fun _ z => nomatch z) (fun vs => by split <;> exact fun z => nomatch z)
      by_cases c3 : o = 3
      · subst c3
        exact lin2 (lin_many (stop := 2) (alike := 1) fun vs => rfl) (fun _ z => nomatch z) (fun vs => by split <;> exact fun z => nomatch z)
      by_cases c31 : o = 31
      · subst c31
        exact lin2 (lin_first fun vs => rfl) (fun _ z => nomatch z) (fun vs z => nomatch z)
      have c1 : o = 1 ∨ o = 4 ∨ o = 5 := by omega
      have hp : ps.length = 1 := by
        have := ok.2
        rcases c1 with rfl | rfl | rfl <;> simpa [partsOk] using this
      obtain ⟨p, rfl⟩ : ∃ p, ps = [p] := by
        match ps, hp with
        | [p], _ => exact ⟨p, rfl⟩
      have nf' : ¬ (o = 14 ∨ o = 29 ∨ o = 30 ∨ o = 32) := of_decide_eq_false nf
      have s0 : sd (.op o [p]) [] = (1, 0) := by
        show sOp o [] 1 = _
        rw [sOp, if_neg nf', if_neg c2, if_neg c3, if_neg c31, if_pos ⟨c1, rfl⟩]
      have h : (ask (.op o [p]) f 1 []).1 = 2 := h
      cases q : f p with
      | none => rw [ask_none s0 q] at h; cases h
      | some v =>
        rw [ask_some s0 q] at h
        have s1 : sd (.op o [p]) [v] = (0, ofOne o v) := by
          show sOp o [v] 1 = _
          rw [sOp, if_neg nf', if_neg c2, if_neg c3, if_neg c31, if_neg (by simp), if_pos c1]
          rfl
        have h : (sd (.op o [p]) [v]).1 = 2 := h
        rw [s1] at h
        cases h
/-- what comes out of the search downward -/
structure NdEnd (x : S) (s : Nat) (l : List Nat) : Prop where
  lt : s < x.steps.length
  op : opn x s l = l
  ne : l ≠ []
  nd : l.Nodup
  val : still x.steps s = true ∨ ∀ r ∈ l, r < 1024
  stop : ∀ t, x.steps[s]? = some t → ∀ r ∈ l, stopS x r t = t.parts.length
theorem opn_nodup {s : Nat} {l : List Nat} (h : l.Nodup) : (opn x s l).Nodup := by
  unfold opn
  split
  · split
    · exact List.nodup_cons.mpr ⟨List.not_mem_nil, List.nodup_nil⟩
    · exact List.nodup_nil
  · exact h.filter _
theorem nd_end (wf : WF x.steps) : ∀ (f s : Nat) (lanes : List Nat) (s' : Nat) (l' : List Nat), nd x f s lanes = some (s', l') → s < f → s < x.steps.length → lanes.Nodup → (still x.steps s = true ∨ ∀ r ∈ lanes, r < 1024) → NdEnd x s' l'
  | 0, _, _, _, _, h, _, _, _, _ => by cases h
  | f + 1, s, lanes, s', l', h, hf, hs, hn, hv => by
    unfold nd at h
    split at h
    · cases h
    · next ho =>
      obtain ⟨t, ht⟩ : ∃ t, x.steps[s]? = some t := ⟨_, List.getElem?_eq_getElem hs⟩
      rw [ht] at h
      simp only at h
      have hv2 : still x.steps s = true ∨ ∀ r ∈ opn x s lanes, r < 1024 := by
        by_cases c : still x.steps s = true
        · exact .inl c
        · refine .inr fun r hr => ?_
          unfold opn at hr
          rw [if_neg c] at hr
          exact hv.resolve_left c r (List.mem_filter.mp hr).1
      cases e : ((List.range t.parts.length).findSome? fun i => nd x f (t.parts.getD i 0) ((opn x s lanes).filter (rch x t i))) with
      | some n =>
        rw [e] at h
        simp only [Option.some.injEq] at h
        rw [h] at e
        obtain ⟨i, hi, e⟩ := List.exists_of_findSome?_eq_some e
        have hi := List.mem_range.mp hi
        have hp := wf s t ht _ (getD_mem hi)
        refine nd_end wf f _ _ s' l' e (by omega) (Nat.lt_trans hp hs) ((opn_nodup hn).filter _) ?_
        by_cases c : still x.steps s = true
        · exact .inl (still_parts wf ht c _ (getD_mem hi))
        · exact .inr fun r hr => hv2.resolve_left c r (List.mem_filter.mp hr).1
      | none =>
        rw [e] at h
        simp only [Option.some.injEq, Prod.mk.injEq] at h
        obtain ⟨rfl, rfl⟩ := h
        refine ⟨hs, opn_idem x s lanes, ho, opn_nodup hn, hv2, fun t' ht' r hr => ?_⟩
        cases ht.symm.trans ht'
        refine stop_end fun i hi => ?_
        have e1 := List.findSome?_eq_none_iff.mp e i (List.mem_range.mpr hi)
        have hp := wf s t ht _ (getD_mem hi)
        cases f with
        | zero => omega
        | succ f =>
          have e2 := (nd_none (Nat.lt_trans hp hs)).mp e1
          cases q : cnt x r t i with
          | false => rfl
          | true =>
            exfalso
            obtain ⟨q1, q2⟩ := cnt_iff.mp q
            have hm : r ∈ (opn x s lanes).filter (rch x t i) := List.mem_filter.mpr ⟨hr, q1⟩
            generalize (opn x s lanes).filter (rch x t i) = L at e2 hm
            unfold opn at e2
            split at e2
            · next hst =>
              rw [if_pos] at e2
              · cases e2
              · refine ⟨?_, by rw [← known_still wf _ hst r]; exact q2⟩
                cases L with
                | nil => cases hm
                | cons _ _ => rfl
            · have := List.filter_eq_nil_iff.mp e2 r hm
              rw [q2] at this
              exact this rfl
end
end Lw
/-! The plain law, 9: values are given; what came of the task. -/
namespace Lw
open Sf79
def gvs (zs : List (Nat × Nat)) (r : Nat) : Option Nat := (zs.find? fun y => y.1 == r).map (·.2)
def giveS (x : S) (n : Nat) (rows vs : List Nat) : S := { x with told := (List.zip rows vs).map (fun (y : Nat × Nat) => (n, y.1, y.2)) ++ x.told, asked := rows.map (fun _ => n) ++ x.asked }
def gput (kn : Kn) (n : Nat) (zs : List (Nat × Nat)) : Kn := zs.foldl (fun k y => put k n y.1 y.2) kn
section
variable {x : S} {kn : Kn} {n : Nat} {rows vs : List Nat}
theorem told_give (s l : Nat) : (giveS x n rows vs).toldOf s l = if s = n then (gvs (List.zip rows vs) l).or (x.toldOf n l) else x.toldOf s l := by
  show (((List.zip rows vs).map (fun (y : Nat × Nat) => (n, y.1, y.2)) ++ x.told).find? fun (t : Nat × Nat × Nat) => t.1 == s && t.2.1 == l).map _ = _
  rw [List.find?_append, List.find?_map]
  by_cases c : s = n
  · subst c
    rw [if_pos rfl]
    have e : ((fun (t : Nat × Nat × Nat) => t.1 == s && t.2.1 == l) ∘ fun (y : Nat × Nat) => (s, y.1, y.2)) = fun y => y.1 == l := by
      funext y
      simp
    rw [e]
    unfold gvs S.toldOf
    cases (List.zip rows vs).find? fun y => y.1 == l <;> rfl
  · rw [if_neg c]
    have e : ((List.zip rows vs).find? ((fun (t : Nat × Nat × Nat) => t.1 == s && t.2.1 == l) ∘ fun (y : Nat × Nat) => (n, y.1, y.2))) = none := by
      rw [List.find?_eq_none]
      intro y _ h
      have h : ((n == s) && (y.1 == l)) = true := h
      rw [Bool.and_eq_true] at h
      exact c (beq_iff_eq.mp h.1).symm
    rw [e]
    rfl
theorem gvs_mem {zs : List (Nat × Nat)} {r v : Nat} (h : gvs zs r = some v) : (r, v) ∈ zs := by
  unfold gvs at h
  obtain ⟨y, hy, rfl⟩ := Option.map_eq_some_iff.mp h
  have h1 := List.find?_some hy
  have h1 : y.1 = r := by simpa using h1
  subst h1
  exact List.mem_of_find?_eq_some hy
theorem gvs_of {zs : List (Nat × Nat)} (hn : (zs.map (·.1)).Nodup) {r v : Nat} (h : (r, v) ∈ zs) : gvs zs r = some v := by
  induction zs with
  | nil => cases h
  | cons y zs ih =>
    rw [List.map_cons, List.nodup_cons] at hn
    unfold gvs
    rw [List.find?_cons]
    rcases List.mem_cons.mp h with h | h
    · subst h
      simp
    · have : ¬ y.1 = r := fun e => hn.1 (e ▸ List.mem_map.mpr ⟨_, h, rfl⟩)
      rw [show (y.1 == r) = false from beq_eq_false_iff_ne.mpr this]
      exact ih hn.2 h
theorem gvs_none {zs : List (Nat × Nat)} {r : Nat} (h : r ∉ zs.map (·.1)) : gvs zs r = none := by
  cases e : gvs zs r with
  | none => rfl
  | some v => exact absurd (List.mem_map.mpr ⟨_, gvs_mem e, rfl⟩) h
theorem gput_at : ∀ (zs : List (Nat × Nat)) (kn : Kn), (zs.map (·.1)).Nodup → ∀ s k, gput kn n zs s k = if s = n then (gvs zs k).or (kn n k) else kn s k
  | [], kn, _, s, k => by
    show kn s k = _
    split
    · next c => rw [c]; rfl
    · rfl
  | y :: zs, kn, hn, s, k => by
    rw [List.map_cons, List.nodup_cons] at hn
    show gput (put kn n y.1 y.2) n zs s k = _
    rw [gput_at zs _ hn.2]
    by_cases c : s = n
    · rw [if_pos c, if_pos c]
      unfold put gvs
      rw [List.find?_cons]
      by_cases d : k = y.1
      · subst d
        have := gvs_none (r := y.1) hn.1
        unfold gvs at this
        rw [this]
        simp
      · rw [show (y.1 == k) = false from beq_eq_false_iff_ne.mpr fun e => d e.symm, if_neg fun z => d z.2]
    · rw [if_neg c, if_neg c]
      unfold put
      rw [if_neg fun z => c z.1]
theorem opn_known (wf : WF x.steps) {s : Nat} {l : List Nat} (h : opn x s l = l) : ∀ r ∈ l, x.known s r = none := fun r hr => by
  rw [← h, opn_eq] at hr
  exact Option.isNone_iff_eq_none.mp (List.mem_filter.mp hr).2
theorem opn_key {s : Nat} {l : List Nat} (h : opn x s l = l) : ∀ r ∈ l, key x s r = r := fun r hr => by
  by_cases c : still x.steps s = true
  · rw [key_still r c]
    rw [← h] at hr
    unfold opn at hr
    rw [if_pos c] at hr
    split at hr
    · exact (List.mem_singleton.mp hr).symm
    · cases hr
  · exact key_lane r (eq_false_of_ne_true c)
theorem zip_row {r v : Nat} (h : (r, v) ∈ List.zip rows vs) : r ∈ rows := (List.of_mem_zip h).1
theorem zip_nodup (hn : rows.Nodup) (hl : vs.length = rows.length) : ((List.zip rows vs).map (·.1)).Nodup := by
  rw [List.map_fst_zip (by omega)]
  exact hn
/-- .. of what told is not asked -/
theorem vf_told {x y : S} {s l : Nat} {t : Step} {f : Nat → Option Nat} (h : tell t = false) (hg : x.givens = y.givens) : vf x s l t f = vf y s l t f := by
  cases t with
  | col i => cases h
  | val v => rfl
  | given i =>
    show some (x.given i) = some (y.given i)
    unfold S.given
    rw [hg]
  | op o ps =>
    have h : ours o = true := by
      have : (!ours o) = false := h
      simpa using this
    simp only [vf, h, if_true]
  | cast c p => cases h
  | choice ps => rfl
theorem not_col {t : Step} (h : tell t = false) {P : Nat → Prop} : ∀ i, t = .col i → P i := fun i e => by
  subst e
  cases h
/-- what is told is the value -/
theorem vf_is {s l a : Nat} {t : Step} {f : Nat → Option Nat} (ht : tell t = true) (hc : ∀ i, t = .col i → key x s l = l) (h : x.toldOf s (key x s l) = some a) : vf x s l t f = some a := by
  cases t with
  | col i =>
    rw [hc i rfl] at h
    exact h
  | val v => cases ht
  | given i => cases ht
  | op o ps =>
    have ho : ours o = false := by
      have : (!ours o) = true := ht
      simpa using this
    simp only [vf, ho, h]
    rfl
  | cast c p => simp only [vf, h]
  | choice ps => cases ht
theorem known_mono (O : Ok x) (G : Good x kn) (E : NdEnd x n rows) : ∀ s l v, x.known s l = some v → (giveS x n rows vs).known s l = some v := by
  intro s
  induction s using Nat.strongRecOn with
  | ind s ih =>
    intro l v hk
    have hs : s < x.steps.length := by
      cases Nat.lt_or_ge s x.steps.length with
      | inl h => exact h
      | inr h => rw [known_out h] at hk; cases hk
    obtain ⟨t, ht⟩ : ∃ t, x.steps[s]? = some t := ⟨_, List.getElem?_eq_getElem hs⟩
    have ok := O.oks s t ht
    have wf' : WF (giveS x n rows vs).steps := O.wf
    have ht' : (giveS x n rows vs).steps[s]? = some t := ht
    have kd := known_at O.wf ht (l := l)
    rw [known_at wf' ht']
    have kk : key (giveS x n rows vs) s l = key x s l := rfl
    have hc := key_col O.wf (i := 0) ht l
    -- the parts: only on the step's own parts is more known
    have cg : ∀ {y : S}, vf y s l t (fun p => (giveS x n rows vs).known p l) = vf y s l t (fun p => if p < s then (giveS x n rows vs).known p l else none) := fun {y} => vf_congr fun p hp => by rw [if_pos (O.wf s t ht p hp)]
    have cg0 : ∀ {y : S}, vf y s l t (fun p => x.known p l) = vf y s l t (fun p => if p < s then x.known p l else none) := fun {y} => vf_congr fun p hp => by rw [if_pos (O.wf s t ht p hp)]
    have sub : ∀ p u, (if p < s then x.known p l else none) = some u → (if p < s then (giveS x n rows vs).known p l else none) = some u := fun p u h => by
      by_cases c : p < s
      · rw [if_pos c] at h ⊢
        exact ih p c l u h
      · rw [if_neg c] at h; cases h
    rw [cg]
    rw [kd, cg0] at hk
    have go : ∀ {y z : S}, (∀ f, askOf y t f = askOf x t f) → (∀ f, askOf z t f = askOf x t f) → y.toldOf s (key y s l) = none → z.toldOf s (key z s l) = none → (∀ i, t = .col i → key y s l = l) → (∀ i, t = .col i → key z s l = l) →
        vf y s l t (fun p => if p < s then x.known p l else none) = some v → vf z s l t (fun p => if p < s then (giveS x n rows vs).known p l else none) = some v := fun {y z} ay az ny nz cy cz h => by
      rcases ask_ends (f := fun p => if p < s then x.known p l else none) ok ny cy with ⟨h1, h2⟩ | ⟨_, h2⟩
      · have e := askOf_mono (x := x) (t := t) sub (fun c => by rw [ay] at h1; rw [h1] at c; cases c)
        rcases ask_ends (f := fun p => if p < s then (giveS x n rows vs).known p l else none) ok nz cz with ⟨h3, h4⟩ | ⟨h3, _⟩
        · rw [h4, az, e, ← ay, ← h2, h]
        · exfalso
          rw [az, e, ← ay, h1] at h3
          rcases h3 with h3 | h3 <;> cases h3
      · rw [h2] at h; cases h
    cases ct : tell t with
    | false =>
      rw [vf_told (x := x) (y := { x with told := [], steps := [] }) ct rfl] at hk
      rw [vf_told (x := giveS x n rows vs) (y := { x with told := [], steps := [] }) ct rfl]
      exact go (fun _ => by cases t <;> rfl) (fun _ => by cases t <;> rfl) rfl rfl (not_col ct) (not_col ct) hk
    | true =>
      cases hT : x.toldOf s (key x s l) with
      | some a =>
        rw [vf_is ct hc hT] at hk
        rw [← hk]
        refine vf_is (x := giveS x n rows vs) ct hc ?_
        rw [kk, told_give]
        by_cases c : s = n
        · rw [if_pos c]
          cases e : gvs (List.zip rows vs) (key x s l) with
          | none => rw [← c, hT]; rfl
          | some u =>
            exfalso
            have hr := zip_row (gvs_mem e)
            have k0 := opn_known O.wf E.op _ hr
            have := G.nt (G.non O.wf k0)
            rw [opn_key E.op _ hr, ← c, hT] at this
            cases this
        · rw [if_neg c]; exact hT
      | none =>
        have hT' : (giveS x n rows vs).toldOf s (key (giveS x n rows vs) s l) = none := by
          rw [kk, told_give]
          by_cases c : s = n
          · rw [if_pos c]
            cases e : gvs (List.zip rows vs) (key x s l) with
            | none => rw [← c, hT]; rfl
            | some u =>
              exfalso
              have hr := zip_row (gvs_mem e)
              have k0 := opn_known O.wf E.op _ hr
              rw [← c, known_key O.wf] at k0
              rw [kd, cg0, hk] at k0
              cases k0
          · rw [if_neg c]; exact hT
        exact go (fun _ => rfl) (fun _ => by cases t <;> rfl) hT hT' hc hc hk
theorem known_given (O : Ok x) (E : NdEnd x n rows) (hl : vs.length = rows.length) {r v : Nat} (h : (r, v) ∈ List.zip rows vs) : (giveS x n rows vs).known n r = some v := by
  obtain ⟨t, ht⟩ : ∃ t, x.steps[n]? = some t := ⟨_, List.getElem?_eq_getElem E.lt⟩
  have hr := zip_row h
  have k0 := opn_known O.wf E.op r hr
  have ok := O.oks n t ht
  have st := E.stop t ht r hr
  have hkey := opn_key E.op r hr
  have ct : tell t = true := by
    cases hf : free t with
    | true => exact ask_tell (x := x) (f := fun _ => none) ok (by rw [free_ask hf])
    | false =>
      cases c : tell t with
      | true => rfl
      | false =>
        exfalso
        have kd := known_at O.wf ht (l := r)
        rw [k0, vf_told (x := x) (y := { x with told := [], steps := [] }) c rfl] at kd
        have A := agree (x := { x with told := [], steps := [] }) (s := n) (l := r) (f := fun p => x.known p r) ok hf rfl (not_col c)
        have ea : askOf { x with told := [], steps := [] } t (fun p => x.known p r) = askOf x t (fun p => x.known p r) := by cases t <;> rfl
        rcases A.ends with ⟨_, h2⟩ | ⟨h1, _⟩
        · rw [h2] at kd; cases kd
        · rcases h1 with h1 | h1
          · rw [ea] at h1
            have := ask_tell ok h1
            rw [c] at this
            cases this
          · obtain ⟨a, b, d⟩ := (A.asks _).mp (Prod.ext h1 rfl)
            have := stop_before (x := x) (l := r) (t := t) (i := (askOf { x with told := [], steps := [] } t (fun p => x.known p r)).2) (by rw [st]; exact a)
            rw [cnt_iff.mpr ⟨b, d⟩] at this
            cases this
  rw [known_at (x := giveS x n rows vs) O.wf ht]
  refine vf_is ct (key_col O.wf (i := 0) ht r) ?_
  rw [show key (giveS x n rows vs) n r = key x n r from rfl, hkey, told_give, if_pos rfl, gvs_of (zip_nodup E.nd hl) h]
  rfl
theorem Good.give (G : Good x kn) (O : Ok x) (E : NdEnd x n rows) (hl : vs.length = rows.length) : Good (giveS x n rows vs) (gput kn n (List.zip rows vs)) where
  tru := fun s k v h => by
    rw [gput_at _ _ (zip_nodup E.nd hl)] at h
    by_cases c : s = n
    · rw [if_pos c] at h
      subst c
      cases e : gvs (List.zip rows vs) k with
      | some u =>
        rw [e] at h
        cases h
        exact known_given O E hl (gvs_mem e)
      | none =>
        rw [e] at h
        exact known_mono O G E _ _ _ (G.tru _ _ _ h)
    · rw [if_neg c] at h
      exact known_mono O G E _ _ _ (G.tru _ _ _ h)
  told := fun s l v h => by
    rw [told_give] at h
    rw [gput_at _ _ (zip_nodup E.nd hl)]
    by_cases c : s = n
    · rw [if_pos c] at h ⊢
      cases e : gvs (List.zip rows vs) l with
      | some u => rw [e] at h; exact h
      | none =>
        rw [e] at h
        exact G.told _ _ _ h
    · rw [if_neg c] at h ⊢
      exact G.told _ _ _ h
theorem Ok.give (O : Ok x) (E : NdEnd x n rows) : Ok (giveS x n rows vs) where
  wf := O.wf
  oks := O.oks
  nd := O.nd
  most := O.most
  told := fun e he => by
    have he : e ∈ (List.zip rows vs).map (fun (y : Nat × Nat) => (n, y.1, y.2)) ++ x.told := he
    rcases List.mem_append.mp he with he | he
    · obtain ⟨y, hy, rfl⟩ := List.mem_map.mp he
      refine ⟨E.lt, ?_⟩
      have hr : y.1 ∈ rows := zip_row (v := y.2) hy
      show if still x.steps n = true then y.1 = 1024 else y.1 < 1024
      by_cases c : still x.steps n = true
      · rw [if_pos c]
        have := opn_key E.op _ hr
        rw [key_still _ c] at this
        exact this.symm
      · rw [if_neg c]
        exact E.val.resolve_left c _ hr
    · exact O.told e he
  rows := O.rows
  asked := fun s hs => by
    have hs : s ∈ rows.map (fun _ => n) ++ x.asked := hs
    rcases List.mem_append.mp hs with hs | hs
    · obtain ⟨_, _, rfl⟩ := List.mem_map.mp hs
      exact E.lt
    · exact O.asked s hs
  task := O.task
theorem count_give (s : Nat) : (giveS x n rows vs).asked.count s = (if s = n then rows.length else 0) + x.asked.count s := by
  show (rows.map (fun _ => n) ++ x.asked).count s = _
  rw [List.count_append]
  congr 1
  rw [List.map_const', List.count_replicate]
  by_cases c : s = n
  · subst c
    simp
  · rw [if_neg c, if_neg (by simpa using fun e => c e.symm)]

/-! ### the task -/
theorem ndAll_end (O : Ok x) : ∀ (ss lanes : List Nat) (s' : Nat) (l' : List Nat), ndAll x ss lanes = some (s', l') → (∀ s ∈ ss, s < x.steps.length) → lanes.Nodup → (∀ r ∈ lanes, r < 1024) → NdEnd x s' l'
  | [], _, _, _, h, _, _, _ => by cases h
  | s :: r, lanes, s', l', h, hs, hn, hv => by
    unfold ndAll at h
    cases e : nd x (s + 1) s lanes with
    | some n =>
      rw [e] at h
      simp only [Option.some.injEq] at h
      rw [h] at e
      exact nd_end O.wf (s + 1) s lanes s' l' e (Nat.lt_succ_self s) (hs s List.mem_cons_self) hn (.inr hv)
    | none =>
      rw [e] at h
      exact ndAll_end O r _ s' l' h (fun u hu => hs u (List.mem_cons_of_mem _ hu)) (hn.filter _) fun r hr => hv r (List.mem_filter.mp hr).1
theorem lanes_nodup {l : List Nat} (h : Lanes x l) : l.Nodup := h.1.imp fun h => Nat.ne_of_lt h
theorem lanes_lt (O : Ok x) {l : List Nat} (h : Lanes x l) : ∀ r ∈ l, r < 1024 := fun r hr => by
  have := h.2 r hr
  have := O.rows
  omega
theorem lanes_len (O : Ok x) {l : List Nat} (h : Lanes x l) : l.length ≤ 1024 := nodup_bound 1024 l (lanes_nodup h) (lanes_lt O h)
theorem next_end (O : Ok x) {s : Nat} {l : List Nat} (h : x.next = some (s, l)) : NdEnd x s l := by
  rw [next_nd O] at h
  cases e : x.task with
  | none => rw [e] at h; cases h
  | some j =>
    rw [e] at h
    obtain ⟨h1, h2, _⟩ := task_steps O e
    exact ndAll_end O _ _ s l h h1 (lanes_nodup h2) (lanes_lt O h2)
def yesAll (x : S) : List Nat → List Nat → List Nat
  | [], l => l
  | s :: r, l => yesAll x r (yes x s l)
theorem yesAll_filter (x : S) : ∀ (ss l : List Nat), yesAll x ss l = l.filter fun r => ss.all fun s => decide (x.known s r = some 2)
  | [], l => by
    show l = _
    exact (List.filter_eq_self.mpr fun _ _ => rfl).symm
  | s :: r, l => by
    show yesAll x r (yes x s l) = _
    rw [yesAll_filter x r]
    unfold yes
    rw [List.filter_filter]
    refine List.filter_congr fun a _ => ?_
    rw [List.all_cons, Bool.and_comm]
theorem results_run (O : Ok x) {s : Nat} {l : List Nat} (h : x.task = some (.run s l)) : x.results = ⟨l.length, l.map fun r => (x.known s r).getD 0⟩ := by
  obtain ⟨h1, h2, _⟩ := task_steps O h
  have hs : s < x.steps.length := h1 s List.mem_cons_self
  have e : (l.map fun (r : Nat) => (knownIn (x.tables (s + 1) l) s (if x.still s = true then STILL else r)).getD 0) = l.map fun r => (x.known s r).getD 0 := by
    refine List.map_congr_left fun r hr => ?_
    have e1 : knownIn (x.tables (s + 1) l) s (if x.still s = true then STILL else r) = x.known s r := by
      by_cases c : x.still s = true
      · rw [if_pos c, known_still O.wf s c r]
        exact knownIn_tables (by omega) (by omega) (.inl rfl) (Nat.le_refl _)
      · rw [if_neg c]
        exact knownIn_tables (by omega) (by omega) (.inr hr) (lanes_le O h2 r hr)
    rw [e1]
  unfold S.results
  rw [h]
  simp only
  rw [e]
theorem results_choose (O : Ok x) {ss l : List Nat} (h : x.task = some (.choose ss l)) : x.results = ⟨(yesAll x ss l).length, yesAll x ss l⟩ := by
  obtain ⟨h1, h2, _⟩ := task_steps O h
  have e : (l.filter fun (r : Nat) => ss.all fun (s : Nat) => knownIn (x.tables x.steps.length l) s r == some YES) = yesAll x ss l := by
    rw [yesAll_filter]
    refine List.filter_congr fun r hr => ?_
    rw [Bool.eq_iff_iff, List.all_eq_true, List.all_eq_true]
    refine forall_congr' fun s => forall_congr' fun hs => ?_
    rw [knownIn_tables (h1 s hs) (Nat.le_refl _) (.inr hr) (lanes_le O h2 r hr)]
    simp [YES]
  unfold S.results
  rw [h]
  simp only
  rw [e]
theorem all_known (wf : WF x.steps) {s : Nat} {l : List Nat} (h : opn x s l = []) : ∀ r ∈ l, x.known s r ≠ none := fun r hr z => by
  unfold opn at h
  split at h
  · next c =>
    rw [if_pos] at h
    · cases h
    · refine ⟨?_, by rw [← known_still wf s c r]; exact z⟩
      cases l with
      | nil => cases hr
      | cons _ _ => rfl
  · have := List.filter_eq_nil_iff.mp h r hr
    rw [z] at this
    exact this rfl
end
end Lw
/-! The plain law, 10: rows as they are handed in; the start. -/
namespace Lw
open Sf79
theorem rising_pair : ∀ {l : List Int}, rising l = true → l.Pairwise (· < ·)
  | [], _ => List.Pairwise.nil
  | [a], _ => List.pairwise_singleton _ _
  | a :: b :: l, h => by
    have h : (decide (a < b) && rising (b :: l)) = true := h
    rw [Bool.and_eq_true, decide_eq_true_iff] at h
    have ih := rising_pair h.2
    refine List.pairwise_cons.mpr ⟨fun c hc => ?_, ih⟩
    rcases List.mem_cons.mp hc with rfl | hc
    · exact h.1
    · exact Int.lt_trans h.1 ((List.pairwise_cons.mp ih).1 c hc)
theorem lanesOk_iff {x : S} {l : List Int} (h : rising l = true) : x.lanesOk l = true ↔ l.length = 0 ∨ (0 ≤ l.getD 0 0 ∧ l.getD (l.length - 1) 0 < (x.rows : Int)) := by
  unfold S.lanesOk
  rw [h, Bool.true_and, List.all_eq_true]
  have pw := rising_pair h
  constructor
  · intro ha
    cases l with
    | nil => exact .inl rfl
    | cons a r =>
      refine .inr ⟨?_, ?_⟩
      · have := ha a List.mem_cons_self
        rw [Bool.and_eq_true, decide_eq_true_iff, decide_eq_true_iff] at this
        exact this.1
      · have hm : (a :: r).getD ((a :: r).length - 1) 0 ∈ a :: r := by
          rw [List.getD_eq_getElem?_getD, List.getElem?_eq_getElem (by simp)]
          exact List.getElem_mem _
        have := ha _ hm
        rw [Bool.and_eq_true, decide_eq_true_iff, decide_eq_true_iff] at this
        exact this.2
  · rintro (h0 | ⟨h1, h2⟩) a ha
    · rw [List.eq_nil_of_length_eq_zero h0] at ha
      cases ha
    · obtain ⟨i, hi, rfl⟩ := List.getElem_of_mem ha
      have g0 : l.getD 0 0 = l[0]'(by omega) := by rw [List.getD_eq_getElem?_getD, List.getElem?_eq_getElem (by omega)]; rfl
      have g1 : l.getD (l.length - 1) 0 = l[l.length - 1]'(by omega) := by rw [List.getD_eq_getElem?_getD, List.getElem?_eq_getElem (by omega)]; rfl
      have e0 : l[0]'(by omega) ≤ l[i] := by
        by_cases c : i = 0
        · subst c; exact Int.le_refl _
        · exact Int.le_of_lt (List.pairwise_iff_getElem.mp pw 0 i (by omega) hi (by omega))
      have e1 : l[i] ≤ l[l.length - 1]'(by omega) := by
        by_cases c : i = l.length - 1
        · subst c; exact Int.le_refl _
        · exact Int.le_of_lt (List.pairwise_iff_getElem.mp pw i (l.length - 1) hi (by omega) (by omega))
      rw [Bool.and_eq_true, decide_eq_true_iff, decide_eq_true_iff]
      omega
theorem lanes_of {x : S} {l : List Int} (h : x.lanesOk l = true) : Lanes x (nats l) ∧ l = (nats l).map fun (n : Nat) => (n : Int) := by
  unfold S.lanesOk at h
  rw [Bool.and_eq_true, List.all_eq_true] at h
  have pos : ∀ a ∈ l, 0 ≤ a ∧ a < (x.rows : Int) := fun a ha => by
    have := h.2 a ha
    rw [Bool.and_eq_true, decide_eq_true_iff, decide_eq_true_iff] at this
    exact this
  refine ⟨⟨?_, fun a ha => ?_⟩, ?_⟩
  · unfold nats
    rw [List.pairwise_map]
    exact (rising_pair h.1).imp_of_mem fun {a b} ha hb hab => by have := pos a ha; have := pos b hb; omega
  · obtain ⟨z, hz, rfl⟩ := List.mem_map.mp ha
    have := pos z hz
    omega
  · unfold nats
    rw [List.map_map]
    refine (List.map_id l).symm.trans (List.map_congr_left fun a ha => ?_)
    show a = ((a.toNat : Nat) : Int)
    have := pos a ha
    omega
theorem has_of {x : S} {z : Int} (h : x.has z = true) : z = (z.toNat : Int) ∧ z.toNat < x.steps.length := by
  unfold S.has at h
  rw [Bool.and_eq_true, decide_eq_true_iff, decide_eq_true_iff] at h
  omega
theorem have_of {x : S} {l : List Int} (h : l.all x.has = true) : (∀ s ∈ nats l, s < x.steps.length) ∧ l = (nats l).map fun (n : Nat) => (n : Int) := by
  rw [List.all_eq_true] at h
  refine ⟨fun a ha => ?_, ?_⟩
  · obtain ⟨z, hz, rfl⟩ := List.mem_map.mp ha
    exact (has_of (h z hz)).2
  · unfold nats
    rw [List.map_map]
    refine (List.map_id l).symm.trans (List.map_congr_left fun a ha => ?_)
    exact (has_of (h a ha)).1
theorem no_step {i : Nat} {t : Step} (h : Sf79.fresh.steps[i]? = some t) : False := by
  cases i <;> cases h
theorem Ok.fresh : Ok Sf79.fresh where
  wf := fun _ _ h => (no_step h).elim
  oks := fun _ _ h => (no_step h).elim
  nd := List.nodup_nil
  most := Nat.zero_le _
  told := fun e h => (nomatch h)
  rows := Nat.zero_le _
  asked := fun e h => (nomatch h)
  task := trivial
theorem Good.fresh : Good Sf79.fresh fun _ _ => none := ⟨fun _ _ _ h => (nomatch h), fun s l u h => by cases h⟩
theorem ndAll_cons (x : S) (s : Nat) (r l : List Nat) : ndAll x (s :: r) l = match nd x (s + 1) s l with
    | some n => some n
    | none => ndAll x r (yes x s l) := rfl
theorem yesAll_snoc (x : S) : ∀ (ss : List Nat) (s : Nat) (l : List Nat), yesAll x (ss ++ [s]) l = yes x s (yesAll x ss l)
  | [], _, _ => rfl
  | u :: r, s, l => yesAll_snoc x r s (yes x u l)
theorem yesAll_sub (x : S) : ∀ (ss l : List Nat), (∀ r ∈ yesAll x ss l, r ∈ l) ∧ (yesAll x ss l).length ≤ l.length
  | [], l => ⟨fun _ h => h, Nat.le_refl _⟩
  | s :: r, l => by
    obtain ⟨a, b⟩ := yesAll_sub x r (yes x s l)
    exact ⟨fun q hq => (List.mem_filter.mp (a q hq)).1, Nat.le_trans b (List.length_filter_le _ _)⟩
end Lw
/-! A dict whose keys are tuples of ints and of tuples of ints. -/
namespace Nq
open PySem PySem.Spec PyProof.Rows L2

/-- an item of a key: an int, or a tuple of ints -/
abbrev IK := Sum Int (List Int)
section
variable {prog : Program} {w : World}
abbrev ik (prog : Program) (w : World) : PySem.KeyKind prog w Int := PySem.intKind prog w
def isItem (prog : Program) (w : World) (h : Heap) : IK → Value → Prop
  | .inl i, v => (ik prog w).is i v = true
  | .inr ps, v => ∃ b, v = .ref b ∧ IsTupleKey (ik prog w) h ps b
def hItem (prog : Program) (w : World) : IK → Int
  | .inl i => (ik prog w).hash i
  | .inr ps => tupleKeyHash (ik prog w) ps
def dItem : IK → Nat
  | .inl _ => 1
  | .inr ps => ps.length + 1
def dItems : List IK → Nat
  | [] => 0
  | k :: ks => dItem k + dItems ks
theorem dItems_append : ∀ (a b : List IK), dItems (a ++ b) = dItems a + dItems b
  | [], b => (Nat.zero_add _).symm
  | k :: ks, b => by
    show dItem k + dItems (ks ++ b) = dItem k + dItems ks + dItems b
    rw [dItems_append ks b, Nat.add_assoc]
abbrev ItemsN (prog : Program) (w : World) (h : Heap) : List IK → List Value → Prop := Paired (isItem prog w h)
def IsNest (prog : Program) (w : World) (h : Heap) (ks : List IK) (a : Addr) : Prop := ∃ o items n, h.get? a = some o ∧ o.cls = .type "tuple" ∧ o.data = .seq items n ∧ ItemsN prog w h ks items.toList

theorem isItem_inj {h : Heap} {x y : IK} {v : Value} (hx : isItem prog w h x v) (hy : isItem prog w h y v) : x = y := by
  cases x with
  | inl i =>
    cases y with
    | inl j => rw [(ik prog w).inj v i j hx hy]
    | inr ps =>
      obtain ⟨b, rfl, _⟩ := hy
      have := (ik prog w).byValue i _ hx
      cases this
  | inr ps =>
    obtain ⟨b, rfl, hp⟩ := hx
    cases y with
    | inl j =>
      have := (ik prog w).byValue j _ hy
      cases this
    | inr qs =>
      obtain ⟨b', e, hq⟩ := hy
      cases e
      rw [hp.inj hq]
theorem itemsN_inj {h : Heap} {x y : List IK} {vs : List Value} (hx : ItemsN prog w h x vs) (hy : ItemsN prog w h y vs) : x = y := by
  induction hx generalizing y with
  | nil => cases hy; rfl
  | cons h1 _ ih =>
    cases hy with
    | cons h2 t2 => rw [isItem_inj h1 h2, ih t2]
theorem IsNest.typeIs {s : Shared} {ks : List IK} {a : Addr} (x : IsNest prog w s.heap ks a) : s.TypeIs (.ref a) "tuple" := let ⟨o, _, _, ho, hc, _⟩ := x; ⟨o, ho, hc⟩
theorem IsNest.inj {h : Heap} {a : Addr} {x y : List IK} (hx : IsNest prog w h x a) (hy : IsNest prog w h y a) : x = y := by
  obtain ⟨o, items, n, ho, _, hd, hi⟩ := hx
  obtain ⟨o', items', n', ho', _, hd', hi'⟩ := hy
  obtain rfl : o = o' := Option.some.inj (ho.symm.trans ho')
  rw [hd] at hd'
  injection hd' with h1 _
  subst h1
  exact itemsN_inj hi hi'
theorem IsNest.keeps {h h' : Heap} {ks : List IK} {a d : Addr} {o : Obj} {es ep} (x : IsNest prog w h ks a) (ho : h.get? d = some o) (hd : o.data = .dict es ep) (hs : Heap.SameBut d h h') :
    IsNest prog w h' ks a := by
  obtain ⟨o', items, n, ho', hc, hd', hi⟩ := x
  have hne : a ≠ d := by
    rintro rfl
    obtain rfl : o' = o := Option.some.inj (ho'.symm.trans ho)
    rw [hd] at hd'; exact nomatch hd'
  refine ⟨o', items, n, (hs.2 a hne).trans ho', hc, hd', Paired.mapP hi fun k v z => ?_⟩
  cases k with
  | inl i => exact z
  | inr ps =>
    obtain ⟨b, e, q⟩ := z
    exact ⟨b, e, q.keeps ho hd hs⟩
def nestHash (prog : Program) (w : World) (ks : List IK) : Int := reduceHash (Builtin.Tuple.tupleHashOf (ks.map (hItem prog w)))

variable {A : Around} {E : Value → Shared → Prop} {s : Shared}
theorem item_hash {k : IK} {v : Value} {Q : Int → Shared → Prop} (hu : A.units < cLine) (hk : isItem prog w s.heap k v) (h : Q (hItem prog w k) { s with toks := s.toks + dItem k }) :
    wpAny (model prog w) A (pyHash v) Q E s := by
  cases k with
  | inl i => exact (ik prog w).pyHash hk h
  | inr ps =>
    obtain ⟨b, rfl, q⟩ := hk
    exact wpAny_pyHash_tuple hu q h
theorem pyHash_nest {ks : List IK} {a : Addr} {Q : Int → Shared → Prop} (hu : A.units + 1 < cLine) (hk : IsNest prog w s.heap ks a) (h : Q (nestHash prog w ks) { s with toks := s.toks + (dItems ks + 1) }) :
    wpAny (model prog w) A (pyHash (.ref a)) Q E s := by
  have hT := hk.typeIs
  obtain ⟨o, items, n, ho, _, hd, hi⟩ := hk
  have hu0 : A.units < cLine := Nat.lt_of_succ_lt hu
  have hu1 : A.in1.units < cLine := hu
  unfold pyHash
  first | unfold pyHashByItsType | skip
  first | refine wpAny_bind (wpAny_cRoomFor_or (.inr hu0) ?_) | skip
  refine wpAny_bind (wpAny_specialOf hT F.slot_tuple_hash.lookup ?_)
  show wpAny _ _ (if (some (Value.builtin "tuple.__hash__") == some Value.none) = true then _ else _) Q E s
  rw [if_neg (by rw [beq_builtin_none]; exact Bool.false_ne_true)]
  refine wpAny_bind (wpAny_specialOf hT F.slot_tuple_hash.lookup ?_)
  show wpAny _ _ (callSpecialIfBoundUnlessNone? (.ref a) "__hash__" _ >>= _) Q E s
  refine wpAny_bind (wpAny_callSpecialIfBoundUnlessNone?_slot hT F.slot_tuple_hash (wpAny_call_entry F.slot_tuple_hash hT F.entry_tuple_hash ?_ (F.args_tuple_hash_1 _)))
  show wpAny _ _ (Builtin.Tuple.tupleItemsOf (.ref a) >>= _) _ _ s
  refine wpAny_bind (wpAny_tupleItemsOf ho hd ?_)
  refine wpAny_bind ?_
  rw [← Array.forIn_toList]
  refine wpAny_forIn_list _
    (fun rest (b : Array Int) s' => ∃ done left, ks = done ++ left ∧ ItemsN prog w s.heap left rest ∧ b.toList = done.map (hItem prog w) ∧ s' = { s with toks := s.toks + dItems done })
    _ ?_ ?_ _ _ ⟨[], ks, rfl, hi, rfl, rfl⟩
  · rintro x rest b s' ⟨done, left, rfl, hl, hb, rfl⟩
    cases hl with
    | @cons k _ ks' _ h1 hl' =>
      refine wpAny_bind (item_hash (k := k) hu1 h1 ?_)
      have e : dItems (done ++ [k]) = dItems done + dItem k := by rw [dItems_append]; rfl
      first
        | exact wpAny_pure ⟨done ++ [k], ks', by simp, hl', by simp [hb], by rw [e]; simp [Nat.add_assoc]⟩
        | exact wpAny_bind (wpAny_pure (wpAny_pure ⟨done ++ [k], ks', by simp, hl', by simp [hb], by rw [e]; simp [Nat.add_assoc]⟩))
  · rintro b s' ⟨done, left, rfl, hl, hb, rfl⟩
    cases hl
    rw [List.append_nil] at h
    show wpAny _ _ (retInt (Builtin.Tuple.tupleHashOf b.toList)) _ _ _
    rw [hb]
    refine wpAny_ret_mkInt ?_
    show wpAny _ _ (if (decide (-(2 : Int) ^ 63 ≤ Builtin.Tuple.tupleHashOf (done.map (hItem prog w))) && decide (Builtin.Tuple.tupleHashOf (done.map (hItem prog w)) < 2 ^ 63)) = true then _ else _) Q E _
    unfold nestHash reduceHash at h
    by_cases hr : (decide (-(2 : Int) ^ 63 ≤ Builtin.Tuple.tupleHashOf (done.map (hItem prog w))) && decide (Builtin.Tuple.tupleHashOf (done.map (hItem prog w)) < 2 ^ 63)) = true
    · rw [if_pos hr]
      rw [if_pos hr] at h
      exact wpAny_pure (by simpa [Nat.add_assoc] using h)
    · rw [if_neg hr]
      rw [if_neg hr] at h
      exact wpAny_bind (wpAny_rule (wpAny_pure (by simpa [Nat.add_assoc] using h)))

/-- items of one form -/
def alike : IK → IK → Prop
  | .inl _, .inl _ => True
  | .inr _, .inr _ => True
  | _, _ => False
theorem item_eq {x y : IK} {u v : Value} {Q : Bool → Shared → Prop} (hu : A.units < cLine) (al : alike x y) (hx : isItem prog w s.heap x u) (hy : isItem prog w s.heap y v) (h : Q (decide (x = y)) s) :
    wpAny (model prog w) A (eqBool u v) Q E s := by
  cases x with
  | inl i =>
    cases y with
    | inl j =>
      have e : decide ((Sum.inl i : IK) = Sum.inl j) = decide (i = j) := by by_cases c : i = j <;> simp [c]
      rw [e] at h
      exact (ik prog w).eqBool (a := i) (b := j) hx hy h
    | inr ps => exact al.elim
  | inr ps =>
    cases y with
    | inl j => exact al.elim
    | inr qs =>
      obtain ⟨a, rfl, ha⟩ := hx
      obtain ⟨b, rfl, hb⟩ := hy
      have e : decide ((Sum.inr ps : IK) = Sum.inr qs) = decide (ps = qs) := by by_cases c : ps = qs <;> simp [c]
      rw [e] at h
      exact wpAny_eqBool_tuple hu ha hb h
theorem nest_eq_tree {x y : List IK} {a b : Addr} {P : Fin → Shared → Prop} (hu : A.units < cLine) (al : Paired alike x y) (hx : IsNest prog w s.heap x a) (hy : IsNest prog w s.heap y b) (h : P (.done (.ret (.bool (decide (x = y))))) s) :
    wpAny (model prog w) A (Builtin.«tuple.__eq__» ⟨[.ref a, .ref b], []⟩) P E s := by
  have hTb := hy.typeIs
  obtain ⟨oa, xs, na, hoa, _, hda, hia⟩ := hx
  obtain ⟨ob, ys, nb, hob, _, hdb, hib⟩ := hy
  show wpAny _ _ (isInstance (.ref b) (.type "tuple") >>= _) _ _ s
  refine wpAny_bind (wpAny_isInstance hTb isSubtype_tuple_tuple ?_)
  simp only [Bool.not_true, Bool.false_eq_true, if_false]
  refine wpAny_bind (wpAny_tupleItemsOf hoa hda ?_)
  refine wpAny_bind (wpAny_tupleItemsOf hob hdb ?_)
  refine wpAny_bind ?_
  refine wpAny_forIn_list _
    (fun rest r s' => r.1 = none ∧ s' = s ∧ ∃ x' y' xs' ys', rest = List.zip xs' ys' ∧ Paired alike x' y' ∧ ItemsN prog w s.heap x' xs' ∧ ItemsN prog w s.heap y' ys' ∧ decide (x' = y') = decide (x = y) ∧ (xs'.length == ys'.length) = (xs.size == ys.size))
    _ ?_ ?_ _ _ ⟨rfl, rfl, x, y, xs.toList, ys.toList, rfl, al, hia, hib, rfl, by simp⟩
  · rintro ⟨u, v⟩ rest r s' ⟨hr, rfl, x', y', xs', ys', hz, al', hx', hy', hdec, hlen⟩
    cases hx' with
    | nil => simp at hz
    | @cons k1 u' x'' xs'' h1 hx'' =>
      cases hy' with
      | nil => simp at hz
      | @cons k2 v' y'' ys'' h2 hy'' =>
        cases al' with
        | cons a1 a2 =>
        simp only [List.zip_cons_cons, List.cons.injEq, Prod.mk.injEq] at hz
        obtain ⟨⟨rfl, rfl⟩, rfl⟩ := hz
        refine wpAny_bind (item_eq (x := k1) (y := k2) hu a1 h1 h2 ?_)
        by_cases hk : k1 = k2
        · subst hk
          rw [decide_eq_true rfl]
          simp only [Bool.not_true, Bool.false_eq_true, if_false]
          refine wpAny_pure ⟨rfl, rfl, x'', y'', xs'', ys'', rfl, a2, hx'', hy'', ?_, by simpa using hlen⟩
          rw [← hdec]
          by_cases hxy : x'' = y''
          · simp [hxy]
          · simp [hxy]
        · rw [decide_eq_false hk]
          simp only [Bool.not_false, if_true]
          have hf : decide (x = y) = false := by rw [← hdec]; simp [hk]
          rw [hf] at h
          exact wpAny_bind (wpAny_pure (wpAny_pure (wpAny_pure h)))
  · rintro ⟨r1, r2⟩ s' ⟨hr, rfl, x', y', xs', ys', hz, _, hx', hy', hdec, hlen⟩
    simp only at hr
    subst hr
    refine wpAny_pure ?_
    have hfin : (xs.size == ys.size) = decide (x = y) := by
      rw [← hdec, ← hlen]
      cases hx' with
      | nil =>
        cases hy' with
        | nil => simp
        | cons _ _ => simp
      | cons _ _ =>
        cases hy' with
        | nil => simp
        | cons _ _ => simp at hz
    show P (.done (.ret (.bool (xs.size == ys.size)))) s'
    rw [hfin]; exact h
theorem eqBool_nest {x y : List IK} {a b : Addr} {Q : Bool → Shared → Prop} (hu : A.units + 1 < cLine) (al : Paired alike x y) (hx : IsNest prog w s.heap x a) (hy : IsNest prog w s.heap y b) (h : Q (decide (x = y)) s) :
    wpAny (model prog w) A (eqBool (.ref a) (.ref b)) Q E s := by
  have hu1 : A.in1.units < cLine := hu
  unfold eqBool
  try with_reducible refine wpAny_holding ?_
  show wpAny _ _ (if (Value.ref a == Value.ref b) = true then _ else _) Q E s
  by_cases hab : (Value.ref a == Value.ref b) = true
  · rw [if_pos hab]
    have e : a = b := by have := eq_of_beq hab; injection this
    subst e
    obtain rfl := hx.inj hy
    exact wpAny_bind (wpAny_rule (wpAny_pure (by simpa using h)))
  · rw [if_neg hab]
    exact wpAny_bind (wpAny_richCompare_same_room (op := .Eq) hx.typeIs hy.typeIs F.slot_tuple_eq
      (wpAny_call_entry F.slot_tuple_eq hx.typeIs F.entry_tuple_eq (nest_eq_tree hu1 al hx hy ⟨_, rfl, (fun e => nomatch e), wpAny_truthy_bool h⟩) (F.args_tuple_eq_2 _ _)) (Nat.lt_of_succ_lt hu))
theorem quiet_tup (n : Nat) {ks : List Int} {a : Addr} {Q : Bool → Shared → Prop} (hk : IsTupleKey (ik prog w) s.heap ks a) (h : Q true s) : wpAny (model prog w) A (eqIsQuiet (n + 1) (.ref a)) Q E s := by
  have hT := hk.typeIs
  obtain ⟨o, items, m, ho, _, hd, hi⟩ := hk
  unfold eqIsQuiet
  refine wpAny_bind (wpAny_specialOf hT F.slot_tuple_eq.lookup ?_)
  show wpAny _ _ (isInstance (.ref a) (.type "tuple") >>= _) _ _ s
  refine wpAny_bind (wpAny_isInstance hT isSubtype_tuple_tuple ?_)
  simp only [Bool.not_true, Bool.false_eq_true, if_false]
  refine wpAny_bind (wpAny_seqItems ho hd ?_)
  refine wpAny_bind ?_
  show wpAny _ _ (forIn items _ _) _ _ s
  rw [← Array.forIn_toList]
  refine wpAny_forIn_list _ (fun rest r s' => r.1 = none ∧ s' = s ∧ ∀ v ∈ rest, carriedByValue v = true) _ ?_ ?_ _ _ ⟨rfl, rfl, hi.byValue⟩
  · rintro v rest r s' ⟨hr, rfl, hall⟩
    rw [eqIsQuiet_byValue _ (hall v List.mem_cons_self)]
    refine wpAny_bind (wpAny_pure ?_)
    simp only [Bool.not_true, Bool.false_eq_true, if_false]
    exact wpAny_pure ⟨rfl, rfl, fun u hu' => hall u (List.mem_cons_of_mem _ hu')⟩
  · rintro ⟨r1, r2⟩ s' ⟨hr, rfl, _⟩
    simp only at hr
    subst hr
    exact wpAny_pure h
theorem item_quiet (n : Nat) {k : IK} {v : Value} {Q : Bool → Shared → Prop} (hk : isItem prog w s.heap k v) (h : Q true s) : wpAny (model prog w) A (eqIsQuiet (n + 1) v) Q E s := by
  cases k with
  | inl i =>
    rw [eqIsQuiet_byValue _ ((ik prog w).byValue i v hk)]
    exact wpAny_pure h
  | inr ps =>
    obtain ⟨b, rfl, q⟩ := hk
    exact quiet_tup n q h
theorem quiet_nest {ks : List IK} {a : Addr} {Q : Bool → Shared → Prop} (hk : IsNest prog w s.heap ks a) (h : Q true s) : wpAny (model prog w) A (eqIsQuiet 8 (.ref a)) Q E s := by
  have hT := hk.typeIs
  obtain ⟨o, items, m, ho, _, hd, hi⟩ := hk
  unfold eqIsQuiet
  refine wpAny_bind (wpAny_specialOf hT F.slot_tuple_eq.lookup ?_)
  show wpAny _ _ (isInstance (.ref a) (.type "tuple") >>= _) _ _ s
  refine wpAny_bind (wpAny_isInstance hT isSubtype_tuple_tuple ?_)
  simp only [Bool.not_true, Bool.false_eq_true, if_false]
  refine wpAny_bind (wpAny_seqItems ho hd ?_)
  refine wpAny_bind ?_
  show wpAny _ _ (forIn items _ _) _ _ s
  rw [← Array.forIn_toList]
  refine wpAny_forIn_list _ (fun rest r s' => r.1 = none ∧ s' = s ∧ ∃ left, ItemsN prog w s.heap left rest) _ ?_ ?_ _ _ ⟨rfl, rfl, ks, hi⟩
  · rintro v rest r s' ⟨hr, rfl, left, hl⟩
    cases hl with
    | cons h1 h2 =>
      refine wpAny_bind (item_quiet 6 h1 ?_)
      simp only [Bool.not_true, Bool.false_eq_true, if_false]
      exact wpAny_pure ⟨rfl, rfl, _, h2⟩
  · rintro ⟨r1, r2⟩ s' ⟨hr, rfl, _⟩
    simp only at hr
    subst hr
    exact wpAny_pure h
end
/-- the key of a step: two ints and a tuple of ints -/
abbrev NK := Int × Int × List Int
def nk (k : NK) : List IK := [.inl k.1, .inl k.2.1, .inr k.2.2]
theorem nk_inj {x y : NK} (h : nk x = nk y) : x = y := by
  obtain ⟨a, b, c⟩ := x
  obtain ⟨a', b', c'⟩ := y
  simp only [nk, List.cons.injEq, Sum.inl.injEq, Sum.inr.injEq, and_true] at h
  obtain ⟨rfl, rfl, rfl⟩ := h
  rfl
theorem nk_alike (x y : NK) : Paired alike (nk x) (nk y) := .cons trivial (.cons trivial (.cons trivial .nil))
def nestKind (prog : Program) (w : World) : HeapKind prog w NK where
  is := fun h k a => IsNest prog w h (nk k) a
  hash := fun k => nestHash prog w (nk k)
  draws := fun k => dItems (nk k) + 1
  room := fun A => A.units + 1 < cLine
  inj := fun hx hy => nk_inj (hx.inj hy)
  keeps := fun x ho hd hs => x.keeps ho hd hs
  pyHash := fun hu hk h => pyHash_nest hu hk h
  eqBool := fun {A E s x y a b Q} hu hx hy h => by
    refine eqBool_nest hu (nk_alike x y) hx hy ?_
    have e : decide (nk x = nk y) = decide (x = y) := by
      by_cases c : x = y
      · rw [c, decide_eq_true rfl, decide_eq_true rfl]
      · rw [decide_eq_false c, decide_eq_false fun z => c (nk_inj z)]
    rw [e]
    exact h
  quiet := fun hk h => quiet_nest hk h
end Nq
/-! The dict of the steps' numbers, tracked; its rules. -/
namespace Nq
open PySem PySem.Spec PyProof.Rows L2

/-- an entry: the key, where its tuple stands, the number -/
abbrev NE := NK × Addr × Nat
def nphi (P : Program) (w : World) (a : Addr) (xs : List NE) : Heap → Prop := fun h => (a == sysModules) = false ∧ xs.length ≤ sizeLine ∧ (xs.map (·.1)).Nodup ∧
  ∃ o es ep vs, h.get? a = some o ∧ o.ExactDict ∧ o.data = .dict es ep ∧ es.toList = vs.map (entryOfKey (nestKind P w)) ∧ Paired (fun (x : NE) (v : NK × Addr × Value) => x.1 = v.1 ∧ x.2.1 = v.2.1 ∧ RelV (.int (x.2.2 : Int)) v.2.2) xs vs
def NO (P : Program) (w : World) (a : Addr) (xs : List NE) : HO := .ext (nphi P w a xs)
/-- where a key's tuples stand -/
def KeyAt (H : Hp) (k : NK) (b : Addr) : Prop := ∃ c, H b = some (.tup [.int k.1, .int k.2.1, .ref c]) ∧ H c = some (.tup (k.2.2.map V.int))
def KeysAt (H : Hp) (xs : List NE) : Prop := ∀ x ∈ xs, KeyAt H x.1 x.2.1
def nAt (xs : List NE) (k : NK) : Option Nat := (xs.find? fun x => decide (x.1 = k)).map (·.2.2)
section
variable {P : Program} {w : World} {H H' : Hp} {h h' : Heap} {a b : Addr} {xs : List NE} {k : NK}
theorem NO_ok (p : nphi P w a xs h) : ObjOk P w H h a (NO P w a xs) := by
  refine ⟨p, ?_, fun h1 h2 q st => ?_⟩
  · obtain ⟨_, _, _, o, es, ep, vs, e, _⟩ := p
    exact ⟨o, e⟩
  · obtain ⟨z, l, n, o, es, ep, vs, e, r⟩ := q
    exact ⟨z, l, n, o, es, ep, vs, st o e, r⟩
theorem NO_at (ok : HOk P w H h) (e : H a = some (NO P w a xs)) : nphi P w a xs h := (show ObjOk P w H h a (NO P w a xs) from ok a _ e).1
theorem ints_are : ∀ {ns : List Int} {us : List Value}, Vals (ns.map V.int) us → ItemsAre (ik P w) ns us
  | [], _, r => by rw [List.map_nil] at r; cases r; exact .nil
  | n :: ns, _, r => by
    rw [List.map_cons] at r
    cases r with
    | cons h t =>
      obtain ⟨t', e⟩ := (show ∃ t, _ = Value.int n t from h)
      subst e
      exact .cons (by show Value.isInt n (Value.int n t') = true; simp [Value.isInt]) (ints_are t)
theorem key_is (ok : HOk P w H h) (e : KeyAt H k b) : (nestKind P w).is h k b := by
  obtain ⟨c, e1, e2⟩ := e
  obtain ⟨_, its, r, o, h1, h2, n, h3⟩ := (show ObjOk P w H h b (.tup [.int k.1, .int k.2.1, .ref c]) from ok b _ e1)
  obtain ⟨_, its', r', o', h1', h2', n', h3'⟩ := (show ObjOk P w H h c (.tup (k.2.2.map V.int)) from ok c _ e2)
  refine ⟨o, its.toArray, n, h1, h2, h3, ?_⟩
  rw [show its.toArray.toList = its by simp]
  match its, r with
  | [u1, u2, u3], .cons r1 (.cons r2 (.cons r3 .nil)) =>
    obtain ⟨t1, rfl⟩ := (show ∃ t, u1 = Value.int k.1 t from r1)
    obtain ⟨t2, rfl⟩ := (show ∃ t, u2 = Value.int k.2.1 t from r2)
    obtain rfl : u3 = Value.ref c := r3
    refine .cons (by show Value.isInt k.1 (Value.int k.1 t1) = true; simp [Value.isInt]) (.cons (by show Value.isInt k.2.1 (Value.int k.2.1 t2) = true; simp [Value.isInt]) (.cons ⟨c, rfl, o', its'.toArray, n', h1', h2', h3', ?_⟩ .nil))
    simpa using ints_are r'
theorem dict_of (ok : HOk P w H h) (e : H a = some (NO P w a xs)) (ks : KeysAt H xs) : (a == sysModules) = false ∧ ∃ vs, h.DictOfH (nestKind P w) a vs ∧ Paired (fun (x : NE) (v : NK × Addr × Value) => x.1 = v.1 ∧ x.2.1 = v.2.1 ∧ RelV (.int (x.2.2 : Int)) v.2.2) xs vs := by
  obtain ⟨z, l, n, o, es, ep, vs, e1, e2, e3, e4, e5⟩ := NO_at ok e
  have keys : ∀ {xs : List NE} {vs : List (NK × Addr × Value)}, Paired (fun (x : NE) (v : NK × Addr × Value) => x.1 = v.1 ∧ x.2.1 = v.2.1 ∧ RelV (.int (x.2.2 : Int)) v.2.2) xs vs → KeysAt H xs →
      (∀ v ∈ vs, (nestKind P w).is h v.1 v.2.1) ∧ vs.map (·.1) = xs.map (·.1) := by
    intro xs vs r
    induction r with
    | nil => intro _; exact ⟨fun v hv => (nomatch hv), rfl⟩
    | @cons x v xs vs hx t ih =>
      intro ks
      obtain ⟨i1, i2⟩ := ih fun y hy => ks y (List.mem_cons_of_mem _ hy)
      refine ⟨fun u hu => ?_, ?_⟩
      · rcases List.mem_cons.mp hu with e | hu
        · subst e
          rw [← hx.1, ← hx.2.1]
          exact key_is ok (ks x List.mem_cons_self)
        · exact i1 u hu
      · rw [List.map_cons, List.map_cons, i2, hx.1]
  obtain ⟨k1, k2⟩ := keys e5 ks
  exact ⟨z, vs, ⟨o, es, ep, e1, e2, e3, e4, k1, by rw [k2]; exact n⟩, e5⟩
theorem nAt_rel {xs : List NE} {vs : List (NK × Addr × Value)} (r : Paired (fun (x : NE) (v : NK × Addr × Value) => x.1 = v.1 ∧ x.2.1 = v.2.1 ∧ RelV (.int (x.2.2 : Int)) v.2.2) xs vs) (k : NK) :
    RelO ((nAt xs k).map fun (n : Nat) => V.int (n : Int)) ((atKey vs k).map (·.2)) := by
  induction r with
  | nil => exact True.intro
  | @cons x v xs vs hx t ih =>
    by_cases e : x.1 = k
    · have e' : v.1 = k := hx.1.symm.trans e
      have b : atKey (v :: vs) k = some v.2 := by simp [atKey, List.find?_cons, e']
      have c : nAt (x :: xs) k = some x.2.2 := by simp [nAt, List.find?_cons, e]
      rw [b, c]
      exact hx.2.2
    · have e' : ¬ v.1 = k := fun z => e (hx.1.trans z)
      have b : atKey (v :: vs) k = atKey vs k := by simp [atKey, List.find?_cons, e']
      have c : nAt (x :: xs) k = nAt xs k := by simp [nAt, List.find?_cons, e]
      rw [b, c]
      exact ih
theorem nAt_none {xs : List NE} {k : NK} (h : nAt xs k = none) : k ∉ xs.map (·.1) := fun hm => by
  obtain ⟨x, hx, e⟩ := List.mem_map.mp hm
  unfold nAt at h
  rw [Option.map_eq_none_iff, List.find?_eq_none] at h
  exact h x hx (decide_eq_true e)
end

section
variable {X : Cx} {o i e value : Expr} {pos pos' tpos : Pos} {td ty tv : TE}
/-- the key is there or not -/
def tNIn (P : Program) (w : World) (ty td : TE) : TE := fun σ H Q => ty σ H fun y H1 => td σ H1 fun x H2 => ∃ (a b : Addr) (xs : List NE) (k : NK), x = .ref a ∧ y = .ref b ∧ H2 a = some (NO P w a xs) ∧ KeysAt H2 xs ∧ KeyAt H2 k b ∧ Q (.bl (nAt xs k).isSome) H2
def tNGet (P : Program) (w : World) (td ty : TE) : TE := fun σ H Q => td σ H fun x H1 => ty σ H1 fun y H2 => ∃ (a b : Addr) (xs : List NE) (k : NK) (n : Nat), x = .ref a ∧ y = .ref b ∧ H2 a = some (NO P w a xs) ∧ KeysAt H2 xs ∧ KeyAt H2 k b ∧ nAt xs k = some n ∧ Q (.int (n : Int)) H2
/-- a new key -/
def sNPut (P : Program) (w : World) (td ty tv : TE) : TS := fun D σ H => tv σ H fun v H1 => td σ H1 fun x H2 => ty σ H2 fun y H3 => ∃ (a b : Addr) (xs : List NE) (k : NK) (n : Nat), v = .int (n : Int) ∧ x = .ref a ∧ y = .ref b ∧ H3 a = some (NO P w a xs) ∧ KeysAt H3 xs ∧ KeyAt H3 k b ∧
  nAt xs k = none ∧ xs.length < sizeLine ∧ D.nx σ (upd H3 a (NO P w a (xs ++ [(k, b, n)])))
def tNNew (P : Program) (w : World) : TE := fun _ H Q => ∀ p, H p = none → Q (.ref p) (upd H p (NO P w p []))
theorem room2 {A : Around} {P : Program} {w : World} (hu : A.units + 64 < cLine) : (nestKind P w).room A.in1 := by
  show A.units + 1 + 1 < cLine
  omega
theorem pc_nin (hu : X.A.units + 64 < cLine) (hi : PE X i ty) (ho : PE X o td) : PC X .In i o (tNIn X.prog X.w ty td) := by
  refine ⟨fun pins s σ H Q I h => ?_⟩
  refine thn (hi.run pins s σ H _ I h) fun iv s1 ⟨y, H1, I1, ry, q1⟩ => thn (ho.run pins s1 σ H1 _ I1 q1) fun u s2 ⟨x, H2, I2, rx, a, b, xs, k, ex, ey, ha, ks, kb, q2⟩ => ?_
  subst ex ey
  obtain rfl : u = Value.ref a := rx
  obtain rfl : iv = Value.ref b := ry
  obtain ⟨hd, vs, dd, rel⟩ := dict_of I2.hok ha ks
  refine wpAny_in_heap (room2 hu) (key_is I2.hok kb) hd dd ?_
  have q := (nAt_rel rel k).isSome_eq
  rw [Option.isSome_map, Option.isSome_map] at q
  rw [← q]
  exact ⟨.bl (nAt xs k).isSome, H2, I2.tok _, rfl, q2⟩
theorem pe_nget (hu : X.A.units + 64 < cLine) (ho : PE X o td) (hi : PE X i ty) (hs : NoSl i) : PE X (.Subscript o i pos) (tNGet X.prog X.w td ty) := by
  refine ⟨fun pins s σ H Q I h => ?_⟩
  refine subD_of PySem.F.slot_dict_getitem.lookup hs (thn (ho.run pins s σ H _ I h) fun u s1 ⟨x, H1, I1, rx, q1⟩ => thn (hi.run pins s1 σ H1 _ I1 q1) fun iv s2 ⟨y, H2, I2, ry, a, b, xs, k, n, ex, ey, ha, ks, kb, hn, q2⟩ => ?_)
  subst ex ey
  obtain rfl : u = Value.ref a := rx
  obtain rfl : iv = Value.ref b := ry
  obtain ⟨hd, vs, dd, rel⟩ := dict_of I2.hok ha ks
  have r := nAt_rel rel k
  rw [hn, Option.map_some] at r
  obtain ⟨w', hw, rw'⟩ := RelO.some_of (v := V.int (n : Int)) (o := (atKey vs k).map (·.2)) r
  obtain ⟨p, hp, hp2⟩ := Option.map_eq_some_iff.mp hw
  refine ⟨dd.typeIs, wpAny_getItem_heap (room2 hu) (key_is I2.hok kb) dd hp ?_⟩
  rw [hp2]
  exact ⟨.int (n : Int), H2, I2.tok _, rw', q2⟩
theorem ps_nput (hu : X.A.units + 64 < cLine) (ho : PE X o td) (hi : PE X i ty) (hv : PE X value tv) (hs : swapsWith value (some (.Subscript o i pos')) pos.line X.env = pure false) :
    PS X (.Assign [.Subscript o i pos'] value pos) (sNPut X.prog X.w td ty tv) := by
  refine ⟨fun pins s σ H D I h => ?_⟩
  refine wpAny_Assign_Subscript (thn (hv.run pins s σ H _ I h) fun r s1 ⟨v, H1, I1, rv, q1⟩ => thn (ho.run pins s1 σ H1 _ I1 q1) fun u s2 ⟨x, H2, I2, rx, q2⟩ => thn (hi.run pins s2 σ H2 _ I2 q2) fun iv s3 ⟨y, H3, I3, ry, a, b, xs, k, n, ev, ex, ey, ha, ks, kb, hn, hl, q3⟩ => ?_) hs
  subst ev ex ey
  obtain rfl : u = Value.ref a := rx
  obtain rfl : iv = Value.ref b := ry
  obtain ⟨hd, vs, dd, rel⟩ := dict_of I3.hok ha ks
  have len : xs.length = vs.length := Paired.length rel
  have hz : vs.length ≤ sizeLine := by omega
  have r0 := nAt_rel rel k
  rw [hn] at r0
  have hk : atKey vs k = none := by
    have := RelO.none_of r0
    exact Option.map_eq_none_iff.mp this
  refine wpAny_setItem_heap (hsz := hz) (room2 hu) (key_is I3.hok kb) dd fun h' dd' hs' => ?_
  obtain ⟨q, es, ep, hq, h2, h3, h4, h5, h6⟩ := dd'
  have nd := (NO_at I3.hok ha).2.2.1
  have ph : nphi X.prog X.w a (xs ++ [(k, b, n)]) h' := by
    refine ⟨hd, by rw [List.length_append]; exact hl, ?_, q, es, ep, storedH vs k b r, hq, h2, h3, h4, ?_⟩
    · rw [List.map_append, List.nodup_append]
      refine ⟨nd, List.nodup_cons.mpr ⟨List.not_mem_nil, List.nodup_nil⟩, fun x hx y hy => ?_⟩
      have : y = k := by simpa using hy
      subst this
      exact fun z => nAt_none hn (z ▸ hx)
    · rw [storedH_new hk]
      exact Paired.snoc rel ⟨rfl, rfl, rv⟩
  refine ⟨σ, _, d_write (ob := NO X.prog X.w a (xs ++ [(k, b, n)])) (t' := s3.toks + (nestKind X.prog X.w).draws k) I3 (by rw [ha]; exact True.intro) hs' ⟨q, hq⟩ (NO_ok ph), q3⟩
theorem pe_nnew : PE X (.Dict [] [] pos) (tNNew X.prog X.w) := ⟨fun pins s σ H Q I h => by
  have hb := I.big
  have ph : nphi X.prog X.w s.heap.objs.size [] (s.heap.push { cls := .type "dict", data := .dict #[] }) :=
    ⟨beq_eq_false_iff_ne.mpr (Ne.symm (Nat.ne_of_lt hb)), Nat.zero_le _, List.nodup_nil, _, #[], 0, [], Heap.get?_push_size _ rfl, ⟨rfl, rfl, rfl⟩, rfl, rfl, .nil⟩
  exact wpAny_Dict_empty ⟨.ref s.heap.objs.size, _, I.laid (a := s.heap.objs.size) (o := NO X.prog X.w s.heap.objs.size []) (t' := s.toks) (fun _ _ q => Heap.get?_push_of_some _ q) (Nat.le_refl _) (NO_ok ph), rfl, h _ (I.hok.fresh (Nat.le_refl _))⟩⟩
theorem call_lenN : CallR X (.builtin "len") (fun vs H Q => ∃ (a : Addr) (xs : List NE), vs = [.ref a] ∧ H a = some (NO X.prog X.w a xs) ∧ KeysAt H xs ∧ Q (.int ((xs.length : Nat) : Int)) H) := by
  intro pins s σ H vs us Q I r h
  obtain ⟨a, xs, rfl, ha, ks, q⟩ := h
  obtain ⟨u, rfl, rx⟩ := vals1 r
  obtain rfl : u = .ref a := rx
  obtain ⟨hd, ws, dd, rel⟩ := dict_of I.hok ha ks
  have len : xs.length = ws.length := Paired.length rel
  have hz := (NO_at I.hok ha).2.1
  refine call_len_dictH hd dd (by rw [← len]; rw [sizeLine_eq] at hz; omega) ?_
  rw [← len]
  exact ⟨.int ((xs.length : Nat) : Int), H, I.tok _, ⟨_, rfl⟩, q⟩
end
end Nq
/-! What the walk leans on: the text by places, the globals, calls in short. -/
namespace Wk
open PySem PySem.Spec PyProof.Rows L2 Nq

def top (i : Nat) : Stmt := PySem.Challenge.pw_lanesums_s01_answers.main.body.getD i (.Pass ⟨0, 0, 0, 0⟩)

/-! ### calls in short -/
section
variable (P : Program) (w : World) (K : PySem.W.Frag) (mg : Str → Option Value) (base : Heap)
/-- a def of the module keeps its promise -/
structure FnG (x : Str) (k : Nat) (ps : List Str) (sp : Sp) : Prop where
  ex : ∃ (f : Addr) (fd : FuncData), FnOk P w K mg base CX0 k f fd ps sp ∧ mg x = some (.ref f) ∧ PySem.W.keepIn K (.ref f) = true ∧ Binds K fd ps []
/-- a method -/
structure MtG (C : Addr) (m : Str) (k : Nat) (ps : List Str) (sp : Sp) : Prop where
  cl : Cls K C
  ex : ∃ (f : Addr) (fd : FuncData), FnOk P w K mg base CX0 k f fd ps sp ∧ Meth K C m f ∧ Binds K fd ps []
/-- a class that is made -/
structure MkG (C : Addr) (x : Str) (k : Nat) (ps : List Str) (sp : Sp) : Prop where
  ex : ∃ (f : Addr) (fd : FuncData), FnOk P w K mg base CX0 k f fd ps sp ∧ Mk K C f ∧ mg x = some (.ref C) ∧ Binds K fd ps []
end
section
variable {X : Cx} {k : Nat} {C : Addr} {ps : List Str} {sp : Sp} {x m : Str} {p pos apos : Pos} {e o : Expr} {es : List Expr} {ta : TE} {t : TA}
theorem pe_fn (F : FnG X.prog X.w X.K X.mg X.base x k ps sp) (hr : Room k X.A) (hg : Gl X x) (ha : PA X (e :: es) t) (hdb : (x == ("__debug__" : Str)) = false := by decide)
    (he : starEach (e :: es) X.env = (false, eval e X.env) :: starEach es X.env := by rfl) (hpl : (backTo pos (starEach es X.env)).any (·.1) = false := by rfl) :
    PE X (.Call (.Name x p) (e :: es) [] pos) (tCall sp [] E0 t) := by
  obtain ⟨f, fd, G, hm, kp, b⟩ := F.ex
  exact pe_call G hr hg hm kp b .nil pass0 ha hdb he hpl
theorem pe_mt {pl : Sem Bool} (F : MtG X.prog X.w X.K X.mg X.base C m k ps sp) (hr : Room k X.A) (ho : PE X o ta) (ha : PA X (e :: es) t)
    (hst : starEach (e :: es) X.env = (false, eval e X.env) :: starEach es X.env := by rfl) (hpl : (backTo pos (starEach es X.env)).any (·.1) = false := by rfl)
    (ht : eval (.Call (.Attribute o m apos) (e :: es) [] pos) X.env = (do
      let ov ← eval o X.env
      standAt apos.atName
      let (f, first) ← holding [ov] (getMethod ov m pl)
      callWith pos f first (backTo pos (starEach (e :: es) X.env)) (backToKw pos (keywordEach [] X.env))) := by rfl) :
    PE X (.Call (.Attribute o m apos) (e :: es) [] pos) (tMeth C m sp [] E0 ta t) := by
  obtain ⟨f, fd, G, hm, b⟩ := F.ex
  exact pe_meth ho F.cl hm G hr b .nil pass0 ha hst hpl ht
theorem pe_mt0 {pl : Sem Bool} (F : MtG X.prog X.w X.K X.mg X.base C m k ps sp) (hr : Room k X.A) (ho : PE X o ta)
    (ht : eval (.Call (.Attribute o m apos) [] [] pos) X.env = (do
      let ov ← eval o X.env
      standAt apos.atName
      let (f, first) ← holding [ov] (getMethod ov m pl)
      callWith pos f first (backTo pos (starEach [] X.env)) (backToKw pos (keywordEach [] X.env))) := by rfl) :
    PE X (.Call (.Attribute o m apos) [] [] pos) (tMeth C m sp [] E0 ta tNil) := by
  obtain ⟨f, fd, G, hm, b⟩ := F.ex
  exact pe_meth0 ho F.cl hm G hr b .nil pass0 ht
theorem pe_mk (F : MkG X.prog X.w X.K X.mg X.base C x k ps sp) (hr : Room (k + 1) X.A) (hg : Gl X x) (ha : PA X (e :: es) t) (hdb : (x == ("__debug__" : Str)) = false := by decide)
    (he : starEach (e :: es) X.env = (false, eval e X.env) :: starEach es X.env := by rfl) (hpl : (backTo pos (starEach es X.env)).any (·.1) = false := by rfl) :
    PE X (.Call (.Name x p) (e :: es) [] pos) (tMake C sp [] E0 t) := by
  obtain ⟨f, fd, G, M, hm, b⟩ := F.ex
  exact pe_make M G hr hg hm b .nil pass0 ha hdb he hpl
theorem pe_mk0 (F : MkG X.prog X.w X.K X.mg X.base C x k ps sp) (hr : Room (k + 1) X.A) (hg : Gl X x) (hdb : (x == ("__debug__" : Str)) = false := by decide) :
    PE X (.Call (.Name x p) [] [] pos) (tMake C sp [] E0 tNil) := by
  obtain ⟨f, fd, G, M, hm, b⟩ := F.ex
  exact pe_make0 M G hr hg hm b .nil pass0 hdb
/-- a global int -/
theorem pe_gi {n : Int} (h : ∃ t, X.mg x = some (.int n t)) (hg : Gl X x) (hd : (x == ("__debug__" : Str)) = false := by decide) : PE X (.Name x p) (tC (.int n)) := by
  obtain ⟨t, h⟩ := h
  exact pe_glob hg h ⟨t, rfl⟩ hd
/-- a global object -/
theorem pe_gr {a : Addr} (h : X.mg x = some (.ref a)) (hg : Gl X x) (hd : (x == ("__debug__" : Str)) = false := by decide) : PE X (.Name x p) (tC (.ref a)) := pe_glob hg h rfl hd
/-- xs[i] by values, for xs[i] op= e -/
def gL (K : PySem.W.Frag) : V → V → Hp → VK → Prop := fun o i H Q => ∃ (a : Addr) (xs : List V) (j : Nat) (v : V), o = .ref a ∧ i = .int (j : Int) ∧ SqL K H a xs ∧ xs[j]? = some v ∧ Q v H
theorem get_list : PGet X (gL X.K) := by
  intro pins s σ H o i ov iv Q I ro ri h
  obtain ⟨a, xs, j, v, rfl, rfl, hq, hv, q⟩ := h
  obtain rfl : ov = .ref a := ro
  obtain ⟨t, rfl⟩ := (show ∃ t, iv = Value.int (j : Int) t from ri)
  obtain ⟨its, r, pl, hz⟩ := I.list hq
  obtain ⟨u, eu, ru⟩ := r.get hv
  have hj : j < xs.length := (List.getElem?_eq_some_iff.mp hv).1
  have hn := line63
  exact wpAny_getItem_list pl.isList (by omega) (by omega) (by simpa using eu) ⟨v, H, I, ru, q⟩
end

/-! ### the globals -/
/-- the four classes, the four tables -/
structure Adr where
  L : Addr
  S : Addr
  T : Addr
  D : Addr
  free : Addr
  alone : Addr
  counts : Addr
  rows : Addr
def gi (mg : Str → Option Value) (x : Str) (n : Int) : Prop := ∃ t, mg x = some (.int n t)
/-- a tuple of the written part -/
def WT (K : PySem.W.Frag) (a : Addr) (ns : List Int) : Prop := ∀ H, SqT K H a (ns.map V.int)
structure Txt (K : PySem.W.Frag) (mg : Str → Option Value) (A : Adr) : Prop where
  column : gi mg "COLUMN" 0
  value : gi mg "VALUE" 1
  given : gi mg "GIVEN" 2
  operation : gi mg "OPERATION" 3
  cast : gi mg "CAST" 4
  choice : gi mg "CHOICE" 5
  nothing : gi mg "NOTHING" 0
  untrue : gi mg "UNTRUE" 1
  true_ : gi mg "TRUE" 2
  and_ : gi mg "AND" 2
  or_ : gi mg "OR" 3
  is_nothing : gi mg "IS_NOTHING" 4
  is_true : gi mg "IS_TRUE" 5
  first : gi mg "FIRST" 31
  is_ : gi mg "IS" 0
  asks : gi mg "ASKS" 1
  elsewhere : gi mg "ELSEWHERE" 2
  givens : gi mg "GIVENS" 64
  all_rows : gi mg "ALL_ROWS" 1024
  missing : gi mg "MISSING" (-1)
  full : gi mg "FULL" (-2)
  odd : gi mg "ODD" (-3)
  not_yet : gi mg "NOT_YET" (-4)
  nothing_needed : gi mg "NOTHING_NEEDED" (-5)
  columns : gi mg "COLUMNS" 64
  operations : gi mg "OPERATIONS" 256
  casts : gi mg "CASTS" 65536
  most_steps : gi mg "MOST_STEPS" 4096
  most_parts : gi mg "MOST_PARTS" 16
  most_choice : gi mg "MOST_CHOICE" 129
  most_rows : gi mg "MOST_ROWS" 1024
  most_chosen : gi mg "MOST_CHOSEN" 64
  gFree : mg "FREE" = some (.ref A.free)
  gAlone : mg "ALONE" = some (.ref A.alone)
  gCounts : mg "COUNTS" = some (.ref A.counts)
  gRows : mg "ROWS" = some (.ref A.rows)
  tFree : WT K A.free [14, 29, 30, 32]
  tAlone : WT K A.alone [1, 4, 5]
  tCounts : WT K A.counts [0, 0, 1, 1, 1, 1, 2, 0, 0, 1, 1, 2, 1, 1, 0, 0, 0, 0, 2, 1]
  tRows : WT K A.rows [0, 0, 0, 0, 0, 1, 0, 1, 0, 0, 0, 0, 0, 1, 2, 0, 1, 0, 0, 0]
  cL : Cls K A.L
  cS : Cls K A.S
  cT : Cls K A.T
  cD : Cls K A.D
  nL : ∀ f ∈ (["steps", "givens", "known"] : List Str), NoAttr K A.L f
  nS : ∀ f ∈ (["kind", "number", "parts", "columns"] : List Str), NoAttr K A.S f
  nT : ∀ f ∈ (["rows", "steps", "is_choice"] : List Str), NoAttr K A.T f
  nD : ∀ f ∈ (["lanes", "numbers", "many", "task", "given"] : List Str), NoAttr K A.D f
  b_all : mg "all" = none
  b_len : mg "len" = none
  b_min : mg "min" = none
  b_list : mg "list" = none
  b_tuple : mg "tuple" = none
  b_range : mg "range" = none
  b_enumerate : mg "enumerate" = none
  b_zip : mg "zip" = none
end Wk
/-! The attributes of the four classes. -/
namespace Wk
open PySem PySem.Spec PyProof.Rows L2 Nq
theorem lkh {k : Str} {v : V} {r : List (Str × V)} : List.lookup k ((k, v) :: r) = some v := by simp [List.lookup]
theorem lkp {k g : Str} {v : V} {r : List (Str × V)} (h : (k == g) = false) : List.lookup k ((g, v) :: r) = List.lookup k r := by simp only [List.lookup, h]
theorem pth {f : Str} {v x : V} {r : List (Str × V)} : putF f v ((f, x) :: r) = (f, v) :: r := if_pos rfl
theorem ptp {f g : Str} {v x : V} {r : List (Str × V)} (h : ¬ g = f) : putF f v ((g, x) :: r) = (g, x) :: putF f v r := if_neg h
def fS (x0 x1 x2 x3 : V) : List (Str × V) := [("kind", x0), ("number", x1), ("parts", x2), ("columns", x3)]
section
variable {x0 x1 x2 x3 y : V}
theorem fS_kind : (fS x0 x1 x2 x3).lookup ("kind" : Str) = some x0 := lkh
theorem fS_put_kind : putF "kind" y (fS x0 x1 x2 x3) = fS y x1 x2 x3 := pth
theorem fS_number : (fS x0 x1 x2 x3).lookup ("number" : Str) = some x1 := (lkp (by decide +kernel)).trans (lkh)
theorem fS_put_number : putF "number" y (fS x0 x1 x2 x3) = fS x0 y x2 x3 := (ptp (by decide +kernel)).trans (congrArg _ (pth))
theorem fS_parts : (fS x0 x1 x2 x3).lookup ("parts" : Str) = some x2 := (lkp (by decide +kernel)).trans ((lkp (by decide +kernel)).trans (lkh))
theorem fS_put_parts : putF "parts" y (fS x0 x1 x2 x3) = fS x0 x1 y x3 := (ptp (by decide +kernel)).trans (congrArg _ ((ptp (by decide +kernel)).trans (congrArg _ (pth))))
theorem fS_columns : (fS x0 x1 x2 x3).lookup ("columns" : Str) = some x3 := (lkp (by decide +kernel)).trans ((lkp (by decide +kernel)).trans ((lkp (by decide +kernel)).trans (lkh)))
theorem fS_put_columns : putF "columns" y (fS x0 x1 x2 x3) = fS x0 x1 x2 y := (ptp (by decide +kernel)).trans (congrArg _ ((ptp (by decide +kernel)).trans (congrArg _ ((ptp (by decide +kernel)).trans (congrArg _ (pth))))))
theorem fS_new : putF "columns" x3 (putF "parts" x2 (putF "number" x1 (putF "kind" x0 ([])))) = fS x0 x1 x2 x3 := by
  show putF "columns" x3 (putF "parts" x2 (putF "number" x1 (putF "kind" x0 ([])))) = _
  have e1 : putF "number" x1 ([("kind", x0)] : List (Str × V)) = ([("kind", x0), ("number", x1)] : List (Str × V)) := (ptp (by decide +kernel)).trans (congrArg _ (rfl))
  have e2 : putF "parts" x2 ([("kind", x0), ("number", x1)] : List (Str × V)) = ([("kind", x0), ("number", x1), ("parts", x2)] : List (Str × V)) := (ptp (by decide +kernel)).trans (congrArg _ ((ptp (by decide +kernel)).trans (congrArg _ (rfl))))
  have e3 : putF "columns" x3 ([("kind", x0), ("number", x1), ("parts", x2)] : List (Str × V)) = ([("kind", x0), ("number", x1), ("parts", x2), ("columns", x3)] : List (Str × V)) := (ptp (by decide +kernel)).trans (congrArg _ ((ptp (by decide +kernel)).trans (congrArg _ ((ptp (by decide +kernel)).trans (congrArg _ (rfl))))))
  have e0 : putF "kind" x0 [] = ([("kind", x0)] : List (Str × V)) := rfl
  rw [e0, e1, e2, e3]
  rfl
theorem fS_no {m : Str} (h : ∀ g ∈ (["kind", "number", "parts", "columns"] : List Str), (m == g) = false) : (fS x0 x1 x2 x3).lookup m = none := (lkp (h _ (by simp))).trans ((lkp (h _ (by simp))).trans ((lkp (h _ (by simp))).trans ((lkp (h _ (by simp))).trans (rfl))))
theorem fS_m_is_still : (fS x0 x1 x2 x3).lookup ("is_still" : Str) = none := fS_no (by decide +kernel)
theorem fS_m_is_free : (fS x0 x1 x2 x3).lookup ("is_free" : Str) = none := fS_no (by decide +kernel)
end
def fL (x0 x1 x2 : V) : List (Str × V) := [("steps", x0), ("givens", x1), ("known", x2)]
section
variable {x0 x1 x2 y : V}
theorem fL_steps : (fL x0 x1 x2).lookup ("steps" : Str) = some x0 := lkh
theorem fL_put_steps : putF "steps" y (fL x0 x1 x2) = fL y x1 x2 := pth
theorem fL_givens : (fL x0 x1 x2).lookup ("givens" : Str) = some x1 := (lkp (by decide +kernel)).trans (lkh)
theorem fL_put_givens : putF "givens" y (fL x0 x1 x2) = fL x0 y x2 := (ptp (by decide +kernel)).trans (congrArg _ (pth))
theorem fL_known : (fL x0 x1 x2).lookup ("known" : Str) = some x2 := (lkp (by decide +kernel)).trans ((lkp (by decide +kernel)).trans (lkh))
theorem fL_put_known : putF "known" y (fL x0 x1 x2) = fL x0 x1 y := (ptp (by decide +kernel)).trans (congrArg _ ((ptp (by decide +kernel)).trans (congrArg _ (pth))))
theorem fL_new : putF "known" x2 (putF "givens" x1 (putF "steps" x0 ([]))) = fL x0 x1 x2 := by
  show putF "known" x2 (putF "givens" x1 (putF "steps" x0 ([]))) = _
  have e1 : putF "givens" x1 ([("steps", x0)] : List (Str × V)) = ([("steps", x0), ("givens", x1)] : List (Str × V)) := (ptp (by decide +kernel)).trans (congrArg _ (rfl))
  have e2 : putF "known" x2 ([("steps", x0), ("givens", x1)] : List (Str × V)) = ([("steps", x0), ("givens", x1), ("known", x2)] : List (Str × V)) := (ptp (by decide +kernel)).trans (congrArg _ ((ptp (by decide +kernel)).trans (congrArg _ (rfl))))
  have e0 : putF "steps" x0 [] = ([("steps", x0)] : List (Str × V)) := rfl
  rw [e0, e1, e2]
  rfl
theorem fL_no {m : Str} (h : ∀ g ∈ (["steps", "givens", "known"] : List Str), (m == g) = false) : (fL x0 x1 x2).lookup m = none := (lkp (h _ (by simp))).trans ((lkp (h _ (by simp))).trans ((lkp (h _ (by simp))).trans (rfl)))
theorem fL_m_added : (fL x0 x1 x2).lookup ("added" : Str) = none := fL_no (by decide +kernel)
theorem fL_m_forget_all : (fL x0 x1 x2).lookup ("forget_all" : Str) = none := fL_no (by decide +kernel)
theorem fL_m_forget_rows : (fL x0 x1 x2).lookup ("forget_rows" : Str) = none := fL_no (by decide +kernel)
theorem fL_m_row_of : (fL x0 x1 x2).lookup ("row_of" : Str) = none := fL_no (by decide +kernel)
theorem fL_m_rows_of : (fL x0 x1 x2).lookup ("rows_of" : Str) = none := fL_no (by decide +kernel)
theorem fL_m_found : (fL x0 x1 x2).lookup ("found" : Str) = none := fL_no (by decide +kernel)
theorem fL_m_keep : (fL x0 x1 x2).lookup ("keep" : Str) = none := fL_no (by decide +kernel)
theorem fL_m_said_of : (fL x0 x1 x2).lookup ("said_of" : Str) = none := fL_no (by decide +kernel)
theorem fL_m_value : (fL x0 x1 x2).lookup ("value" : Str) = none := fL_no (by decide +kernel)
theorem fL_m_unknown_rows : (fL x0 x1 x2).lookup ("unknown_rows" : Str) = none := fL_no (by decide +kernel)
theorem fL_m_stopped_at : (fL x0 x1 x2).lookup ("stopped_at" : Str) = none := fL_no (by decide +kernel)
theorem fL_m_needed : (fL x0 x1 x2).lookup ("needed" : Str) = none := fL_no (by decide +kernel)
theorem fL_m_part_needed : (fL x0 x1 x2).lookup ("part_needed" : Str) = none := fL_no (by decide +kernel)
end
def fT (x0 x1 x2 : V) : List (Str × V) := [("rows", x0), ("steps", x1), ("is_choice", x2)]
section
variable {x0 x1 x2 y : V}
theorem fT_rows : (fT x0 x1 x2).lookup ("rows" : Str) = some x0 := lkh
theorem fT_put_rows : putF "rows" y (fT x0 x1 x2) = fT y x1 x2 := pth
theorem fT_steps : (fT x0 x1 x2).lookup ("steps" : Str) = some x1 := (lkp (by decide +kernel)).trans (lkh)
theorem fT_put_steps : putF "steps" y (fT x0 x1 x2) = fT x0 y x2 := (ptp (by decide +kernel)).trans (congrArg _ (pth))
theorem fT_is_choice : (fT x0 x1 x2).lookup ("is_choice" : Str) = some x2 := (lkp (by decide +kernel)).trans ((lkp (by decide +kernel)).trans (lkh))
theorem fT_put_is_choice : putF "is_choice" y (fT x0 x1 x2) = fT x0 x1 y := (ptp (by decide +kernel)).trans (congrArg _ ((ptp (by decide +kernel)).trans (congrArg _ (pth))))
theorem fT_new : putF "is_choice" x2 (putF "steps" x1 (putF "rows" x0 ([]))) = fT x0 x1 x2 := by
  show putF "is_choice" x2 (putF "steps" x1 (putF "rows" x0 ([]))) = _
  have e1 : putF "steps" x1 ([("rows", x0)] : List (Str × V)) = ([("rows", x0), ("steps", x1)] : List (Str × V)) := (ptp (by decide +kernel)).trans (congrArg _ (rfl))
  have e2 : putF "is_choice" x2 ([("rows", x0), ("steps", x1)] : List (Str × V)) = ([("rows", x0), ("steps", x1), ("is_choice", x2)] : List (Str × V)) := (ptp (by decide +kernel)).trans (congrArg _ ((ptp (by decide +kernel)).trans (congrArg _ (rfl))))
  have e0 : putF "rows" x0 [] = ([("rows", x0)] : List (Str × V)) := rfl
  rw [e0, e1, e2]
  rfl
end
def fD (x0 x1 x2 x3 x4 : V) : List (Str × V) := [("lanes", x0), ("numbers", x1), ("many", x2), ("task", x3), ("given", x4)]
section
variable {x0 x1 x2 x3 x4 y : V}
theorem fD_lanes : (fD x0 x1 x2 x3 x4).lookup ("lanes" : Str) = some x0 := lkh
theorem fD_put_lanes : putF "lanes" y (fD x0 x1 x2 x3 x4) = fD y x1 x2 x3 x4 := pth
theorem fD_numbers : (fD x0 x1 x2 x3 x4).lookup ("numbers" : Str) = some x1 := (lkp (by decide +kernel)).trans (lkh)
theorem fD_put_numbers : putF "numbers" y (fD x0 x1 x2 x3 x4) = fD x0 y x2 x3 x4 := (ptp (by decide +kernel)).trans (congrArg _ (pth))
theorem fD_many : (fD x0 x1 x2 x3 x4).lookup ("many" : Str) = some x2 := (lkp (by decide +kernel)).trans ((lkp (by decide +kernel)).trans (lkh))
theorem fD_put_many : putF "many" y (fD x0 x1 x2 x3 x4) = fD x0 x1 y x3 x4 := (ptp (by decide +kernel)).trans (congrArg _ ((ptp (by decide +kernel)).trans (congrArg _ (pth))))
theorem fD_task : (fD x0 x1 x2 x3 x4).lookup ("task" : Str) = some x3 := (lkp (by decide +kernel)).trans ((lkp (by decide +kernel)).trans ((lkp (by decide +kernel)).trans (lkh)))
theorem fD_put_task : putF "task" y (fD x0 x1 x2 x3 x4) = fD x0 x1 x2 y x4 := (ptp (by decide +kernel)).trans (congrArg _ ((ptp (by decide +kernel)).trans (congrArg _ ((ptp (by decide +kernel)).trans (congrArg _ (pth))))))
theorem fD_given : (fD x0 x1 x2 x3 x4).lookup ("given" : Str) = some x4 := (lkp (by decide +kernel)).trans ((lkp (by decide +kernel)).trans ((lkp (by decide +kernel)).trans ((lkp (by decide +kernel)).trans (lkh))))
theorem fD_put_given : putF "given" y (fD x0 x1 x2 x3 x4) = fD x0 x1 x2 x3 y := (ptp (by decide +kernel)).trans (congrArg _ ((ptp (by decide +kernel)).trans (congrArg _ ((ptp (by decide +kernel)).trans (congrArg _ ((ptp (by decide +kernel)).trans (congrArg _ (pth))))))))
theorem fD_new : putF "given" x4 (putF "task" x3 (putF "many" x2 (putF "numbers" x1 (putF "lanes" x0 ([]))))) = fD x0 x1 x2 x3 x4 := by
  show putF "given" x4 (putF "task" x3 (putF "many" x2 (putF "numbers" x1 (putF "lanes" x0 ([]))))) = _
  have e1 : putF "numbers" x1 ([("lanes", x0)] : List (Str × V)) = ([("lanes", x0), ("numbers", x1)] : List (Str × V)) := (ptp (by decide +kernel)).trans (congrArg _ (rfl))
  have e2 : putF "many" x2 ([("lanes", x0), ("numbers", x1)] : List (Str × V)) = ([("lanes", x0), ("numbers", x1), ("many", x2)] : List (Str × V)) := (ptp (by decide +kernel)).trans (congrArg _ ((ptp (by decide +kernel)).trans (congrArg _ (rfl))))
  have e3 : putF "task" x3 ([("lanes", x0), ("numbers", x1), ("many", x2)] : List (Str × V)) = ([("lanes", x0), ("numbers", x1), ("many", x2), ("task", x3)] : List (Str × V)) := (ptp (by decide +kernel)).trans (congrArg _ ((ptp (by decide +kernel)).trans (congrArg _ ((ptp (by decide +kernel)).trans (congrArg _ (rfl))))))
  have e4 : putF "given" x4 ([("lanes", x0), ("numbers", x1), ("many", x2), ("task", x3)] : List (Str × V)) = ([("lanes", x0), ("numbers", x1), ("many", x2), ("task", x3), ("given", x4)] : List (Str × V)) := (ptp (by decide +kernel)).trans (congrArg _ ((ptp (by decide +kernel)).trans (congrArg _ ((ptp (by decide +kernel)).trans (congrArg _ ((ptp (by decide +kernel)).trans (congrArg _ (rfl))))))))
  have e0 : putF "lanes" x0 [] = ([("lanes", x0)] : List (Str × V)) := rfl
  rw [e0, e1, e2, e3, e4]
  rfl
theorem fD_no {m : Str} (h : ∀ g ∈ (["lanes", "numbers", "many", "task", "given"] : List Str), (m == g) = false) : (fD x0 x1 x2 x3 x4).lookup m = none := (lkp (h _ (by simp))).trans ((lkp (h _ (by simp))).trans ((lkp (h _ (by simp))).trans ((lkp (h _ (by simp))).trans ((lkp (h _ (by simp))).trans (rfl)))))
theorem fD_m_fresh : (fD x0 x1 x2 x3 x4).lookup ("fresh" : Str) = none := fD_no (by decide +kernel)
theorem fD_m_has : (fD x0 x1 x2 x3 x4).lookup ("has" : Str) = none := fD_no (by decide +kernel)
theorem fD_m_have : (fD x0 x1 x2 x3 x4).lookup ("have" : Str) = none := fD_no (by decide +kernel)
theorem fD_m_made : (fD x0 x1 x2 x3 x4).lookup ("made" : Str) = none := fD_no (by decide +kernel)
theorem fD_m_column : (fD x0 x1 x2 x3 x4).lookup ("column" : Str) = none := fD_no (by decide +kernel)
theorem fD_m_value : (fD x0 x1 x2 x3 x4).lookup ("value" : Str) = none := fD_no (by decide +kernel)
theorem fD_m_given_value : (fD x0 x1 x2 x3 x4).lookup ("given_value" : Str) = none := fD_no (by decide +kernel)
theorem fD_m_operation : (fD x0 x1 x2 x3 x4).lookup ("operation" : Str) = none := fD_no (by decide +kernel)
theorem fD_m_cast : (fD x0 x1 x2 x3 x4).lookup ("cast" : Str) = none := fD_no (by decide +kernel)
theorem fD_m_choice : (fD x0 x1 x2 x3 x4).lookup ("choice" : Str) = none := fD_no (by decide +kernel)
theorem fD_m_step : (fD x0 x1 x2 x3 x4).lookup ("step" : Str) = none := fD_no (by decide +kernel)
theorem fD_m_uses : (fD x0 x1 x2 x3 x4).lookup ("uses" : Str) = none := fD_no (by decide +kernel)
theorem fD_m_give_value : (fD x0 x1 x2 x3 x4).lookup ("give_value" : Str) = none := fD_no (by decide +kernel)
theorem fD_m_batch : (fD x0 x1 x2 x3 x4).lookup ("batch" : Str) = none := fD_no (by decide +kernel)
theorem fD_m_are_rows : (fD x0 x1 x2 x3 x4).lookup ("are_rows" : Str) = none := fD_no (by decide +kernel)
theorem fD_m_run : (fD x0 x1 x2 x3 x4).lookup ("run" : Str) = none := fD_no (by decide +kernel)
theorem fD_m_choose : (fD x0 x1 x2 x3 x4).lookup ("choose" : Str) = none := fD_no (by decide +kernel)
theorem fD_m_true_in : (fD x0 x1 x2 x3 x4).lookup ("true_in" : Str) = none := fD_no (by decide +kernel)
theorem fD_m_needed : (fD x0 x1 x2 x3 x4).lookup ("needed" : Str) = none := fD_no (by decide +kernel)
theorem fD_m_need : (fD x0 x1 x2 x3 x4).lookup ("need" : Str) = none := fD_no (by decide +kernel)
theorem fD_m_give : (fD x0 x1 x2 x3 x4).lookup ("give" : Str) = none := fD_no (by decide +kernel)
theorem fD_m_got : (fD x0 x1 x2 x3 x4).lookup ("got" : Str) = none := fD_no (by decide +kernel)
theorem fD_m_known_of : (fD x0 x1 x2 x3 x4).lookup ("known_of" : Str) = none := fD_no (by decide +kernel)
theorem fD_m_work : (fD x0 x1 x2 x3 x4).lookup ("work" : Str) = none := fD_no (by decide +kernel)
end
end Wk
namespace Wk
open PySem PySem.Spec PyProof.Rows L2 Nq
/-! What a step says: steps.py. -/
theorem ift {c : Bool} {A B : Prop} (hc : c = true) (h : A) : if c = true then A else B := by
  rw [if_pos hc]
  exact h
theorem iff' {c : Bool} {A B : Prop} (hc : c = false) (h : B) : if c = true then A else B := by
  rw [hc, if_neg Bool.false_ne_true]
  exact h
def nv (l : List Nat) : List V := l.map fun (n : Nat) => V.int (n : Int)
theorem nv_len (l : List Nat) : (nv l).length = l.length := List.length_map _
theorem nv_get {l : List Nat} {i n : Nat} (h : l[i]? = some n) : (nv l)[i]? = some (.int (n : Int)) := by
  unfold nv
  rw [List.getElem?_map, h]
  rfl
def kindOf : Sf79.Step → Nat
  | .col _ => 0
  | .val _ => 1
  | .given _ => 2
  | .op _ _ => 3
  | .cast _ _ => 4
  | .choice _ => 5
def numOf : Sf79.Step → Nat
  | .col i => i
  | .val v => v
  | .given i => i
  | .op o _ => o
  | .cast c _ => c
  | .choice _ => 0
def stF (t : Sf79.Step) (p : Addr) (m : Nat) : List (Str × V) := fS (.int (kindOf t)) (.int (numOf t)) (.ref p) (.int m)
/-- a step's object -/
structure StepAt (A : Adr) (H : Hp) (s p : Addr) (t : Sf79.Step) (m : Nat) : Prop where
  ob : ∃ dx, H s = some (.ins A.S dx (stF t p m))
  pa : H p = some (.lst (nv t.parts))
/-- a pair -/
def Tup2 (H : Hp) (p : Addr) (a : Nat × Nat) : Prop := H p = some (.tup [.int (a.1 : Int), .int (a.2 : Int)])
theorem Tup2.new {H : Hp} {p : Addr} {a b : Nat} : Tup2 (upd H p (.tup [.int (a : Int), .int (b : Int)])) p (a, b) := upd_same
theorem same_new {H : Hp} {p : Addr} {o : HO} (h : H p = none) : Same H (upd H p o) := fun a u e => by
  rw [upd_ne (ne_of_none e h)]
  exact e
theorem sz {n : Nat} (h : n ≤ 1000000) : n ≤ sizeLine := Nat.le_trans h (by decide)
theorem szl {n : Nat} (h : n ≤ 1000000) : n < sizeLine := Nat.lt_of_le_of_lt h (by decide)

def sp_Step___init__ (P : Program) (w : World) (K : PySem.W.Frag) (A : Adr) : Sp := fun vs H Q _ => ∃ (s dx : Addr) (k n p c : V), vs = [.ref s, k, n, p, c] ∧ H s = some (.ins A.S dx []) ∧ Q .non (upd H s (.ins A.S dx (fS k n p c)))
def sp_Step_is_still (P : Program) (w : World) (K : PySem.W.Frag) (A : Adr) : Sp := fun vs H Q _ => ∃ (s p : Addr) (t : Sf79.Step) (m : Nat), vs = [.ref s] ∧ StepAt A H s p t m ∧ Q (.bl (decide (m = 0))) H
def sp_Step_is_free (P : Program) (w : World) (K : PySem.W.Frag) (A : Adr) : Sp := fun vs H Q _ => ∃ (s p : Addr) (t : Sf79.Step) (m : Nat), vs = [.ref s] ∧ StepAt A H s p t m ∧ Q (.bl (Lw.free t)) H
def sp_of_one (P : Program) (w : World) (K : PySem.W.Frag) (A : Adr) : Sp := fun vs H Q _ => ∃ (o v : Nat), vs = [.int o, .int v] ∧ Q (.int (Lw.ofOne o v : Nat)) H
/-- what a def says that is handed a list of numbers and more -/
def spSaid (f : List Nat → Nat × Nat) (vs : List V) (pre post : List V) : Hp → VK → Prop := fun H Q => ∃ (a : Addr) (l : List Nat), vs = pre ++ .ref a :: post ∧ H a = some (.lst (nv l)) ∧ l.length ≤ 1000 ∧ ∀ p H', Same H H' → Tup2 H' p (f l) → Q (.ref p) H'
def sp_said_by_many (P : Program) (w : World) (K : PySem.W.Frag) (A : Adr) : Sp := fun vs H Q _ => ∃ (many stop alike : Nat), spSaid (fun l => Lw.sMany l many stop alike) vs [] [.int many, .int stop, .int alike] H Q
def sp_said_by_first (P : Program) (w : World) (K : PySem.W.Frag) (A : Adr) : Sp := fun vs H Q _ => ∃ (many : Nat), spSaid (fun l => Lw.sFirst l many) vs [] [.int many] H Q
def sp_said_by_choice (P : Program) (w : World) (K : PySem.W.Frag) (A : Adr) : Sp := fun vs H Q _ => ∃ (many : Nat), spSaid (fun l => Lw.sChoice l many) vs [] [.int many] H Q
def sp_said_elsewhere (P : Program) (w : World) (K : PySem.W.Frag) (A : Adr) : Sp := fun vs H Q _ => ∃ (many : Nat), spSaid (fun l => Lw.sElse l many) vs [] [.int many] H Q
def sp_said_by_operation (P : Program) (w : World) (K : PySem.W.Frag) (A : Adr) : Sp := fun vs H Q _ => ∃ (o many : Nat), spSaid (fun l => Lw.sOp o l many) vs [.int o] [.int many] H Q
def sp_said (P : Program) (w : World) (K : PySem.W.Frag) (A : Adr) : Sp := fun vs H Q _ => ∃ (s q : Addr) (t : Sf79.Step) (m : Nat), StepAt A H s q t m ∧ kindOf t ≠ 2 ∧ spSaid (fun l => Lw.sd t l) vs [.ref s] [] H Q

/-! ### pure readings -/
def Ev (te : TE) (σ : L2.St) (H : Hp) (v : V) : Prop := ∀ Q : VK, Q v H → te σ H Q
def Tst (t : TT) (σ : L2.St) (H : Hp) (a : Prop) : Prop := ∀ R : Bool → Hp → Prop, (∀ c : Bool, (c = true ↔ a) → R c H) → t σ H R
section
variable {K : PySem.W.Frag} {σ : L2.St} {H : Hp} {ta tb tc te to ti : TE} {t u : TT} {v x y : V} {a b : Prop} {i j z : Int}
theorem ev_var {n : Nat} (h : σ[n]? = some (some v)) : Ev (tVar n) σ H v := fun Q q => ⟨v, h, q⟩
theorem ev_c : Ev (tC v) σ H v := fun Q q => q
theorem ev_neg (h : Ev ta σ H (.int i)) : Ev (tUn (rU fun i => .int (-i)) ta) σ H (.int (-i)) := fun Q q => h _ ⟨i, rfl, q⟩
theorem ev_fld {p C dx : Addr} {fs : List (Str × V)} {f : Str} (ho : Ev to σ H (.ref p)) (hp : H p = some (.ins C dx fs)) (c : Cls K C) (n : NoAttr K C f) (l : fs.lookup f = some v) : Ev (tFld K to f) σ H v :=
  fun Q q => ho _ ⟨p, C, dx, fs, v, rfl, hp, c, n, l, q⟩
theorem ev_ixL {p : Addr} {xs : List V} (ho : Ev to σ H (.ref p)) (hi : Ev ti σ H (.int z)) (hs : SqL K H p xs) (h : atI xs z = some v) : Ev (tOp (rIxL K) to ti) σ H v :=
  fun Q q => ho _ (hi _ ⟨p, xs, z, v, rfl, rfl, hs, h, q⟩)
theorem ev_ixT {p : Addr} {xs : List V} (ho : Ev to σ H (.ref p)) (hi : Ev ti σ H (.int z)) (hs : SqT K H p xs) (h : atI xs z = some v) : Ev (tOp (rIxT K) to ti) σ H v :=
  fun Q q => ho _ (hi _ ⟨p, xs, z, v, rfl, rfl, hs, h, q⟩)
theorem ev_I0 {g : Int → Int → V} (ha : Ev ta σ H (.int i)) (hb : Ev tb σ H (.int j)) : Ev (tOp (rI0 g) ta tb) σ H (g i j) := fun Q q => ha _ (hb _ ⟨i, j, rfl, rfl, q⟩)
theorem ev_I {C : Int → Int → Prop} {g : Int → Int → V} (ha : Ev ta σ H (.int i)) (hb : Ev tb σ H (.int j)) (hc : C i j) : Ev (tOp (rI C g) ta tb) σ H (g i j) := fun Q q => ha _ (hb _ ⟨i, j, rfl, rfl, hc, q⟩)
theorem ev_is {w : V} (h : Ev te σ H v) (e : v = w) : Ev te σ H w := by
  rw [← e]
  exact h
abbrev rLen (K : PySem.W.Frag) : List V → Hp → VK → Prop := fun xs H Q => ∃ p ys, xs = [.ref p] ∧ (SqL K H p ys ∨ SqT K H p ys) ∧ Q (.int ys.length) H
theorem ev_len {p : Addr} {xs : List V} (ho : Ev to σ H (.ref p)) (hs : SqL K H p xs) : Ev (tCB (rLen K) (tCons to tNil)) σ H (.int (xs.length : Nat)) := fun Q q => ho _ ⟨p, xs, rfl, .inl hs, q⟩
theorem ev_eq (ha : Ev ta σ H x) (hb : Ev tb σ H y) (h : scal x y = true) : Ev (tOp rEq ta tb) σ H (.bl (decide (x = y))) := fun Q q => ha _ (hb _ ⟨h, q⟩)
theorem ev_ne (ha : Ev ta σ H x) (hb : Ev tb σ H y) (h : scal x y = true) : Ev (tOp rNe ta tb) σ H (.bl (!decide (x = y))) := fun Q q => ha _ (hb _ ⟨h, q⟩)
theorem ev_inT {p : Addr} {xs : List V} (ha : Ev ta σ H x) (hb : Ev tb σ H (.ref p)) (hs : SqT K H p xs) (hx : flatV x = true) (hf : xs.all flatV = true) : Ev (tOp (rIn K false) ta tb) σ H (.bl (inV x xs)) :=
  fun Q q => ha _ (hb _ ⟨p, xs, rfl, .inr hs, hx, hf, q⟩)
theorem tst_of {k : Bool} (h : Ev te σ H (.bl k)) (e : k = true ↔ a) : Tst (tTest te) σ H a := fun R r => h _ ⟨k, rfl, r k e⟩
theorem tstB_of {k : Bool} (h : Ev te σ H (.bl k)) (e : k = true ↔ a) : Tst (tB te) σ H a := fun R r => h _ ⟨k, rfl, r k e⟩
theorem tst_lt (ha : Ev ta σ H (.int i)) (hb : Ev tb σ H (.int j)) : Tst (tTest (tOp (rI0 fun i j => .bl (decide (i < j))) ta tb)) σ H (i < j) := tst_of (ev_I0 ha hb) decide_eq_true_iff
theorem tst_le (ha : Ev ta σ H (.int i)) (hb : Ev tb σ H (.int j)) : Tst (tTest (tOp (rI0 fun i j => .bl (decide (i ≤ j))) ta tb)) σ H (i ≤ j) := tst_of (ev_I0 ha hb) decide_eq_true_iff
theorem tst_gt (ha : Ev ta σ H (.int i)) (hb : Ev tb σ H (.int j)) : Tst (tTest (tOp (rI0 fun i j => .bl (decide (j < i))) ta tb)) σ H (j < i) := tst_of (ev_I0 ha hb) decide_eq_true_iff
theorem tst_ge (ha : Ev ta σ H (.int i)) (hb : Ev tb σ H (.int j)) : Tst (tTest (tOp (rI0 fun i j => .bl (decide (j ≤ i))) ta tb)) σ H (j ≤ i) := tst_of (ev_I0 ha hb) decide_eq_true_iff
theorem tst_eq (ha : Ev ta σ H x) (hb : Ev tb σ H y) (h : scal x y = true) : Tst (tTest (tOp rEq ta tb)) σ H (x = y) := tst_of (ev_eq ha hb h) decide_eq_true_iff
theorem tst_ne (ha : Ev ta σ H x) (hb : Ev tb σ H y) (h : scal x y = true) : Tst (tTest (tOp rNe ta tb)) σ H (x ≠ y) := tst_of (ev_ne ha hb h) (by rw [Bool.not_eq_true', decide_eq_false_iff_not])
theorem tst_and (ht : Tst t σ H a) (hu : a → Tst u σ H b) : Tst (tAnd t u) σ H (a ∧ b) := fun R r => ht _ fun c e => by
  by_cases q : c = true
  · rw [if_pos q]
    exact hu (e.mp q) _ fun d f => r d ⟨fun z => ⟨e.mp q, f.mp z⟩, fun z => f.mpr z.2⟩
  · rw [if_neg q]
    exact r false ⟨fun z => (nomatch z), fun z => absurd (e.mpr z.1) q⟩
theorem tst_or (ht : Tst t σ H a) (hu : ¬ a → Tst u σ H b) : Tst (tOr t u) σ H (a ∨ b) := fun R r => ht _ fun c e => by
  by_cases q : c = true
  · rw [if_pos q]
    exact r true ⟨fun _ => .inl (e.mp q), fun _ => rfl⟩
  · rw [if_neg q]
    have na : ¬ a := fun z => q (e.mpr z)
    exact hu na _ fun d f => r d ⟨fun z => .inr (f.mp z), fun z => f.mpr (z.resolve_left na)⟩
theorem tst_not (ht : Tst t σ H a) : Tst (tNot t) σ H (¬ a) := fun R r => ht _ fun c e => r _ (by
  rw [Bool.not_eq_true', ← e]
  cases c <;> simp)
theorem tst_iff (ht : Tst t σ H a) (e : a ↔ b) : Tst t σ H b := fun R r => ht R fun c f => r c (f.trans e)
theorem s_if {D : Ends} {p q : TS} (h : Tst t σ H a) (h1 : a → p D σ H) (h2 : ¬ a → q D σ H) : tIfS t p q D σ H := h _ fun c e => by
  by_cases z : c = true
  · rw [if_pos z]
    exact h1 (e.mp z)
  · rw [if_neg z]
    exact h2 fun k => z (e.mpr k)
/-- an if without an else -/
theorem s_if1 {D : Ends} {p : TS} (h : Tst t σ H a) (h1 : a → p D σ H) (h2 : ¬ a → D.nx σ H) : tIfS t p tNext D σ H := s_if h h1 h2
theorem s_set {D : Ends} {n : Nat} (h : Ev te σ H v) (k : D.nx (σ.set n (some v)) H) : tAsg te (gName n) D σ H := h _ k
theorem s_ret {D : Ends} (h : Ev te σ H v) (k : D.rt v H) : tRet te D σ H := h _ k
theorem s_tup2 {D : Ends} (ha : Ev ta σ H x) (hb : Ev tb σ H y) (k : ∀ p, H p = none → D.rt (.ref p) (upd H p (.tup [x, y]))) : tRet (tTup (tCons ta (tCons tb tNil))) D σ H :=
  ha _ (hb _ ⟨(by show 2 ≤ sizeLine; decide), k⟩)
theorem tst_chain {r : R2} {p : Int → Int → Bool} {p' : Int → Int → Bool} (ha : Ev ta σ H (.int i)) (hb : Ev tb σ H (.int j)) (hc : Ev tc σ H (.int z)) :
    Ev (tChain (rI0 fun i j => .bl (p i j)) (rI0 fun i j => .bl (p' i j)) ta tb tc) σ H (.bl (p i j && p' j z)) := fun Q q => ha _ (hb _ ⟨i, j, rfl, rfl, _, rfl, by
  cases h : p i j with
  | true =>
    rw [if_pos rfl]
    rw [h] at q
    exact hc _ ⟨j, z, rfl, rfl, q⟩
  | false =>
    rw [if_neg Bool.false_ne_true]
    rw [h] at q
    exact q⟩)
end
section
variable {P : Program} {w : World} {K : PySem.W.Frag} {mg : Str → Option Value} {base : Heap} {A : Adr}
abbrev s_Step___init__ : Stmt := inClass (top 21) 0
abbrev N_Step___init__ : List Str := ["self", "kind", "number", "parts", "columns"]
theorem sc_Step___init__ : FnScope ["self", "kind", "number", "parts", "columns"] ["self", "kind", "number", "parts", "columns"] (defScope s_Step___init__) := ⟨rfl, rfl, rfl, by decide +kernel, rfl, by decide +kernel, by decide +kernel⟩
theorem ok_Step___init__ {f : Addr} {fd : FuncData} (F : Fun K "__init__" "Step.__init__" s_Step___init__ f fd) (T : Txt K mg A)  : FnOk P w K mg base CX0 1 f fd ["self", "kind", "number", "parts", "columns"] (sp_Step___init__ P w K A) := by
  refine F.ok sc_Step___init__ (fun vs H Q E h => ?_) (fun cdv B outer s H vs Q E hr h => ?_)
  · obtain ⟨s, dx, k, n, p, c, rfl, _⟩ := h
    rfl
  obtain ⟨x, dx, k, n, p, c, rfl, hx, q⟩ := h
  refine ⟨_, (pss_cons (ps_fld (pv 0) (pv 1) rfl) (pss_cons (ps_fld (pv 0) (pv 2) rfl) (pss_cons (ps_fld (pv 0) (pv 3) rfl) (pss_one (ps_fld (pv 0) (pv 4) rfl))))), ?_⟩
  refine ⟨_, rfl, _, rfl, x, A.S, dx, [], rfl, hx, T.cS, T.nS _ (by simp), (by show 0 < 1000; decide), ?_⟩
  refine ⟨_, rfl, _, rfl, x, A.S, dx, _, rfl, upd_same, T.cS, T.nS _ (by simp), (by show 1 < 1000; decide), ?_⟩
  rw [upd_upd]
  refine ⟨_, rfl, _, rfl, x, A.S, dx, _, rfl, upd_same, T.cS, T.nS _ (by simp), Nat.lt_of_le_of_lt (length_putF _ _ _) (by show 2 < 1000; decide), ?_⟩
  rw [upd_upd]
  refine ⟨_, rfl, _, rfl, x, A.S, dx, _, rfl, upd_same, T.cS, T.nS _ (by simp), Nat.lt_of_le_of_lt (length_putF _ _ _) (Nat.lt_of_le_of_lt (Nat.succ_le_succ (length_putF _ _ _)) (by show 3 < 1000; decide)), ?_⟩
  rw [upd_upd, fS_new]
  exact q
abbrev s_Step_is_still : Stmt := inClass (top 21) 1
abbrev N_Step_is_still : List Str := ["self"]
theorem sc_Step_is_still : FnScope ["self"] ["self"] (defScope s_Step_is_still) := ⟨rfl, rfl, rfl, by decide +kernel, rfl, by decide +kernel, by decide +kernel⟩
theorem ok_Step_is_still {f : Addr} {fd : FuncData} (F : Fun K "is_still" "Step.is_still" s_Step_is_still f fd) (T : Txt K mg A)  : FnOk P w K mg base CX0 1 f fd ["self"] (sp_Step_is_still P w K A) := by
  refine F.ok sc_Step_is_still (fun vs H Q E h => ?_) (fun cdv B outer s H vs Q E hr h => ?_)
  · obtain ⟨s, p, t, m, rfl, _⟩ := h
    rfl
  obtain ⟨x, p, t, m, rfl, ⟨⟨dx, hx⟩, hp⟩, q⟩ := h
  refine ⟨_, (pss_one (ps_ret (pe_cmpR op_eq (pe_fld (pv 0) rfl) pe_int (nomark _)))), ?_⟩
  refine ⟨_, rfl, x, A.S, dx, _, _, rfl, hx, T.cS, T.nS _ (by simp), fS_columns, rfl, ?_⟩
  have e : decide (V.int (m : Int) = V.int 0) = decide (m = 0) := by
    rw [dec_int]
    by_cases c : m = 0
    · subst c; rfl
    · rw [decide_eq_false c]
      exact beq_eq_false_iff_ne.mpr (by omega)
  rw [e]
  exact q
theorem inT_free (o : Nat) : inV (.int (o : Int)) (([14, 29, 30, 32] : List Int).map V.int) = decide (o = 14 ∨ o = 29 ∨ o = 30 ∨ o = 32) := by
  rw [Bool.eq_iff_iff]
  simp only [inV, List.map_cons, List.map_nil, List.any_cons, List.any_nil, eqV, Bool.or_eq_true, beq_iff_eq, Bool.or_false, decide_eq_true_eq]
  omega
theorem inT_alone (o : Nat) : inV (.int (o : Int)) (([1, 4, 5] : List Int).map V.int) = decide (o = 1 ∨ o = 4 ∨ o = 5) := by
  rw [Bool.eq_iff_iff]
  simp only [inV, List.map_cons, List.map_nil, List.any_cons, List.any_nil, eqV, Bool.or_eq_true, beq_iff_eq, Bool.or_false, decide_eq_true_eq]
  omega
theorem dec_nat {a b : Nat} : decide (V.int (a : Int) = V.int (b : Int)) = decide (a = b) := by
  rw [dec_int]
  by_cases c : a = b
  · subst c; simp
  · rw [decide_eq_false c]
    exact beq_eq_false_iff_ne.mpr (by omega)
theorem dec_lit {a : Nat} {z : Int} (b : Nat) (h : z = (b : Int)) : decide (V.int (a : Int) = V.int z) = decide (a = b) := by
  rw [h]
  exact dec_nat
abbrev s_Step_is_free : Stmt := inClass (top 21) 2
abbrev N_Step_is_free : List Str := ["self"]
theorem sc_Step_is_free : FnScope ["self"] ["self"] (defScope s_Step_is_free) := ⟨rfl, rfl, rfl, by decide +kernel, rfl, by decide +kernel, by decide +kernel⟩
theorem ok_Step_is_free {f : Addr} {fd : FuncData} (F : Fun K "is_free" "Step.is_free" s_Step_is_free f fd) (T : Txt K mg A)  : FnOk P w K mg base CX0 1 f fd ["self"] (sp_Step_is_free P w K A) := by
  refine F.ok sc_Step_is_free (fun vs H Q E h => ?_) (fun cdv B outer s H vs Q E hr h => ?_)
  · obtain ⟨s, p, t, m, rfl, _⟩ := h
    rfl
  obtain ⟨x, p, t, m, rfl, ⟨⟨dx, hx⟩, hp⟩, q⟩ := h
  refine ⟨_, (pss_one (ps_ret (pe_and (pe_cmpR op_eq (pe_fld (pv 0) rfl) (pe_gi T.operation rfl) (nomark _)) (pe_one (pe_cmpR op_in_seq (pe_fld (pv 0) rfl) (pe_gr T.gFree rfl) rfl))))), ?_⟩
  refine ⟨_, rfl, x, A.S, dx, _, _, rfl, hx, T.cS, T.nS _ (by simp), fS_kind, rfl, _, rfl, ?_⟩
  rw [dec_lit (z := 3) 3 rfl]
  by_cases c : kindOf t = 3
  · refine ift (decide_eq_true c) ?_
    refine ⟨_, rfl, x, A.S, dx, _, _, rfl, hx, T.cS, T.nS _ (by simp), fS_number, A.free, _, rfl, .inr (T.tFree H), rfl, rfl, ?_⟩
    show Q (.bl (inV (.int (numOf t : Int)) (([14, 29, 30, 32] : List Int).map V.int))) H
    rw [inT_free]
    cases t with
    | op o ps => exact q
    | _ => cases c
  · refine iff' (decide_eq_false c) ?_
    cases t with
    | op o ps => exact absurd rfl c
    | _ => exact q
abbrev s_of_one : Stmt := top 22
abbrev N_of_one : List Str := ["operation", "value"]
theorem sc_of_one : FnScope ["operation", "value"] ["operation", "value"] (defScope s_of_one) := ⟨rfl, rfl, rfl, by decide +kernel, rfl, by decide +kernel, by decide +kernel⟩
theorem ok_of_one {f : Addr} {fd : FuncData} (F : Fun K "of_one" "of_one" s_of_one f fd) (T : Txt K mg A)  : FnOk P w K mg base CX0 1 f fd ["operation", "value"] (sp_of_one P w K A) := by
  refine F.ok sc_of_one (fun vs H Q E h => ?_) (fun cdv B outer s H vs Q E hr h => ?_)
  · obtain ⟨o, v, rfl, _⟩ := h
    rfl
  obtain ⟨o, v, rfl, q⟩ := h
  refine ⟨_, (pss_cons (ps_if (pt_cmpR op_eq (pv 0) (pe_gi T.is_nothing rfl) (nomark _)) (pss_one (ps_ret (pe_ifExp (pt_cmpR op_eq (pv 1) (pe_gi T.nothing rfl) (nomark _)) (pe_gi T.true_ rfl) (pe_gi T.untrue rfl)))) pss_nil) (pss_cons (ps_if (pt_cmpR op_eq (pv 0) (pe_gi T.is_true rfl) (nomark _)) (pss_one (ps_ret (pe_ifExp (pt_cmpR op_eq (pv 1) (pe_gi T.true_ rfl) (nomark _)) (pe_gi T.true_ rfl) (pe_gi T.untrue rfl)))) pss_nil) (pss_cons (ps_if (pt_cmpR op_eq (pv 1) (pe_gi T.untrue rfl) (nomark _)) (pss_one (ps_ret (pe_gi T.true_ rfl))) pss_nil) (pss_cons (ps_if (pt_cmpR op_eq (pv 1) (pe_gi T.true_ rfl) (nomark _)) (pss_one (ps_ret (pe_gi T.untrue rfl))) pss_nil) (pss_one (ps_ret (pe_gi T.nothing rfl))))))), ?_⟩
  unfold Lw.ofOne at q
  refine ⟨_, rfl, rfl, _, rfl, ?_⟩
  rw [dec_lit (z := 4) 4 rfl]
  by_cases c4 : o = 4
  · refine ift (decide_eq_true c4) ?_
    rw [if_pos c4] at q
    refine ⟨_, rfl, rfl, _, rfl, ?_⟩
    rw [dec_lit (z := 0) 0 rfl]
    by_cases c : v = 0
    · rw [if_pos c] at q
      exact ift (decide_eq_true c) q
    · rw [if_neg c] at q
      exact iff' (decide_eq_false c) q
  refine iff' (decide_eq_false c4) ?_
  rw [if_neg c4] at q
  refine ⟨_, rfl, rfl, _, rfl, ?_⟩
  rw [dec_lit (z := 5) 5 rfl]
  by_cases c5 : o = 5
  · refine ift (decide_eq_true c5) ?_
    rw [if_pos c5] at q
    refine ⟨_, rfl, rfl, _, rfl, ?_⟩
    rw [dec_lit (z := 2) 2 rfl]
    by_cases c : v = 2
    · rw [if_pos c] at q
      exact ift (decide_eq_true c) q
    · rw [if_neg c] at q
      exact iff' (decide_eq_false c) q
  refine iff' (decide_eq_false c5) ?_
  rw [if_neg c5] at q
  refine ⟨_, rfl, rfl, _, rfl, ?_⟩
  rw [dec_lit (z := 1) 1 rfl]
  by_cases c1 : v = 1
  · rw [if_pos c1] at q
    exact ift (decide_eq_true c1) q
  refine iff' (decide_eq_false c1) ?_
  rw [if_neg c1] at q
  refine ⟨_, rfl, rfl, _, rfl, ?_⟩
  rw [dec_lit (z := 2) 2 rfl]
  by_cases c2 : v = 2
  · rw [if_pos c2] at q
    exact ift (decide_eq_true c2) q
  · rw [if_neg c2] at q
    exact iff' (decide_eq_false c2) q
/-- the last of a list -/
theorem nv_last {l : List Nat} {v : Nat} (h : l.getLast? = some v) : atI (nv l) (-1) = some (.int (v : Int)) := by
  obtain ⟨r, rfl⟩ : ∃ r, l = r ++ [v] := by
    obtain ⟨r, e⟩ := List.getLast?_eq_some_iff.mp h
    exact ⟨r, e⟩
  unfold nv
  rw [List.map_append]
  exact atI_last _ _
theorem atI_neg {α : Type} {xs : List α} {j : Nat} {z : Int} {v : α} (hz : z < 0) (hj : (xs.length : Int) + z = (j : Int)) (h : xs[j]? = some v) : atI xs z = some v := by
  unfold atI ixN
  rw [if_neg (by omega), if_pos (by omega)]
  show xs[(z + (xs.length : Int)).toNat]? = some v
  have e : (z + (xs.length : Int)).toNat = j := by omega
  rw [e]
  exact h
theorem last_of_pos {l : List Nat} (h : 0 < l.length) : ∃ v, l.getLast? = some v ∧ l.getLastD 0 = v ∧ l.getLastD 1 = v := by
  cases e : l.getLast? with
  | none => rw [List.getLast?_eq_none_iff] at e; subst e; cases h
  | some v =>
    obtain ⟨r, rfl⟩ := List.getLast?_eq_some_iff.mp e
    exact ⟨v, rfl, by simp, by simp⟩
theorem tup_is {H : Hp} {p : Addr} {a : Nat × Nat} {i j : Nat} (e : a = (i, j)) : Tup2 (upd H p (.tup [.int (i : Int), .int (j : Int)])) p a := by
  subst e
  exact upd_same
theorem sz2 {a b : V} : ([a, b] : List V).length ≤ sizeLine := by
  show 2 ≤ sizeLine
  decide
theorem same_Q {H : Hp} {Q : VK} {a : Nat × Nat} (q : ∀ p H', Same H H' → Tup2 H' p a → Q (.ref p) H') {i j : Nat} (e : a = (i, j)) : ([V.int (i : Int), V.int (j : Int)] : List V).length ≤ sizeLine ∧ ∀ p, H p = none → Q (.ref p) (upd H p (.tup [.int (i : Int), .int (j : Int)])) :=
  ⟨sz2, fun p hp => q p _ (same_new hp) (tup_is e)⟩
theorem int_eq {a b : Nat} : V.int (a : Int) = V.int (b : Int) ↔ a = b := by
  rw [V.int.injEq]
  omega
theorem ret_Q {H : Hp} {Q : VK} {a : Nat × Nat} {i j : Nat} (q : ∀ p H', Same H H' → Tup2 H' p a → Q (.ref p) H') (e : a = (i, j)) : ∀ p, H p = none → Q (.ref p) (upd H p (.tup [.int (i : Int), .int (j : Int)])) :=
  fun p hp => q p _ (same_new hp) (tup_is e)
theorem nv_lastD {l : List Nat} (h : 0 < ((nv l).length : Nat)) (d : Nat) : atI (nv l) (-1) = some (.int ((l.getLastD d : Nat) : Int)) := by
  rw [nv_len] at h
  obtain ⟨v, e1, e2, e3⟩ := last_of_pos h
  rw [nv_last e1]
  obtain ⟨r, rfl⟩ := List.getLast?_eq_some_iff.mp e1
  simp
theorem int_lit {a : Nat} {z : Int} (b : Nat) (h : z = (b : Int)) : V.int (a : Int) = V.int z ↔ a = b := by
  rw [h]
  exact int_eq
theorem lastD_nil {l : List Nat} {d : Nat} (h : ¬ 0 < (nv l).length) : l.getLastD d = d := by
  rw [nv_len] at h
  have e : l = [] := List.eq_nil_of_length_eq_zero (by omega)
  rw [e]
  rfl
abbrev s_said_by_first : Stmt := top 24
abbrev N_said_by_first : List Str := ["values", "many"]
theorem sc_said_by_first : FnScope ["values", "many"] ["values", "many"] (defScope s_said_by_first) := ⟨rfl, rfl, rfl, by decide +kernel, rfl, by decide +kernel, by decide +kernel⟩
theorem ok_said_by_first {f : Addr} {fd : FuncData} (F : Fun K "said_by_first" "said_by_first" s_said_by_first f fd) (T : Txt K mg A)  : FnOk P w K mg base CX0 1 f fd ["values", "many"] (sp_said_by_first P w K A) := by
  refine F.ok sc_said_by_first (fun vs H Q E h => ?_) (fun cdv B outer s H vs Q E hr h => ?_)
  · obtain ⟨many, a, l, rfl, _⟩ := h
    rfl
  obtain ⟨many, a, l, rfl, ha, hl, q⟩ := h
  replace q : ∀ p H', Same H H' → Tup2 H' p (Lw.sFirst l many) → Q (.ref p) H' := q
  refine ⟨_, (pss_cons (ps_if (PW.pt (pw_and (pt_cmpR op_gt (pe_callB call_len_seq rfl T.b_len PySem.boot_len (pa_cons (pv 0) pa_nil)) pe_int (nomark _)) (pw_and1 (pt_cmpR op_ne (pe_ix ix_list (pv 0) (pe_un un_neg pe_int) (fun _ _ => rfl)) (pe_gi T.nothing rfl) (nomark _))))) (pss_one (ps_ret (pe_tup (pa_cons (pe_gi T.is_ rfl) (pa_cons (pe_ix ix_list (pv 0) (pe_un un_neg pe_int) (fun _ _ => rfl)) pa_nil))))) pss_nil) (pss_cons (ps_if (pt_cmpR op_lt (pe_callB call_len_seq rfl T.b_len PySem.boot_len (pa_cons (pv 0) pa_nil)) (pv 1) (nomark _)) (pss_one (ps_ret (pe_tup (pa_cons (pe_gi T.asks rfl) (pa_cons (pe_callB call_len_seq rfl T.b_len PySem.boot_len (pa_cons (pv 0) pa_nil)) pa_nil))))) pss_nil) (pss_one (ps_ret (pe_tup (pa_cons (pe_gi T.is_ rfl) (pa_cons (pe_gi T.nothing rfl) pa_nil))))))), ?_⟩
  refine s_if1 (a := 0 < (nv l).length ∧ l.getLastD 0 ≠ 0) (tst_and (tst_iff (tst_gt (ev_len (ev_var rfl) (SqL.of ha)) ev_c) Int.natCast_pos) fun c =>
    tst_iff (tst_ne (ev_ixL (ev_var rfl) (ev_neg ev_c) (SqL.of ha) (nv_lastD c 0)) ev_c rfl) (not_congr (int_lit 0 rfl))) (fun c => ?_) fun c => ?_
  · exact s_tup2 ev_c (ev_ixL (ev_var rfl) (ev_neg ev_c) (SqL.of ha) (nv_lastD c.1 0)) (ret_Q q (i := 0) (by rw [Lw.sFirst, if_pos c.2]))
  have c' : ¬ l.getLastD 0 ≠ 0 := fun z => by
    by_cases d : 0 < (nv l).length
    · exact c ⟨d, z⟩
    · exact z (lastD_nil d)
  refine s_if1 (tst_lt (ev_len (ev_var rfl) (SqL.of ha)) (ev_var rfl)) (fun d => ?_) fun d => ?_
  · rw [nv_len] at d
    refine s_tup2 ev_c (ev_len (ev_var rfl) (SqL.of ha)) (ret_Q q (i := 1) ?_)
    rw [Lw.sFirst, if_neg c', if_pos (by omega), nv_len]
  · rw [nv_len] at d
    exact s_tup2 (σ := []) ev_c ev_c (ret_Q q (i := 0) (j := 0) (by rw [Lw.sFirst, if_neg c', if_neg (by omega)]))
abbrev s_said_elsewhere : Stmt := top 26
abbrev N_said_elsewhere : List Str := ["values", "many"]
theorem sc_said_elsewhere : FnScope ["values", "many"] ["values", "many"] (defScope s_said_elsewhere) := ⟨rfl, rfl, rfl, by decide +kernel, rfl, by decide +kernel, by decide +kernel⟩
theorem ok_said_elsewhere {f : Addr} {fd : FuncData} (F : Fun K "said_elsewhere" "said_elsewhere" s_said_elsewhere f fd) (T : Txt K mg A)  : FnOk P w K mg base CX0 1 f fd ["values", "many"] (sp_said_elsewhere P w K A) := by
  refine F.ok sc_said_elsewhere (fun vs H Q E h => ?_) (fun cdv B outer s H vs Q E hr h => ?_)
  · obtain ⟨many, a, l, rfl, _⟩ := h
    rfl
  obtain ⟨many, a, l, rfl, ha, hl, q⟩ := h
  replace q : ∀ p H', Same H H' → Tup2 H' p (Lw.sElse l many) → Q (.ref p) H' := q
  refine ⟨_, (pss_cons (ps_if (PW.pt (pw_and (pt_cmpR op_gt (pe_callB call_len_seq rfl T.b_len PySem.boot_len (pa_cons (pv 0) pa_nil)) pe_int (nomark _)) (pw_and1 (pt_cmpR op_eq (pe_ix ix_list (pv 0) (pe_un un_neg pe_int) (fun _ _ => rfl)) (pe_gi T.nothing rfl) (nomark _))))) (pss_one (ps_ret (pe_tup (pa_cons (pe_gi T.is_ rfl) (pa_cons (pe_gi T.nothing rfl) pa_nil))))) pss_nil) (pss_cons (ps_if (pt_cmpR op_lt (pe_callB call_len_seq rfl T.b_len PySem.boot_len (pa_cons (pv 0) pa_nil)) (pv 1) (nomark _)) (pss_one (ps_ret (pe_tup (pa_cons (pe_gi T.asks rfl) (pa_cons (pe_callB call_len_seq rfl T.b_len PySem.boot_len (pa_cons (pv 0) pa_nil)) pa_nil))))) pss_nil) (pss_one (ps_ret (pe_tup (pa_cons (pe_gi T.elsewhere rfl) (pa_cons pe_int pa_nil))))))), ?_⟩
  refine s_if1 (a := 0 < (nv l).length ∧ l.getLastD 1 = 0) (tst_and (tst_iff (tst_gt (ev_len (ev_var rfl) (SqL.of ha)) ev_c) Int.natCast_pos) fun c =>
    tst_iff (tst_eq (ev_ixL (ev_var rfl) (ev_neg ev_c) (SqL.of ha) (nv_lastD c 1)) ev_c rfl) (int_lit 0 rfl)) (fun c => ?_) fun c => ?_
  · exact s_tup2 (σ := []) ev_c ev_c (ret_Q q (i := 0) (j := 0) (by rw [Lw.sElse, if_pos c.2]))
  have c' : ¬ l.getLastD 1 = 0 := fun z => by
    by_cases d : 0 < (nv l).length
    · exact c ⟨d, z⟩
    · rw [lastD_nil d] at z
      cases z
  refine s_if1 (tst_lt (ev_len (ev_var rfl) (SqL.of ha)) (ev_var rfl)) (fun d => ?_) fun d => ?_
  · rw [nv_len] at d
    refine s_tup2 ev_c (ev_len (ev_var rfl) (SqL.of ha)) (ret_Q q (i := 1) ?_)
    rw [Lw.sElse, if_neg c', if_pos (by omega), nv_len]
  · rw [nv_len] at d
    exact s_tup2 (σ := []) ev_c ev_c (ret_Q q (i := 2) (j := 0) (by rw [Lw.sElse, if_neg c', if_neg (by omega)]))
abbrev s_said_by_choice : Stmt := top 25
abbrev N_said_by_choice : List Str := ["values", "many", "count"]
theorem sc_said_by_choice : FnScope ["values", "many", "count"] ["values", "many"] (defScope s_said_by_choice) := ⟨rfl, rfl, rfl, by decide +kernel, rfl, by decide +kernel, by decide +kernel⟩
theorem ok_said_by_choice {f : Addr} {fd : FuncData} (F : Fun K "said_by_choice" "said_by_choice" s_said_by_choice f fd) (T : Txt K mg A)  : FnOk P w K mg base CX0 1 f fd ["values", "many"] (sp_said_by_choice P w K A) := by
  refine F.ok sc_said_by_choice (fun vs H Q E h => ?_) (fun cdv B outer s H vs Q E hr h => ?_)
  · obtain ⟨many, a, l, rfl, _⟩ := h
    rfl
  obtain ⟨many, a, l, rfl, ha, hl, q⟩ := h
  replace q : ∀ p H', Same H H' → Tup2 H' p (Lw.sChoice l many) → Q (.ref p) H' := q
  refine ⟨_, (pss_cons (ps_set (i := 2) sc_said_by_choice.nd rfl (Or.inl rfl) (pe_callB call_len_seq rfl T.b_len PySem.boot_len (pa_cons (pv 0) pa_nil))) (pss_cons (ps_if (pt_cmpR op_eq (pv 2) pe_int (nomark _)) (pss_one (ps_ret (pe_tup (pa_cons (pe_gi T.asks rfl) (pa_cons pe_int pa_nil))))) pss_nil) (pss_cons (ps_if (PW.pt (pw_or (PW.pt (pw_and (pt_cmpR op_gt (pv 2) pe_int (nomark _)) (pw_and1 (pt_cmpR op_eq (pe_ix ix_list (pv 0) (pe_un un_neg pe_int) (fun _ _ => rfl)) (pe_gi T.true_ rfl) (nomark _))))) (pw_or1 (pt_cmpR op_eq (pe_op op_sub (pe_op op_mul pe_int (pv 2)) pe_int) (pv 1) (nomark _))))) (pss_one (ps_ret (pe_tup (pa_cons (pe_gi T.is_ rfl) (pa_cons (pe_ix ix_list (pv 0) (pe_un un_neg pe_int) (fun _ _ => rfl)) pa_nil))))) pss_nil) (pss_cons (ps_if (pt_cmpR op_eq (pe_ix ix_list (pv 0) (pe_un un_neg pe_int) (fun _ _ => rfl)) (pe_gi T.true_ rfl) (nomark _)) (pss_one (ps_ret (pe_tup (pa_cons (pe_gi T.asks rfl) (pa_cons (pe_op op_sub (pe_op op_mul pe_int (pv 2)) pe_int) pa_nil))))) pss_nil) (pss_one (ps_ret (pe_tup (pa_cons (pe_gi T.asks rfl) (pa_cons (pe_op op_mul pe_int (pv 2)) pa_nil))))))))), ?_⟩
  refine s_set (ev_len (ev_var rfl) (SqL.of ha)) ?_
  rw [nv_len]
  refine s_if1 (tst_iff (tst_eq (ev_var rfl) ev_c rfl) (int_lit 0 rfl)) (fun c0 => ?_) fun c0 => ?_
  · exact s_tup2 (σ := []) ev_c ev_c (ret_Q q (i := 1) (j := 0) (by rw [Lw.sChoice, if_pos c0]))
  have hp : 0 < (nv l).length := by rw [nv_len]; omega
  refine s_if1 (a := (1 < l.length ∧ l.getD (l.length - 2) 0 = 2) ∨ 2 * l.length = many + 1) (tst_or (tst_and (tst_iff (tst_gt (ev_var rfl) ev_c) (by omega)) fun c1 => ?_) fun _ => ?_) (fun c => ?_) fun c => ?_
  · have hu : l[l.length - 2]? = some (l.getD (l.length - 2) 0) := by rw [List.getD_eq_getElem?_getD, List.getElem?_eq_getElem (by omega)]; rfl
    exact tst_iff (tst_eq (ev_ixL (ev_var rfl) (ev_neg ev_c) (SqL.of ha) (atI_neg (j := l.length - 2) (by decide) (by rw [nv_len]; omega) (nv_get hu))) ev_c rfl) (int_lit 2 rfl)
  · refine tst_iff (tst_eq (ev_I0 (ev_I ev_c (ev_var rfl) (.inl (by decide))) ev_c) (ev_var rfl) rfl) ?_
    rw [V.int.injEq]
    omega
  · exact s_tup2 ev_c (ev_ixL (ev_var rfl) (ev_neg ev_c) (SqL.of ha) (nv_lastD hp 0)) (ret_Q q (i := 0) (by rw [Lw.sChoice, if_neg c0, if_pos c]))
  refine s_if1 (tst_iff (tst_eq (ev_ixL (ev_var rfl) (ev_neg ev_c) (SqL.of ha) (nv_lastD hp 0)) ev_c rfl) (int_lit 2 rfl)) (fun c2 => ?_) fun c2 => ?_
  · refine s_tup2 ev_c (ev_is (w := .int ((2 * l.length - 1 : Nat) : Int)) (ev_I0 (ev_I ev_c (ev_var rfl) (.inl (by decide))) ev_c) (congrArg V.int (by omega))) (ret_Q q (i := 1) (by rw [Lw.sChoice, if_neg c0, if_neg c, if_pos c2]))
  · refine s_tup2 ev_c (ev_is (w := .int ((2 * l.length : Nat) : Int)) (ev_I ev_c (ev_var rfl) (.inl (by decide))) (congrArg V.int (by omega))) (ret_Q q (i := 1) (by rw [Lw.sChoice, if_neg c0, if_neg c, if_neg c2]))
end
end Wk
namespace Wk
open PySem PySem.Spec PyProof.Rows L2 Nq
/-! Comprehensions in short; and, or, operations, said. -/
def EvA (t : TA) (σ : L2.St) (H : Hp) (vs : List V) : Prop := ∀ R : List V → Hp → Prop, R vs H → t σ H R
section
variable {K : PySem.W.Frag} {σ : L2.St} {H : Hp} {te ta : TE} {t : TA} {x : V} {vs : List V} {sp : Sp} {Q : VK} {C a dx : Addr} {fs : List (Str × V)} {m : Str}
theorem eva_nil : EvA tNil σ H [] := fun R r => r
theorem eva_cons (h : Ev te σ H x) (hr : EvA t σ H vs) : EvA (tCons te t) σ H (x :: vs) := fun R r => h _ (hr _ r)
theorem e_call (ha : EvA t σ H vs) (h : sp vs H Q E0) : tCall sp [] E0 t σ H Q := ha _ (by
  show sp (vs ++ []) H Q E0
  rw [List.append_nil]
  exact h)
theorem r_call {D : Ends} (ha : EvA t σ H vs) (h : sp vs H D.rt E0) : tRet (tCall sp [] E0 t) D σ H := e_call ha h
theorem e_meth (ho : Ev ta σ H (.ref a)) (hp : H a = some (.ins C dx fs)) (hl : fs.lookup m = none) (ha : EvA t σ H vs) (h : sp (.ref a :: vs) H Q E0) : tMeth C m sp [] E0 ta t σ H Q :=
  ho _ ⟨a, dx, fs, rfl, hp, hl, ha _ (by
    show sp (.ref a :: (vs ++ [])) H Q E0
    rw [List.append_nil]
    exact h)⟩
theorem r_meth {D : Ends} (ho : Ev ta σ H (.ref a)) (hp : H a = some (.ins C dx fs)) (hl : fs.lookup m = none) (ha : EvA t σ H vs) (h : sp (.ref a :: vs) H D.rt E0) : tRet (tMeth C m sp [] E0 ta t) D σ H := e_meth ho hp hl ha h
end
def TstS (t : TT) (σ : L2.St) (H : Hp) (a : Prop) : Prop := ∀ R : Bool → Hp → Prop, (∀ (c : Bool) (H' : Hp), Same H H' → (c = true ↔ a) → R c H') → t σ H R
section
variable {K : PySem.W.Frag} {σ : L2.St} {H : Hp} {tl te : TE} {t u tt : TT} {a : Addr} {xs : List V} {i : Nat}
theorem wipe1 {x : Option V} : wipe ((wipe σ [i]).set i x) [i] = wipe σ [i] := by
  show ((σ.set i none).set i x).set i none = σ.set i none
  rw [List.set_set, List.set_set]
/-- [e for x in xs], e evaluated without a trace -/
theorem comp_map {Q : VK} (f : V → V) (hl : Ev tl σ H (.ref a)) (hs : SqL K H a xs) (hn : xs.length ≤ 1000000)
    (he : ∀ (j : Nat) x H', xs[j]? = some x → Same H H' → Ev te ((σ.set i none).set i (some x)) H' (f x)) (q : ∀ D H', H D = none → Same H H' → H' D = some (.lst (xs.map f)) → Q (.ref D) H') :
    tLc (iList K tl) (gName i) tYes te [i] σ H Q := by
  refine hl _ ⟨a, rfl, ⟨_, hs⟩, fun D hD => ?_⟩
  refine lc_list (K := K) (a := a) (xs := xs) (fun j H' => Same H H' ∧ H' D = some (.lst ((xs.take j).map f))) ⟨same_new hD, upd_same⟩ (fun j H' _ h => h.1.seq hs) (fun j x H' hx ⟨s1, d1⟩ => ?_) fun H' ⟨s1, d1⟩ => ?_
  · refine ⟨wipe1, ?_⟩
    refine ift (B := Same H H' ∧ H' D = some (.lst ((xs.take (j + 1)).map f))) rfl ?_
    refine he j x H' hx s1 _ ⟨_, d1, ?_, ?_, ?_⟩
    · rw [List.length_map, List.length_take]
      exact szl (by omega)
    · intro b o e
      rw [upd_ne (ne_of_none e hD)]
      exact s1 b o e
    · rw [upd_same, List.take_add_one, hx]
      simp
  · rw [List.take_length] at d1
    exact q D H' hD s1 d1
/-- [x for x in xs if t], t a test without a trace -/
theorem comp_filter {Q : VK} (p : V → Bool) (hl : Ev tl σ H (.ref a)) (hs : SqL K H a xs) (hn : xs.length ≤ 1000000)
    (ht : ∀ (j : Nat) x H', xs[j]? = some x → Same H H' → Tst tt ((σ.set i none).set i (some x)) H' (p x = true)) (he : ∀ x H', Ev te ((σ.set i none).set i (some x)) H' x) (q : ∀ D H', H D = none → Same H H' → H' D = some (.lst (xs.filter p)) → Q (.ref D) H') :
    tLc (iList K tl) (gName i) tt te [i] σ H Q := by
  refine hl _ ⟨a, rfl, ⟨_, hs⟩, fun D hD => ?_⟩
  refine lc_list (K := K) (a := a) (xs := xs) (fun j H' => Same H H' ∧ H' D = some (.lst ((xs.take j).filter p))) ⟨same_new hD, upd_same⟩ (fun j H' _ h => h.1.seq hs) (fun j x H' hx ⟨s1, d1⟩ => ?_) fun H' ⟨s1, d1⟩ => ?_
  · refine ⟨wipe1, ?_⟩
    refine ht j x H' hx s1 _ fun c e => ?_
    have tk : (xs.take (j + 1)).filter p = (xs.take j).filter p ++ [x].filter p := by
      rw [List.take_add_one, hx, List.filter_append]
      rfl
    by_cases z : c = true
    · rw [if_pos z]
      refine he x H' _ ⟨_, d1, ?_, ?_, ?_⟩
      · exact szl (Nat.le_trans (List.length_filter_le _ _) (by rw [List.length_take]; omega))
      · intro b o e'
        rw [upd_ne (ne_of_none e' hD)]
        exact s1 b o e'
      · rw [upd_same, tk, List.filter_cons, if_pos (e.mp z)]
        rfl
    · rw [if_neg z]
      refine ⟨s1, ?_⟩
      rw [tk, List.filter_cons, if_neg fun k => z (e.mpr k)]
      rw [List.filter_nil, List.append_nil]
      exact d1
  · rw [List.take_length] at d1
    exact q D H' hD s1 d1
theorem tst_all {te : TE} {p : V → Bool} (h : ∀ Q : VK, (∀ D H', H D = none → Same H H' → H' D = some (.lst (xs.map fun x => V.bl (p x))) → Q (.ref D) H') → te σ H Q) :
    TstS (tB (tCB (rAll K) (tCons te tNil))) σ H (∀ x ∈ xs, p x = true) := fun R r => h _ fun D H' _ s1 d1 => by
  refine ⟨D, xs.map p, rfl, ?_, _, rfl, r _ H' s1 ?_⟩
  · rw [List.map_map]
    exact SqL.of d1
  · rw [List.all_map, List.all_eq_true]
    rfl
theorem s_ifS {D : Ends} {p q : TS} {b : Prop} (h : TstS t σ H b) (h1 : b → ∀ H', Same H H' → p D σ H') (h2 : ¬ b → ∀ H', Same H H' → q D σ H') : tIfS t p q D σ H := h _ fun c H' s1 e => by
  by_cases z : c = true
  · rw [if_pos z]
    exact h1 (e.mp z) H' s1
  · rw [if_neg z]
    exact h2 (fun k => z (e.mpr k)) H' s1
theorem tstS {b : Prop} (h : Tst t σ H b) : TstS t σ H b := fun R r => h R fun c e => r c H (Same.refl H) e
theorem tstS_not {b : Prop} (h : TstS t σ H b) : TstS (tNot t) σ H (¬ b) := fun R r => h _ fun c H' s1 e => r _ H' s1 (by
  rw [Bool.not_eq_true', ← e]
  cases c <;> simp)
theorem tstS_or {b c : Prop} (ht : TstS t σ H b) (hu : ¬ b → ∀ H', Same H H' → TstS u σ H' c) : TstS (tOr t u) σ H (b ∨ c) := fun R r => ht _ fun k H' s1 e => by
  by_cases q : k = true
  · rw [if_pos q]
    exact r true H' s1 ⟨fun _ => .inl (e.mp q), fun _ => rfl⟩
  · rw [if_neg q]
    have na : ¬ b := fun z => q (e.mpr z)
    exact hu na H' s1 _ fun d H2 s2 f => r d H2 (s1.trans s2) ⟨fun z => .inr (f.mp z), fun z => f.mpr (z.resolve_left na)⟩
theorem tstS_iff {b c : Prop} (ht : TstS t σ H b) (e : b ↔ c) : TstS t σ H c := fun R r => ht R fun k H' s1 f => r k H' s1 (f.trans e)
end
section
variable {P : Program} {w : World} {K : PySem.W.Frag} {mg : Str → Option Value} {base : Heap} {A : Adr}
abbrev s_said_by_many : Stmt := top 23
abbrev N_said_by_many : List Str := ["values", "many", "stop", "all_alike", "value"]
theorem sc_said_by_many : FnScope ["values", "many", "stop", "all_alike", "value"] ["values", "many", "stop", "all_alike"] (defScope s_said_by_many) := ⟨rfl, rfl, rfl, by decide +kernel, rfl, by decide +kernel, by decide +kernel⟩
theorem ok_said_by_many {f : Addr} {fd : FuncData} (F : Fun K "said_by_many" "said_by_many" s_said_by_many f fd) (T : Txt K mg A)  : FnOk P w K mg base CX0 1 f fd ["values", "many", "stop", "all_alike"] (sp_said_by_many P w K A) := by
  refine F.ok sc_said_by_many (fun vs H Q E h => ?_) (fun cdv B outer s H vs Q E hr h => ?_)
  · obtain ⟨many, stop, alike, a, l, rfl, _⟩ := h
    rfl
  obtain ⟨many, stop, alike, a, l, rfl, ha, hl, q⟩ := h
  replace q : ∀ p H', Same H H' → Tup2 H' p (Lw.sMany l many stop alike) → Q (.ref p) H' := q
  refine ⟨_, (pss_cons (ps_if (PW.pt (pw_and (pt_cmpR op_gt (pe_callB call_len_seq rfl T.b_len PySem.boot_len (pa_cons (pv 0) pa_nil)) pe_int (nomark _)) (pw_and1 (pt_cmpR op_eq (pe_ix ix_list (pv 0) (pe_un un_neg pe_int) (fun _ _ => rfl)) (pv 2) (nomark _))))) (pss_one (ps_ret (pe_tup (pa_cons (pe_gi T.is_ rfl) (pa_cons (pv 2) pa_nil))))) pss_nil) (pss_cons (ps_if (pt_cmpR op_lt (pe_callB call_len_seq rfl T.b_len PySem.boot_len (pa_cons (pv 0) pa_nil)) (pv 1) (nomark _)) (pss_one (ps_ret (pe_tup (pa_cons (pe_gi T.asks rfl) (pa_cons (pe_callB call_len_seq rfl T.b_len PySem.boot_len (pa_cons (pv 0) pa_nil)) pa_nil))))) pss_nil) (pss_cons (ps_if (pt_val (pe_callB (cr_all rfl) rfl T.b_all (by decide +kernel) (pa_cons (pe_lc rfl sc_said_by_many.nd (pi_list (pv 0)) (blkOk_by (own := [("value", 4)]) (N := N_said_by_many) (sc := defScope s_said_by_many) (by decide +kernel)) (fun _ _ _ _ _ => (pg_name (i := 4) sc_said_by_many.nd rfl (Or.inl rfl))) (fun _ _ _ _ _ => pts_nil) (fun _ _ _ _ _ => (pe_cmpR op_eq (pv 4) (pv 3) (nomark _)))) pa_nil))) (pss_one (ps_ret (pe_tup (pa_cons (pe_gi T.is_ rfl) (pa_cons (pv 3) pa_nil))))) pss_nil) (pss_one (ps_ret (pe_tup (pa_cons (pe_gi T.is_ rfl) (pa_cons (pe_gi T.nothing rfl) pa_nil)))))))), ?_⟩
  refine s_if1 (a := l.getLast? = some stop) (tst_iff (tst_and (tst_iff (tst_gt (ev_len (ev_var rfl) (SqL.of ha)) ev_c) Int.natCast_pos) fun c =>
    tst_iff (tst_eq (ev_ixL (ev_var rfl) (ev_neg ev_c) (SqL.of ha) (nv_lastD c 0)) (ev_var rfl) rfl) int_eq) ?_) (fun c => ?_) fun c => ?_
  · rw [nv_len]
    constructor
    · rintro ⟨h1, h2⟩
      obtain ⟨v, e1, e2, _⟩ := last_of_pos h1
      rw [e1, ← h2, e2]
    · intro h
      have h1 : 0 < l.length := by cases l with | nil => cases h | cons _ _ => exact Nat.succ_pos _
      obtain ⟨v, e1, e2, _⟩ := last_of_pos h1
      rw [e1] at h
      exact ⟨h1, e2.trans (Option.some.inj h)⟩
  · exact s_tup2 ev_c (ev_var rfl) (ret_Q q (i := 0) (by rw [Lw.sMany, if_pos c]))
  refine s_if1 (tst_lt (ev_len (ev_var rfl) (SqL.of ha)) (ev_var rfl)) (fun d => ?_) fun d => ?_
  · rw [nv_len] at d
    refine s_tup2 ev_c (ev_len (ev_var rfl) (SqL.of ha)) (ret_Q q (i := 1) ?_)
    rw [Lw.sMany, if_neg c, if_pos (by omega), nv_len]
  rw [nv_len] at d
  refine s_ifS (b := l.all (fun v => decide (v = alike)) = true) (tstS_iff (tst_all (xs := nv l) (p := fun x => decide (x = V.int (alike : Int))) fun Q' q' =>
    comp_map (fun x => V.bl (decide (x = V.int (alike : Int)))) (ev_var rfl) (SqL.of ha) (by rw [nv_len]; omega) (fun j x H' hx s1 => ev_eq (ev_var rfl) (ev_var rfl) ?_) q') ?_) (fun c2 H' s1 => ?_) fun c2 H' s1 => ?_
  · unfold nv at hx
    rw [List.getElem?_map] at hx
    obtain ⟨n, _, rfl⟩ := Option.map_eq_some_iff.mp hx
    rfl
  · unfold nv
    rw [List.all_eq_true]
    simp only [List.mem_map, forall_exists_index, and_imp, forall_apply_eq_imp_iff₂, decide_eq_true_eq, int_eq]
  · exact s_tup2 ev_c (ev_var rfl) fun p hp => q p _ (s1.trans (same_new hp)) (tup_is (i := 0) (by rw [Lw.sMany, if_neg c, if_neg (by omega), if_pos c2]))
  · exact s_tup2 (σ := []) ev_c ev_c fun p hp => q p _ (s1.trans (same_new hp)) (tup_is (i := 0) (j := 0) (by rw [Lw.sMany, if_neg c, if_neg (by omega), if_neg c2]))
abbrev s_said_by_operation : Stmt := top 27
abbrev N_said_by_operation : List Str := ["operation", "values", "many"]
theorem sc_said_by_operation : FnScope ["operation", "values", "many"] ["operation", "values", "many"] (defScope s_said_by_operation) := ⟨rfl, rfl, rfl, by decide +kernel, rfl, by decide +kernel, by decide +kernel⟩
theorem ok_said_by_operation {f : Addr} {fd : FuncData} (F : Fun K "said_by_operation" "said_by_operation" s_said_by_operation f fd) (T : Txt K mg A) (F_said_elsewhere : FnG P w K mg base "said_elsewhere" 1 ["values", "many"] (sp_said_elsewhere P w K A)) (F_of_one : FnG P w K mg base "of_one" 1 ["operation", "value"] (sp_of_one P w K A)) (F_said_by_first : FnG P w K mg base "said_by_first" 1 ["values", "many"] (sp_said_by_first P w K A)) (F_said_by_many : FnG P w K mg base "said_by_many" 1 ["values", "many", "stop", "all_alike"] (sp_said_by_many P w K A)) : FnOk P w K mg base CX0 2 f fd ["operation", "values", "many"] (sp_said_by_operation P w K A) := by
  refine F.ok sc_said_by_operation (fun vs H Q E h => ?_) (fun cdv B outer s H vs Q E hr h => ?_)
  · obtain ⟨o, many, a, l, rfl, _⟩ := h
    rfl
  obtain ⟨o, many, a, l, rfl, ha, hl, q⟩ := h
  replace q : ∀ p H', Same H H' → Tup2 H' p (Lw.sOp o l many) → Q (.ref p) H' := q
  refine ⟨_, (pss_cons (ps_if (pt_cmpR op_in_seq (pv 0) (pe_gr T.gFree rfl) rfl) (pss_one (ps_ret (pe_tup (pa_cons (pe_gi T.elsewhere rfl) (pa_cons pe_int pa_nil))))) pss_nil) (pss_cons (ps_if (pt_cmpR op_eq (pv 0) (pe_gi T.and_ rfl) (nomark _)) (pss_one (ps_ret (pe_fn F_said_by_many (hr.mono (by decide)) rfl (pa_cons (pv 1) (pa_cons (pv 2) (pa_cons (pe_gi T.untrue rfl) (pa_cons (pe_gi T.true_ rfl) pa_nil))))))) pss_nil) (pss_cons (ps_if (pt_cmpR op_eq (pv 0) (pe_gi T.or_ rfl) (nomark _)) (pss_one (ps_ret (pe_fn F_said_by_many (hr.mono (by decide)) rfl (pa_cons (pv 1) (pa_cons (pv 2) (pa_cons (pe_gi T.true_ rfl) (pa_cons (pe_gi T.untrue rfl) pa_nil))))))) pss_nil) (pss_cons (ps_if (pt_cmpR op_eq (pv 0) (pe_gi T.first rfl) (nomark _)) (pss_one (ps_ret (pe_fn F_said_by_first (hr.mono (by decide)) rfl (pa_cons (pv 1) (pa_cons (pv 2) pa_nil))))) pss_nil) (pss_cons (ps_if (PW.pt (pw_and (pt_cmpR op_in_seq (pv 0) (pe_gr T.gAlone rfl) rfl) (pw_and1 (pt_cmpR op_eq (pe_callB call_len_seq rfl T.b_len PySem.boot_len (pa_cons (pv 1) pa_nil)) pe_int (nomark _))))) (pss_one (ps_ret (pe_tup (pa_cons (pe_gi T.asks rfl) (pa_cons pe_int pa_nil))))) pss_nil) (pss_cons (ps_if (pt_cmpR op_in_seq (pv 0) (pe_gr T.gAlone rfl) rfl) (pss_one (ps_ret (pe_tup (pa_cons (pe_gi T.is_ rfl) (pa_cons (pe_fn F_of_one (hr.mono (by decide)) rfl (pa_cons (pv 0) (pa_cons (pe_ix ix_list (pv 1) pe_int (fun _ _ => rfl)) pa_nil))) pa_nil))))) pss_nil) (pss_one (ps_ret (pe_fn F_said_elsewhere (hr.mono (by decide)) rfl (pa_cons (pv 1) (pa_cons (pv 2) pa_nil))))))))))), ?_⟩
  refine s_if1 (tst_iff (tst_of (ev_inT (ev_var rfl) ev_c (T.tFree H) rfl rfl) Iff.rfl) (b := o = 14 ∨ o = 29 ∨ o = 30 ∨ o = 32) (by rw [inT_free, decide_eq_true_iff])) (fun c => ?_) fun c => ?_
  · exact s_tup2 (σ := []) ev_c ev_c (ret_Q q (i := 2) (j := 0) (by rw [Lw.sOp, if_pos c]))
  refine s_if1 (tst_iff (tst_eq (ev_var rfl) ev_c rfl) (int_lit 2 rfl)) (fun c2 => ?_) fun c2 => ?_
  · refine ⟨_, rfl, _, rfl, many, 1, 2, a, l, rfl, ha, hl, fun p H' s1 h1 => q p H' s1 ?_⟩
    rw [Lw.sOp, if_neg c, if_pos c2]
    exact h1
  refine s_if1 (tst_iff (tst_eq (ev_var rfl) ev_c rfl) (int_lit 3 rfl)) (fun c3 => ?_) fun c3 => ?_
  · refine ⟨_, rfl, _, rfl, many, 2, 1, a, l, rfl, ha, hl, fun p H' s1 h1 => q p H' s1 ?_⟩
    rw [Lw.sOp, if_neg c, if_neg c2, if_pos c3]
    exact h1
  refine s_if1 (tst_iff (tst_eq (ev_var rfl) ev_c rfl) (int_lit 31 rfl)) (fun c31 => ?_) fun c31 => ?_
  · refine ⟨_, rfl, _, rfl, many, a, l, rfl, ha, hl, fun p H' s1 h1 => q p H' s1 ?_⟩
    rw [Lw.sOp, if_neg c, if_neg c2, if_neg c3, if_pos c31]
    exact h1
  refine s_if1 (a := (o = 1 ∨ o = 4 ∨ o = 5) ∧ l.length = 0) (tst_and (tst_iff (tst_of (ev_inT (ev_var rfl) ev_c (T.tAlone H) rfl rfl) Iff.rfl) (by rw [inT_alone, decide_eq_true_iff])) fun _ =>
    tst_iff (tst_eq (ev_len (ev_var rfl) (SqL.of ha)) ev_c rfl) (by rw [nv_len]; exact int_lit 0 rfl)) (fun c1 => ?_) fun c1 => ?_
  · exact s_tup2 (σ := []) ev_c ev_c (ret_Q q (i := 1) (j := 0) (by rw [Lw.sOp, if_neg c, if_neg c2, if_neg c3, if_neg c31, if_pos c1]))
  refine s_if1 (tst_iff (tst_of (ev_inT (ev_var rfl) ev_c (T.tAlone H) rfl rfl) Iff.rfl) (b := o = 1 ∨ o = 4 ∨ o = 5) (by rw [inT_alone, decide_eq_true_iff])) (fun c4 => ?_) fun c4 => ?_
  · have h0 : 0 < l.length := Nat.pos_of_ne_zero fun z => c1 ⟨c4, z⟩
    have g0 : l[0]? = some (l.getD 0 0) := by rw [List.getD_eq_getElem?_getD, List.getElem?_eq_getElem h0]; rfl
    refine ⟨_, rfl, _, rfl, a, _, _, _, rfl, rfl, SqL.of ha, atI_nat (j := 0) (nv_get g0), o, _, rfl, ?_⟩
    refine ⟨sz2, ret_Q q (i := 0) ?_⟩
    rw [Lw.sOp, if_neg c, if_neg c2, if_neg c3, if_neg c31, if_neg c1, if_pos c4]
  · refine ⟨_, rfl, _, rfl, many, a, l, rfl, ha, hl, fun p H' s1 h1 => q p H' s1 ?_⟩
    rw [Lw.sOp, if_neg c, if_neg c2, if_neg c3, if_neg c31, if_neg c1, if_neg c4]
    exact h1
abbrev s_said : Stmt := top 28
abbrev N_said : List Str := ["step", "values"]
theorem sc_said : FnScope ["step", "values"] ["step", "values"] (defScope s_said) := ⟨rfl, rfl, rfl, by decide +kernel, rfl, by decide +kernel, by decide +kernel⟩
theorem ok_said {f : Addr} {fd : FuncData} (F : Fun K "said" "said" s_said f fd) (T : Txt K mg A) (F_said_elsewhere : FnG P w K mg base "said_elsewhere" 1 ["values", "many"] (sp_said_elsewhere P w K A)) (F_said_by_operation : FnG P w K mg base "said_by_operation" 2 ["operation", "values", "many"] (sp_said_by_operation P w K A)) (F_said_by_choice : FnG P w K mg base "said_by_choice" 1 ["values", "many"] (sp_said_by_choice P w K A)) : FnOk P w K mg base CX0 3 f fd ["step", "values"] (sp_said P w K A) := by
  refine F.ok sc_said (fun vs H Q E h => ?_) (fun cdv B outer s H vs Q E hr h => ?_)
  · obtain ⟨s, q, t, m, _, _, a, l, rfl, _⟩ := h
    rfl
  obtain ⟨x, p, t, m, ⟨⟨dx, hx⟩, hp⟩, hk, a, l, rfl, ha, hl, q⟩ := h
  replace q : ∀ p H', Same H H' → Tup2 H' p (Lw.sd t l) → Q (.ref p) H' := q
  refine ⟨_, (pss_cons (ps_if (pt_cmpR op_eq (pe_fld (pv 0) rfl) (pe_gi T.column rfl) (nomark _)) (pss_one (ps_ret (pe_tup (pa_cons (pe_gi T.elsewhere rfl) (pa_cons pe_int pa_nil))))) pss_nil) (pss_cons (ps_if (pt_cmpR op_eq (pe_fld (pv 0) rfl) (pe_gi T.value rfl) (nomark _)) (pss_one (ps_ret (pe_tup (pa_cons (pe_gi T.is_ rfl) (pa_cons (pe_fld (pv 0) rfl) pa_nil))))) pss_nil) (pss_cons (ps_if (pt_cmpR op_eq (pe_fld (pv 0) rfl) (pe_gi T.choice rfl) (nomark _)) (pss_one (ps_ret (pe_fn F_said_by_choice (hr.mono (by decide)) rfl (pa_cons (pv 1) (pa_cons (pe_callB call_len_seq rfl T.b_len PySem.boot_len (pa_cons (pe_fld (pv 0) rfl) pa_nil)) pa_nil))))) pss_nil) (pss_cons (ps_if (pt_cmpR op_eq (pe_fld (pv 0) rfl) (pe_gi T.operation rfl) (nomark _)) (pss_one (ps_ret (pe_fn F_said_by_operation (hr.mono (by decide)) rfl (pa_cons (pe_fld (pv 0) rfl) (pa_cons (pv 1) (pa_cons (pe_callB call_len_seq rfl T.b_len PySem.boot_len (pa_cons (pe_fld (pv 0) rfl) pa_nil)) pa_nil)))))) pss_nil) (pss_one (ps_ret (pe_fn F_said_elsewhere (hr.mono (by decide)) rfl (pa_cons (pv 1) (pa_cons (pe_callB call_len_seq rfl T.b_len PySem.boot_len (pa_cons (pe_fld (pv 0) rfl) pa_nil)) pa_nil))))))))), ?_⟩
  have kd : ∀ {H'}, Same H H' → ∀ {σ : L2.St}, σ[0]? = some (some (.ref x)) → Ev (tFld K (tVar 0) "kind") σ H' (.int (kindOf t : Nat)) := fun s1 _ h => ev_fld (ev_var h) (s1 _ _ hx) T.cS (T.nS _ (by simp)) fS_kind
  have nu : ∀ {σ : L2.St}, σ[0]? = some (some (.ref x)) → Ev (tFld K (tVar 0) "number") σ H (.int (numOf t : Nat)) := fun h => ev_fld (ev_var h) hx T.cS (T.nS _ (by simp)) fS_number
  have ln : ∀ {σ : L2.St}, σ[0]? = some (some (.ref x)) → Ev (tCB (rLen K) (tCons (tFld K (tVar 0) "parts") tNil)) σ H (.int (t.parts.length : Nat)) := fun h =>
    ev_is (ev_len (ev_fld (ev_var h) hx T.cS (T.nS _ (by simp)) fS_parts) (SqL.of hp)) (by rw [nv_len])
  refine s_if1 (tst_iff (tst_eq (kd (Same.refl H) rfl) ev_c rfl) (int_lit 0 rfl)) (fun c0 => ?_) fun c0 => ?_
  · refine s_tup2 (σ := []) ev_c ev_c (ret_Q q (i := 2) (j := 0) ?_)
    cases t with
    | col i => rfl
    | _ => cases c0
  refine s_if1 (tst_iff (tst_eq (kd (Same.refl H) rfl) ev_c rfl) (int_lit 1 rfl)) (fun c1 => ?_) fun c1 => ?_
  · refine s_tup2 ev_c (nu rfl) (ret_Q q (i := 0) ?_)
    cases t with
    | val i => rfl
    | _ => cases c1
  refine s_if1 (tst_iff (tst_eq (kd (Same.refl H) rfl) ev_c rfl) (int_lit 5 rfl)) (fun c5 => ?_) fun c5 => ?_
  · refine r_call (eva_cons (ev_var rfl) (eva_cons (ln rfl) eva_nil)) ⟨t.parts.length, a, l, rfl, ha, hl, fun p H' s1 h1 => q p H' s1 ?_⟩
    cases t with
    | choice ps => exact h1
    | _ => cases c5
  refine s_if1 (tst_iff (tst_eq (kd (Same.refl H) rfl) ev_c rfl) (int_lit 3 rfl)) (fun c3 => ?_) fun c3 => ?_
  · refine r_call (eva_cons (nu rfl) (eva_cons (ev_var rfl) (eva_cons (ln rfl) eva_nil))) ⟨numOf t, t.parts.length, a, l, rfl, ha, hl, fun p H' s1 h1 => q p H' s1 ?_⟩
    cases t with
    | op o ps => exact h1
    | _ => cases c3
  · refine r_call (eva_cons (ev_var rfl) (eva_cons (ln rfl) eva_nil)) ⟨t.parts.length, a, l, rfl, ha, hl, fun p H' s1 h1 => q p H' s1 ?_⟩
    cases t with
    | cast c p => exact h1
    | col i => exact absurd rfl c0
    | val i => exact absurd rfl c1
    | given i => exact absurd rfl hk
    | op o ps => exact absurd rfl c3
    | choice ps => exact absurd rfl c5
end
end Wk
namespace Wk
open PySem PySem.Spec PyProof.Rows L2 Nq
/-! The lanes as they stand in the heap; rows, what was found, what is kept. -/
abbrev S := Sf79.S
/-- the lanes' addresses: the object, its dict, the lists of steps, given values, known dicts; the steps' objects, their parts, the dicts -/
structure LD where
  l : Addr
  dl : Addr
  sa : Addr
  ga : Addr
  ka : Addr
  ss : List Addr
  ps : List Addr
  ds : List Addr
def adr (l : List Addr) (i : Nat) : Addr := l.getD i 0
theorem adr_get {l : List Addr} {i : Nat} (h : i < l.length) : l[i]? = some (adr l i) := by
  unfold adr
  rw [List.getD_eq_getElem?_getD, List.getElem?_eq_getElem h]
  rfl
theorem refs_at {l : List Addr} {i : Nat} (h : i < l.length) : atI (l.map V.ref) (i : Int) = some (.ref (adr l i)) :=
  atI_nat (by rw [List.getElem?_map, adr_get h]; rfl)
structure LS (A : Adr) (H : Hp) (L : LD) (x : S) : Prop where
  ob : H L.l = some (.ins A.L L.dl (fL (.ref L.sa) (.ref L.ga) (.ref L.ka)))
  sa : H L.sa = some (.lst (L.ss.map V.ref))
  ga : ∃ gv : List Nat, H L.ga = some (.lst (nv gv)) ∧ gv.length = 64 ∧ ∀ i, i < 64 → gv.getD i 0 = x.given i
  ka : H L.ka = some (.lst (L.ds.map V.ref))
  ls : L.ss.length = x.steps.length
  lp : L.ps.length = x.steps.length
  ld : L.ds.length = x.steps.length
  nd : L.ds.Nodup
  st : ∀ (i : Nat) (t : Sf79.Step), x.steps[i]? = some t → StepAt A H (adr L.ss i) (adr L.ps i) t (Lw.mask x.steps i)
def KvOk (kvs : List (Key × V)) (f : Nat → Option Nat) : Prop := (kvs.map (·.1)).Nodup ∧ (∀ e ∈ kvs, ∃ k : Nat, k ≤ 1024 ∧ e.1 = Sum.inl (k : Int)) ∧ ∀ k : Nat, valV kvs (Sum.inl (k : Int)) = (f k).map fun (n : Nat) => V.int (n : Int)
def LC (H : Hp) (L : LD) (kn : Lw.Kn) : Prop := ∀ i, i < L.ds.length → ∃ kvs, H (adr L.ds i) = some (.dK kvs) ∧ KvOk kvs (kn i)
/-- all but the dicts with ints for keys is as it was -/
def Keep (H H' : Hp) : Prop := ∀ b o, H b = some o → (∀ kvs, o ≠ .dK kvs) → H' b = some o
section
variable {A : Adr} {H H' H0 H1 : Hp} {L : LD} {x : S} {kn : Lw.Kn} {d b : Addr} {o : HO}
theorem Keep.refl (H : Hp) : Keep H H := fun _ _ h _ => h
theorem Keep.trans (a : Keep H H') (b : Keep H' H1) : Keep H H1 := fun c o h n => b c o (a c o h n) n
theorem Keep.of (s : Same H H') : Keep H H' := fun c o h _ => s c o h
theorem Keep.upd (k : Keep H0 H) (h : ∀ o0, H0 d = some o0 → ∃ kvs, o0 = .dK kvs) : Keep H0 (upd H d o) := fun c u e n => by
  have hc : c ≠ d := fun z => by
    subst z
    obtain ⟨kvs, rfl⟩ := h u e
    exact n kvs rfl
  rw [upd_ne hc]
  exact k c u e n
theorem Keep.mut (k : Keep H0 H) (h : H0 d = none) : Keep H0 (L2.upd H d o) := k.upd fun o0 e => by rw [h] at e; cases e
theorem same_mut (s : Same H0 H) (h : H0 d = none) : Same H0 (upd H d o) := fun c u e => by
  rw [upd_ne (ne_of_none e h)]
  exact s c u e
theorem StepAt.keep {s p : Addr} {t : Sf79.Step} {m : Nat} (h : StepAt A H s p t m) (k : Keep H H') : StepAt A H' s p t m :=
  ⟨let ⟨dx, e⟩ := h.ob; ⟨dx, k _ _ e (fun _ z => nomatch z)⟩, k _ _ h.pa fun _ z => nomatch z⟩
theorem LS.keep (h : LS A H L x) (k : Keep H H') : LS A H' L x where
  ob := k _ _ h.ob fun _ z => nomatch z
  sa := k _ _ h.sa fun _ z => nomatch z
  ga := let ⟨gv, e, r⟩ := h.ga; ⟨gv, k _ _ e (fun _ z => nomatch z), r⟩
  ka := k _ _ h.ka fun _ z => nomatch z
  ls := h.ls
  lp := h.lp
  ld := h.ld
  nd := h.nd
  st := fun i t e => (h.st i t e).keep k
theorem LS.same (h : LS A H L x) (s : Same H H') : LS A H' L x := h.keep (Keep.of s)
theorem LC.frame (h : LC H L kn) (k : ∀ i, i < L.ds.length → H' (adr L.ds i) = H (adr L.ds i)) : LC H' L kn := fun i hi => by
  obtain ⟨kvs, e, r⟩ := h i hi
  exact ⟨kvs, (k i hi).trans e, r⟩
theorem LC.same (h : LC H L kn) (s : Same H H') : LC H' L kn := fun i hi => by
  obtain ⟨kvs, e, r⟩ := h i hi
  exact ⟨kvs, s _ _ e, r⟩
/-- an object that was not there ahead is written -/
theorem LC.mut (h : LC H L kn) (h0 : ∀ i, i < L.ds.length → H0 (adr L.ds i) ≠ none) (hd : H0 d = none) : LC (upd H d o) L kn := h.frame fun i hi => upd_ne fun z => h0 i hi (z ▸ hd)
theorem LC.some (h : LC H L kn) (i : Nat) (hi : i < L.ds.length) : H (adr L.ds i) ≠ none := fun z => by
  obtain ⟨kvs, e, _⟩ := h i hi
  rw [z] at e
  cases e
theorem adr_ne (nd : L.ds.Nodup) {i j : Nat} (hi : i < L.ds.length) (hj : j < L.ds.length) (h : i ≠ j) : adr L.ds i ≠ adr L.ds j := fun z => by
  have e1 := adr_get hi
  have e2 := adr_get hj
  rw [z] at e1
  exact h (nd_ix nd e1 e2)
theorem valV_any' {kvs : List (Key × V)} {k : Key} : (kvs.any fun kv => decide (kv.1 = k)) = (valV kvs k).isSome := valV_any k kvs
theorem KvOk.nil : KvOk [] fun _ => none := ⟨List.nodup_nil, fun _ h => (nomatch h), fun _ => rfl⟩
theorem KvOk.len {kvs : List (Key × V)} {f : Nat → Option Nat} (h : KvOk kvs f) : kvs.length ≤ 1025 := by
  obtain ⟨h1, h2, _⟩ := h
  have e : ∀ l : List (Key × V), (l.map (·.1)).Nodup → (∀ e ∈ l, ∃ k : Nat, k ≤ 1024 ∧ e.1 = Sum.inl (k : Int)) → ∃ ks : List Nat, ks.length = l.length ∧ ks.Nodup ∧ (∀ a ∈ ks, a < 1025) ∧ ∀ a ∈ ks, (Sum.inl (a : Int) : Key) ∈ l.map (·.1) := by
    intro l
    induction l with
    | nil => intro _ _; exact ⟨[], rfl, List.nodup_nil, fun _ h => (nomatch h), fun _ h => (nomatch h)⟩
    | cons p r ih =>
      intro hn hb
      rw [List.map_cons, List.nodup_cons] at hn
      obtain ⟨ks, e1, e2, e3, e4⟩ := ih hn.2 fun e he => hb e (List.mem_cons_of_mem _ he)
      obtain ⟨k, hk, ek⟩ := hb p List.mem_cons_self
      refine ⟨k :: ks, by rw [List.length_cons, List.length_cons, e1], List.nodup_cons.mpr ⟨fun hm => hn.1 (ek ▸ e4 k hm), e2⟩, fun a ha => ?_, fun a ha => ?_⟩
      · rcases List.mem_cons.mp ha with rfl | ha
        · omega
        · exact e3 a ha
      · rcases List.mem_cons.mp ha with rfl | ha
        · rw [List.map_cons, ek]; exact List.mem_cons_self
        · exact List.mem_cons_of_mem _ (e4 a ha)
  obtain ⟨ks, e1, e2, e3, _⟩ := e kvs h1 h2
  rw [← e1]
  exact Lw.nodup_bound 1025 ks e2 e3
theorem KvOk.put {kvs : List (Key × V)} {f : Nat → Option Nat} (h : KvOk kvs f) {k v : Nat} (hk : k ≤ 1024) : KvOk (putK kvs (Sum.inl (k : Int)) (.int (v : Int))) fun k' => if k' = k then Option.some v else f k' := by
  obtain ⟨h1, h2, h3⟩ := h
  refine ⟨?_, ?_, fun k' => ?_⟩
  · unfold putK
    split
    · rw [List.map_map]
      have : ((·.1) ∘ fun (kv : Key × V) => if kv.1 = Sum.inl (k : Int) then (kv.1, V.int (v : Int)) else kv) = (fun (kv : Key × V) => kv.1) := by
        funext kv
        show (if kv.1 = Sum.inl (k : Int) then (kv.1, V.int (v : Int)) else kv).1 = kv.1
        split <;> rfl
      rw [this]
      exact h1
    · next c =>
      rw [List.map_append, List.nodup_append]
      refine ⟨h1, List.nodup_cons.mpr ⟨List.not_mem_nil, List.nodup_nil⟩, fun a ha b hb e => c ?_⟩
      have hb : b = Sum.inl (k : Int) := by simpa using hb
      subst hb
      obtain ⟨p, hp, ep⟩ := List.mem_map.mp ha
      exact List.any_eq_true.mpr ⟨p, hp, decide_eq_true (ep.trans e)⟩
  · intro e he
    unfold putK at he
    split at he
    · obtain ⟨p, hp, rfl⟩ := List.mem_map.mp he
      split
      · exact h2 p hp
      · exact h2 p hp
    · rcases List.mem_append.mp he with he | he
      · exact h2 e he
      · have : e = (Sum.inl (k : Int), V.int (v : Int)) := by simpa using he
        rw [this]
        exact ⟨k, hk, rfl⟩
  · rw [valV_put, h3 k']
    show _ = (if k' = k then Option.some v else f k').map fun (n : Nat) => V.int (n : Int)
    by_cases c : k' = k
    · subst c
      rw [if_pos rfl, if_pos rfl]
      rfl
    · rw [if_neg (fun z => c (by have := Sum.inl.inj z; omega)), if_neg c]
end
def ov : Option Nat → V
  | none => .non
  | some n => .int (n : Int)
theorem ov_getD {o : Option Nat} : (o.map fun (n : Nat) => V.int (n : Int)).getD .non = ov o := by cases o <;> rfl
theorem ov_non {o : Option Nat} : ov o = .non ↔ o = none := by cases o <;> simp [ov]

/-! ### the promises -/
def sp_Lanes_row_of (P : Program) (w : World) (K : PySem.W.Frag) (A : Adr) : Sp := fun vs H Q _ => ∃ (L : LD) (x : S) (n r : Nat), vs = [.ref L.l, .int n, .int r] ∧ LS A H L x ∧ n < x.steps.length ∧ Q (.int (Lw.key x n r : Nat)) H
/-- rows as they come, or 1024 alone -/
def sp_Lanes_rows_of (P : Program) (w : World) (K : PySem.W.Frag) (A : Adr) : Sp := fun vs H Q _ => ∃ (L : LD) (x : S) (n : Nat) (a : Addr) (rows : List Nat), vs = [.ref L.l, .int n, .ref a] ∧ LS A H L x ∧ n < x.steps.length ∧ H a = some (.lst (nv rows)) ∧
  ∀ p H', Same H H' → H' p = some (.lst (nv (Lw.rowsOf x n rows))) → Q (.ref p) H'
def sp_Lanes_found (P : Program) (w : World) (K : PySem.W.Frag) (A : Adr) : Sp := fun vs H Q _ => ∃ (L : LD) (x : S) (kn : Lw.Kn) (n r : Nat), vs = [.ref L.l, .int n, .int r] ∧ LS A H L x ∧ LC H L kn ∧ n < x.steps.length ∧ Q (ov (Lw.fnd x kn n r)) H
def sp_Lanes_keep (P : Program) (w : World) (K : PySem.W.Frag) (A : Adr) : Sp := fun vs H Q _ => ∃ (L : LD) (x : S) (kn : Lw.Kn) (n r v : Nat), vs = [.ref L.l, .int n, .int r, .int v] ∧ LS A H L x ∧ LC H L kn ∧ n < x.steps.length ∧ r ≤ 1024 ∧
  ∀ H', (∀ b, b ≠ adr L.ds n → H' b = H b) → LC H' L (Lw.put kn n (Lw.key x n r) v) → Q .non H'
section
variable {P : Program} {w : World} {K : PySem.W.Frag} {mg : Str → Option Value} {base : Heap} {A : Adr}
/-- self.steps[number] -/
theorem ev_step {H : Hp} {L : LD} {x : S} {σ : L2.St} {tn : TE} {n : Nat} (T : Txt K mg A) (h : LS A H L x) (hn : n < x.steps.length) {to : TE} (ho : Ev to σ H (.ref L.l)) (hi : Ev tn σ H (.int n)) :
    Ev (tOp (rIxL K) (tFld K to "steps") tn) σ H (.ref (adr L.ss n)) := ev_ixL (ev_fld ho h.ob T.cL (T.nL _ (by simp)) fL_steps) hi (SqL.of h.sa) (refs_at (by rw [h.ls]; exact hn))
theorem ev_known {H : Hp} {L : LD} {x : S} {σ : L2.St} {tn : TE} {n : Nat} (T : Txt K mg A) (h : LS A H L x) (hn : n < x.steps.length) {to : TE} (ho : Ev to σ H (.ref L.l)) (hi : Ev tn σ H (.int n)) :
    Ev (tOp (rIxL K) (tFld K to "known") tn) σ H (.ref (adr L.ds n)) := ev_ixL (ev_fld ho h.ob T.cL (T.nL _ (by simp)) fL_known) hi (SqL.of h.ka) (refs_at (by rw [h.ld]; exact hn))
theorem step_there {x : S} {n : Nat} (hn : n < x.steps.length) : ∃ t, x.steps[n]? = some t := ⟨_, List.getElem?_eq_getElem hn⟩
/-- step.is_still() -/
theorem tst_still {H : Hp} {L : LD} {x : S} {σ : L2.St} {to : TE} {n : Nat} (h : LS A H L x) (hn : n < x.steps.length) (ho : Ev to σ H (.ref (adr L.ss n))) :
    Tst (tB (tMeth A.S "is_still" (sp_Step_is_still P w K A) [] E0 to tNil)) σ H (Lw.still x.steps n = true) := fun R r => by
  obtain ⟨t, ht⟩ := step_there hn
  have s1 := h.st n t ht
  obtain ⟨dx, hx⟩ := s1.ob
  refine e_meth ho hx fS_m_is_still eva_nil ⟨_, _, t, Lw.mask x.steps n, rfl, s1, _, rfl, r _ ?_⟩
  rw [Lw.still_mask hn]
abbrev s_Lanes_row_of : Stmt := inClass (top 32) 4
abbrev N_Lanes_row_of : List Str := ["self", "number", "row"]
theorem sc_Lanes_row_of : FnScope ["self", "number", "row"] ["self", "number", "row"] (defScope s_Lanes_row_of) := ⟨rfl, rfl, rfl, by decide +kernel, rfl, by decide +kernel, by decide +kernel⟩
theorem ok_Lanes_row_of {f : Addr} {fd : FuncData} (F : Fun K "row_of" "Lanes.row_of" s_Lanes_row_of f fd) (T : Txt K mg A) (F_Step_is_still : MtG P w K mg base A.S "is_still" 1 ["self"] (sp_Step_is_still P w K A)) : FnOk P w K mg base CX0 2 f fd ["self", "number", "row"] (sp_Lanes_row_of P w K A) := by
  refine F.ok sc_Lanes_row_of (fun vs H Q E h => ?_) (fun cdv B outer s H vs Q E hr h => ?_)
  · obtain ⟨L, x, n, r, rfl, _⟩ := h
    rfl
  obtain ⟨L, x, n, r, rfl, hL, hn, q⟩ := h
  refine ⟨_, (pss_cons (ps_if (pt_val (pe_mt0 F_Step_is_still (hr.mono (by decide)) (pe_ix ix_list (pe_fld (pv 0) rfl) (pv 1) (fun _ _ => rfl)))) (pss_one (ps_ret (pe_gi T.all_rows rfl))) pss_nil) (pss_one (ps_ret (pv 2)))), ?_⟩
  refine s_if1 (tst_still hL hn (ev_step T hL hn (ev_var rfl) (ev_var rfl))) (fun c => ?_) fun c => ?_
  · rw [Lw.key_still r c] at q
    exact q
  · rw [Lw.key_lane r (eq_false_of_ne_true c)] at q
    exact s_ret (ev_var rfl) q
abbrev s_Lanes_rows_of : Stmt := inClass (top 32) 5
abbrev N_Lanes_rows_of : List Str := ["self", "number", "rows"]
theorem sc_Lanes_rows_of : FnScope ["self", "number", "rows"] ["self", "number", "rows"] (defScope s_Lanes_rows_of) := ⟨rfl, rfl, rfl, by decide +kernel, rfl, by decide +kernel, by decide +kernel⟩
theorem ok_Lanes_rows_of {f : Addr} {fd : FuncData} (F : Fun K "rows_of" "Lanes.rows_of" s_Lanes_rows_of f fd) (T : Txt K mg A) (F_Step_is_still : MtG P w K mg base A.S "is_still" 1 ["self"] (sp_Step_is_still P w K A)) : FnOk P w K mg base CX0 2 f fd ["self", "number", "rows"] (sp_Lanes_rows_of P w K A) := by
  refine F.ok sc_Lanes_rows_of (fun vs H Q E h => ?_) (fun cdv B outer s H vs Q E hr h => ?_)
  · obtain ⟨L, x, n, a, rows, rfl, _⟩ := h
    rfl
  obtain ⟨L, x, n, a, rows, rfl, hL, hn, ha, q⟩ := h
  refine ⟨_, (pss_cons (ps_if (PW.pt (pw_and (pt_val (pe_mt0 F_Step_is_still (hr.mono (by decide)) (pe_ix ix_list (pe_fld (pv 0) rfl) (pv 1) (fun _ _ => rfl)))) (pw_and1 (pt_cmpR op_gt (pe_callB call_len_seq rfl T.b_len PySem.boot_len (pa_cons (pv 2) pa_nil)) pe_int (nomark _))))) (pss_one (ps_ret (pe_lst (pa_cons (pe_gi T.all_rows rfl) pa_nil)))) pss_nil) (pss_one (ps_ret (pv 2)))), ?_⟩
  refine s_if1 (a := Lw.still x.steps n = true ∧ rows.length > 0) (tst_and (tst_still hL hn (ev_step T hL hn (ev_var rfl) (ev_var rfl))) fun _ => tst_iff (tst_gt (ev_len (ev_var rfl) (SqL.of ha)) ev_c) (by rw [nv_len]; exact Int.natCast_pos)) (fun c => ?_) fun c => ?_
  · refine ⟨(by show 1 ≤ sizeLine; decide), fun p hp => q p _ (same_new hp) ?_⟩
    rw [Lw.rowsOf, if_pos c]
    exact upd_same
  · refine s_ret (ev_var rfl) (q a H (Same.refl H) ?_)
    rw [Lw.rowsOf, if_neg c]
    exact ha
abbrev s_Lanes_found : Stmt := inClass (top 32) 6
abbrev N_Lanes_found : List Str := ["self", "number", "row"]
theorem sc_Lanes_found : FnScope ["self", "number", "row"] ["self", "number", "row"] (defScope s_Lanes_found) := ⟨rfl, rfl, rfl, by decide +kernel, rfl, by decide +kernel, by decide +kernel⟩
theorem ok_Lanes_found {f : Addr} {fd : FuncData} (F : Fun K "found" "Lanes.found" s_Lanes_found f fd) (T : Txt K mg A) (F_Lanes_row_of : MtG P w K mg base A.L "row_of" 2 ["self", "number", "row"] (sp_Lanes_row_of P w K A)) : FnOk P w K mg base CX0 3 f fd ["self", "number", "row"] (sp_Lanes_found P w K A) := by
  refine F.ok sc_Lanes_found (fun vs H Q E h => ?_) (fun cdv B outer s H vs Q E hr h => ?_)
  · obtain ⟨L, x, kn, n, r, rfl, _⟩ := h
    rfl
  obtain ⟨L, x, kn, n, r, rfl, hL, hC, hn, q⟩ := h
  refine ⟨_, (pss_one (ps_ret (pe_dget1 (hu_of hr) (pe_ix ix_list (pe_fld (pv 0) rfl) (pv 1) (fun _ _ => rfl)) (pe_mt F_Lanes_row_of (hr.mono (by decide)) (pv 0) (pa_cons (pv 1) (pa_cons (pv 2) pa_nil))) ⟨rfl, rfl, rfl, rfl⟩))), ?_⟩
  obtain ⟨kvs, hk, ok⟩ := hC n (by rw [hL.ld]; exact hn)
  refine ev_known T hL hn (ev_var rfl) (ev_var rfl) _ ⟨_, rfl, .inl ⟨kvs, .inl hk⟩, ?_⟩
  refine e_meth (ev_var rfl) hL.ob fL_m_row_of (eva_cons (ev_var rfl) (eva_cons (ev_var rfl) eva_nil)) ⟨L, x, n, r, rfl, hL, hn, _, DGet.k (k := Sum.inl (Lw.key x n r : Int)) hk, ?_⟩
  rw [ok.2.2, ov_getD]
  exact q
abbrev s_Lanes_keep : Stmt := inClass (top 32) 7
abbrev N_Lanes_keep : List Str := ["self", "number", "row", "value"]
theorem sc_Lanes_keep : FnScope ["self", "number", "row", "value"] ["self", "number", "row", "value"] (defScope s_Lanes_keep) := ⟨rfl, rfl, rfl, by decide +kernel, rfl, by decide +kernel, by decide +kernel⟩
theorem ok_Lanes_keep {f : Addr} {fd : FuncData} (F : Fun K "keep" "Lanes.keep" s_Lanes_keep f fd) (T : Txt K mg A) (F_Lanes_row_of : MtG P w K mg base A.L "row_of" 2 ["self", "number", "row"] (sp_Lanes_row_of P w K A)) : FnOk P w K mg base CX0 3 f fd ["self", "number", "row", "value"] (sp_Lanes_keep P w K A) := by
  refine F.ok sc_Lanes_keep (fun vs H Q E h => ?_) (fun cdv B outer s H vs Q E hr h => ?_)
  · obtain ⟨L, x, kn, n, r, v, rfl, _⟩ := h
    rfl
  obtain ⟨L, x, kn, n, r, v, rfl, hL, hC, hn, hr1, q⟩ := h
  refine ⟨_, (pss_one (ps_dput (hu_of hr) (pe_ix ix_list (pe_fld (pv 0) rfl) (pv 1) (fun _ _ => rfl)) (pe_mt F_Lanes_row_of (hr.mono (by decide)) (pv 0) (pa_cons (pv 1) (pa_cons (pv 2) pa_nil))) (pv 3) rfl)), ?_⟩
  have hnd : n < L.ds.length := by rw [hL.ld]; exact hn
  obtain ⟨kvs, hk, ok⟩ := hC n hnd
  have hkey : Lw.key x n r ≤ 1024 := by
    unfold Lw.key
    split
    · exact Nat.le_refl _
    · exact hr1
  refine ⟨_, rfl, ?_⟩
  refine ev_known T hL hn (ev_var rfl) (ev_var rfl) _ ?_
  refine e_meth (ev_var rfl) hL.ob fL_m_row_of (eva_cons (ev_var rfl) (eva_cons (ev_var rfl) eva_nil)) ⟨L, x, n, r, rfl, hL, hn, _, _, rfl, DPut.k (k := Sum.inl (Lw.key x n r : Int)) hk (szl (by have := ok.len; omega)), ?_⟩
  refine q _ (fun b hb => upd_ne hb) fun i hi => ?_
  by_cases c : i = n
  · subst c
    refine ⟨_, upd_same, ?_⟩
    have := ok.put (v := v) hkey
    have e : (Lw.put kn i (Lw.key x i r) v) i = fun k' => if k' = Lw.key x i r then some v else kn i k' := by
      funext k'
      unfold Lw.put
      by_cases d : k' = Lw.key x i r
      · rw [if_pos ⟨rfl, d⟩, if_pos d]
      · rw [if_neg (fun z => d z.2), if_neg d]
    rw [e]
    exact this
  · obtain ⟨kvs', hk', ok'⟩ := hC i hi
    refine ⟨kvs', by rw [upd_ne (adr_ne hL.nd hi hnd c)]; exact hk', ?_⟩
    have e : (Lw.put kn n (Lw.key x n r) v) i = kn i := by
      funext k'
      unfold Lw.put
      rw [if_neg fun z => c z.1]
    rw [e]
    exact ok'
end
end Wk
namespace Wk
open PySem PySem.Spec PyProof.Rows L2 Nq
/-! What a step is in a row by what was found. -/
section
variable {K : PySem.W.Frag} {σ : L2.St} {H : Hp} {ta tb te to ti : TE} {t u : TT} {x y v : V} {a b : Prop}
theorem tst_isN (h : Ev ta σ H x) : Tst (tB (tIsN ta)) σ H (x = .non) := fun R r => h _ ⟨_, rfl, r _ decide_eq_true_iff⟩
theorem tst_notN (h : Ev ta σ H x) : Tst (tB (tNotN ta)) σ H (x ≠ .non) := fun R r => h _ ⟨_, rfl, r _ (by rw [Bool.not_eq_true', decide_eq_false_iff_not])⟩
/-- xs.append(e) -/
theorem s_app {D : Ends} {l : Addr} {xs : List V} (ho : Ev to σ H (.ref l)) (hl : H l = some (.lst xs)) (he : Ev te σ H y) (hz : xs.length ≤ 1000000) (k : D.nx σ (upd H l (.lst (xs ++ [y])))) :
    tDrop (tBM K "list" rAppend to (tCons te tNil)) D σ H := ho _ ⟨.inl ⟨rfl, _, SqL.of hl⟩, he _ ⟨l, xs, y, rfl, rfl, hl, szl hz, k⟩⟩
end
def sp_Lanes_said_of (P : Program) (w : World) (K : PySem.W.Frag) (A : Adr) : Sp := fun vs H Q _ => ∃ (L : LD) (x : S) (kn : Lw.Kn) (n r : Nat) (t : Sf79.Step), vs = [.ref L.l, .int n, .int r] ∧ LS A H L x ∧ LC H L kn ∧ Lw.Ok x ∧ x.steps[n]? = some t ∧
  ∀ p H', Same H H' → Tup2 H' p (Lw.askOf x t (fun q => Lw.fnd x kn q r)) → Q (.ref p) H'
section
variable {P : Program} {w : World} {K : PySem.W.Frag} {mg : Str → Option Value} {base : Heap} {A : Adr}
theorem nv_append {l : List Nat} {v : Nat} : nv l ++ [.int (v : Int)] = nv (l ++ [v]) := by
  unfold nv
  rw [List.map_append]
  rfl
theorem kind_given {t : Sf79.Step} : kindOf t = 2 ↔ ∃ i, t = .given i := by
  cases t <;> simp [kindOf]
abbrev s_Lanes_said_of : Stmt := inClass (top 32) 8
abbrev N_Lanes_said_of : List Str := ["self", "number", "row", "step", "values", "answer", "turn", "value"]
theorem sc_Lanes_said_of : FnScope ["self", "number", "row", "step", "values", "answer", "turn", "value"] ["self", "number", "row"] (defScope s_Lanes_said_of) := ⟨rfl, rfl, rfl, by decide +kernel, rfl, by decide +kernel, by decide +kernel⟩
theorem ok_Lanes_said_of {f : Addr} {fd : FuncData} (F : Fun K "said_of" "Lanes.said_of" s_Lanes_said_of f fd) (T : Txt K mg A) (F_said : FnG P w K mg base "said" 3 ["step", "values"] (sp_said P w K A)) (F_Lanes_found : MtG P w K mg base A.L "found" 3 ["self", "number", "row"] (sp_Lanes_found P w K A)) : FnOk P w K mg base CX0 4 f fd ["self", "number", "row"] (sp_Lanes_said_of P w K A) := by
  refine F.ok sc_Lanes_said_of (fun vs H Q E h => ?_) (fun cdv B outer s H vs Q E hr h => ?_)
  · obtain ⟨L, x, kn, n, r, t, rfl, _⟩ := h
    rfl
  obtain ⟨L, x, kn, n, r, t, rfl, hL, hC, O, ht, q⟩ := h
  refine ⟨_, (pss_cons (ps_set (i := 3) sc_Lanes_said_of.nd rfl (Or.inl rfl) (pe_ix ix_list (pe_fld (pv 0) rfl) (pv 1) (fun _ _ => rfl))) (pss_cons (ps_if (pt_cmpR op_eq (pe_fld (pv 3) rfl) (pe_gi T.given rfl) (nomark _)) (pss_one (ps_ret (pe_tup (pa_cons (pe_gi T.is_ rfl) (pa_cons (pe_ix ix_list (pe_fld (pv 0) rfl) (pe_fld (pv 3) rfl) (fun _ _ => rfl)) pa_nil))))) pss_nil) (pss_cons (ps_set (i := 4) sc_Lanes_said_of.nd rfl (Or.inl rfl) (pe_lst pa_nil)) (pss_cons (ps_set (i := 5) sc_Lanes_said_of.nd rfl (Or.inl rfl) (pe_fn F_said (hr.mono (by decide)) rfl (pa_cons (pv 3) (pa_cons (pv 4) pa_nil)))) (pss_cons (ps_for PassesOwn.never rfl (pi_range1 rfl T.b_range (pa_cons (pe_callB call_len_seq rfl T.b_len PySem.boot_len (pa_cons (pe_fld (pv 3) rfl) pa_nil)) pa_nil)) (pg_name (i := 6) sc_Lanes_said_of.nd rfl (Or.inl rfl)) (pss_one (ps_if (pt_cmpR op_eq (pe_ix ix_tup (pv 5) pe_int (fun _ _ => rfl)) (pe_gi T.asks rfl) (nomark _)) (pss_cons (ps_set (i := 7) sc_Lanes_said_of.nd rfl (Or.inl rfl) (pe_mt F_Lanes_found (hr.mono (by decide)) (pv 0) (pa_cons (pe_ix ix_list (pe_fld (pv 3) rfl) (pe_ix ix_tup (pv 5) pe_int (fun _ _ => rfl)) (fun _ _ => rfl)) (pa_cons (pv 2) pa_nil)))) (pss_cons (ps_if (pt_cmp (pc_isN (pv 7))) (pss_one (ps_ret (pv 5))) pss_nil) (pss_cons (ps_expr (pe_bm PySem.F.plainAttrs_list PySem.F.slot_list_append PySem.F.type_list_append mt_append (pv 4) (pa_cons (pv 7) pa_nil))) (pss_one (ps_set (i := 5) sc_Lanes_said_of.nd rfl (Or.inl rfl) (pe_fn F_said (hr.mono (by decide)) rfl (pa_cons (pv 3) (pa_cons (pv 4) pa_nil)))))))) pss_nil))) (pss_one (ps_ret (pv 5)))))))), ?_⟩
  have hn : n < x.steps.length := (List.getElem?_eq_some_iff.mp ht).1
  have ok := O.oks n t ht
  have few := Lw.parts_few ok
  have s0 := hL.st n t ht
  obtain ⟨dx, hx⟩ := s0.ob
  refine s_set (ev_step T hL hn (ev_var rfl) (ev_var rfl)) ?_
  have fk : ∀ {H' σ}, Same H H' → σ[3]? = some (some (V.ref (adr L.ss n))) → ∀ {f : Str} {v : V}, NoAttr K A.S f → (stF t (adr L.ps n) (Lw.mask x.steps n)).lookup f = some v → Ev (tFld K (tVar 3) f) σ H' v := fun s1 h _ _ hn hl => ev_fld (ev_var h) (s1 _ _ hx) T.cS hn hl
  refine s_if1 (tst_iff (tst_eq (fk (Same.refl H) rfl (T.nS _ (by simp)) fS_kind) ev_c rfl) ((int_lit 2 rfl).trans kind_given)) (fun c => ?_) fun c => ?_
  · obtain ⟨i, rfl⟩ := c
    obtain ⟨gv, hg, gl, gi⟩ := hL.ga
    have hi : i < 64 := ok
    refine s_tup2 ev_c (ev_ixL (ev_fld (ev_var rfl) hL.ob T.cL (T.nL _ (by simp)) fL_givens) (fk (Same.refl H) rfl (T.nS _ (by simp)) fS_number) (SqL.of hg) (v := .int (x.given i : Nat)) (atI_nat (j := i) (nv_get ?_))) (ret_Q q (i := 0) rfl)
    rw [List.getElem?_eq_getElem (by omega)]
    have := gi i hi
    rw [List.getD_eq_getElem?_getD, List.getElem?_eq_getElem (by omega)] at this
    exact congrArg some this
  -- values = []
  refine ⟨(by show 0 ≤ sizeLine; decide), fun wA hw => ?_⟩
  have kg : kindOf t ≠ 2 := fun z => c (kind_given.mp z)
  -- answer = said(step, values)
  refine e_call (eva_cons (ev_var rfl) (eva_cons (ev_var rfl) eva_nil)) ⟨_, _, t, _, s0.keep (Keep.of (same_new hw)), kg, wA, [], rfl, upd_same, Nat.zero_le _, fun p H1 s1 h1 => ?_⟩
  have s1' : Same H H1 := (same_new hw).trans s1
  have w1 : H1 wA = some (.lst (nv [])) := s1 _ _ upd_same
  -- the loop
  generalize hf : (fun p => Lw.fnd x kn p r) = f at q
  have fin : ∀ p H', Same H H' → Tup2 H' p (Lw.ask t f t.parts.length []) → Q (.ref p) H' := fun p H' s' h' => q p H' s' (by
    cases t with
    | given i => exact absurd rfl kg
    | _ => exact h')
  refine fk s1' rfl (T.nS _ (by simp)) fS_parts _ ⟨_, _, rfl, .inl (SqL.of (s1' _ _ s0.pa)), _, rfl, (by rw [nv_len]; omega), (by rw [nv_len]; omega), ?_⟩
  rw [nv_len]
  refine for_it (n := t.parts.length) walk_range (fun i σ H' => ∃ (vs : List Nat) (p : Addr) (tv vv : Option V), σ = [some (.ref L.l), some (.int n), some (.int r), some (.ref (adr L.ss n)), some (.ref wA), some (.ref p), tv, vv] ∧
    Same H H' ∧ H' wA = some (.lst (nv vs)) ∧ Tup2 H' p (Lw.sd t vs) ∧ vs.length ≤ i ∧ Lw.ask t f (t.parts.length - i) vs = Lw.ask t f t.parts.length [] ∧ Lw.RI t vs)
    ⟨[], p, none, none, rfl, s1', w1, h1, Nat.le_refl _, rfl, Lw.RI.start ok⟩ (fun _ _ _ _ _ => trivial) ?_ ?_
  · rintro i v σ H' H'' hi ⟨vs, p, tv, vv, rfl, s2, w2, h2, hl, ha, ri⟩ ⟨rfl, rfl⟩
    have ek : t.parts.length - i = (t.parts.length - (i + 1)) + 1 := by omega
    rw [ek] at ha
    have an : ∀ {σ : L2.St}, σ[5]? = some (some (V.ref p)) → Ev (tOp (rIxT K) (tVar 5) (tC (.int 0))) σ H'' (.int ((Lw.sd t vs).1 : Nat)) := fun h => ev_ixT (ev_var h) ev_c (SqT.of h2) (atI_nat (j := 0) rfl)
    have an1 : ∀ {σ : L2.St}, σ[5]? = some (some (V.ref p)) → Ev (tOp (rIxT K) (tVar 5) (tC (.int 1))) σ H'' (.int ((Lw.sd t vs).2 : Nat)) := fun h => ev_ixT (ev_var h) ev_c (SqT.of h2) (atI_nat (j := 1) rfl)
    refine s_if1 (tst_iff (tst_eq (an rfl) ev_c rfl) (int_lit 1 rfl)) (fun c1 => ?_) fun c1 => ?_
    · have hi2 := ri.range ok c1
      have hp : (t.parts.getD (Lw.sd t vs).2 0) < x.steps.length := Nat.lt_trans (O.wf n t ht _ (Lw.getD_mem hi2)) hn
      have gp : t.parts[(Lw.sd t vs).2]? = some (t.parts.getD (Lw.sd t vs).2 0) := by
        rw [List.getD_eq_getElem?_getD, List.getElem?_eq_getElem hi2]
        rfl
      have L2 := hL.same s2
      have C2 := hC.same s2
      -- value = self.found(step.parts[answer[1]], row)
      refine e_meth (ev_var rfl) L2.ob fL_m_found (eva_cons (ev_ixL (fk s2 rfl (T.nS _ (by simp)) fS_parts) (an1 rfl) (SqL.of (s2 _ _ s0.pa)) (atI_nat (nv_get gp))) (eva_cons (ev_var rfl) eva_nil)) ⟨L, x, kn, _, r, rfl, L2, C2, hp, ?_⟩
      have ef : Lw.fnd x kn (t.parts.getD (Lw.sd t vs).2 0) r = f (t.parts.getD (Lw.sd t vs).2 0) := by rw [← hf]
      rw [ef]
      refine s_if1 (tst_iff (tst_isN (ev_var rfl)) ov_non) (fun c2 => ?_) fun c2 => ?_
      · refine s_ret (ev_var rfl) (fin p _ s2 ?_)
        have e1 : Lw.sd t vs = (1, (Lw.sd t vs).2) := Prod.ext c1 rfl
        rw [← ha, Lw.ask_none e1 c2, ← e1]
        exact h2
      · obtain ⟨u, hu⟩ := Option.ne_none_iff_exists'.mp c2
        rw [hu]
        refine s_app (ev_var rfl) w2 (ev_var rfl) (by rw [nv_len]; omega) ?_
        have s3 : Same H (upd H'' wA (.lst (nv vs ++ [.int (u : Int)]))) := same_mut s2 hw
        refine e_call (eva_cons (ev_var rfl) (eva_cons (ev_var rfl) eva_nil)) ⟨_, _, t, _, s0.keep (Keep.of s3), kg, wA, vs ++ [u], rfl, (by rw [upd_same]; exact congrArg (fun z => some (HO.lst z)) nv_append), (by rw [List.length_append, List.length_singleton]; omega), fun p' H3 s4 h4 => ?_⟩
        refine ⟨vs ++ [u], p', some (.int (0 + (i : Int))), some (.int u), rfl, s3.trans s4, s4 _ _ (by rw [upd_same]; exact congrArg (fun z => some (HO.lst z)) nv_append), h4, by rw [List.length_append, List.length_singleton]; omega, ?_, ri.more ok c1⟩
        rw [← ha, Lw.ask_some (Prod.ext c1 rfl) hu]
    · refine ⟨vs, p, some (.int (0 + (i : Int))), vv, rfl, s2, w2, h2, by omega, ?_, ri⟩
      rw [← ha, Lw.ask_done c1, Lw.ask_done c1]
  · rintro σ H' ⟨vs, p, tv, vv, rfl, s2, w2, h2, hl, ha, ri⟩
    rw [Nat.sub_self] at ha
    refine s_ret (ev_var rfl) (fin p _ s2 ?_)
    rw [← ha]
    exact h2
end
end Wk
namespace Wk
open PySem PySem.Spec PyProof.Rows L2 Nq
/-! A step's value in a row. -/
section
variable {K : PySem.W.Frag} {σ : L2.St} {H : Hp} {ta tb te to ti td ty : TE} {t u : TT} {x y v : V} {a b : Prop}
theorem tst_din {d : Addr} {kvs : List (Key × V)} {k : Nat} (hy : Ev ty σ H (.int k)) (hd : Ev td σ H (.ref d)) (h : H d = some (.dK kvs)) : Tst (tB (tDIn ty td)) σ H ((valV kvs (Sum.inl (k : Int))).isSome = true) :=
  fun R r => hy _ (hd _ ⟨d, _, rfl, DGet.k (k := Sum.inl (k : Int)) h, _, rfl, r _ Iff.rfl⟩)
theorem s_pop {D : Ends} {l : Addr} {xs : List V} (ho : Ev to σ H (.ref l)) (hl : H l = some (.lst (xs ++ [y]))) (k : D.nx σ (upd H l (.lst xs))) : tDrop (tBM0 K "list" rPop to) D σ H :=
  ho _ ⟨.inl ⟨rfl, _, SqL.of hl⟩, l, xs ++ [y], y, rfl, rfl, hl, by simp, by rw [List.dropLast_concat]; exact k⟩
theorem s_dput {D : Ends} {d : Addr} {kvs : List (Key × V)} {k : Nat} (hv : Ev te σ H v) (hd : Ev td σ H (.ref d)) (hy : Ev ty σ H (.int k)) (h : H d = some (.dK kvs)) (hz : kvs.length ≤ 1000000) (q : D.nx σ (upd H d (.dK (putK kvs (Sum.inl (k : Int)) v)))) :
    sDPut td ty te D σ H := hv _ (hd _ (hy _ ⟨d, _, rfl, DPut.k (k := Sum.inl (k : Int)) h (szl hz), q⟩))
/-- a, b = a pair -/
theorem g_pair {i j : Nat} {p : Addr} {x y : V} {Q : L2.St → Hp → Prop} (h : H p = some (.tup [x, y])) (q : Q ((σ.set i (some x)).set j (some y)) H) : gTup K 2 (gCons (gName i) (gCons (gName j) gNil)) (.ref p) σ H Q :=
  ⟨p, _, rfl, SqT.of h, rfl, _, _, rfl, _, _, rfl, rfl, q⟩
end
/-- a dict's keys, some numbers below B -/
def UkOk (B : Nat) (kvs : List (Key × V)) (un : Nat → Bool) : Prop := (kvs.map (·.1)).Nodup ∧ (∀ e ∈ kvs, ∃ k : Nat, k < B ∧ e.1 = Sum.inl (k : Int)) ∧ ∀ k : Nat, (valV kvs (Sum.inl (k : Int))).isSome = un k
theorem UkOk.nil (B : Nat) : UkOk B [] fun _ => false := ⟨List.nodup_nil, fun _ h => (nomatch h), fun _ => rfl⟩
theorem UkOk.len {B : Nat} {kvs : List (Key × V)} {f : Nat → Bool} (h : UkOk B kvs f) : kvs.length ≤ B := by
  obtain ⟨h1, h2, _⟩ := h
  have e : ∀ l : List (Key × V), (l.map (·.1)).Nodup → (∀ e ∈ l, ∃ k : Nat, k < B ∧ e.1 = Sum.inl (k : Int)) → ∃ ks : List Nat, ks.length = l.length ∧ ks.Nodup ∧ (∀ a ∈ ks, a < B) ∧ ∀ a ∈ ks, (Sum.inl (a : Int) : Key) ∈ l.map (·.1) := by
    intro l
    induction l with
    | nil => intro _ _; exact ⟨[], rfl, List.nodup_nil, fun _ h => (nomatch h), fun _ h => (nomatch h)⟩
    | cons p r ih =>
      intro hn hb
      rw [List.map_cons, List.nodup_cons] at hn
      obtain ⟨ks, e1, e2, e3, e4⟩ := ih hn.2 fun e he => hb e (List.mem_cons_of_mem _ he)
      obtain ⟨k, hk, ek⟩ := hb p List.mem_cons_self
      refine ⟨k :: ks, by rw [List.length_cons, List.length_cons, e1], List.nodup_cons.mpr ⟨fun hm => hn.1 (ek ▸ e4 k hm), e2⟩, fun a ha => ?_, fun a ha => ?_⟩
      · rcases List.mem_cons.mp ha with rfl | ha
        · exact hk
        · exact e3 a ha
      · rcases List.mem_cons.mp ha with rfl | ha
        · rw [List.map_cons, ek]; exact List.mem_cons_self
        · exact List.mem_cons_of_mem _ (e4 a ha)
  obtain ⟨ks, e1, e2, e3, _⟩ := e kvs h1 h2
  rw [← e1]
  exact Lw.nodup_bound B ks e2 e3
theorem UkOk.put {B : Nat} {kvs : List (Key × V)} {f : Nat → Bool} (h : UkOk B kvs f) {k : Nat} {v : V} (hk : k < B) (hf : f k = false) : UkOk B (putK kvs (Sum.inl (k : Int)) v) fun s => decide (s = k) || f s := by
  obtain ⟨h1, h2, h3⟩ := h
  have hn : valV kvs (Sum.inl (k : Int)) = none := by
    have := h3 k
    rw [hf] at this
    exact Option.isNone_iff_eq_none.mp (by simpa using this)
  refine ⟨?_, ?_, fun s => ?_⟩
  · rw [putK_new _ hn, List.map_append, List.nodup_append]
    refine ⟨h1, List.nodup_cons.mpr ⟨List.not_mem_nil, List.nodup_nil⟩, fun a ha b hb e => ?_⟩
    have hb : b = Sum.inl (k : Int) := by simpa using hb
    subst hb
    exact valV_not hn (e ▸ ha)
  · intro e he
    rw [putK_new _ hn] at he
    rcases List.mem_append.mp he with he | he
    · exact h2 e he
    · have : e = (Sum.inl (k : Int), v) := by simpa using he
      rw [this]
      exact ⟨k, hk, rfl⟩
  · rw [valV_put]
    show _ = (decide (s = k) || f s)
    by_cases c : s = k
    · subst c
      rw [if_pos rfl, decide_eq_true rfl]
      rfl
    · rw [if_neg (fun z => c (by have := Sum.inl.inj z; omega)), decide_eq_false c, Bool.false_or, h3]
def sp_Lanes_value (P : Program) (w : World) (K : PySem.W.Frag) (A : Adr) : Sp := fun vs H Q _ => ∃ (L : LD) (x : S) (kn : Lw.Kn) (n r : Nat), vs = [.ref L.l, .int n, .int r] ∧ LS A H L x ∧ LC H L kn ∧ Lw.Ok x ∧ Lw.Good x kn ∧ n < x.steps.length ∧ r ≤ 1024 ∧
  ∀ H' kn', Keep H H' → LC H' L kn' → Lw.Good x kn' → Lw.Le kn kn' → (x.known n r = none → Lw.Settled x kn' r n) → Q (ov (x.known n r)) H'
/-- what holds between two turns -/
structure VI (A : Adr) (H0 : Hp) (L : LD) (x : S) (r n : Nat) (kn0 : Lw.Kn) (w u : Addr) (st : List Nat) (un : Nat → Bool) (kn : Lw.Kn) (H : Hp) : Prop where
  keep : Keep H0 H
  lc : LC H L kn
  good : Lw.Good x kn
  le : Lw.Le kn0 kn
  hw : H w = some (.lst (nv st))
  hu : ∃ kvs, H u = some (.dK kvs) ∧ UkOk (n + 1) kvs un
  se : ∀ s, un s = true → Lw.Settled x kn r s
  dec : st.Pairwise fun a b => b < a
  top : ∀ s ∈ st, s ≤ n
  root : n ∈ st ∨ Lw.fnd x kn n r ≠ none ∨ un n = true
def resP (x : S) (kn : Lw.Kn) (r : Nat) (un : Nat → Bool) (s : Nat) : Prop := Lw.fnd x kn s r ≠ none ∨ un s = true
instance (x : S) (kn : Lw.Kn) (r : Nat) (un : Nat → Bool) : DecidablePred (resP x kn r un) := fun s => by
  unfold resP
  exact inferInstance
def mu (x : S) (r n : Nat) (st : List Nat) (un : Nat → Bool) (kn : Lw.Kn) : Nat := Lw.meas (Lw.wt (resP x kn r un) st) (n + 1)
theorem mu_pop {x : S} {r n last : Nat} {st : List Nat} {un : Nat → Bool} {kn : Lw.Kn} (hd : (st ++ [last]).Pairwise fun a b => b < a) (hl : last ≤ n) (hr : resP x kn r un last) : mu x r n st un kn < mu x r n (st ++ [last]) un kn := by
  have nm : last ∉ st := fun h => absurd ((List.pairwise_append.mp hd).2.2 last h last List.mem_cons_self) (Nat.lt_irrefl _)
  refine Lw.meas_lt (a := last) (fun s _ hs => ?_) (by omega) ?_
  · unfold Lw.wt
    have e : s ∈ st ++ [last] ↔ s ∈ st := by simp [hs]
    simp only [e]
  · unfold Lw.wt
    rw [if_pos hr, if_neg nm, if_pos hr, if_pos (by simp)]
    decide
theorem mu_res {x : S} {r n last : Nat} {st : List Nat} {un un' : Nat → Bool} {kn kn' : Lw.Kn} (hm : last ∈ st) (hl : last ≤ n) (h0 : ¬ resP x kn r un last) (h1 : resP x kn' r un' last) (he : ∀ s, s ≠ last → (resP x kn' r un' s ↔ resP x kn r un s)) :
    mu x r n st un' kn' < mu x r n st un kn := by
  refine Lw.meas_lt (a := last) (fun s _ hs => ?_) (by omega) ?_
  · unfold Lw.wt
    simp only [he s hs]
  · unfold Lw.wt
    rw [if_pos h1, if_pos hm, if_neg h0, if_pos hm]
    decide
theorem mu_push {x : S} {r n p : Nat} {st : List Nat} {un : Nat → Bool} {kn : Lw.Kn} (hp : p ≤ n) (hm : p ∉ st) (h0 : ¬ resP x kn r un p) : mu x r n (st ++ [p]) un kn < mu x r n st un kn := by
  refine Lw.meas_lt (a := p) (fun s _ hs => ?_) (by omega) ?_
  · unfold Lw.wt
    have e : s ∈ st ++ [p] ↔ s ∈ st := by simp [hs]
    simp only [e]
  · unfold Lw.wt
    rw [if_neg h0, if_pos (by simp), if_neg h0, if_neg hm]
    decide
section
variable {P : Program} {w : World} {K : PySem.W.Frag} {mg : Str → Option Value} {base : Heap} {A : Adr}
theorem ev_found {H : Hp} {L : LD} {x : S} {kn : Lw.Kn} {σ : L2.St} {to : TE} {t : TA} {n r : Nat} (hL : LS A H L x) (hC : LC H L kn) (hn : n < x.steps.length) (ho : Ev to σ H (.ref L.l)) (ha : EvA t σ H [.int n, .int r]) :
    Ev (tMeth A.L "found" (sp_Lanes_found P w K A) [] E0 to t) σ H (ov (Lw.fnd x kn n r)) := fun Q q => e_meth ho hL.ob fL_m_found ha ⟨L, x, kn, n, r, rfl, hL, hC, hn, q⟩
/-- self.steps[number].parts -/
theorem ev_parts {H : Hp} {L : LD} {x : S} {σ : L2.St} {tn : TE} {n : Nat} {t : Sf79.Step} (T : Txt K mg A) (h : LS A H L x) (ht : x.steps[n]? = some t) {to : TE} (ho : Ev to σ H (.ref L.l)) (hi : Ev tn σ H (.int n)) :
    Ev (tFld K (tOp (rIxL K) (tFld K to "steps") tn) "parts") σ H (.ref (adr L.ps n)) := by
  obtain ⟨dx, hx⟩ := (h.st n t ht).ob
  exact ev_fld (ev_step T h (List.getElem?_eq_some_iff.mp ht).1 ho hi) hx T.cS (T.nS _ (by simp)) fS_parts
abbrev s_Lanes_value : Stmt := inClass (top 32) 9
abbrev N_Lanes_value : List Str := ["self", "number", "row", "waiting", "unknown", "last", "word", "what"]
theorem sc_Lanes_value : FnScope ["self", "number", "row", "waiting", "unknown", "last", "word", "what"] ["self", "number", "row"] (defScope s_Lanes_value) := ⟨rfl, rfl, rfl, by decide +kernel, rfl, by decide +kernel, by decide +kernel⟩
theorem ok_Lanes_value {f : Addr} {fd : FuncData} (F : Fun K "value" "Lanes.value" s_Lanes_value f fd) (T : Txt K mg A) (F_Lanes_found : MtG P w K mg base A.L "found" 3 ["self", "number", "row"] (sp_Lanes_found P w K A)) (F_Lanes_keep : MtG P w K mg base A.L "keep" 3 ["self", "number", "row", "value"] (sp_Lanes_keep P w K A)) (F_Lanes_said_of : MtG P w K mg base A.L "said_of" 4 ["self", "number", "row"] (sp_Lanes_said_of P w K A)) : FnOk P w K mg base CX0 5 f fd ["self", "number", "row"] (sp_Lanes_value P w K A) := by
  refine F.ok sc_Lanes_value (fun vs H Q E h => ?_) (fun cdv B outer s H vs Q E hr h => ?_)
  · obtain ⟨L, x, kn, n, r, rfl, _⟩ := h
    rfl
  obtain ⟨L, x, kn, n, r, rfl, hL, hC, O, G, hn, hr1, q⟩ := h
  refine ⟨_, (pss_cons (ps_set (i := 3) sc_Lanes_value.nd rfl (Or.inl rfl) (pe_lst (pa_cons (pv 1) pa_nil))) (pss_cons (ps_set (i := 4) sc_Lanes_value.nd rfl (Or.inl rfl) pe_dnewK) (pss_cons (ps_while PassesOwn.never (pt_cmpR op_gt (pe_callB call_len_seq rfl T.b_len PySem.boot_len (pa_cons (pv 3) pa_nil)) pe_int (nomark _)) (pss_cons (ps_set (i := 5) sc_Lanes_value.nd rfl (Or.inl rfl) (pe_ix ix_list (pv 3) (pe_un un_neg pe_int) (fun _ _ => rfl))) (pss_cons (ps_if (PW.pt (pw_or (pt_cmp (pc_notN (pe_mt F_Lanes_found (hr.mono (by decide)) (pv 0) (pa_cons (pv 5) (pa_cons (pv 2) pa_nil))))) (pw_or1 (pt_cmp (pc_din (hu_of hr) (pv 5) (pv 4)))))) (pss_cons (ps_expr (pe_bm0 PySem.F.plainAttrs_list PySem.F.slot_list_pop PySem.F.type_list_pop mt_pop (pv 3))) (pss_one ps_continue)) pss_nil) (pss_cons (ps_asg (pe_mt F_Lanes_said_of (hr.mono (by decide)) (pv 0) (pa_cons (pv 5) (pa_cons (pv 2) pa_nil))) (pg_tup rfl (pgs_cons (pg_name (i := 6) sc_Lanes_value.nd rfl (Or.inl rfl)) (pgs_cons (pg_name (i := 7) sc_Lanes_value.nd rfl (Or.inl rfl)) pgs_nil)))) (pss_one (ps_if (pt_cmpR op_eq (pv 6) (pe_gi T.is_ rfl) (nomark _)) (pss_one (ps_expr (pe_mt F_Lanes_keep (hr.mono (by decide)) (pv 0) (pa_cons (pv 5) (pa_cons (pv 2) (pa_cons (pv 7) pa_nil)))))) (pss_one (ps_if (PW.pt (pw_or (pt_cmpR op_eq (pv 6) (pe_gi T.elsewhere rfl) (nomark _)) (pw_or1 (pt_cmp (pc_din (hu_of hr) (pe_ix ix_list (pe_fld (pe_ix ix_list (pe_fld (pv 0) rfl) (pv 5) (fun _ _ => rfl)) rfl) (pv 7) (fun _ _ => rfl)) (pv 4)))))) (pss_one (ps_dput (hu_of hr) (pv 4) (pv 5) pe_bl rfl)) (pss_one (ps_expr (pe_bm PySem.F.plainAttrs_list PySem.F.slot_list_append PySem.F.type_list_append mt_append (pv 3) (pa_cons (pe_ix ix_list (pe_fld (pe_ix ix_list (pe_fld (pv 0) rfl) (pv 5) (fun _ _ => rfl)) rfl) (pv 7) (fun _ _ => rfl)) pa_nil)))))))))))) (pss_one (ps_ret (pe_mt F_Lanes_found (hr.mono (by decide)) (pv 0) (pa_cons (pv 1) (pa_cons (pv 2) pa_nil)))))))), ?_⟩
  -- waiting = [number]; unknown = {}
  refine ⟨_, rfl, (by show 1 ≤ sizeLine; decide), fun wA hw => ?_⟩
  intro uA hu
  have huw : uA ≠ wA := fun z => by
    subst z
    rw [upd_same] at hu
    cases hu
  have hu0 : H uA = none := by rw [upd_ne huw] at hu; exact hu
  have d0 : ∀ i, i < L.ds.length → H (adr L.ds i) ≠ none := fun i hi => hC.some i hi
  have V0 : VI A H L x r n kn wA uA [n] (fun _ => false) kn (upd (upd H wA (.lst [.int n])) uA (.dK [])) := {
    keep := ((Keep.refl H).mut hw).mut hu0
    lc := (hC.mut d0 hw).mut d0 hu0
    good := G
    le := Lw.Le.refl kn
    hw := by rw [upd_ne (Ne.symm huw), upd_same]; rfl
    hu := ⟨[], upd_same, UkOk.nil _⟩
    se := fun _ h => (nomatch h)
    dec := List.pairwise_singleton _ _
    top := fun s hs => by rw [List.mem_singleton.mp hs]; exact Nat.le_refl _
    root := .inl List.mem_cons_self }
  refine ⟨fun m σ H' => ∃ st un kn' lv wv av, σ = [some (.ref L.l), some (.int n), some (.int r), some (.ref wA), some (.ref uA), lv, wv, av] ∧ VI A H L x r n kn wA uA st un kn' H' ∧ m = mu x r n st un kn', ⟨_, [n], _, kn, none, none, none, rfl, V0, rfl⟩, ?_⟩
  rintro m σ H' ⟨st, un, kn', lv, wv, av, rfl, VV, rfl⟩
  have L' := hL.keep VV.keep
  refine tst_gt (ev_len (ev_var rfl) (SqL.of VV.hw)) ev_c _ fun c e => ?_
  rw [nv_len] at e
  by_cases c0 : c = true
  rotate_left
  · -- the end
    rw [if_neg c0]
    have hs : st = [] := List.eq_nil_of_length_eq_zero (by
      have : ¬ (0 : Int) < (st.length : Int) := fun z => c0 (e.mpr z)
      omega)
    subst hs
    have rt := VV.root.resolve_left (fun h => nomatch h)
    have ek : Lw.fnd x kn' n r = x.known n r := by
      rcases rt with h | h
      · obtain ⟨v, hv⟩ := Option.ne_none_iff_exists'.mp h
        rw [hv, VV.good.fnd O.wf hv]
      · rw [(VV.se n h).known]
        exact VV.good.non O.wf (VV.se n h).known
    refine s_ret (ev_found L' VV.lc hn (ev_var rfl) (eva_cons (ev_var rfl) (eva_cons (ev_var rfl) eva_nil))) ?_
    rw [ek]
    refine q H' kn' VV.keep VV.lc VV.good VV.le fun hk => ?_
    rcases rt with h | h
    · rw [ek] at h
      exact absurd hk h
    · exact VV.se n h
  rw [if_pos c0]
  obtain ⟨st', last, rfl⟩ : ∃ st' last, st = st' ++ [last] := by
    have : 0 < st.length := by have := e.mp c0; omega
    exact ⟨st.dropLast, st.getLast (List.ne_nil_of_length_pos this), (List.dropLast_concat_getLast _).symm⟩
  have hln : last ≤ n := VV.top last (by simp)
  have hls : last < x.steps.length := Nat.lt_of_le_of_lt hln hn
  refine ⟨fun σ' H2 => ∃ m', m' < mu x r n (st' ++ [last]) un kn' ∧ ∃ st un kn' lv wv av, σ' = [some (.ref L.l), some (.int n), some (.int r), some (.ref wA), some (.ref uA), lv, wv, av] ∧ VI A H L x r n kn wA uA st un kn' H2 ∧ m' = mu x r n st un kn', fun σ' H2 h => h, ?_⟩
  -- last = waiting[-1]
  refine s_set (ev_ixL (ev_var rfl) (ev_neg ev_c) (SqL.of VV.hw) (nv_last (v := last) (by simp))) ?_
  obtain ⟨kvs, hu', uk⟩ := VV.hu
  refine s_if1 (a := resP x kn' r un last) (tst_or (tst_iff (tst_notN (ev_found L' VV.lc hls (ev_var rfl) (eva_cons (ev_var rfl) (eva_cons (ev_var rfl) eva_nil)))) (not_congr ov_non)) fun _ => tst_iff (tst_din (ev_var rfl) (ev_var rfl) hu') (by rw [uk.2.2])) (fun cr => ?_) fun cr => ?_
  · -- known, or known to be unknown
    refine s_pop (xs := nv st') (y := .int last) (ev_var rfl) (by rw [VV.hw]; exact congrArg (fun z => some (HO.lst z)) nv_append.symm) ?_
    refine ⟨_, mu_pop VV.dec hln cr, st', un, kn', some (.int last), wv, av, rfl, ?_, rfl⟩
    exact {
      keep := VV.keep.mut hw
      lc := VV.lc.mut d0 hw
      good := VV.good
      le := VV.le
      hw := upd_same
      hu := ⟨kvs, by rw [upd_ne huw]; exact hu', uk⟩
      se := VV.se
      dec := (List.pairwise_append.mp VV.dec).1
      top := fun s hs => VV.top s (List.mem_append_left _ hs)
      root := by
        rcases VV.root with h | h
        · rcases List.mem_append.mp h with h | h
          · exact .inl h
          · rw [List.mem_singleton.mp h]; exact .inr cr
        · exact .inr h }
  have cf : Lw.fnd x kn' last r = none := Decidable.not_not.mp fun h => cr (.inl h)
  have cu : un last = false := eq_false_of_ne_true fun h => cr (.inr h)
  obtain ⟨t, ht⟩ := step_there hls
  -- word, what = self.said_of(last, row)
  refine e_meth (ev_var rfl) L'.ob fL_m_said_of (eva_cons (ev_var rfl) (eva_cons (ev_var rfl) eva_nil)) ⟨L, x, kn', last, r, t, rfl, L', VV.lc, O, ht, fun p H1 s1 h1 => ?_⟩
  refine g_pair h1 ?_
  have K1 : Keep H H1 := VV.keep.trans (Keep.of s1)
  have L1 := hL.keep K1
  have C1 := VV.lc.same s1
  have w1 : H1 wA = some (.lst (nv (st' ++ [last]))) := s1 _ _ VV.hw
  have u1 : H1 uA = some (.dK kvs) := s1 _ _ hu'
  have cases3 := Lw.said_cases O VV.good ht cf
  have mu1 : ∀ {un' kn''}, resP x kn'' r un' last → (∀ s, s ≠ last → (resP x kn'' r un' s ↔ resP x kn' r un s)) → mu x r n (st' ++ [last]) un' kn'' < mu x r n (st' ++ [last]) un kn' := fun h he => mu_res (by simp) hln cr h he
  -- unknown[last] = True
  have unk : ∀ (N : L2.St → Hp → Prop) (wv av : Option V), Lw.Settled x kn' r last → (∀ H2, VI A H L x r n kn wA uA (st' ++ [last]) (fun s => decide (s = last) || un s) kn' H2 → N [some (.ref L.l), some (.int n), some (.int r), some (.ref wA), some (.ref uA), some (.int last), wv, av] H2) →
      N [some (.ref L.l), some (.int n), some (.int r), some (.ref wA), some (.ref uA), some (.int last), wv, av] (upd H1 uA (.dK (putK kvs (Sum.inl (last : Int)) (.bl true)))) := fun N wv av hse k => k _ {
    keep := K1.mut hu0
    lc := C1.mut d0 hu0
    good := VV.good
    le := VV.le
    hw := by rw [upd_ne (Ne.symm huw)]; exact w1
    hu := ⟨_, upd_same, uk.put (by omega) cu⟩
    se := fun s hs => by
      have hs : (decide (s = last) || un s) = true := hs
      by_cases c : s = last
      · rw [c]; exact hse
      · rw [decide_eq_false c, Bool.false_or] at hs; exact VV.se s hs
    dec := VV.dec
    top := VV.top
    root := VV.root.imp id fun h => h.imp id fun h => by show (decide (n = last) || un n) = true; rw [h, Bool.or_true] }
  have unk_res : ∀ s, s ≠ last → (resP x kn' r (fun s => decide (s = last) || un s) s ↔ resP x kn' r un s) := fun s hs => by
    show _ ∨ (decide (s = last) || un s) = true ↔ _
    rw [decide_eq_false hs, Bool.false_or]
    rfl
  have pt : ∀ {σ : L2.St}, σ[0]? = some (some (.ref L.l)) → σ[5]? = some (some (.int last)) → Ev (tFld K (tOp (rIxL K) (tFld K (tVar 0) "steps") (tVar 5)) "parts") σ H1 (.ref (adr L.ps last)) := fun a b => ev_parts T L1 ht (ev_var a) (ev_var b)
  refine s_if (tst_iff (tst_eq (ev_var rfl) ev_c rfl) (int_lit 0 rfl)) (fun c1 => ?_) fun c1 => ?_
  · -- it is a value
    have hk : x.known last r = some (Lw.askOf x t (fun p => Lw.fnd x kn' p r)).2 := by
      rcases cases3 with ⟨_, h⟩ | ⟨h, _⟩ | ⟨h, _⟩
      · exact h
      · rw [h] at c1; cases c1
      · rw [h] at c1; cases c1
    refine e_meth (ev_var rfl) L1.ob fL_m_keep (eva_cons (ev_var rfl) (eva_cons (ev_var rfl) (eva_cons (ev_var rfl) eva_nil))) ⟨L, x, kn', last, r, _, rfl, L1, C1, hls, hr1, fun H2 hb C2 => ?_⟩
    have hld : last < L.ds.length := by rw [hL.ld]; exact hls
    have wd : wA ≠ adr L.ds last := fun z => d0 last hld (z ▸ hw)
    have ud : uA ≠ adr L.ds last := fun z => d0 last hld (z ▸ hu0)
    have fother : ∀ s, s ≠ last → Lw.fnd x (Lw.put kn' last (Lw.key x last r) (Lw.askOf x t (fun p => Lw.fnd x kn' p r)).2) s r = Lw.fnd x kn' s r := fun s hs => by
      unfold Lw.fnd Lw.put
      rw [if_neg fun z => hs z.1]
    have flast : Lw.fnd x (Lw.put kn' last (Lw.key x last r) (Lw.askOf x t (fun p => Lw.fnd x kn' p r)).2) last r ≠ none := by
      unfold Lw.fnd Lw.put
      rw [if_pos ⟨rfl, rfl⟩]
      exact fun z => nomatch z
    refine ⟨_, mu1 (un' := un) (.inl flast) (fun s hs => by unfold resP; rw [fother s hs]), st' ++ [last], un, _, some (.int last), _, _, rfl, ?_, rfl⟩
    exact {
      keep := fun b o hb0 ho => by
        have bd : b ≠ adr L.ds last := fun z => by
          obtain ⟨kv, e1, _⟩ := hC last hld
          rw [← z, hb0] at e1
          exact ho kv (Option.some.inj e1)
        rw [hb b bd]
        exact K1 b o hb0 ho
      lc := C2
      good := VV.good.put O.wf hk
      le := VV.le.trans (Lw.le_put VV.good O.wf hk)
      hw := by rw [hb wA wd]; exact w1
      hu := ⟨kvs, by rw [hb uA ud]; exact u1, uk⟩
      se := fun s hs => (VV.se s hs).mono (VV.good.put O.wf hk) O.wf (Lw.le_put VV.good O.wf hk)
      dec := VV.dec
      top := VV.top
      root := VV.root.imp id fun h => h.imp (fun h => by
        by_cases c : n = last
        · rw [c]; exact flast
        · rw [fother n c]; exact h) id }
  rcases cases3 with ⟨h, _⟩ | ⟨h2, hse⟩ | ⟨h2, hi, hf, hse⟩
  · exact absurd h c1
  · refine s_if (tst_or (tst_iff (tst_eq (ev_var rfl) ev_c rfl) (int_lit 2 rfl)) (b := False) fun c => absurd h2 c) (fun _ => ?_) fun c => absurd (.inl h2) c
    refine s_dput ev_c (ev_var rfl) (ev_var rfl) u1 (by have := uk.len; have := O.most; omega) ?_
    exact unk _ _ _ hse fun H2 V2 => ⟨_, mu1 (.inr (by show (decide (last = last) || un last) = true; rw [decide_eq_true rfl]; rfl)) unk_res, st' ++ [last], _, kn', _, _, _, rfl, V2, rfl⟩
  · have gp : t.parts[(Lw.askOf x t (fun p => Lw.fnd x kn' p r)).2]? = some (t.parts.getD (Lw.askOf x t (fun p => Lw.fnd x kn' p r)).2 0) := by
      rw [List.getD_eq_getElem?_getD, List.getElem?_eq_getElem hi]
      rfl
    generalize hp : t.parts.getD (Lw.askOf x t (fun p => Lw.fnd x kn' p r)).2 0 = part at gp hf hse
    have plt : part < last := O.wf last t ht part (List.mem_of_getElem? gp)
    have ep : ∀ {σ : L2.St}, σ[0]? = some (some (.ref L.l)) → σ[5]? = some (some (.int last)) → σ[7]? = some (some (.int ((Lw.askOf x t (fun p => Lw.fnd x kn' p r)).2 : Nat))) →
        Ev (tOp (rIxL K) (tFld K (tOp (rIxL K) (tFld K (tVar 0) "steps") (tVar 5)) "parts") (tVar 7)) σ H1 (.int part) := fun a b c => ev_ixL (pt a b) (ev_var c) (SqL.of (L1.st last t ht).pa) (atI_nat (nv_get gp))
    refine s_if (a := un part = true) (tst_iff (tst_or (tst_iff (tst_eq (ev_var rfl) ev_c rfl) (int_lit 2 rfl)) fun _ => tst_iff (tst_din (ep rfl rfl rfl) (ev_var rfl) u1) (by rw [uk.2.2])) (by rw [h2]; exact ⟨fun z => z.resolve_left (by decide), .inr⟩)) (fun c => ?_) fun c => ?_
    · refine s_dput ev_c (ev_var rfl) (ev_var rfl) u1 (by have := uk.len; have := O.most; omega) ?_
      exact unk _ _ _ (hse (VV.se part c)) fun H2 V2 => ⟨_, mu1 (.inr (by show (decide (last = last) || un last) = true; rw [decide_eq_true rfl]; rfl)) unk_res, st' ++ [last], _, kn', _, _, _, rfl, V2, rfl⟩
    · refine s_app (ev_var rfl) w1 (ep rfl rfl rfl) (by
        rw [nv_len]
        have := Lw.nodup_bound (n + 1) (st' ++ [last]) (VV.dec.imp fun h => Ne.symm (Nat.ne_of_lt h)) (fun a ha => Nat.lt_succ_of_le (VV.top a ha))
        have := O.most
        omega) ?_
      have below : ∀ s ∈ st' ++ [last], part < s := fun s hs => by
        rcases List.mem_append.mp hs with hs | hs
        · exact Nat.lt_trans plt ((List.pairwise_append.mp VV.dec).2.2 s hs last List.mem_cons_self)
        · rw [List.mem_singleton.mp hs]; exact plt
      refine ⟨_, mu_push (p := part) (st := st' ++ [last]) (un := un) (kn := kn') (by omega) (fun h => Nat.lt_irrefl _ (below part h)) (fun h => h.elim (fun z => z hf) (fun z => c z)), st' ++ [last] ++ [part], un, kn', _, _, _, rfl, ?_, rfl⟩
      exact {
        keep := K1.mut hw
        lc := C1.mut d0 hw
        good := VV.good
        le := VV.le
        hw := by rw [upd_same]; exact congrArg (fun z => some (HO.lst z)) nv_append
        hu := ⟨kvs, by rw [upd_ne huw]; exact u1, uk⟩
        se := VV.se
        dec := List.pairwise_append.mpr ⟨VV.dec, List.pairwise_singleton _ _, fun a ha b hb => by rw [List.mem_singleton.mp hb]; exact below a ha⟩
        top := fun s hs => by
          rcases List.mem_append.mp hs with hs | hs
          · exact VV.top s hs
          · rw [List.mem_singleton.mp hs]; omega
        root := VV.root.imp (fun h => List.mem_append_left _ h) id }
end
end Wk
namespace Wk
open PySem PySem.Spec PyProof.Rows L2 Nq
/-! What is needed next. -/
/-- behind a search: what was found since -/
structure After (A : Adr) (H0 : Hp) (L : LD) (x : S) (kn0 : Lw.Kn) (kn : Lw.Kn) (H : Hp) : Prop where
  keep : Keep H0 H
  lc : LC H L kn
  good : Lw.Good x kn
  le : Lw.Le kn0 kn
theorem After.start {A : Adr} {H : Hp} {L : LD} {x : S} {kn : Lw.Kn} (h : LC H L kn) (g : Lw.Good x kn) : After A H L x kn kn H := ⟨Keep.refl H, h, g, Lw.Le.refl kn⟩
theorem After.trans {A : Adr} {H0 H1 H2 : Hp} {L : LD} {x : S} {k0 k1 k2 : Lw.Kn} (a : After A H0 L x k0 k1 H1) (b : After A H1 L x k1 k2 H2) : After A H0 L x k0 k2 H2 := ⟨a.keep.trans b.keep, b.lc, b.good, a.le.trans b.le⟩
theorem After.same {A : Adr} {H0 H1 H2 : Hp} {L : LD} {x : S} {k0 k1 : Lw.Kn} (a : After A H0 L x k0 k1 H1) (s : Same H1 H2) : After A H0 L x k0 k1 H2 := ⟨a.keep.trans (Keep.of s), a.lc.same s, a.good, a.le⟩
theorem After.mut {A : Adr} {H0 H1 : Hp} {L : LD} {x : S} {k0 k1 : Lw.Kn} {d : Addr} {o : HO} (a : After A H0 L x k0 k1 H1) (d0 : ∀ i, i < L.ds.length → H0 (adr L.ds i) ≠ none) (h : H0 d = none) : After A H0 L x k0 k1 (upd H1 d o) := ⟨a.keep.mut h, a.lc.mut d0 h, a.good, a.le⟩
def sp_Lanes_unknown_rows (P : Program) (w : World) (K : PySem.W.Frag) (A : Adr) : Sp := fun vs H Q _ => ∃ (L : LD) (x : S) (kn : Lw.Kn) (n : Nat) (a : Addr) (rows : List Nat), vs = [.ref L.l, .int n, .ref a] ∧ LS A H L x ∧ LC H L kn ∧ Lw.Ok x ∧ Lw.Good x kn ∧ n < x.steps.length ∧
  H a = some (.lst (nv rows)) ∧ (∀ l ∈ rows, l ≤ 1024) ∧ rows.length ≤ 2000 ∧
  ∀ p H' kn', After A H L x kn kn' H' → H' p = some (.lst (nv (Lw.opn x n rows))) → (∀ l ∈ Lw.opn x n rows, Lw.Settled x kn' l n) → Q (.ref p) H'
def sp_Lanes_stopped_at (P : Program) (w : World) (K : PySem.W.Frag) (A : Adr) : Sp := fun vs H Q _ => ∃ (L : LD) (x : S) (kn : Lw.Kn) (n r : Nat) (t : Sf79.Step), vs = [.ref L.l, .int n, .int r] ∧ LS A H L x ∧ LC H L kn ∧ Lw.Ok x ∧ Lw.Good x kn ∧ x.steps[n]? = some t ∧ r ≤ 1024 ∧ Lw.Settled x kn r n ∧
  ∀ H' kn', After A H L x kn kn' H' → (Lw.stopS x r t < t.parts.length → Lw.Settled x kn' r (t.parts.getD (Lw.stopS x r t) 0)) → Q (.int (Lw.stopS x r t : Nat)) H'
/-- the part that is needed of open rows, or none of the parts is -/
def PN (x : S) (n : Nat) (rows : List Nat) (kn : Lw.Kn) (H : Hp) (v : V) : Prop := (v = .non ∧ Lw.nd x (n + 1) n rows = some (n, rows)) ∨
  ∃ p b part rows', v = .ref p ∧ H p = some (.tup [.int (part : Nat), .ref b]) ∧ H b = some (.lst (nv rows')) ∧ part < n ∧ Lw.Opn x kn part rows' ∧ Lw.nd x (n + 1) n rows = Lw.nd x (part + 1) part rows'
/-- what is needed next: nothing, or a step and rows -/
def NR (x : S) (r : Option (Nat × List Nat)) (kn : Lw.Kn) (H : Hp) (v : V) : Prop := (v = .non ∧ r = none) ∨
  ∃ p b s l, v = .ref p ∧ H p = some (.tup [.int (s : Nat), .ref b]) ∧ H b = some (.lst (nv l)) ∧ Lw.Opn x kn s l ∧ r = some (s, l)
def sp_Lanes_part_needed (P : Program) (w : World) (K : PySem.W.Frag) (A : Adr) : Sp := fun vs H Q _ => ∃ (L : LD) (x : S) (kn : Lw.Kn) (n : Nat) (a : Addr) (rows : List Nat), vs = [.ref L.l, .int n, .ref a] ∧ LS A H L x ∧ LC H L kn ∧ Lw.Ok x ∧ Lw.Good x kn ∧
  H a = some (.lst (nv rows)) ∧ Lw.Opn x kn n rows ∧
  ∀ H' kn' v, After A H L x kn kn' H' → PN x n rows kn' H' v → Q v H'
def sp_Lanes_needed (P : Program) (w : World) (K : PySem.W.Frag) (A : Adr) : Sp := fun vs H Q _ => ∃ (L : LD) (x : S) (kn : Lw.Kn) (n : Nat) (a : Addr) (rows : List Nat), vs = [.ref L.l, .int n, .ref a] ∧ LS A H L x ∧ LC H L kn ∧ Lw.Ok x ∧ Lw.Good x kn ∧ n < x.steps.length ∧
  H a = some (.lst (nv rows)) ∧ (∀ l ∈ rows, l ≤ 1024) ∧ rows.length ≤ 2000 ∧
  ∀ H' kn' v, After A H L x kn kn' H' → NR x (Lw.nd x (n + 1) n rows) kn' H' v → Q v H'
theorem s_enum {K : PySem.W.Frag} {te : TE} {g : TG} {tb : TS} {D : Ends} {σ : L2.St} {H : Hp} {a : Addr} {xs : List V} (h : Ev te σ H (.ref a)) (hs : SqL K H a xs)
    (q : ∃ W : Nat → Nat → L2.St → Hp → Prop, (∃ m, W 0 m σ H) ∧ ∀ i m σ H, W i m σ H →
      ((Ite K a).stop i H ∧ D.nx σ H) ∨ ((Ite K a).go i H ∧ ∃ N : L2.St → Hp → Prop, (∀ σ' H', N σ' H' → ∃ m', m' < m ∧ W (i + 1) m' σ' H') ∧ ∀ x H', (Ite K a).yld i H x H' → g x σ H' fun σ2 H2 => tb { D with nx := N, ct := N, bk := D.nx } σ2 H2)) :
    tFor (iEnum K (tCons te tNil)) g tb D σ H := h _ ⟨a, xs, rfl, hs, q⟩
theorem nv_at {l : List Nat} {j : Nat} {v : V} (h : (nv l)[j]? = some v) : ∃ n, l[j]? = some n ∧ v = .int (n : Nat) := by
  unfold nv at h
  rw [List.getElem?_map] at h
  obtain ⟨n, e, rfl⟩ := Option.map_eq_some_iff.mp h
  exact ⟨n, e, rfl⟩
theorem take_filter {l : List Nat} {p : Nat → Bool} {j n : Nat} (h : l[j]? = some n) : (l.take (j + 1)).filter p = if p n = true then (l.take j).filter p ++ [n] else (l.take j).filter p := by
  rw [List.take_add_one, h, List.filter_append]
  show _ ++ [n].filter p = _
  rw [List.filter_cons]
  split
  · rfl
  · rw [List.filter_nil, List.append_nil]
section
variable {P : Program} {w : World} {K : PySem.W.Frag} {mg : Str → Option Value} {base : Heap} {A : Adr}
theorem tst_free {H : Hp} {σ : L2.St} {to : TE} {a p : Addr} {t : Sf79.Step} {m : Nat} (h : StepAt A H a p t m) (ho : Ev to σ H (.ref a)) :
    Tst (tB (tMeth A.S "is_free" (sp_Step_is_free P w K A) [] E0 to tNil)) σ H (Lw.free t = true) := fun R r => by
  obtain ⟨dx, hx⟩ := h.ob
  exact e_meth ho hx fS_m_is_free eva_nil ⟨_, _, t, m, rfl, h, _, rfl, r _ Iff.rfl⟩
abbrev s_Lanes_unknown_rows : Stmt := inClass (top 32) 10
abbrev N_Lanes_unknown_rows : List Str := ["self", "number", "rows", "row"]
theorem sc_Lanes_unknown_rows : FnScope ["self", "number", "rows", "row"] ["self", "number", "rows"] (defScope s_Lanes_unknown_rows) := ⟨rfl, rfl, rfl, by decide +kernel, rfl, by decide +kernel, by decide +kernel⟩
theorem ok_Lanes_unknown_rows {f : Addr} {fd : FuncData} (F : Fun K "unknown_rows" "Lanes.unknown_rows" s_Lanes_unknown_rows f fd) (T : Txt K mg A) (F_Lanes_value : MtG P w K mg base A.L "value" 5 ["self", "number", "row"] (sp_Lanes_value P w K A)) (F_Lanes_rows_of : MtG P w K mg base A.L "rows_of" 2 ["self", "number", "rows"] (sp_Lanes_rows_of P w K A)) : FnOk P w K mg base CX0 6 f fd ["self", "number", "rows"] (sp_Lanes_unknown_rows P w K A) := by
  refine F.ok sc_Lanes_unknown_rows (fun vs H Q E h => ?_) (fun cdv B outer s H vs Q E hr h => ?_)
  · obtain ⟨L, x, kn, n, a, rows, rfl, _⟩ := h
    rfl
  obtain ⟨L, x, kn, n, a, rows, rfl, hL, hC, O, G, hn, ha, hle, hlen, q⟩ := h
  refine ⟨_, (pss_one (ps_ret (pe_lc rfl sc_Lanes_unknown_rows.nd (pi_list (pe_mt F_Lanes_rows_of (hr.mono (by decide)) (pv 0) (pa_cons (pv 1) (pa_cons (pv 2) pa_nil)))) (blkOk_by (own := [("row", 3)]) (N := N_Lanes_unknown_rows) (sc := defScope s_Lanes_unknown_rows) (by decide +kernel)) (fun _ _ _ _ _ => (pg_name (i := 3) sc_Lanes_unknown_rows.nd rfl (Or.inl rfl))) (fun _ _ _ _ _ => (pts_one (pt_cmp (pc_isN (pe_mt F_Lanes_value (hr.mono (by decide)) (pv 0) (pa_cons (pv 1) (pa_cons (pv 3) pa_nil))))))) (fun _ _ _ _ _ => (pv 3))))), ?_⟩
  refine e_meth (ev_var rfl) hL.ob fL_m_rows_of (eva_cons (ev_var rfl) (eva_cons (ev_var rfl) eva_nil)) ⟨L, x, n, a, rows, rfl, hL, hn, ha, fun p H1 s1 h1 => ?_⟩
  refine ⟨p, rfl, ⟨_, SqL.of h1⟩, fun D hD => ?_⟩
  have L1 := hL.same s1
  have d1 : ∀ i, i < L.ds.length → H1 (adr L.ds i) ≠ none := (hC.same s1).some
  have rl := Lw.rowsOf_le (x := x) (s := n) hle
  refine lc_list (K := K) (a := p) (xs := nv (Lw.rowsOf x n rows)) (fun j H' => ∃ kn', After A H1 L x kn kn' H' ∧ H' D = some (.lst (nv (((Lw.rowsOf x n rows).take j).filter fun l => (x.known n l).isNone))) ∧
    ∀ l ∈ (Lw.rowsOf x n rows).take j, x.known n l = none → Lw.Settled x kn' l n) ?_ ?_ ?_ ?_
  · exact ⟨kn, ((After.start (A := A) (hC.same s1) G).mut d1 hD), upd_same, fun _ h => (nomatch h)⟩
  · rintro j H' _ ⟨kn', af, _⟩
    exact SqL.of (af.keep _ _ h1 fun _ z => nomatch z)
  · rintro j y H' hy ⟨kn', af, hd, hse⟩
    obtain ⟨r, er, rfl⟩ := nv_at hy
    refine ⟨wipe1, ?_⟩
    have L2 := L1.keep af.keep
    refine e_meth (ev_var rfl) L2.ob fL_m_value (eva_cons (ev_var rfl) (eva_cons (ev_var rfl) eva_nil)) ⟨L, x, kn', n, r, rfl, L2, af.lc, O, af.good, hn, rl r (List.mem_of_getElem? er), fun H2 kn2 k2 c2 g2 le2 se2 => ?_⟩
    refine ⟨_, rfl, ?_⟩
    have af2 : After A H1 L x kn kn2 H2 := af.trans ⟨k2, c2, g2, le2⟩
    have se3 : ∀ l ∈ (Lw.rowsOf x n rows).take (j + 1), x.known n l = none → Lw.Settled x kn2 l n := fun l hl hk => by
      rw [List.take_add_one, er] at hl
      rcases List.mem_append.mp hl with hl | hl
      · exact (hse l hl hk).mono g2 O.wf le2
      · have e : l = r := by simpa using hl
        rw [e] at hk ⊢
        exact se2 hk
    have hd2 := k2 _ _ hd fun _ z => nomatch z
    cases hk : x.known n r with
    | none =>
      refine ift rfl ⟨_, rfl, _, hd2, ?_, kn2, ⟨?_, ?_, af2.good, af2.le⟩, ?_, se3⟩
      · rw [nv_len]
        exact szl (Nat.le_trans (List.length_filter_le _ _) (by rw [List.length_take]; have := Lw.rowsOf_len x n rows; omega))
      · exact af2.keep.mut hD
      · exact af2.lc.mut d1 hD
      · rw [upd_same, take_filter er, if_pos (by rw [hk]; rfl)]
        exact congrArg (fun z => some (HO.lst z)) nv_append
    | some v =>
      refine iff' rfl ⟨kn2, af2, ?_, se3⟩
      rw [take_filter er, if_neg (by rw [hk]; exact Bool.false_ne_true)]
      exact hd2
  · rintro H' ⟨kn', af, hd, hse⟩
    rw [nv_len, List.take_length] at hd hse
    rw [← Lw.opn_eq] at hd
    refine q D H' kn' ⟨(Keep.of s1).trans af.keep, af.lc, af.good, af.le⟩ hd fun l hl => ?_
    rw [Lw.opn_eq] at hl
    obtain ⟨h2, h3⟩ := List.mem_filter.mp hl
    exact hse l h2 (Option.isNone_iff_eq_none.mp h3)
abbrev s_Lanes_stopped_at : Stmt := inClass (top 32) 11
abbrev N_Lanes_stopped_at : List Str := ["self", "number", "row", "step", "k", "part", "word", "what"]
theorem sc_Lanes_stopped_at : FnScope ["self", "number", "row", "step", "k", "part", "word", "what"] ["self", "number", "row"] (defScope s_Lanes_stopped_at) := ⟨rfl, rfl, rfl, by decide +kernel, rfl, by decide +kernel, by decide +kernel⟩
theorem ok_Lanes_stopped_at {f : Addr} {fd : FuncData} (F : Fun K "stopped_at" "Lanes.stopped_at" s_Lanes_stopped_at f fd) (T : Txt K mg A) (F_Lanes_said_of : MtG P w K mg base A.L "said_of" 4 ["self", "number", "row"] (sp_Lanes_said_of P w K A)) (F_Step_is_free : MtG P w K mg base A.S "is_free" 1 ["self"] (sp_Step_is_free P w K A)) (F_Lanes_value : MtG P w K mg base A.L "value" 5 ["self", "number", "row"] (sp_Lanes_value P w K A)) : FnOk P w K mg base CX0 6 f fd ["self", "number", "row"] (sp_Lanes_stopped_at P w K A) := by
  refine F.ok sc_Lanes_stopped_at (fun vs H Q E h => ?_) (fun cdv B outer s H vs Q E hr h => ?_)
  · obtain ⟨L, x, kn, n, r, t, rfl, _⟩ := h
    rfl
  obtain ⟨L, x, kn, n, r, t, rfl, hL, hC, O, G, ht, hr1, hse, q⟩ := h
  refine ⟨_, (pss_cons (ps_set (i := 3) sc_Lanes_stopped_at.nd rfl (Or.inl rfl) (pe_ix ix_list (pe_fld (pv 0) rfl) (pv 1) (fun _ _ => rfl))) (pss_cons (ps_if (pt_val (pe_mt0 F_Step_is_free (hr.mono (by decide)) (pv 3))) (pss_cons (ps_for PassesOwn.never rfl (pi_enum rfl T.b_enumerate (pa_cons (pe_fld (pv 3) rfl) pa_nil)) (pg_tup rfl (pgs_cons (pg_name (i := 4) sc_Lanes_stopped_at.nd rfl (Or.inl rfl)) (pgs_cons (pg_name (i := 5) sc_Lanes_stopped_at.nd rfl (Or.inl rfl)) pgs_nil))) (pss_one (ps_if (pt_cmp (pc_isN (pe_mt F_Lanes_value (hr.mono (by decide)) (pv 0) (pa_cons (pv 5) (pa_cons (pv 2) pa_nil))))) (pss_one (ps_ret (pv 4))) pss_nil))) (pss_one (ps_ret (pe_callB call_len_seq rfl T.b_len PySem.boot_len (pa_cons (pe_fld (pv 3) rfl) pa_nil))))) pss_nil) (pss_cons (ps_asg (pe_mt F_Lanes_said_of (hr.mono (by decide)) (pv 0) (pa_cons (pv 1) (pa_cons (pv 2) pa_nil))) (pg_tup rfl (pgs_cons (pg_name (i := 6) sc_Lanes_stopped_at.nd rfl (Or.inl rfl)) (pgs_cons (pg_name (i := 7) sc_Lanes_stopped_at.nd rfl (Or.inl rfl)) pgs_nil)))) (pss_cons (ps_if (pt_cmpR op_eq (pv 6) (pe_gi T.asks rfl) (nomark _)) (pss_one (ps_ret (pv 7))) pss_nil) (pss_one (ps_ret (pe_callB call_len_seq rfl T.b_len PySem.boot_len (pa_cons (pe_fld (pv 3) rfl) pa_nil)))))))), ?_⟩
  have hn : n < x.steps.length := (List.getElem?_eq_some_iff.mp ht).1
  have s0 := hL.st n t ht
  obtain ⟨dx, hx⟩ := s0.ob
  have few := Lw.parts_few (O.oks n t ht)
  refine s_set (ev_step T hL hn (ev_var rfl) (ev_var rfl)) ?_
  have pts : ∀ {H' σ}, Keep H H' → σ[3]? = some (some (V.ref (adr L.ss n))) → Ev (tFld K (tVar 3) "parts") σ H' (.ref (adr L.ps n)) := fun k h => ev_fld (ev_var h) (k _ _ hx fun _ z => nomatch z) T.cS (T.nS _ (by simp)) fS_parts
  have pa : ∀ {H'}, Keep H H' → H' (adr L.ps n) = some (.lst (nv t.parts)) := fun k => k _ _ s0.pa fun _ z => nomatch z
  have plen : ∀ {H' σ}, Keep H H' → σ[3]? = some (some (V.ref (adr L.ss n))) → Ev (tCB (rLen K) (tCons (tFld K (tVar 3) "parts") tNil)) σ H' (.int (t.parts.length : Nat)) := fun k h => ev_is (ev_len (pts k h) (SqL.of (pa k))) (by rw [nv_len])
  refine s_if1 (tst_free s0 (ev_var rfl)) (fun c => ?_) fun c => ?_
  · -- worked out whatever its parts are
    refine s_enum (pts (Keep.refl H) rfl) (SqL.of s0.pa) ?_
    refine for_it walk_enum (fun i σ H' => ∃ kn' kv pv, σ = [some (.ref L.l), some (.int n), some (.int r), some (.ref (adr L.ss n)), kv, pv, none, none] ∧ After A H L x kn kn' H' ∧ ∀ j, j < i → x.known (t.parts.getD j 0) r ≠ none)
      ⟨kn, none, none, rfl, After.start hC G, fun j hj => absurd hj (Nat.not_lt_zero _)⟩ (fun i σ H' _ ⟨_, _, _, _, af, _⟩ => SqL.of (pa af.keep)) ?_ ?_
    · rintro i v σ H' H1 hi ⟨kn', kv, pv, rfl, af, hb⟩ ⟨Tp, x1, y1, rfl, hT, rfl, e1, e2⟩
      obtain ⟨part, ep, rfl⟩ := nv_at e2
      cases e1
      rw [nv_len] at hi
      refine g_pair upd_same ?_
      have af1 := af.same (same_new (o := .tup [.int ((i : Nat) : Int), .int (part : Int)]) hT)
      have eg : t.parts.getD i 0 = part := by rw [List.getD_eq_getElem?_getD, ep]; rfl
      have hp : part < n := O.wf n t ht part (List.mem_of_getElem? ep)
      have L1 := hL.keep af1.keep
      refine e_meth (ev_var rfl) L1.ob fL_m_value (eva_cons (ev_var rfl) (eva_cons (ev_var rfl) eva_nil)) ⟨L, x, kn', part, r, rfl, L1, af1.lc, O, af1.good, Nat.lt_trans hp hn, hr1, fun H2 kn2 k2 c2 g2 le2 se2 => ?_⟩
      have af2 := af1.trans ⟨k2, c2, g2, le2⟩
      refine ⟨_, rfl, ?_⟩
      cases hk : x.known part r with
      | none =>
        refine ift rfl ?_
        have est : Lw.stopS x r t = i := Lw.stop_of hi (by rw [Lw.stop_free c, eg, hk]; rfl) fun j hj => by
          rw [Lw.stop_free c]
          cases e : x.known (t.parts.getD j 0) r with
          | none => exact absurd e (hb j hj)
          | some v => rfl
        refine s_ret (ev_var (v := .int ((i : Nat) : Int)) rfl) ?_
        have := q H2 kn2 af2 (by rw [est, eg]; exact fun _ => se2 hk)
        rw [est] at this
        exact this
      | some v =>
        refine iff' rfl ⟨kn2, _, _, rfl, af2, fun j hj => ?_⟩
        by_cases cj : j = i
        · rw [cj, eg, hk]
          exact fun z => nomatch z
        · exact hb j (by omega)
    · rintro σ H' ⟨kn', kv, pv, rfl, af, hb⟩
      rw [nv_len] at hb
      have est : Lw.stopS x r t = t.parts.length := Lw.stop_end fun j hj => by
        rw [Lw.stop_free c]
        cases e : x.known (t.parts.getD j 0) r with
        | none => exact absurd e (hb j hj)
        | some v => rfl
      refine s_ret (plen af.keep rfl) ?_
      have := q H' kn' af (by rw [est]; exact fun z => absurd z (Nat.lt_irrefl _))
      rw [est] at this
      exact this
  · have c' : Lw.free t = false := eq_false_of_ne_true c
    refine e_meth (ev_var rfl) hL.ob fL_m_said_of (eva_cons (ev_var rfl) (eva_cons (ev_var rfl) eva_nil)) ⟨L, x, kn, n, r, t, rfl, hL, hC, O, ht, fun p H1 s1 h1 => ?_⟩
    refine g_pair h1 ?_
    have af1 : After A H L x kn kn H1 := (After.start hC G).same s1
    obtain ⟨q1, q2⟩ := Lw.stop_asks O G ht c' hse
    obtain ⟨_, _, _, q4⟩ := hse.ideal G O.wf ht
    refine s_if1 (tst_iff (tst_eq (ev_var rfl) ev_c rfl) (int_lit 1 rfl)) (fun c1 => ?_) fun c1 => ?_
    · refine s_ret (ev_var rfl) ?_
      obtain ⟨e1, e2⟩ := q1 c1
      have := q H1 kn af1 (by rw [e1]; exact fun _ => q4 c1)
      rw [e1] at this
      exact this
    · refine s_ret (plen (Keep.of s1) rfl) ?_
      have e1 := q2 c1
      have := q H1 kn af1 (by rw [e1]; exact fun z => absurd z (Nat.lt_irrefl _))
      rw [e1] at this
      exact this
end
end Wk
namespace Wk
open PySem PySem.Spec PyProof.Rows L2 Nq
/-! What is needed next, the search downward. -/
section
variable {P : Program} {w : World} {K : PySem.W.Frag} {mg : Str → Option Value} {base : Heap} {A : Adr}
theorem nv_ints (l : List Nat) : nv l = (l.map fun (n : Nat) => (n : Int)).map V.int := by
  unfold nv
  rw [List.map_map]
  rfl
abbrev s_Lanes_part_needed : Stmt := inClass (top 32) 13
abbrev N_Lanes_part_needed : List Str := ["self", "number", "rows", "stops", "first", "part", "row", "stop"]
theorem sc_Lanes_part_needed : FnScope ["self", "number", "rows", "stops", "first", "part", "row", "stop"] ["self", "number", "rows"] (defScope s_Lanes_part_needed) := ⟨rfl, rfl, rfl, by decide +kernel, rfl, by decide +kernel, by decide +kernel⟩
theorem ok_Lanes_part_needed {f : Addr} {fd : FuncData} (F : Fun K "part_needed" "Lanes.part_needed" s_Lanes_part_needed f fd) (T : Txt K mg A) (F_Lanes_rows_of : MtG P w K mg base A.L "rows_of" 2 ["self", "number", "rows"] (sp_Lanes_rows_of P w K A)) (F_Lanes_stopped_at : MtG P w K mg base A.L "stopped_at" 6 ["self", "number", "row"] (sp_Lanes_stopped_at P w K A)) : FnOk P w K mg base CX0 7 f fd ["self", "number", "rows"] (sp_Lanes_part_needed P w K A) := by
  refine F.ok sc_Lanes_part_needed (fun vs H Q E h => ?_) (fun cdv B outer s H vs Q E hr h => ?_)
  · obtain ⟨L, x, kn, n, a, rows, rfl, _⟩ := h
    rfl
  obtain ⟨L, x, kn, n, a, rows, rfl, hL, hC, O, G, ha, op, q⟩ := h
  refine ⟨_, (pss_cons (ps_setLc (i := 3) rfl sc_Lanes_part_needed.nd rfl rfl (sw_true rfl rfl rfl (by decide +kernel)) (pi_list (pv 2)) (blkOk_by (own := [("row", 6)]) (N := N_Lanes_part_needed) (sc := defScope s_Lanes_part_needed) (by decide +kernel)) (fun _ _ _ _ _ => (pg_name (i := 6) sc_Lanes_part_needed.nd rfl (Or.inl rfl))) (fun _ _ _ _ _ => pts_nil) (fun _ _ _ _ _ => (pe_mt F_Lanes_stopped_at (hr.mono (by decide)) (pv 0) (pa_cons (pv 1) (pa_cons (pv 6) pa_nil))))) (pss_cons (ps_set (i := 4) sc_Lanes_part_needed.nd rfl (Or.inr rfl) (pe_callB (cr_min rfl) rfl T.b_min (by decide +kernel) (pa_cons (pv 3) pa_nil))) (pss_cons (ps_if (pt_cmpR op_eq (pv 4) (pe_callB call_len_seq rfl T.b_len PySem.boot_len (pa_cons (pe_fld (pe_ix ix_list (pe_fld (pv 0) rfl) (pv 1) (fun _ _ => rfl)) rfl) pa_nil)) (nomark _)) (pss_one (ps_ret pe_non)) pss_nil) (pss_cons (ps_set (i := 5) sc_Lanes_part_needed.nd rfl (Or.inl rfl) (pe_ix ix_list (pe_fld (pe_ix ix_list (pe_fld (pv 0) rfl) (pv 1) (fun _ _ => rfl)) rfl) (pv 4) (fun _ _ => rfl))) (pss_one (ps_ret (pe_tup (pa_cons (pv 5) (pa_cons (pe_mt F_Lanes_rows_of (hr.mono (by decide)) (pv 0) (pa_cons (pv 5) (pa_cons (pe_lc (g := gTup K 2 (gCons (gName 6) (gCons (gName 7) gNil))) rfl sc_Lanes_part_needed.nd (pi_zip rfl T.b_zip (pa_cons (pv 2) (pa_cons (pv 3) pa_nil))) (blkOk_by (own := [("row", 6), ("stop", 7)]) (N := N_Lanes_part_needed) (sc := defScope s_Lanes_part_needed) (by decide +kernel)) (fun _ _ _ _ _ => (pg_tup rfl (pgs_cons (pg_name (i := 6) sc_Lanes_part_needed.nd rfl (Or.inl rfl)) (pgs_cons (pg_name (i := 7) sc_Lanes_part_needed.nd rfl (Or.inl rfl)) pgs_nil)))) (fun _ _ _ _ _ => (pts_one (pt_cmpR op_eq (pv 7) (pv 4) (nomark _)))) (fun _ _ _ _ _ => (pv 6))) pa_nil))) pa_nil))))))))), ?_⟩
  obtain ⟨t, ht⟩ := step_there op.lt
  have few := Lw.parts_few (O.oks n t ht)
  have rlen := op.len
  have d0 : ∀ i, i < L.ds.length → H (adr L.ds i) ≠ none := hC.some
  -- stops = [self.stopped_at(number, row) for row in rows]
  refine ⟨_, rfl, a, rfl, ⟨_, SqL.of ha⟩, fun D hD => ?_⟩
  refine lc_list (K := K) (a := a) (xs := nv rows) (fun j H' => ∃ kn', After A H L x kn kn' H' ∧ H' D = some (.lst (nv ((rows.take j).map fun l => Lw.stopS x l t))) ∧
    ∀ l ∈ rows.take j, Lw.stopS x l t < t.parts.length → Lw.Settled x kn' l (t.parts.getD (Lw.stopS x l t) 0)) ?_ ?_ ?_ ?_
  · exact ⟨kn, (After.start hC G).mut d0 hD, upd_same, fun _ h => (nomatch h)⟩
  · rintro j H' _ ⟨kn', af, _⟩
    exact SqL.of (af.keep _ _ ha fun _ z => nomatch z)
  · rintro j y H' hy ⟨kn', af, hd, hse⟩
    obtain ⟨r, er, rfl⟩ := nv_at hy
    refine ⟨wipe1, ?_⟩
    have L2 := hL.keep af.keep
    have rm := List.mem_of_getElem? er
    refine ift (B := False) rfl ?_
    refine e_meth (ev_var rfl) L2.ob fL_m_stopped_at (eva_cons (ev_var rfl) (eva_cons (ev_var rfl) eva_nil)) ⟨L, x, kn', n, r, t, rfl, L2, af.lc, O, af.good, ht, op.le r rm, (op.se r rm).mono af.good O.wf af.le, fun H2 kn2 af2' se2 => ?_⟩
    have af2 := af.trans af2'
    have hd2 := af2'.keep _ _ hd fun _ z => nomatch z
    refine ⟨_, hd2, ?_, kn2, af2.mut d0 hD, ?_, fun l hl hk => ?_⟩
    · rw [nv_len, List.length_map, List.length_take]
      exact szl (by omega)
    · rw [upd_same, List.take_add_one, er, List.map_append]
      exact congrArg (fun z => some (HO.lst z)) nv_append
    · rw [List.take_add_one, er] at hl
      rcases List.mem_append.mp hl with hl | hl
      · exact (hse l hl hk).mono af2.good O.wf af2'.le
      · have e : l = r := by simpa using hl
        rw [e] at hk ⊢
        exact se2 hk
  rintro H1 ⟨kn1, af1, hd1, se1⟩
  rw [nv_len, List.take_length] at hd1 se1
  have L1 := hL.keep af1.keep
  have ha1 := af1.keep _ _ ha fun _ z => nomatch z
  have rpos : 0 < rows.length := List.length_pos_iff.mpr op.ne
  -- first = min(stops)
  refine ⟨_, rfl, D, (rows.map fun l => Lw.stopS x l t).map fun (n : Nat) => (n : Int), rfl, SqL.of (by rw [← nv_ints]; exact hd1), (by rw [List.length_map, List.length_map]; exact rpos), fun m hm hle => ?_⟩
  obtain ⟨first, hf, rfl⟩ := List.mem_map.mp hm
  have hmin : ∃ l ∈ rows, Lw.stopS x l t = first := List.mem_map.mp hf
  have hall : ∀ l ∈ rows, first ≤ Lw.stopS x l t := fun l hl => by
    have := hle (Lw.stopS x l t : Nat) (List.mem_map.mpr ⟨_, List.mem_map.mpr ⟨l, hl, rfl⟩, rfl⟩)
    omega
  have ndst := Lw.nd_step O.wf ht op.ne op.op hmin hall
  have fle : first ≤ t.parts.length := by
    obtain ⟨l, _, e⟩ := hmin
    rw [← e]
    exact Lw.stop_le x l t
  refine s_if1 (tst_iff (tst_eq (ev_var rfl) (ev_is (w := .int (t.parts.length : Nat)) (ev_len (ev_parts T L1 ht (ev_var rfl) (ev_var rfl)) (SqL.of (L1.st n t ht).pa)) (by rw [nv_len])) rfl) int_eq) (fun c => ?_) fun c => ?_
  · exact q H1 kn1 .non af1 (.inl ⟨rfl, ndst.1 c⟩)
  have fl : first < t.parts.length := by omega
  have gp : t.parts[first]? = some (t.parts.getD first 0) := by
    rw [List.getD_eq_getElem?_getD, List.getElem?_eq_getElem fl]
    rfl
  have e2 := ndst.2 fl
  have op2 := (op.mono af1.good O.wf af1.le).deeper O ht hmin hall fl se1
  have plt := O.wf n t ht _ (Lw.getD_mem fl)
  generalize hpart : t.parts.getD first 0 = part at gp e2 op2 plt
  refine s_set (ev_ixL (ev_parts T L1 ht (ev_var rfl) (ev_var rfl)) (ev_var rfl) (SqL.of (L1.st n t ht).pa) (atI_nat (nv_get gp))) ?_
  -- the rows in which that part is the first
  refine ⟨_, rfl, _, rfl, L.l, L.dl, _, rfl, L1.ob, fL_m_rows_of, _, rfl, ?_⟩
  refine ⟨_, rfl, _, rfl, a, D, nv rows, nv (rows.map fun l => Lw.stopS x l t), rfl, SqL.of ha1, SqL.of hd1, fun D2 hD2 => ?_⟩
  refine lc_it (walk_zip (n := rows.length) (by rw [nv_len, nv_len, List.length_map, Nat.min_self])) (fun j H' => Same H1 H' ∧ H' D2 = some (.lst (nv ((rows.take j).filter fun l => decide (Lw.stopS x l t = first))))) ⟨same_new hD2, upd_same⟩ (fun j H' _ h => ⟨h.1.seq (SqL.of ha1), h.1.seq (SqL.of hd1)⟩) ?_ ?_
  · rintro j v H' H2 hj ⟨s2, hd2⟩ ⟨Tp, y1, y2, rfl, hT, rfl, g1, g2⟩
    obtain ⟨r, er, rfl⟩ := nv_at g1
    obtain ⟨st, es, rfl⟩ := nv_at g2
    rw [List.getElem?_map, er] at es
    have es : Lw.stopS x r t = st := Option.some.inj es
    subst es
    refine g_pair upd_same ⟨rfl, ?_⟩
    have s3 := s2.trans (same_new (o := .tup [.int (r : Nat), .int (Lw.stopS x r t : Nat)]) hT)
    have hd3 : (upd H' Tp (.tup [.int (r : Nat), .int (Lw.stopS x r t : Nat)])) D2 = _ := (same_new hT) _ _ hd2
    refine tst_iff (tst_eq (ev_var rfl) (ev_var rfl) rfl) int_eq _ fun c e => ?_
    have tk := take_filter (p := fun l => decide (Lw.stopS x l t = first)) er
    by_cases z : c = true
    · rw [if_pos z]
      refine ⟨_, rfl, _, hd3, ?_, same_mut s3 hD2, ?_⟩
      · rw [nv_len]
        exact szl (Nat.le_trans (List.length_filter_le _ _) (by rw [List.length_take]; omega))
      · rw [upd_same, tk, if_pos (decide_eq_true (e.mp z))]
        exact congrArg (fun z => some (HO.lst z)) nv_append
    · rw [if_neg z]
      refine ⟨s3, ?_⟩
      rw [tk, if_neg (by rw [decide_eq_true_iff]; exact fun k => z (e.mpr k))]
      exact hd3
  rintro H2 ⟨s2, hd2⟩
  rw [List.take_length] at hd2
  have L2 := L1.same s2
  refine ⟨L, x, part, D2, _, rfl, L2, Nat.lt_trans plt op.lt, hd2, fun p H3 s3 h3 => ?_⟩
  refine ⟨sz2, fun pp hp => ?_⟩
  have af3 := (af1.same s2).same (s3.trans (same_new (o := .tup [.int (part : Nat), .ref p]) hp))
  exact q _ kn1 _ af3 (.inr ⟨pp, p, part, _, rfl, upd_same, (same_new hp) _ _ h3, plt, op2, e2⟩)
abbrev s_Lanes_needed : Stmt := inClass (top 32) 12
abbrev N_Lanes_needed : List Str := ["self", "number", "rows", "deeper"]
theorem sc_Lanes_needed : FnScope ["self", "number", "rows", "deeper"] ["self", "number", "rows"] (defScope s_Lanes_needed) := ⟨rfl, rfl, rfl, by decide +kernel, rfl, by decide +kernel, by decide +kernel⟩
theorem ok_Lanes_needed {f : Addr} {fd : FuncData} (F : Fun K "needed" "Lanes.needed" s_Lanes_needed f fd) (T : Txt K mg A) (F_Lanes_part_needed : MtG P w K mg base A.L "part_needed" 7 ["self", "number", "rows"] (sp_Lanes_part_needed P w K A)) (F_Lanes_unknown_rows : MtG P w K mg base A.L "unknown_rows" 6 ["self", "number", "rows"] (sp_Lanes_unknown_rows P w K A)) : FnOk P w K mg base CX0 8 f fd ["self", "number", "rows"] (sp_Lanes_needed P w K A) := by
  refine F.ok sc_Lanes_needed (fun vs H Q E h => ?_) (fun cdv B outer s H vs Q E hr h => ?_)
  · obtain ⟨L, x, kn, n, a, rows, rfl, _⟩ := h
    rfl
  obtain ⟨L, x, kn, n, a, rows, rfl, hL, hC, O, G, hn, ha, hle, hlen, q⟩ := h
  refine ⟨_, (pss_cons (ps_set (i := 2) sc_Lanes_needed.nd rfl (Or.inl rfl) (pe_mt F_Lanes_unknown_rows (hr.mono (by decide)) (pv 0) (pa_cons (pv 1) (pa_cons (pv 2) pa_nil)))) (pss_cons (ps_if (pt_cmpR op_eq (pe_callB call_len_seq rfl T.b_len PySem.boot_len (pa_cons (pv 2) pa_nil)) pe_int (nomark _)) (pss_one (ps_ret pe_non)) pss_nil) (pss_cons (ps_set (i := 3) sc_Lanes_needed.nd rfl (Or.inl rfl) (pe_mt F_Lanes_part_needed (hr.mono (by decide)) (pv 0) (pa_cons (pv 1) (pa_cons (pv 2) pa_nil)))) (pss_cons (ps_while PassesOwn.never (pt_cmp (pc_notN (pv 3))) (pss_cons (ps_asg (pv 3) (pg_tup rfl (pgs_cons (pg_name (i := 1) sc_Lanes_needed.nd rfl (Or.inl rfl)) (pgs_cons (pg_name (i := 2) sc_Lanes_needed.nd rfl (Or.inl rfl)) pgs_nil)))) (pss_one (ps_set (i := 3) sc_Lanes_needed.nd rfl (Or.inl rfl) (pe_mt F_Lanes_part_needed (hr.mono (by decide)) (pv 0) (pa_cons (pv 1) (pa_cons (pv 2) pa_nil))))))) (pss_one (ps_ret (pe_tup (pa_cons (pv 1) (pa_cons (pv 2) pa_nil))))))))), ?_⟩
  refine e_meth (ev_var rfl) hL.ob fL_m_unknown_rows (eva_cons (ev_var rfl) (eva_cons (ev_var rfl) eva_nil)) ⟨L, x, kn, n, a, rows, rfl, hL, hC, O, G, hn, ha, hle, hlen, fun b H1 kn1 af1 hb se1 => ?_⟩
  have L1 := hL.keep af1.keep
  refine s_if1 (tst_iff (tst_eq (ev_len (ev_var rfl) (SqL.of hb)) ev_c rfl) (b := Lw.opn x n rows = []) (by rw [nv_len]; exact (int_lit 0 rfl).trans List.length_eq_zero_iff)) (fun c => ?_) fun c => ?_
  · exact q H1 kn1 .non af1 (.inl ⟨rfl, (Lw.nd_none hn).mpr c⟩)
  have op1 : Lw.Opn x kn1 n (Lw.opn x n rows) := ⟨hn, c, Lw.opn_idem x n rows, Lw.opn_le hle, Nat.le_trans (Lw.opn_len x n rows) hlen, se1⟩
  have e1 : Lw.nd x (n + 1) n rows = Lw.nd x (n + 1) n (Lw.opn x n rows) := Lw.nd_opn (Lw.opn_idem x n rows).symm
  rw [e1] at q
  generalize Lw.opn x n rows = rows1 at op1 q hb
  -- deeper = self.part_needed(number, rows)
  refine e_meth (ev_var rfl) L1.ob fL_m_part_needed (eva_cons (ev_var rfl) (eva_cons (ev_var rfl) eva_nil)) ⟨L, x, kn1, n, b, rows1, rfl, L1, af1.lc, O, af1.good, hb, op1, fun H2 kn2 v af2 pn => ?_⟩
  refine ⟨fun m σ H3 => ∃ (b : Addr) (rows' : List Nat) (kn3 : Lw.Kn) (v : V), σ = [some (.ref L.l), some (.int (m : Nat)), some (.ref b), some v] ∧ After A H L x kn kn3 H3 ∧ H3 b = some (.lst (nv rows')) ∧ Lw.Opn x kn3 m rows' ∧
    Lw.nd x (n + 1) n rows1 = Lw.nd x (m + 1) m rows' ∧ PN x m rows' kn3 H3 v, ⟨n, b, rows1, kn2, v, rfl, af1.trans af2, af2.keep _ _ hb (fun _ z => nomatch z), op1.mono af2.good O.wf af2.le, rfl, pn⟩, ?_⟩
  rintro m σ H3 ⟨b3, rows3, kn3, v3, rfl, af3, hb3, op3, e3, pn3⟩
  refine tst_notN (ev_var rfl) _ fun c e => ?_
  have L3 := hL.keep af3.keep
  rcases pn3 with ⟨rfl, e4⟩ | ⟨p, b4, part, rows4, rfl, hp, hb4, plt, op4, e4⟩
  · have c0 : ¬ c = true := fun z => e.mp z rfl
    rw [if_neg c0]
    refine s_tup2 (ev_var rfl) (ev_var rfl) fun pp hpp => ?_
    exact q _ kn3 _ (af3.same (same_new hpp)) (.inr ⟨pp, b3, m, rows3, rfl, upd_same, (same_new hpp) _ _ hb3, op3, by rw [e3, e4]⟩)
  · have c0 : c = true := e.mpr fun z => nomatch z
    rw [if_pos c0]
    refine ⟨fun σ' H4 => ∃ m', m' < m ∧ ∃ (b : Addr) (rows' : List Nat) (kn3 : Lw.Kn) (v : V), σ' = [some (.ref L.l), some (.int (m' : Nat)), some (.ref b), some v] ∧ After A H L x kn kn3 H4 ∧ H4 b = some (.lst (nv rows')) ∧ Lw.Opn x kn3 m' rows' ∧
      Lw.nd x (n + 1) n rows1 = Lw.nd x (m' + 1) m' rows' ∧ PN x m' rows' kn3 H4 v, fun σ' H4 h => h, ?_⟩
    refine ⟨_, rfl, ?_⟩
    refine g_pair hp ?_
    refine e_meth (ev_var rfl) L3.ob fL_m_part_needed (eva_cons (ev_var rfl) (eva_cons (ev_var rfl) eva_nil)) ⟨L, x, kn3, part, b4, rows4, rfl, L3, af3.lc, O, af3.good, hb4, op4, fun H4 kn4 v4 af4 pn4 => ?_⟩
    exact ⟨part, plt, b4, rows4, kn4, v4, rfl, af3.trans af4, af4.keep _ _ hb4 (fun _ z => nomatch z), op4.mono af4.good O.wf af4.le, e3.trans e4, pn4⟩
end
end Wk
namespace Wk
open PySem PySem.Spec PyProof.Rows L2 Nq
/-! The lanes made, more steps, what is forgotten; numbers, rising rows, bits, a task. -/
/-- all but what stands at a is as it was -/
def But (a : Addr) (H H' : Hp) : Prop := ∀ b o, H b = some o → b ≠ a → H' b = some o
theorem But.refl (a : Addr) (H : Hp) : But a H H := fun _ _ h _ => h
theorem But.trans {a : Addr} {H H1 H2 : Hp} (h : But a H H1) (k : But a H1 H2) : But a H H2 := fun b o e n => k b o (h b o e n) n
theorem But.of {a : Addr} {H H1 : Hp} (h : Same H H1) : But a H H1 := fun b o e _ => h b o e
theorem But.upd {a : Addr} {H H1 : Hp} {o : HO} (h : But a H H1) : But a H (upd H1 a o) := fun b u e n => by rw [upd_ne n]; exact h b u e n
theorem But.mut {a d : Addr} {H H1 : Hp} {o : HO} (h : But a H H1) (hd : H d = none) : But a H (L2.upd H1 d o) := fun b u e n => by rw [upd_ne (ne_of_none e hd)]; exact h b u e n
theorem nodup_set : ∀ {l : List Addr} {i : Nat} {d : Addr}, l.Nodup → d ∉ l → (l.set i d).Nodup
  | [], _, _, _, _ => List.nodup_nil
  | a :: r, 0, d, h, hd => List.nodup_cons.mpr ⟨fun m => hd (List.mem_cons_of_mem _ m), (List.nodup_cons.mp h).2⟩
  | a :: r, i + 1, d, h, hd => by
    show (a :: r.set i d).Nodup
    obtain ⟨h1, h2⟩ := List.nodup_cons.mp h
    refine List.nodup_cons.mpr ⟨fun m => ?_, nodup_set h2 fun m => hd (List.mem_cons_of_mem _ m)⟩
    rcases List.mem_or_eq_of_mem_set m with m | m
    · exact h1 m
    · exact hd (by rw [← m]; exact List.mem_cons_self)
theorem mask_nil (i : Nat) : Lw.mask [] i = 0 := by
  unfold Lw.mask
  rw [show Sf79.masks [] = #[] from rfl]
  rfl
def sp_Lanes___init__ (P : Program) (w : World) (K : PySem.W.Frag) (A : Adr) : Sp := fun vs H Q _ => ∃ (l dl : Addr), vs = [.ref l] ∧ H l = some (.ins A.L dl []) ∧
  ∀ H' sa ga ka, But l H H' → H sa = none → H ga = none → H ka = none → sa ≠ ga → sa ≠ ka → ga ≠ ka →
    H' l = some (.ins A.L dl (fL (.ref sa) (.ref ga) (.ref ka))) → H' sa = some (.lst []) → H' ga = some (.lst (nv (List.replicate 64 0))) → H' ka = some (.lst []) → Q .non H'
def sp_Lanes_added (P : Program) (w : World) (K : PySem.W.Frag) (A : Adr) : Sp := fun vs H Q _ => ∃ (l dl sa ga ka s : Addr) (ss ds : List Addr), vs = [.ref l, .ref s] ∧ H l = some (.ins A.L dl (fL (.ref sa) (.ref ga) (.ref ka))) ∧ H sa = some (.lst (ss.map V.ref)) ∧ H ka = some (.lst (ds.map V.ref)) ∧ sa ≠ ka ∧ ss.length ≤ 4096 ∧ ds.length ≤ 4096 ∧
  ∀ d, H d = none → Q (.int (ss.length : Nat)) (upd (upd (upd H sa (.lst ((ss ++ [s]).map V.ref))) d (.dK [])) ka (.lst ((ds ++ [d]).map V.ref)))
def sp_Lanes_forget_all (P : Program) (w : World) (K : PySem.W.Frag) (A : Adr) : Sp := fun vs H Q _ => ∃ (l dl sa ga ka : Addr) (ss : List Addr), vs = [.ref l] ∧ H l = some (.ins A.L dl (fL (.ref sa) (.ref ga) (.ref ka))) ∧ H sa = some (.lst (ss.map V.ref)) ∧ ss.length ≤ 4096 ∧
  ∀ H' ka' (ds : List Addr), But l H H' → H ka' = none → (∀ d ∈ ds, H d = none ∧ H' d = some (.dK [])) → ds.Nodup → ds.length = ss.length → H' ka' = some (.lst (ds.map V.ref)) → H' l = some (.ins A.L dl (fL (.ref sa) (.ref ga) (.ref ka'))) → Q .non H'
def sp_Lanes_forget_rows (P : Program) (w : World) (K : PySem.W.Frag) (A : Adr) : Sp := fun vs H Q _ => ∃ (L : LD) (x : S), vs = [.ref L.l] ∧ LS A H L x ∧ L.sa ≠ L.ka ∧ (∀ i, i < x.steps.length → adr L.ps i ≠ L.ka) ∧ (∀ i, i < x.steps.length → H (adr L.ds i) ≠ none) ∧ x.steps.length ≤ 4096 ∧
  ∀ H' (ds : List Addr), But L.ka H H' → ds.length = L.ds.length → ds.Nodup → H' L.ka = some (.lst (ds.map V.ref)) → (∀ i, i < x.steps.length → if Lw.still x.steps i = true then adr ds i = adr L.ds i else H (adr ds i) = none ∧ H' (adr ds i) = some (.dK [])) → Q .non H'
def sp_is_value (P : Program) (w : World) (K : PySem.W.Frag) (A : Adr) : Sp := fun vs H Q _ => ∃ (v : Nat), vs = [.int v] ∧ Q (.bl (decide (v < 2 ^ 64))) H
def sp_do_rise (P : Program) (w : World) (K : PySem.W.Frag) (A : Adr) : Sp := fun vs H Q _ => ∃ (a : Addr) (zs : List Int), vs = [.ref a] ∧ H a = some (.lst (zs.map V.int)) ∧ zs.length ≤ 2000 ∧ ∀ H', Same H H' → Q (.bl (Sf79.rising zs)) H'
def sp_bits_of (P : Program) (w : World) (K : PySem.W.Frag) (A : Adr) : Sp := fun vs H Q _ => ∃ (m : Nat), vs = [.int m] ∧ ∀ p H', Same H H' → H' p = some (.lst (nv ((List.range 64).filter fun (i : Nat) => m.testBit i))) → Q (.ref p) H'
def sp_Task___init__ (P : Program) (w : World) (K : PySem.W.Frag) (A : Adr) : Sp := fun vs H Q _ => ∃ (s dx : Addr) (k n p : V), vs = [.ref s, k, n, p] ∧ H s = some (.ins A.T dx []) ∧ Q .non (upd H s (.ins A.T dx (fT k n p)))
section
variable {P : Program} {w : World} {K : PySem.W.Frag} {mg : Str → Option Value} {base : Heap} {A : Adr}
abbrev s_Lanes___init__ : Stmt := inClass (top 32) 0
abbrev N_Lanes___init__ : List Str := ["self", "k"]
theorem sc_Lanes___init__ : FnScope ["self", "k"] ["self"] (defScope s_Lanes___init__) := ⟨rfl, rfl, rfl, by decide +kernel, rfl, by decide +kernel, by decide +kernel⟩
theorem ok_Lanes___init__ {f : Addr} {fd : FuncData} (F : Fun K "__init__" "Lanes.__init__" s_Lanes___init__ f fd) (T : Txt K mg A)  : FnOk P w K mg base CX0 1 f fd ["self"] (sp_Lanes___init__ P w K A) := by
  refine F.ok sc_Lanes___init__ (fun vs H Q E h => ?_) (fun cdv B outer s H vs Q E hr h => ?_)
  · obtain ⟨l, dl, rfl, _⟩ := h
    rfl
  obtain ⟨l, dl, rfl, hl, q⟩ := h
  refine ⟨_, (pss_cons (ps_fld (pv 0) (pe_lst pa_nil) rfl) (pss_cons (ps_fld (pv 0) (pe_lc rfl sc_Lanes___init__.nd (pi_range1 rfl T.b_range (pa_cons (pe_gi T.givens rfl) pa_nil)) (blkOk_by (own := [("k", 1)]) (N := N_Lanes___init__) (sc := defScope s_Lanes___init__) (by decide +kernel)) (fun _ _ _ _ _ => (pg_name (i := 1) sc_Lanes___init__.nd rfl (Or.inl rfl))) (fun _ _ _ _ _ => pts_nil) (fun _ _ _ _ _ => (pe_gi T.nothing rfl))) rfl) (pss_one (ps_fld (pv 0) (pe_lst pa_nil) rfl)))), ?_⟩
  -- self.steps = []
  refine ⟨(by show 0 ≤ sizeLine; decide), fun sa hsa => ?_⟩
  have nsa : l ≠ sa := ne_of_none hl hsa
  refine ⟨_, rfl, l, A.L, dl, [], rfl, by rw [upd_ne nsa]; exact hl, T.cL, T.nL _ (by simp), (by show 0 < 1000; decide), ?_⟩
  -- self.givens = [NOTHING for k in range(GIVENS)]
  refine ⟨64, rfl, (by decide), (by decide), fun ga hga => ?_⟩
  have nga : ga ≠ l := fun z => by subst z; rw [upd_same] at hga; cases hga
  have nga2 : ga ≠ sa := fun z => by subst z; rw [upd_ne (Ne.symm nsa), upd_same] at hga; cases hga
  have hga0 : H ga = none := by rw [upd_ne nga, upd_ne nga2] at hga; exact hga
  generalize hH1 : upd (upd H sa (.lst [])) l (.ins A.L dl (putF "steps" (.ref sa) [])) = H1 at hga ⊢
  refine lc_range (lo := 0) (n := 64) (fun j H' => Same H1 H' ∧ H' ga = some (.lst (nv (List.replicate j 0)))) ⟨same_new hga, upd_same⟩ ?_ ?_
  · rintro j H' hj ⟨s1, g1⟩
    refine ⟨rfl, ?_⟩
    refine ift (B := False) rfl ⟨_, g1, ?_, same_mut s1 hga, ?_⟩
    · rw [nv_len, List.length_replicate]
      exact szl (by omega)
    · rw [upd_same, List.replicate_succ']
      exact congrArg (fun z => some (HO.lst z)) (nv_append (v := 0))
  rintro H2 ⟨s2, g2⟩
  have l2 : H2 l = some (.ins A.L dl (putF "steps" (.ref sa) [])) := s2 _ _ (by rw [← hH1, upd_same])
  have sa2 : H2 sa = some (.lst []) := s2 _ _ (by rw [← hH1, upd_ne (Ne.symm nsa), upd_same])
  refine ⟨_, rfl, l, A.L, dl, _, rfl, l2, T.cL, T.nL _ (by simp), Nat.lt_of_le_of_lt (length_putF _ _ _) (by show 1 < 1000; decide), ?_⟩
  -- self.known = []
  refine ⟨(by show 0 ≤ sizeLine; decide), fun ka hka => ?_⟩
  have nka : ka ≠ l := fun z => by subst z; rw [upd_same] at hka; cases hka
  rw [upd_ne nka] at hka
  have nka2 : sa ≠ ka := ne_of_none sa2 hka
  have nka3 : ga ≠ ka := ne_of_none g2 hka
  have hka1 : H1 ka = none := s2.free hka
  have hka0 : H ka = none := by rw [← hH1, upd_ne nka, upd_ne (Ne.symm nka2)] at hka1; exact hka1
  refine ⟨_, rfl, l, A.L, dl, _, rfl, by rw [upd_ne (Ne.symm nka), upd_same], T.cL, T.nL _ (by simp), Nat.lt_of_le_of_lt (length_putF _ _ _) (Nat.lt_of_le_of_lt (Nat.succ_le_succ (length_putF _ _ _)) (by show 2 < 1000; decide)), ?_⟩
  refine q _ sa ga ka (fun b o e n => ?_) hsa hga0 hka0 (Ne.symm nga2) nka2 nka3 ?_ ?_ ?_ ?_
  · rw [upd_ne n, upd_ne (ne_of_none e hka0), upd_ne n]
    refine s2 _ _ ?_
    rw [← hH1, upd_ne n, upd_ne (ne_of_none e hsa)]
    exact e
  · rw [upd_same, fL_new]
  · rw [upd_ne (Ne.symm nsa), upd_ne nka2, upd_ne (Ne.symm nsa)]
    exact sa2
  · rw [upd_ne nga, upd_ne nka3, upd_ne nga]
    exact g2
  · rw [upd_ne nka, upd_same]
abbrev s_Lanes_added : Stmt := inClass (top 32) 1
abbrev N_Lanes_added : List Str := ["self", "step"]
theorem sc_Lanes_added : FnScope ["self", "step"] ["self", "step"] (defScope s_Lanes_added) := ⟨rfl, rfl, rfl, by decide +kernel, rfl, by decide +kernel, by decide +kernel⟩
theorem ok_Lanes_added {f : Addr} {fd : FuncData} (F : Fun K "added" "Lanes.added" s_Lanes_added f fd) (T : Txt K mg A)  : FnOk P w K mg base CX0 1 f fd ["self", "step"] (sp_Lanes_added P w K A) := by
  refine F.ok sc_Lanes_added (fun vs H Q E h => ?_) (fun cdv B outer s H vs Q E hr h => ?_)
  · obtain ⟨l, dl, sa, ga, ka, s, ss, ds, rfl, _⟩ := h
    rfl
  obtain ⟨l, dl, sa, ga, ka, so, ss, ds, rfl, hl, hsa, hka, nsk, hs, hd, q⟩ := h
  refine ⟨_, (pss_cons (ps_expr (pe_bm PySem.F.plainAttrs_list PySem.F.slot_list_append PySem.F.type_list_append mt_append (pe_fld (pv 0) rfl) (pa_cons (pv 1) pa_nil))) (pss_cons (ps_expr (pe_bm PySem.F.plainAttrs_list PySem.F.slot_list_append PySem.F.type_list_append mt_append (pe_fld (pv 0) rfl) (pa_cons pe_dnewK pa_nil))) (pss_one (ps_ret (pe_op op_sub (pe_callB call_len_seq rfl T.b_len PySem.boot_len (pa_cons (pe_fld (pv 0) rfl) pa_nil)) pe_int))))), ?_⟩
  have nl : l ≠ sa := ne_of hl hsa fun z => nomatch z
  have nl2 : l ≠ ka := ne_of hl hka fun z => nomatch z
  refine s_app (ev_fld (ev_var rfl) hl T.cL (T.nL _ (by simp)) fL_steps) hsa (ev_var rfl) (by rw [List.length_map]; omega) ?_
  have e1 : ss.map V.ref ++ [V.ref so] = (ss ++ [so]).map V.ref := by rw [List.map_append]; rfl
  rw [e1]
  refine ⟨_, rfl, l, A.L, dl, _, .ref ka, rfl, (by rw [upd_ne nl]; exact hl), T.cL, T.nL _ (by simp), fL_known, Or.inl ⟨rfl, ds.map V.ref, SqL.of (by rw [upd_ne (Ne.symm nsk)]; exact hka)⟩, fun d hdn => ?_⟩
  have nd1 : d ≠ sa := fun z => by subst z; rw [upd_same] at hdn; cases hdn
  have hd0 : H d = none := by rw [upd_ne nd1] at hdn; exact hdn
  have nd2 : ka ≠ d := ne_of_none hka hd0
  refine ⟨ka, ds.map V.ref, _, rfl, rfl, by rw [upd_ne nd2, upd_ne (Ne.symm nsk)]; exact hka, by rw [List.length_map]; exact szl (by omega), ?_⟩
  have e2 : ds.map V.ref ++ [V.ref d] = (ds ++ [d]).map V.ref := by rw [List.map_append]; rfl
  rw [e2]
  refine s_ret (ev_is (w := .int (ss.length : Nat)) (ev_I0 (ev_len (ev_fld (ev_var rfl) (by rw [upd_ne nl2, upd_ne (ne_of_none hl hd0), upd_ne nl]; exact hl) T.cL (T.nL _ (by simp)) fL_steps) (SqL.of (by rw [upd_ne nsk, upd_ne (Ne.symm nd1), upd_same]))) ev_c) ?_) (q d hd0)
  rw [List.length_map, List.length_append, List.length_singleton]
  exact congrArg V.int (by omega)
abbrev s_Lanes_forget_all : Stmt := inClass (top 32) 2
abbrev N_Lanes_forget_all : List Str := ["self", "step"]
theorem sc_Lanes_forget_all : FnScope ["self", "step"] ["self"] (defScope s_Lanes_forget_all) := ⟨rfl, rfl, rfl, by decide +kernel, rfl, by decide +kernel, by decide +kernel⟩
theorem ok_Lanes_forget_all {f : Addr} {fd : FuncData} (F : Fun K "forget_all" "Lanes.forget_all" s_Lanes_forget_all f fd) (T : Txt K mg A)  : FnOk P w K mg base CX0 1 f fd ["self"] (sp_Lanes_forget_all P w K A) := by
  refine F.ok sc_Lanes_forget_all (fun vs H Q E h => ?_) (fun cdv B outer s H vs Q E hr h => ?_)
  · obtain ⟨l, dl, sa, ga, ka, ss, rfl, _⟩ := h
    rfl
  obtain ⟨l, dl, sa, ga, ka, ss, rfl, hl, hsa, hs, q⟩ := h
  refine ⟨_, (pss_one (ps_fld (pv 0) (pe_lc rfl sc_Lanes_forget_all.nd (pi_list (pe_fld (pv 0) rfl)) (blkOk_by (own := [("step", 1)]) (N := N_Lanes_forget_all) (sc := defScope s_Lanes_forget_all) (by decide +kernel)) (fun _ _ _ _ _ => (pg_name (i := 1) sc_Lanes_forget_all.nd rfl (Or.inl rfl))) (fun _ _ _ _ _ => pts_nil) (fun _ _ _ _ _ => pe_dnewK)) rfl)), ?_⟩
  refine ⟨_, rfl, l, A.L, dl, _, _, rfl, hl, T.cL, T.nL _ (by simp), fL_steps, sa, rfl, ⟨_, SqL.of hsa⟩, fun D hD => ?_⟩
  refine lc_list (K := K) (a := sa) (xs := ss.map V.ref) (fun j H' => ∃ ds : List Addr, Same H H' ∧ H' D = some (.lst (ds.map V.ref)) ∧ ds.length = j ∧ ds.Nodup ∧ D ∉ ds ∧ ∀ d ∈ ds, H d = none ∧ H' d = some (.dK [])) ?_ ?_ ?_ ?_
  · exact ⟨[], same_new hD, upd_same, rfl, List.nodup_nil, List.not_mem_nil, fun _ h => (nomatch h)⟩
  · rintro j H' _ ⟨ds, s1, _⟩
    exact s1.seq (SqL.of hsa)
  · rintro j y H' hy ⟨ds, s1, hd, hlen, nd, dn, all⟩
    have hj : j < ss.length := by have := (List.getElem?_eq_some_iff.mp hy).1; rwa [List.length_map] at this
    refine ⟨wipe1, ?_⟩
    refine ift (B := False) rfl fun d hdn => ?_
    have ndD : D ≠ d := ne_of_none hd hdn
    have hd0 : H d = none := s1.free hdn
    have dnd : d ∉ ds := fun hm => by
      rw [(all d hm).2] at hdn
      cases hdn
    refine ⟨_, by rw [upd_ne ndD]; exact hd, by rw [List.length_map]; exact szl (by omega), ds ++ [d], same_mut (same_mut s1 hd0) hD, ?_, by rw [List.length_append, hlen]; rfl, ?_, ?_, fun e he => ?_⟩
    · rw [upd_same, List.map_append]
      rfl
    · rw [List.nodup_append]
      exact ⟨nd, List.nodup_cons.mpr ⟨List.not_mem_nil, List.nodup_nil⟩, fun a ha b hb e => dnd (by rw [← List.mem_singleton.mp hb, ← e]; exact ha)⟩
    · intro hm
      rcases List.mem_append.mp hm with hm | hm
      · exact dn hm
      · exact ndD (List.mem_singleton.mp hm)
    · rcases List.mem_append.mp he with he | he
      · refine ⟨(all e he).1, ?_⟩
        rw [upd_ne (show e ≠ D from fun z => dn (z ▸ he)), upd_ne (show e ≠ d from fun z => dnd (z ▸ he))]
        exact (all e he).2
      · rw [List.mem_singleton.mp he]
        refine ⟨hd0, ?_⟩
        rw [upd_ne (Ne.symm ndD), upd_same]
  rintro H1 ⟨ds, s1, hd, hlen, nd, dn, all⟩
  rw [List.length_map] at hlen
  have l1 := s1 _ _ hl
  refine ⟨_, rfl, l, A.L, dl, _, rfl, l1, T.cL, T.nL _ (by simp), (by show 3 < 1000; decide), ?_⟩
  rw [fL_put_known]
  have nlD : D ≠ l := fun z => by subst z; rw [hl] at hD; cases hD
  refine q _ D ds ((But.of s1).upd) hD (fun d hm => ⟨(all d hm).1, ?_⟩) nd hlen ?_ upd_same
  · rw [upd_ne (show d ≠ l from fun z => by have := (all d hm).1; rw [z, hl] at this; cases this)]
    exact (all d hm).2
  · rw [upd_ne nlD]
    exact hd
abbrev s_Lanes_forget_rows : Stmt := inClass (top 32) 3
abbrev N_Lanes_forget_rows : List Str := ["self", "number", "step"]
theorem sc_Lanes_forget_rows : FnScope ["self", "number", "step"] ["self"] (defScope s_Lanes_forget_rows) := ⟨rfl, rfl, rfl, by decide +kernel, rfl, by decide +kernel, by decide +kernel⟩
theorem ok_Lanes_forget_rows {f : Addr} {fd : FuncData} (F : Fun K "forget_rows" "Lanes.forget_rows" s_Lanes_forget_rows f fd) (T : Txt K mg A) (F_Step_is_still : MtG P w K mg base A.S "is_still" 1 ["self"] (sp_Step_is_still P w K A)) : FnOk P w K mg base CX0 2 f fd ["self"] (sp_Lanes_forget_rows P w K A) := by
  refine F.ok sc_Lanes_forget_rows (fun vs H Q E h => ?_) (fun cdv B outer s H vs Q E hr h => ?_)
  · obtain ⟨L, x, rfl, _⟩ := h
    rfl
  obtain ⟨L, x, rfl, hL, nsk, npk, hdn, hmost, q⟩ := h
  refine ⟨_, (pss_one (ps_for PassesOwn.never rfl (pi_enum rfl T.b_enumerate (pa_cons (pe_fld (pv 0) rfl) pa_nil)) (pg_tup rfl (pgs_cons (pg_name (i := 1) sc_Lanes_forget_rows.nd rfl (Or.inl rfl)) (pgs_cons (pg_name (i := 2) sc_Lanes_forget_rows.nd rfl (Or.inl rfl)) pgs_nil))) (pss_one (ps_if (pt_not (pt_val (pe_mt0 F_Step_is_still (hr.mono (by decide)) (pv 2)))) (pss_one (ps_asg pe_dnewK (pg_sub (pe_fld (pv 0) rfl) (pv 1) set_list))) pss_nil)))), ?_⟩
  have nlk : L.l ≠ L.ka := ne_of hL.ob hL.ka fun z => nomatch z
  refine s_enum (ev_fld (ev_var rfl) hL.ob T.cL (T.nL _ (by simp)) fL_steps) (SqL.of hL.sa) ?_
  refine for_it walk_enum (fun i σ H' => ∃ (ds : List Addr) (nv' sv : Option V), σ = [some (.ref L.l), nv', sv] ∧ But L.ka H H' ∧ H' L.ka = some (.lst (ds.map V.ref)) ∧ ds.length = L.ds.length ∧ ds.Nodup ∧
    ∀ j, j < x.steps.length → if j < i ∧ Lw.still x.steps j = false then H (adr ds j) = none ∧ H' (adr ds j) = some (.dK []) else adr ds j = adr L.ds j)
    ⟨L.ds, none, none, rfl, But.refl _ H, hL.ka, rfl, hL.nd, fun j hj => by rw [if_neg fun z => Nat.not_lt_zero _ z.1]⟩ (fun i σ H' _ ⟨_, _, _, _, b1, _⟩ => SqL.of (b1 _ _ hL.sa nsk)) ?_ ?_
  · rintro i v σ H' H1 hi ⟨ds, nv', sv, rfl, b1, hk, hlen, nd, all⟩ ⟨Tp, x1, y1, rfl, hT, rfl, e1, e2⟩
    rw [List.length_map, hL.ls] at hi
    have e2 : (L.ss.map V.ref)[i]? = some y1 := e2
    have e1 : some (V.int ((i : Nat) : Int)) = some x1 := e1
    rw [List.getElem?_map, adr_get (by rw [hL.ls]; exact hi)] at e2
    cases e1
    cases e2
    refine g_pair upd_same ?_
    have s1 := same_new (o := .tup [.int ((i : Nat) : Int), .ref (adr L.ss i)]) hT
    have b2 := b1.trans (But.of (a := L.ka) s1)
    have hk2 := s1 _ _ hk
    have all2 : ∀ j, j < x.steps.length → if j < i ∧ Lw.still x.steps j = false then H (adr ds j) = none ∧ (upd H' Tp (.tup [.int ((i : Nat) : Int), .ref (adr L.ss i)])) (adr ds j) = some (.dK []) else adr ds j = adr L.ds j := fun j hj => by
      have := all j hj
      split at this
      · next h => rw [if_pos h]; exact ⟨this.1, s1 _ _ this.2⟩
      · next h => rw [if_neg h]; exact this
    obtain ⟨t, ht⟩ := step_there hi
    have st : StepAt A (upd H' Tp (.tup [.int ((i : Nat) : Int), .ref (adr L.ss i)])) (adr L.ss i) (adr L.ps i) t (Lw.mask x.steps i) := by
      obtain ⟨⟨dx, hx⟩, hp⟩ := hL.st i t ht
      exact ⟨⟨dx, b2 _ _ hx (ne_of hx hL.ka fun z => nomatch z)⟩, b2 _ _ hp (npk i hi)⟩
    have nj : ∀ j, j ≠ i → ((j < i + 1 ∧ Lw.still x.steps j = false) ↔ (j < i ∧ Lw.still x.steps j = false)) := fun j hji => by
      constructor
      · rintro ⟨a, b⟩; exact ⟨by omega, b⟩
      · rintro ⟨a, b⟩; exact ⟨by omega, b⟩
    refine s_if1 (a := ¬ Lw.still x.steps i = true) (tst_not (by
      refine fun R r => ?_
      obtain ⟨dx, hx⟩ := st.ob
      refine e_meth (ev_var rfl) hx fS_m_is_still eva_nil ⟨_, _, t, _, rfl, st, _, rfl, r _ ?_⟩
      rw [Lw.still_mask hi])) (fun c => ?_) fun c => ?_
    · have c' : Lw.still x.steps i = false := eq_false_of_ne_true c
      refine fun d hd => ?_
      have hdk : L.ka ≠ d := ne_of_none hk2 hd
      have hd0 : H d = none := by
        cases e : H d with
        | none => rfl
        | some o => rw [b2 d o e (Ne.symm hdk)] at hd; cases hd
      refine ⟨_, rfl, L.l, A.L, L.dl, _, _, rfl, (by rw [upd_ne (ne_of_none (b2 _ _ hL.ob nlk) hd)]; exact b2 _ _ hL.ob nlk), T.cL, T.nL _ (by simp), fL_known, _, rfl, L.ka, _, (i : Int), i, rfl, rfl, by rw [upd_ne hdk]; exact hk2, ?_, ?_⟩
      · unfold ixN
        rw [List.length_map, hlen, hL.ld, if_pos (by omega), if_pos (by omega)]
        simp
      have li : i < ds.length := by rw [hlen, hL.ld]; exact hi
      have dnd : d ∉ ds := fun hm => by
        obtain ⟨j, hj, rfl⟩ := List.getElem_of_mem hm
        have ej : adr ds j = ds[j] := by unfold adr; rw [List.getD_eq_getElem?_getD, List.getElem?_eq_getElem hj]; rfl
        have hj2 : j < x.steps.length := by rw [hlen, hL.ld] at hj; exact hj
        have := all2 j hj2
        split at this
        · rw [ej, hd] at this; cases this.2
        · rw [ej] at this
          exact hdn j hj2 (this ▸ hd0)
      have ad : ∀ j, adr (ds.set i d) j = if j = i then d else adr ds j := fun j => by
        unfold adr
        rw [List.getD_eq_getElem?_getD, List.getElem?_set]
        by_cases cj : i = j
        · subst cj
          rw [if_pos rfl, if_pos rfl, if_pos li]
          rfl
        · rw [if_neg cj, if_neg (fun z => cj z.symm), List.getD_eq_getElem?_getD]
      refine ⟨ds.set i d, some (.int (i : Nat)), some (.ref (adr L.ss i)), rfl, ?_, ?_, by rw [List.length_set]; exact hlen, ?_, fun j hj => ?_⟩
      · exact (b2.mut hd0).upd
      · rw [upd_same, List.map_set]
      · exact nodup_set nd dnd
      · rw [ad]
        by_cases cj : j = i
        · subst cj
          rw [if_pos ⟨Nat.lt_succ_self j, c'⟩, if_pos rfl]
          exact ⟨hd0, by rw [upd_ne (Ne.symm hdk), upd_same]⟩
        · have := all2 j hj
          simp only [nj j cj, if_neg cj]
          split at this
          · next h =>
            rw [if_pos h]
            refine ⟨this.1, ?_⟩
            have hdd : adr ds j ≠ d := fun z => by rw [z, hd] at this; cases this.2
            have hkk : adr ds j ≠ L.ka := fun z => by rw [z, hL.ka] at this; cases this.1
            rw [upd_ne hkk, upd_ne hdd]
            exact this.2
          · next h => rw [if_neg h]; exact this
    · refine ⟨ds, some (.int (i : Nat)), some (.ref (adr L.ss i)), rfl, b2, hk2, hlen, nd, fun j hj => ?_⟩
      by_cases cj : j = i
      · subst cj
        have := all2 j hj
        rw [if_neg fun z => Nat.lt_irrefl _ z.1] at this
        rw [if_neg fun z => c (by rw [z.2]; exact Bool.false_ne_true)]
        exact this
      · simp only [nj j cj]
        exact all2 j hj
  · rintro σ H' ⟨ds, nv', sv, rfl, b1, hk, hlen, nd, all⟩
    rw [List.length_map, hL.ls] at all
    refine q H' ds b1 hlen nd hk fun i hi => ?_
    have := all i hi
    cases c : Lw.still x.steps i with
    | true => rw [if_neg fun z => by rw [c] at z; cases z.2] at this; exact this
    | false => rw [if_pos ⟨hi, c⟩] at this; exact this
end
end Wk
namespace Wk
open PySem PySem.Spec PyProof.Rows L2 Nq
/-! Numbers, rising rows, bits; a task is made. -/
section
variable {X : Cx} {K : PySem.W.Frag} {e : Expr} {f : Str} {pos : Pos} {ta : TE}
theorem pe_fldK (hK : X.K = K) (he : PE X e ta) (hb : attributeBase e f X.env (eval e X.env) = eval e X.env) : PE X (.Attribute e f pos) (tFld K ta f) := by
  subst hK
  exact pe_fld he hb
theorem ix_listK (hK : X.K = K) : IxR X (rIxL K) := by
  subst hK
  exact ix_list
end
theorem or_nat (a b : Nat) : Builtin.bitOr (a : Int) (b : Int) = ((a ||| b : Nat) : Int) := by
  have nn : ∀ z : Int, Builtin.bitNot (Builtin.bitNot z) = z := fun z => by
    show -(-z - 1) - 1 = z
    omega
  have ha : ¬ 0 ≤ Builtin.bitNot (a : Int) := by
    show ¬ 0 ≤ -(a : Int) - 1
    omega
  have hb : ¬ 0 ≤ Builtin.bitNot (b : Int) := by
    show ¬ 0 ≤ -(b : Int) - 1
    omega
  show Builtin.bitNot (Builtin.bitAnd (Builtin.bitNot (a : Int)) (Builtin.bitNot (b : Int))) = _
  have e : Builtin.bitAnd (Builtin.bitNot (a : Int)) (Builtin.bitNot (b : Int)) = Builtin.bitNot (((Builtin.bitNot (Builtin.bitNot (a : Int))).toNat ||| (Builtin.bitNot (Builtin.bitNot (b : Int))).toNat : Nat) : Int) := by simp [Builtin.bitAnd, ha, hb]
  rw [e, nn, nn, nn]
  simp
theorem and_one (a : Nat) : Builtin.bitAnd (a : Int) 1 = ((a % 2 : Nat) : Int) := by
  have e : Builtin.bitAnd (a : Int) 1 = ((a &&& 1 : Nat) : Int) := by simp [Builtin.bitAnd]
  rw [e]
  exact congrArg _ (Nat.and_two_pow_sub_one_eq_mod a 1)
theorem div_nat (m k : Nat) : (m : Int) / 2 ^ ((k : Int)).toNat = ((m / 2 ^ k : Nat) : Int) := by
  rw [Int.toNat_natCast]
  have : ((2 : Int) ^ k) = ((2 ^ k : Nat) : Int) := by
    rw [Int.natCast_pow]
    rfl
  rw [this]
  exact (Int.natCast_ediv m (2 ^ k)).symm
theorem rising_range : ∀ (zs : List Int), Sf79.rising zs = (List.range (zs.length - 1)).all fun m => decide (zs.getD m 0 < zs.getD (m + 1) 0)
  | [] => rfl
  | [a] => rfl
  | a :: b :: l => by
    have ih := rising_range (b :: l)
    show (decide (a < b) && Sf79.rising (b :: l)) = _
    rw [ih]
    show _ = (List.range (l.length + 1)).all _
    rw [List.range_succ_eq_map, List.all_cons, List.all_map]
    rfl
section
variable {P : Program} {w : World} {K : PySem.W.Frag} {mg : Str → Option Value} {base : Heap} {A : Adr}
abbrev s_is_value : Stmt := top 49
abbrev N_is_value : List Str := ["number"]
theorem sc_is_value : FnScope ["number"] ["number"] (defScope s_is_value) := ⟨rfl, rfl, rfl, by decide +kernel, rfl, by decide +kernel, by decide +kernel⟩
theorem ok_is_value {f : Addr} {fd : FuncData} (F : Fun K "is_value" "is_value" s_is_value f fd) (T : Txt K mg A)  : FnOk P w K mg base CX0 1 f fd ["number"] (sp_is_value P w K A) := by
  refine F.ok sc_is_value (fun vs H Q E h => ?_) (fun cdv B outer s H vs Q E hr h => ?_)
  · obtain ⟨v, rfl, _⟩ := h
    rfl
  obtain ⟨v, rfl, q⟩ := h
  refine ⟨_, (pss_one (ps_ret (pe_cmpR op_eq (pe_op op_shr (pv 0) pe_int) pe_int (nomark _)))), ?_⟩
  refine ⟨_, rfl, _, _, rfl, rfl, (by show (0 : Int) ≤ 64; decide), rfl, ?_⟩
  have e : decide (V.int ((v : Int) / 2 ^ ((64 : Int)).toNat) = V.int 0) = decide (v < 2 ^ 64) := by
    rw [show ((64 : Int)).toNat = ((64 : Nat) : Int).toNat from rfl, div_nat, dec_lit (z := 0) 0 rfl, decide_eq_decide]
    omega
  rw [e]
  exact q
abbrev s_do_rise : Stmt := top 50
abbrev N_do_rise : List Str := ["rows", "k"]
theorem sc_do_rise : FnScope ["rows", "k"] ["rows"] (defScope s_do_rise) := ⟨rfl, rfl, rfl, by decide +kernel, rfl, by decide +kernel, by decide +kernel⟩
theorem ok_do_rise {f : Addr} {fd : FuncData} (F : Fun K "do_rise" "do_rise" s_do_rise f fd) (T : Txt K mg A)  : FnOk P w K mg base CX0 1 f fd ["rows"] (sp_do_rise P w K A) := by
  refine F.ok sc_do_rise (fun vs H Q E h => ?_) (fun cdv B outer s H vs Q E hr h => ?_)
  · obtain ⟨a, zs, rfl, _⟩ := h
    rfl
  obtain ⟨a, zs, rfl, ha, hl, q⟩ := h
  refine ⟨_, (pss_one (ps_ret (pe_callB (cr_all rfl) rfl T.b_all (by decide +kernel) (pa_cons (pe_lc rfl sc_do_rise.nd (pi_range2 rfl T.b_range (pa_cons pe_int (pa_cons (pe_callB call_len_seq rfl T.b_len PySem.boot_len (pa_cons (pv 0) pa_nil)) pa_nil))) (blkOk_by (own := [("k", 1)]) (N := N_do_rise) (sc := defScope s_do_rise) (by decide +kernel)) (fun _ _ _ _ _ => (pg_name (i := 1) sc_do_rise.nd rfl (Or.inl rfl))) (fun _ _ _ _ _ => pts_nil) (fun _ _ _ _ _ => (pe_cmpR op_lt (pe_ix (ix_listK (K := K) rfl) (pv 0) (pe_op op_sub (pv 1) pe_int) (fun _ _ => rfl)) (pe_ix (ix_listK (K := K) rfl) (pv 0) (pv 1) (fun _ _ => rfl)) (nomark _)))) pa_nil)))), ?_⟩
  refine ⟨_, rfl, a, _, rfl, .inl (SqL.of ha), 1, (zs.length : Nat), by rw [List.length_map], ⟨by decide, by decide, by omega, by omega⟩, fun D hD => ?_⟩
  refine lc_range (lo := 1) (n := ((zs.length : Int) - 1).toNat) (fun j H' => Same H H' ∧ H' D = some (.lst ((List.range j).map fun m => V.bl (decide (zs.getD m 0 < zs.getD (m + 1) 0))))) ⟨same_new hD, upd_same⟩ ?_ ?_
  · rintro j H' hj ⟨s1, d1⟩
    refine ⟨rfl, ?_⟩
    have g0 : zs[j]? = some (zs.getD j 0) := by rw [List.getD_eq_getElem?_getD, List.getElem?_eq_getElem (by omega)]; rfl
    have g1 : zs[j + 1]? = some (zs.getD (j + 1) 0) := by rw [List.getD_eq_getElem?_getD, List.getElem?_eq_getElem (by omega)]; rfl
    have h0 : (zs.map V.int)[j]? = some (.int (zs.getD j 0)) := by rw [List.getElem?_map, g0]; rfl
    have h1 : (zs.map V.int)[j + 1]? = some (.int (zs.getD (j + 1) 0)) := by rw [List.getElem?_map, g1]; rfl
    have sa := s1.seq (K := K) (SqL.of ha)
    refine ift (B := False) rfl ?_
    refine ev_I0 (ev_ixL (ev_var rfl) (ev_I0 (ev_var rfl) ev_c) sa (at_of (by omega) h0)) (ev_ixL (ev_var rfl) (ev_var rfl) sa (at_of (by omega) h1)) _ ⟨_, d1, ?_, same_mut s1 hD, ?_⟩
    · rw [List.length_map, List.length_range]
      exact szl (by omega)
    · rw [upd_same, List.range_succ, List.map_append]
      rfl
  · rintro H1 ⟨s1, d1⟩
    refine ⟨D, (List.range (zs.length - 1)).map fun m => decide (zs.getD m 0 < zs.getD (m + 1) 0), rfl, SqL.of ?_, ?_⟩
    · rw [List.map_map, d1]
      have : ((zs.length : Int) - 1).toNat = zs.length - 1 := by omega
      rw [this]
      rfl
    · have := q H1 s1
      rw [rising_range] at this
      rw [List.all_map]
      exact this
abbrev s_bits_of : Stmt := top 51
abbrev N_bits_of : List Str := ["mask", "k"]
theorem sc_bits_of : FnScope ["mask", "k"] ["mask"] (defScope s_bits_of) := ⟨rfl, rfl, rfl, by decide +kernel, rfl, by decide +kernel, by decide +kernel⟩
theorem ok_bits_of {f : Addr} {fd : FuncData} (F : Fun K "bits_of" "bits_of" s_bits_of f fd) (T : Txt K mg A)  : FnOk P w K mg base CX0 1 f fd ["mask"] (sp_bits_of P w K A) := by
  refine F.ok sc_bits_of (fun vs H Q E h => ?_) (fun cdv B outer s H vs Q E hr h => ?_)
  · obtain ⟨m, rfl, _⟩ := h
    rfl
  obtain ⟨m, rfl, q⟩ := h
  refine ⟨_, (pss_one (ps_ret (pe_lc rfl sc_bits_of.nd (pi_range1 rfl T.b_range (pa_cons (pe_gi T.columns rfl) pa_nil)) (blkOk_by (own := [("k", 1)]) (N := N_bits_of) (sc := defScope s_bits_of) (by decide +kernel)) (fun _ _ _ _ _ => (pg_name (i := 1) sc_bits_of.nd rfl (Or.inl rfl))) (fun _ _ _ _ _ => (pts_one (pt_cmpR op_eq (pe_op op_and (pe_op op_shr (pv 0) (pv 1)) pe_int) pe_int (nomark _)))) (fun _ _ _ _ _ => (pv 1))))), ?_⟩
  refine ⟨64, rfl, by decide, by decide, fun D hD => ?_⟩
  refine lc_range (lo := 0) (n := 64) (fun j H' => Same H H' ∧ H' D = some (.lst (nv ((List.range j).filter fun (i : Nat) => m.testBit i)))) ⟨same_new hD, upd_same⟩ ?_ ?_
  · rintro j H' hj ⟨s1, d1⟩
    refine ⟨rfl, ?_⟩
    have e0 : (0 : Int) + (j : Int) = (j : Int) := Int.zero_add _
    rw [e0]
    refine tst_iff (tst_eq (ev_is (w := .int ((m / 2 ^ j % 2 : Nat) : Int)) (ev_I0 (ev_I (ev_var rfl) (ev_var rfl) (by omega)) ev_c) (by rw [div_nat, and_one])) ev_c rfl) (int_lit 1 rfl) _ fun c e => ?_
    have et : m.testBit j = decide (m / 2 ^ j % 2 = 1) := Nat.testBit_eq_decide_div_mod_eq
    have tk : (List.range (j + 1)).filter (fun (i : Nat) => m.testBit i) = if m.testBit j = true then (List.range j).filter (fun (i : Nat) => m.testBit i) ++ [j] else (List.range j).filter fun (i : Nat) => m.testBit i := by
      rw [List.range_succ, List.filter_append]
      show _ ++ [j].filter _ = _
      rw [List.filter_cons]
      split
      · rfl
      · rw [List.filter_nil, List.append_nil]
    by_cases z : c = true
    · rw [if_pos z]
      refine ⟨_, rfl, _, d1, ?_, same_mut s1 hD, ?_⟩
      · rw [nv_len]
        exact szl (Nat.le_trans (List.length_filter_le _ _) (by rw [List.length_range]; omega))
      · rw [upd_same, tk, if_pos (by rw [et]; exact decide_eq_true (e.mp z))]
        exact congrArg (fun z => some (HO.lst z)) nv_append
    · rw [if_neg z]
      refine ⟨s1, ?_⟩
      rw [tk, if_neg (by rw [et, decide_eq_true_iff]; exact fun k => z (e.mpr k))]
      exact d1
  · rintro H1 ⟨s1, d1⟩
    exact q D H1 s1 d1
abbrev s_Task___init__ : Stmt := inClass (top 52) 0
abbrev N_Task___init__ : List Str := ["self", "rows", "steps", "is_choice"]
theorem sc_Task___init__ : FnScope ["self", "rows", "steps", "is_choice"] ["self", "rows", "steps", "is_choice"] (defScope s_Task___init__) := ⟨rfl, rfl, rfl, by decide +kernel, rfl, by decide +kernel, by decide +kernel⟩
theorem ok_Task___init__ {f : Addr} {fd : FuncData} (F : Fun K "__init__" "Task.__init__" s_Task___init__ f fd) (T : Txt K mg A)  : FnOk P w K mg base CX0 1 f fd ["self", "rows", "steps", "is_choice"] (sp_Task___init__ P w K A) := by
  refine F.ok sc_Task___init__ (fun vs H Q E h => ?_) (fun cdv B outer s H vs Q E hr h => ?_)
  · obtain ⟨s, dx, k, n, p, rfl, _⟩ := h
    rfl
  obtain ⟨x, dx, k, n, p, rfl, hx, q⟩ := h
  refine ⟨_, (pss_cons (ps_fld (pv 0) (pv 1) rfl) (pss_cons (ps_fld (pv 0) (pv 2) rfl) (pss_one (ps_fld (pv 0) (pv 3) rfl)))), ?_⟩
  refine ⟨_, rfl, _, rfl, x, A.T, dx, [], rfl, hx, T.cT, T.nT _ (by simp), (by show 0 < 1000; decide), ?_⟩
  refine ⟨_, rfl, _, rfl, x, A.T, dx, _, rfl, upd_same, T.cT, T.nT _ (by simp), (by show 1 < 1000; decide), ?_⟩
  rw [upd_upd]
  refine ⟨_, rfl, _, rfl, x, A.T, dx, _, rfl, upd_same, T.cT, T.nT _ (by simp), Nat.lt_of_le_of_lt (length_putF _ _ _) (by show 2 < 1000; decide), ?_⟩
  rw [upd_upd, fT_new]
  exact q
end
end Wk
namespace Wk
open PySem PySem.Spec PyProof.Rows L2 Nq
/-! The desk as it stands in the heap. -/
structure DD where
  d : Addr
  dd : Addr
  L : LD
  nd : Addr
  g : Addr
  xs : List NE
  tv : V
  tl : List Addr
/-- the lists of it -/
def DD.lists (D : DD) : List Addr := [D.L.sa, D.L.ga, D.L.ka, D.g] ++ D.L.ps ++ D.tl
/-- what of it may change, or is a list -/
def DD.sup (D : DD) : List Addr := [D.d, D.L.l, D.nd] ++ D.lists
def keyOf (t : Sf79.Step) : NK := ((kindOf t : Int), (numOf t : Int), t.parts.map fun (n : Nat) => (n : Int))
def isC : Sf79.Job → Bool
  | .run _ _ => false
  | .choose _ _ => true
def TaskAt (A : Adr) (H : Hp) (j : Option Sf79.Job) (tv : V) (tl : List Addr) : Prop := match j with
  | none => tv = .non ∧ tl = []
  | some j => ∃ t td ra sa, tv = .ref t ∧ tl = [ra, sa] ∧ H t = some (.ins A.T td (fT (.ref ra) (.ref sa) (.bl (isC j)))) ∧ H ra = some (.lst (nv (Lw.taskLanes j))) ∧ H sa = some (.lst (nv (Lw.taskSteps j)))
def counts (x : S) : List Nat := (List.range x.steps.length).map fun s => x.asked.count s
structure DA (P : Program) (w : World) (A : Adr) (H : Hp) (D : DD) (x : S) (kn : Lw.Kn) : Prop where
  ob : H D.d = some (.ins A.D D.dd (fD (.ref D.L.l) (.ref D.nd) (.int (x.rows : Nat)) D.tv (.ref D.g)))
  ls : LS A H D.L x
  lc : LC H D.L kn
  good : Lw.Good x kn
  ok : Lw.Ok x
  nd : H D.nd = some (NO P w D.nd D.xs)
  xl : D.xs.length = x.steps.length
  xk : ∀ (i : Nat) (t : Sf79.Step), x.steps[i]? = some t → ∃ b, D.xs[i]? = some (keyOf t, b, i)
  ka : KeysAt H D.xs
  g : H D.g = some (.lst (nv (counts x)))
  task : TaskAt A H x.task D.tv D.tl
  sep : D.lists.Nodup
/-- what a call leaves as it was -/
structure Fr (H : Hp) (D : DD) (H' : Hp) (D' : DD) : Prop where
  out : ∀ b o, H b = some o → b ∉ D.sup → (∀ kvs, o ≠ .dK kvs) → H' b = some o
  sup : ∀ b ∈ D'.sup, b ∈ D.sup ∨ H b = none
  d : D'.d = D.d
section
variable {P : Program} {w : World} {A : Adr} {H H' H0 H1 : Hp} {D : DD} {x : S} {kn kn' : Lw.Kn} {fa b : Addr}
theorem Fr.keep (k : Keep H H') : Fr H D H' D := ⟨fun b o e _ n => k b o e n, fun b h => .inl h, rfl⟩
theorem Fr.same (s : Same H H') : Fr H D H' D := Fr.keep (Keep.of s)
theorem keysAt_mono {xs : List NE} (h : KeysAt H xs) (k : ∀ b ys, H b = some (.tup ys) → H' b = some (.tup ys)) : KeysAt H' xs := fun e he => by
  obtain ⟨c, h1, h2⟩ := h e he
  exact ⟨c, k _ _ h1, k _ _ h2⟩
theorem TaskAt.mono {j : Option Sf79.Job} {tv : V} {tl : List Addr} (h : TaskAt A H j tv tl) (k : ∀ b o, H b = some o → (∀ ys, o = .lst ys → b ∈ tl) → (∀ kvs, o ≠ .dK kvs) → (∀ φ, o ≠ .ext φ) → H' b = some o) : TaskAt A H' j tv tl := by
  cases j with
  | none => exact h
  | some j =>
    obtain ⟨t, td, ra, sa, e1, e2, h1, h2, h3⟩ := h
    exact ⟨t, td, ra, sa, e1, e2, k _ _ h1 (fun _ z => nomatch z) (fun _ z => nomatch z) (fun _ z => nomatch z), k _ _ h2 (fun _ _ => by rw [e2]; simp) (fun _ z => nomatch z) (fun _ z => nomatch z), k _ _ h3 (fun _ _ => by rw [e2]; simp) (fun _ z => nomatch z) fun _ z => nomatch z⟩
theorem NO_ne {xs : List NE} {kvs : List (Key × V)} : NO P w b xs ≠ .dK kvs := fun z => nomatch z
/-- behind a search -/
theorem DA.after (h : DA P w A H D x kn) (a : After A H D.L x kn kn' H') : DA P w A H' D x kn' where
  ob := a.keep _ _ h.ob fun _ z => nomatch z
  ls := h.ls.keep a.keep
  lc := a.lc
  good := a.good
  ok := h.ok
  nd := a.keep _ _ h.nd fun _ => NO_ne
  xl := h.xl
  xk := h.xk
  ka := keysAt_mono h.ka fun b ys e => a.keep _ _ e fun _ z => nomatch z
  g := a.keep _ _ h.g fun _ z => nomatch z
  task := h.task.mono fun b o e _ n _ => a.keep b o e n
  sep := h.sep
theorem DA.same (h : DA P w A H D x kn) (s : Same H H') : DA P w A H' D x kn := h.after ((After.start h.lc h.good).same s)
theorem ps_mem (h : DA P w A H D x kn) {i : Nat} (hi : i < x.steps.length) : adr D.L.ps i ∈ D.lists := by
  unfold DD.lists
  have : adr D.L.ps i ∈ D.L.ps := List.mem_of_getElem? (adr_get (by rw [h.ls.lp]; exact hi))
  simp [this]
/-- a list that is none of the desk's is written -/
theorem DA.but (h : DA P w A H D x kn) (k : But fa H H') (hf : ∃ ys, H fa = some (.lst ys)) (hn : fa ∉ D.lists) : DA P w A H' D x kn := by
  obtain ⟨ys, hf⟩ := hf
  have nl : ∀ b o, H b = some o → (∀ zs, o = .lst zs → b ∈ D.lists) → H' b = some o := fun b o e m => by
    refine k b o e fun z => ?_
    subst z
    rw [hf] at e
    exact hn (m ys (Option.some.inj e).symm)
  have nn : ∀ b o, H b = some o → (∀ zs, o ≠ .lst zs) → H' b = some o := fun b o e m => nl b o e fun zs z => absurd z (m zs)
  have nm : ∀ b o, H b = some o → b ∈ D.lists → H' b = some o := fun b o e m => nl b o e fun _ _ => m
  exact {
    ob := nn _ _ h.ob fun _ z => nomatch z
    ls := {
      ob := nn _ _ h.ls.ob fun _ z => nomatch z
      sa := nm _ _ h.ls.sa (by simp [DD.lists])
      ga := let ⟨gv, e, r⟩ := h.ls.ga; ⟨gv, nm _ _ e (by simp [DD.lists]), r⟩
      ka := nm _ _ h.ls.ka (by simp [DD.lists])
      ls := h.ls.ls
      lp := h.ls.lp
      ld := h.ls.ld
      nd := h.ls.nd
      st := fun i t e => by
        obtain ⟨⟨dx, hx⟩, hp⟩ := h.ls.st i t e
        exact ⟨⟨dx, nn _ _ hx fun _ z => nomatch z⟩, nm _ _ hp (ps_mem h (List.getElem?_eq_some_iff.mp e).1)⟩ }
    lc := fun i hi => by
      obtain ⟨kvs, e, r⟩ := h.lc i hi
      exact ⟨kvs, nn _ _ e (fun _ z => nomatch z), r⟩
    good := h.good
    ok := h.ok
    nd := nn _ _ h.nd fun _ z => nomatch z
    xl := h.xl
    xk := h.xk
    ka := keysAt_mono h.ka fun b ys e => nn _ _ e fun _ z => nomatch z
    g := nm _ _ h.g (by simp [DD.lists])
    task := h.task.mono fun b o e m _ _ => nl b o e fun zs z => by
      have := m zs z
      unfold DD.lists
      simp [this]
    sep := h.sep }
theorem DA.sk (h : DA P w A H D x kn) : D.L.sa ≠ D.L.ka ∧ D.L.sa ≠ D.L.ga ∧ D.L.ga ≠ D.L.ka := by
  have := h.sep
  unfold DD.lists at this
  simp only [List.cons_append, List.nodup_cons, List.mem_cons, not_or] at this
  exact ⟨this.1.2.1, this.1.1, this.2.1.1⟩
end
/-- an answer as the desk gives it -/
def ansV (a : Sf79.Ans) : List V := (Sf79Neutral.listOf a).map V.int
theorem ansV_eq (a : Sf79.Ans) : ansV a = .int a.value :: nv a.out := by
  unfold ansV Sf79Neutral.listOf nv
  rw [List.map_cons, List.map_map]
  rfl
theorem ans_says (z : Int) : ansV (Sf79.says z) = [.int z] := by
  rw [ansV_eq]
  rfl
/-- a method that answers as the specification's call does -/
def spDesk (P : Program) (w : World) (A : Adr) (vs : List V) (args : List V) (D : DD) (x : S) (kn : Lw.Kn) (r : S × Sf79.Ans) (H : Hp) (Q : VK) : Prop := vs = .ref D.d :: args ∧ DA P w A H D x kn ∧
  ∀ H' D' kn' p, DA P w A H' D' r.1 kn' → Fr H D H' D' → H' p = some (.lst (ansV r.2)) → Q (.ref p) H'

theorem ev_chain {σ : L2.St} {H : Hp} {ta tb tc : TE} {p p' : Int → Int → Bool} {i j z : Int} (ha : Ev ta σ H (.int i)) (hb : Ev tb σ H (.int j)) (hc : Ev tc σ H (.int z)) :
    Ev (tChain (rI0 fun i j => .bl (p i j)) (rI0 fun i j => .bl (p' i j)) ta tb tc) σ H (.bl (p i j && p' j z)) := fun Q q => ha _ (hb _ ⟨i, j, rfl, rfl, _, rfl, by
  cases h : p i j with
  | true =>
    rw [if_pos rfl]
    rw [h] at q
    exact hc _ ⟨j, z, rfl, rfl, q⟩
  | false =>
    rw [if_neg Bool.false_ne_true]
    rw [h] at q
    exact q⟩)
theorem s_forL {K : PySem.W.Frag} {tl : TE} {g : TG} {tb : TS} {D : Ends} {σ : L2.St} {H : Hp} {a : Addr} {xs : List V} (h : Ev tl σ H (.ref a)) (hs : SqL K H a xs)
    (q : ∃ W : Nat → Nat → L2.St → Hp → Prop, (∃ m, W 0 m σ H) ∧ ∀ i m σ H, W i m σ H →
      ((Itl K a).stop i H ∧ D.nx σ H) ∨ ((Itl K a).go i H ∧ ∃ N : L2.St → Hp → Prop, (∀ σ' H', N σ' H' → ∃ m', m' < m ∧ W (i + 1) m' σ' H') ∧ ∀ x H', (Itl K a).yld i H x H' → g x σ H' fun σ2 H2 => tb { D with nx := N, ct := N, bk := D.nx } σ2 H2)) :
    tFor (iList K tl) g tb D σ H := h _ ⟨a, rfl, ⟨xs, hs⟩, q⟩
theorem s_retAll {K : PySem.W.Frag} {te : TE} {D : Ends} {σ : L2.St} {H : Hp} {bs : List Bool} (h : ∀ Q : VK, (∀ D H', H D = none → Same H H' → H' D = some (.lst (bs.map V.bl)) → Q (.ref D) H') → te σ H Q) (k : ∀ H', Same H H' → D.rt (.bl (bs.all id)) H') :
    tRet (tCB (rAll K) (tCons te tNil)) D σ H := h _ fun D2 H' _ s1 d1 => ⟨D2, bs, rfl, SqL.of d1, k H' s1⟩
def sp_Desk_has (P : Program) (w : World) (K : PySem.W.Frag) (A : Adr) : Sp := fun vs H Q _ => ∃ (D : DD) (x : S) (kn : Lw.Kn) (z : Int), vs = [.ref D.d, .int z] ∧ DA P w A H D x kn ∧ Q (.bl (x.has z)) H
def sp_Desk_have (P : Program) (w : World) (K : PySem.W.Frag) (A : Adr) : Sp := fun vs H Q _ => ∃ (D : DD) (x : S) (kn : Lw.Kn) (a : Addr) (zs : List Int), vs = [.ref D.d, .ref a] ∧ DA P w A H D x kn ∧ H a = some (.lst (zs.map V.int)) ∧ zs.length ≤ 2000 ∧ ∀ H', Same H H' → Q (.bl (zs.all x.has)) H'
def sp_Desk_are_rows (P : Program) (w : World) (K : PySem.W.Frag) (A : Adr) : Sp := fun vs H Q _ => ∃ (D : DD) (x : S) (kn : Lw.Kn) (a : Addr) (zs : List Int), vs = [.ref D.d, .ref a] ∧ DA P w A H D x kn ∧ H a = some (.lst (zs.map V.int)) ∧ zs.length ≤ 2000 ∧ ∀ H', Same H H' → Q (.bl (x.lanesOk zs)) H'
def sp_Desk_true_in (P : Program) (w : World) (K : PySem.W.Frag) (A : Adr) : Sp := fun vs H Q _ => ∃ (D : DD) (x : S) (kn : Lw.Kn) (n : Nat) (a : Addr) (rows : List Nat), vs = [.ref D.d, .int n, .ref a] ∧ DA P w A H D x kn ∧ n < x.steps.length ∧ H a = some (.lst (nv rows)) ∧ (∀ l ∈ rows, l ≤ 1024) ∧ rows.length ≤ 2000 ∧
  ∀ p H' kn', After A H D.L x kn kn' H' → H' p = some (.lst (nv (Lw.yes x n rows))) → Q (.ref p) H'
def sp_Desk_needed (P : Program) (w : World) (K : PySem.W.Frag) (A : Adr) : Sp := fun vs H Q _ => ∃ (D : DD) (x : S) (kn : Lw.Kn), vs = [.ref D.d] ∧ DA P w A H D x kn ∧ ∀ H' kn' v, After A H D.L x kn kn' H' → NR x x.next kn' H' v → Q v H'
section
variable {P : Program} {w : World} {K : PySem.W.Frag} {mg : Str → Option Value} {base : Heap} {A : Adr}
/-- self.lanes -/
theorem ev_lanes {H : Hp} {D : DD} {x : S} {kn : Lw.Kn} {σ : L2.St} {to : TE} (T : Txt K mg A) (h : DA P w A H D x kn) (ho : Ev to σ H (.ref D.d)) : Ev (tFld K to "lanes") σ H (.ref D.L.l) := ev_fld ho h.ob T.cD (T.nD _ (by simp)) fD_lanes
abbrev s_Desk_has : Stmt := inClass (top 53) 2
abbrev N_Desk_has : List Str := ["self", "number"]
theorem sc_Desk_has : FnScope ["self", "number"] ["self", "number"] (defScope s_Desk_has) := ⟨rfl, rfl, rfl, by decide +kernel, rfl, by decide +kernel, by decide +kernel⟩
theorem ok_Desk_has {f : Addr} {fd : FuncData} (F : Fun K "has" "Desk.has" s_Desk_has f fd) (T : Txt K mg A)  : FnOk P w K mg base CX0 1 f fd ["self", "number"] (sp_Desk_has P w K A) := by
  refine F.ok sc_Desk_has (fun vs H Q E h => ?_) (fun cdv B outer s H vs Q E hr h => ?_)
  · obtain ⟨D, x, kn, z, rfl, _⟩ := h
    rfl
  obtain ⟨D, x, kn, z, rfl, hD, q⟩ := h
  refine ⟨_, (pss_one (ps_ret (pe_chain op_le op_lt pe_int (pv 1) (pe_callB call_len_seq rfl T.b_len PySem.boot_len (pa_cons (pe_fld (pe_fld (pv 0) rfl) rfl) pa_nil))))), ?_⟩
  refine s_ret (ev_chain ev_c (ev_var rfl) (ev_len (ev_fld (ev_lanes T hD (ev_var rfl)) hD.ls.ob T.cL (T.nL _ (by simp)) fL_steps) (SqL.of hD.ls.sa))) ?_
  rw [List.length_map, hD.ls.ls]
  exact q
theorem e_has {H : Hp} {D : DD} {x : S} {kn : Lw.Kn} {σ : L2.St} {to : TE} {t : TA} {z : Int} (h : DA P w A H D x kn) (ho : Ev to σ H (.ref D.d)) (ha : EvA t σ H [.int z]) : Ev (tMeth A.D "has" (sp_Desk_has P w K A) [] E0 to t) σ H (.bl (x.has z)) :=
  fun Q q => e_meth ho h.ob fD_m_has ha ⟨D, x, kn, z, rfl, h, q⟩
abbrev s_Desk_have : Stmt := inClass (top 53) 3
abbrev N_Desk_have : List Str := ["self", "numbers", "number"]
theorem sc_Desk_have : FnScope ["self", "numbers", "number"] ["self", "numbers"] (defScope s_Desk_have) := ⟨rfl, rfl, rfl, by decide +kernel, rfl, by decide +kernel, by decide +kernel⟩
theorem ok_Desk_have {f : Addr} {fd : FuncData} (F : Fun K "have" "Desk.have" s_Desk_have f fd) (T : Txt K mg A) (F_Desk_has : MtG P w K mg base A.D "has" 1 ["self", "number"] (sp_Desk_has P w K A)) : FnOk P w K mg base CX0 2 f fd ["self", "numbers"] (sp_Desk_have P w K A) := by
  refine F.ok sc_Desk_have (fun vs H Q E h => ?_) (fun cdv B outer s H vs Q E hr h => ?_)
  · obtain ⟨D, x, kn, a, zs, rfl, _⟩ := h
    rfl
  obtain ⟨D, x, kn, a, zs, rfl, hD, ha, hl, q⟩ := h
  refine ⟨_, (pss_one (ps_ret (pe_callB (cr_all rfl) rfl T.b_all (by decide +kernel) (pa_cons (pe_lc rfl sc_Desk_have.nd (pi_list (pv 1)) (blkOk_by (own := [("number", 2)]) (N := N_Desk_have) (sc := defScope s_Desk_have) (by decide +kernel)) (fun _ _ _ _ _ => (pg_name (i := 2) sc_Desk_have.nd rfl (Or.inl rfl))) (fun _ _ _ _ _ => pts_nil) (fun _ _ _ _ _ => (pe_mt F_Desk_has (hr.mono (by decide)) (pv 0) (pa_cons (pv 2) pa_nil)))) pa_nil)))), ?_⟩
  refine s_retAll (bs := zs.map x.has) (fun Q' q' => comp_map (xs := zs.map V.int) (fun v => match v with | .int z => .bl (x.has z) | _ => .bl false) (ev_var rfl) (SqL.of ha) (by rw [List.length_map]; omega) (fun j y H' hy s1 => ?_) fun D2 H' hn s1 h2 => q' D2 H' hn s1 ?_) fun H' s1 => ?_
  · rw [List.getElem?_map] at hy
    obtain ⟨z, _, rfl⟩ := Option.map_eq_some_iff.mp hy
    exact e_has (hD.same s1) (ev_var rfl) (eva_cons (ev_var rfl) eva_nil)
  · rw [h2, List.map_map, List.map_map]
    rfl
  · have := q H' s1
    rw [List.all_map]
    exact this
abbrev s_Desk_are_rows : Stmt := inClass (top 53) 15
abbrev N_Desk_are_rows : List Str := ["self", "rows"]
theorem sc_Desk_are_rows : FnScope ["self", "rows"] ["self", "rows"] (defScope s_Desk_are_rows) := ⟨rfl, rfl, rfl, by decide +kernel, rfl, by decide +kernel, by decide +kernel⟩
theorem ok_Desk_are_rows {f : Addr} {fd : FuncData} (F : Fun K "are_rows" "Desk.are_rows" s_Desk_are_rows f fd) (T : Txt K mg A) (F_do_rise : FnG P w K mg base "do_rise" 1 ["rows"] (sp_do_rise P w K A)) : FnOk P w K mg base CX0 2 f fd ["self", "rows"] (sp_Desk_are_rows P w K A) := by
  refine F.ok sc_Desk_are_rows (fun vs H Q E h => ?_) (fun cdv B outer s H vs Q E hr h => ?_)
  · obtain ⟨D, x, kn, a, zs, rfl, _⟩ := h
    rfl
  obtain ⟨D, x, kn, a, zs, rfl, hD, ha, hl, q⟩ := h
  refine ⟨_, (pss_one (ps_ret (pe_and (pe_fn F_do_rise (hr.mono (by decide)) rfl (pa_cons (pv 1) pa_nil)) (pe_one (pe_or (pe_cmpR op_eq (pe_callB call_len_seq rfl T.b_len PySem.boot_len (pa_cons (pv 1) pa_nil)) pe_int (nomark _)) (pe_one (pe_and (pe_cmpR op_ge (pe_ix ix_list (pv 1) pe_int (fun _ _ => rfl)) pe_int (nomark _)) (pe_one (pe_cmpR op_lt (pe_ix ix_list (pv 1) (pe_un un_neg pe_int) (fun _ _ => rfl)) (pe_fld (pv 0) rfl) (nomark _)))))))))), ?_⟩
  refine e_call (eva_cons (ev_var rfl) eva_nil) ⟨a, zs, rfl, ha, hl, fun H1 s1 => ?_⟩
  have ha1 := s1 _ _ ha
  have hD1 := hD.same s1
  refine ⟨_, rfl, ?_⟩
  by_cases c : Sf79.rising zs = true
  rotate_left
  · rw [if_neg c]
    have e : x.lanesOk zs = false := by
      unfold Sf79.S.lanesOk
      rw [eq_false_of_ne_true c, Bool.false_and]
    have := q H1 s1
    rw [e] at this
    exact this
  rw [if_pos c]
  have iff := Lw.lanesOk_iff (x := x) c
  refine ⟨_, rfl, a, _, rfl, .inl (SqL.of ha1), rfl, _, rfl, ?_⟩
  rw [List.length_map, dec_lit (z := 0) 0 rfl]
  by_cases c0 : zs.length = 0
  · rw [if_pos (decide_eq_true c0)]
    have := q H1 s1
    rw [iff.mpr (.inl c0)] at this
    exact this
  rw [if_neg (by rw [decide_eq_true_iff]; exact c0)]
  have g0 : (zs.map V.int)[0]? = some (.int (zs.getD 0 0)) := by rw [List.getElem?_map, List.getD_eq_getElem?_getD, List.getElem?_eq_getElem (by omega)]; rfl
  have g1 : (zs.map V.int)[zs.length - 1]? = some (.int (zs.getD (zs.length - 1) 0)) := by rw [List.getElem?_map, List.getD_eq_getElem?_getD, List.getElem?_eq_getElem (by omega)]; rfl
  refine ⟨_, rfl, a, _, _, _, rfl, rfl, SqL.of ha1, atI_nat (j := 0) g0, _, _, rfl, rfl, _, rfl, ?_⟩
  by_cases c1 : 0 ≤ zs.getD 0 0
  rotate_left
  · rw [if_neg (by rw [decide_eq_true_iff]; exact c1)]
    have e : x.lanesOk zs = false := eq_false_of_ne_true fun z => (iff.mp z).elim c0 fun h => c1 h.1
    have := q H1 s1
    rw [e] at this
    exact this
  rw [if_pos (decide_eq_true c1)]
  refine ⟨_, rfl, 1, rfl, a, _, _, _, rfl, rfl, SqL.of ha1, atI_neg (j := zs.length - 1) (by decide) (by rw [List.length_map]; omega) g1, _, rfl, D.d, A.D, D.dd, _, _, rfl, hD1.ob, T.cD, T.nD _ (by simp), fD_many, _, _, rfl, rfl, ?_⟩
  have e : decide (zs.getD (zs.length - 1) 0 < (x.rows : Int)) = x.lanesOk zs := by
    rw [Bool.eq_iff_iff, iff, decide_eq_true_iff]
    exact ⟨fun h => .inr ⟨c1, h⟩, fun h => h.elim (fun z => absurd z c0) fun z => z.2⟩
  show Q (.bl (decide (zs.getD (zs.length - 1) 0 < (x.rows : Int)))) H1
  rw [e]
  exact q H1 s1
abbrev s_Desk_true_in : Stmt := inClass (top 53) 18
abbrev N_Desk_true_in : List Str := ["self", "number", "rows", "row"]
theorem sc_Desk_true_in : FnScope ["self", "number", "rows", "row"] ["self", "number", "rows"] (defScope s_Desk_true_in) := ⟨rfl, rfl, rfl, by decide +kernel, rfl, by decide +kernel, by decide +kernel⟩
theorem ok_Desk_true_in {f : Addr} {fd : FuncData} (F : Fun K "true_in" "Desk.true_in" s_Desk_true_in f fd) (T : Txt K mg A) (F_Lanes_value : MtG P w K mg base A.L "value" 5 ["self", "number", "row"] (sp_Lanes_value P w K A)) : FnOk P w K mg base CX0 6 f fd ["self", "number", "rows"] (sp_Desk_true_in P w K A) := by
  refine F.ok sc_Desk_true_in (fun vs H Q E h => ?_) (fun cdv B outer s H vs Q E hr h => ?_)
  · obtain ⟨D, x, kn, n, a, rows, rfl, _⟩ := h
    rfl
  obtain ⟨D, x, kn, n, a, rows, rfl, hD, hn, ha, hle, hlen, q⟩ := h
  refine ⟨_, (pss_one (ps_ret (pe_lc rfl sc_Desk_true_in.nd (pi_list (pv 2)) (blkOk_by (own := [("row", 3)]) (N := N_Desk_true_in) (sc := defScope s_Desk_true_in) (by decide +kernel)) (fun _ _ _ _ _ => (pg_name (i := 3) sc_Desk_true_in.nd rfl (Or.inl rfl))) (fun _ _ _ _ _ => (pts_one (pt_cmpR op_eq (pe_mt F_Lanes_value (hr.mono (by decide)) (pe_fldK (K := K) rfl (pv 0) rfl) (pa_cons (pv 1) (pa_cons (pv 3) pa_nil))) (pe_gi T.true_ rfl) (nomark _)))) (fun _ _ _ _ _ => (pv 3))))), ?_⟩
  refine ⟨_, rfl, a, rfl, ⟨_, SqL.of ha⟩, fun D2 hD2 => ?_⟩
  refine lc_list (K := K) (a := a) (xs := nv rows) (fun j H' => ∃ kn', After A H D.L x kn kn' H' ∧ H' D2 = some (.lst (nv ((rows.take j).filter fun l => decide (x.known n l = some 2))))) ?_ ?_ ?_ ?_
  · exact ⟨kn, (After.start hD.lc hD.good).mut hD.lc.some hD2, upd_same⟩
  · rintro j H' _ ⟨kn', af, _⟩
    exact SqL.of (af.keep _ _ ha fun _ z => nomatch z)
  · rintro j y H' hy ⟨kn', af, hd⟩
    obtain ⟨r, er, rfl⟩ := nv_at hy
    refine ⟨wipe1, ?_⟩
    have hD' := hD.after af
    refine e_meth (ev_lanes T hD' (ev_var rfl)) hD'.ls.ob fL_m_value (eva_cons (ev_var rfl) (eva_cons (ev_var rfl) eva_nil)) ⟨D.L, x, kn', n, r, rfl, hD'.ls, af.lc, hD.ok, af.good, hn, hle r (List.mem_of_getElem? er), fun H2 kn2 k2 c2 g2 le2 _ => ?_⟩
    have af2 := af.trans ⟨k2, c2, g2, le2⟩
    have hd2 := k2 _ _ hd fun _ z => nomatch z
    have sc : scal (ov (x.known n r)) (.int 2) = true := by cases x.known n r <;> rfl
    refine ⟨sc, _, rfl, ?_⟩
    have e2 : decide (ov (x.known n r) = V.int 2) = decide (x.known n r = some 2) := by
      rw [decide_eq_decide]
      cases x.known n r with
      | none => simp [ov]
      | some v => rw [Option.some.injEq]; exact int_lit 2 rfl
    rw [e2]
    have tk := take_filter (p := fun l => decide (x.known n l = some 2)) er
    by_cases c : x.known n r = some 2
    · refine ift (decide_eq_true c) ⟨_, rfl, _, hd2, ?_, kn2, af2.mut hD.lc.some hD2, ?_⟩
      · rw [nv_len]
        exact szl (Nat.le_trans (List.length_filter_le _ _) (by rw [List.length_take]; omega))
      · rw [upd_same, tk, if_pos (decide_eq_true c)]
        exact congrArg (fun z => some (HO.lst z)) nv_append
    · refine iff' (decide_eq_false c) ⟨kn2, af2, ?_⟩
      rw [tk, if_neg (by rw [decide_eq_true_iff]; exact c)]
      exact hd2
  · rintro H' ⟨kn', af, hd⟩
    rw [nv_len, List.take_length] at hd
    exact q D2 H' kn' af hd
abbrev s_Desk_needed : Stmt := inClass (top 53) 19
abbrev N_Desk_needed : List Str := ["self", "rows", "number", "found"]
theorem sc_Desk_needed : FnScope ["self", "rows", "number", "found"] ["self"] (defScope s_Desk_needed) := ⟨rfl, rfl, rfl, by decide +kernel, rfl, by decide +kernel, by decide +kernel⟩
theorem ok_Desk_needed {f : Addr} {fd : FuncData} (F : Fun K "needed" "Desk.needed" s_Desk_needed f fd) (T : Txt K mg A) (F_Desk_true_in : MtG P w K mg base A.D "true_in" 6 ["self", "number", "rows"] (sp_Desk_true_in P w K A)) (F_Lanes_needed : MtG P w K mg base A.L "needed" 8 ["self", "number", "rows"] (sp_Lanes_needed P w K A)) : FnOk P w K mg base CX0 9 f fd ["self"] (sp_Desk_needed P w K A) := by
  refine F.ok sc_Desk_needed (fun vs H Q E h => ?_) (fun cdv B outer s H vs Q E hr h => ?_)
  · obtain ⟨D, x, kn, rfl, _⟩ := h
    rfl
  obtain ⟨D, x, kn, rfl, hD, q⟩ := h
  refine ⟨_, (pss_cons (ps_if (pt_cmp (pc_isN (pe_fld (pv 0) rfl))) (pss_one (ps_ret pe_non)) pss_nil) (pss_cons (ps_set (i := 1) sc_Desk_needed.nd rfl (Or.inl rfl) (pe_fld (pe_fld (pv 0) rfl) rfl)) (pss_cons (ps_for PassesOwn.never rfl (pi_list (pe_fld (pe_fld (pv 0) rfl) rfl)) (pg_name (i := 2) sc_Desk_needed.nd rfl (Or.inl rfl)) (pss_cons (ps_set (i := 3) sc_Desk_needed.nd rfl (Or.inl rfl) (pe_mt F_Lanes_needed (hr.mono (by decide)) (pe_fld (pv 0) rfl) (pa_cons (pv 2) (pa_cons (pv 1) pa_nil)))) (pss_cons (ps_if (pt_cmp (pc_notN (pv 3))) (pss_one (ps_ret (pv 3))) pss_nil) (pss_one (ps_set (i := 1) sc_Desk_needed.nd rfl (Or.inl rfl) (pe_mt F_Desk_true_in (hr.mono (by decide)) (pv 0) (pa_cons (pv 2) (pa_cons (pv 1) pa_nil)))))))) (pss_one (ps_ret pe_non))))), ?_⟩
  have tv : ∀ {H' kn'}, DA P w A H' D x kn' → ∀ {σ : L2.St}, σ[0]? = some (some (V.ref D.d)) → Ev (tFld K (tVar 0) "task") σ H' D.tv := fun h _ e => ev_fld (ev_var e) h.ob T.cD (T.nD _ (by simp)) fD_task
  have tsk := hD.task
  rw [Lw.next_nd hD.ok] at q
  cases hj : x.task with
  | none =>
    rw [hj] at tsk q
    obtain ⟨e1, e2⟩ := tsk
    refine s_if1 (tst_isN (tv hD rfl)) (fun _ => ?_) fun c => absurd e1 c
    exact q H kn .non (After.start hD.lc hD.good) (.inl ⟨rfl, rfl⟩)
  | some j =>
  rw [hj] at tsk q
  obtain ⟨t, td, ra, sa, e1, e2, ht, hra, hsa⟩ := tsk
  obtain ⟨k1, k2, k3⟩ := Lw.task_steps hD.ok hj
  refine s_if1 (tst_isN (tv hD rfl)) (fun c => by rw [e1] at c; cases c) fun _ => ?_
  have tf : ∀ {H' kn'}, After A H D.L x kn kn' H' → ∀ {σ : L2.St}, σ[0]? = some (some (V.ref D.d)) → ∀ {f : Str} {v : V}, NoAttr K A.T f → (fT (.ref ra) (.ref sa) (.bl (isC j))).lookup f = some v → Ev (tFld K (tFld K (tVar 0) "task") f) σ H' v := fun af _ e _ _ hn hl =>
    ev_fld (ev_is (tv (hD.after af) e) e1) (af.keep _ _ ht fun _ z => nomatch z) T.cT hn hl
  refine s_set (tf (After.start hD.lc hD.good) rfl (T.nT _ (by simp)) fT_rows) ?_
  refine s_forL (tf (After.start hD.lc hD.good) rfl (T.nT _ (by simp)) fT_steps) (SqL.of hsa) ?_
  have lle := Lw.lanes_le hD.ok k2
  have lln := Lw.lanes_len hD.ok k2
  refine for_it walk_list (fun i σ H' => ∃ (a : Addr) (nv' fv : Option V) (kn' : Lw.Kn), σ = [some (.ref D.d), some (.ref a), nv', fv] ∧ After A H D.L x kn kn' H' ∧ H' a = some (.lst (nv (Lw.yesAll x ((Lw.taskSteps j).take i) (Lw.taskLanes j)))) ∧
    Lw.ndAll x (Lw.taskSteps j) (Lw.taskLanes j) = Lw.ndAll x ((Lw.taskSteps j).drop i) (Lw.yesAll x ((Lw.taskSteps j).take i) (Lw.taskLanes j)))
    ⟨ra, none, none, kn, rfl, After.start hD.lc hD.good, hra, rfl⟩ (fun i σ H' _ ⟨_, _, _, _, _, af, _⟩ => SqL.of (af.keep _ _ hsa fun _ z => nomatch z)) ?_ ?_
  · rintro i v σ H' H1 hi ⟨a, nv', fv, kn', rfl, af, ha, he⟩ ⟨rfl, hv⟩
    obtain ⟨n, en, rfl⟩ := nv_at hv
    have hn := k1 n (List.mem_of_getElem? en)
    have hD' := hD.after af
    obtain ⟨ys, yl⟩ := Lw.yesAll_sub x ((Lw.taskSteps j).take i) (Lw.taskLanes j)
    have rle : ∀ l ∈ Lw.yesAll x ((Lw.taskSteps j).take i) (Lw.taskLanes j), l ≤ 1024 := fun l hl => lle l (ys l hl)
    have rln : (Lw.yesAll x ((Lw.taskSteps j).take i) (Lw.taskLanes j)).length ≤ 2000 := by omega
    have dr : (Lw.taskSteps j).drop i = n :: (Lw.taskSteps j).drop (i + 1) := by
      have hi2 := (List.getElem?_eq_some_iff.mp en).1
      rw [List.drop_eq_getElem_cons hi2, (List.getElem?_eq_some_iff.mp en).2]
    rw [dr, Lw.ndAll_cons] at he
    have tk1 : (Lw.taskSteps j).take (i + 1) = (Lw.taskSteps j).take i ++ [n] := by rw [List.take_add_one, en]; rfl
    have ys1 : Lw.yesAll x ((Lw.taskSteps j).take (i + 1)) (Lw.taskLanes j) = Lw.yes x n (Lw.yesAll x ((Lw.taskSteps j).take i) (Lw.taskLanes j)) := by rw [tk1, Lw.yesAll_snoc]
    refine e_meth (ev_lanes T hD' (ev_var rfl)) hD'.ls.ob fL_m_needed (eva_cons (ev_var rfl) (eva_cons (ev_var rfl) eva_nil)) ⟨D.L, x, kn', n, a, _, rfl, hD'.ls, af.lc, hD.ok, af.good, hn, ha, rle, rln, fun H2 kn2 v af2 nr => ?_⟩
    have af3 := af.trans af2
    refine s_if1 (tst_notN (ev_var rfl)) (fun c => ?_) fun c => ?_
    · refine s_ret (ev_var rfl) (q H2 kn2 v af3 ?_)
      rcases nr with ⟨z, _⟩ | ⟨p, b, s, l, e3, e4, e5, e6, e7⟩
      · exact absurd z c
      · refine .inr ⟨p, b, s, l, e3, e4, e5, e6, ?_⟩
        rw [e7] at he
        exact he
    · have e0 : Lw.nd x (n + 1) n (Lw.yesAll x ((Lw.taskSteps j).take i) (Lw.taskLanes j)) = none := by
        rcases nr with ⟨_, z⟩ | ⟨p, b, s, l, e3, _⟩
        · exact z
        · exact absurd (by rw [e3]; exact fun z => nomatch z) c
      rw [e0] at he
      have ha2 := af2.keep _ _ ha fun _ z => nomatch z
      have hD3 := hD.after af3
      refine e_meth (ev_var rfl) hD3.ob fD_m_true_in (eva_cons (ev_var rfl) (eva_cons (ev_var rfl) eva_nil)) ⟨D, x, kn2, n, a, _, rfl, hD3, hn, ha2, rle, rln, fun p H4 kn4 af4 hp => ?_⟩
      refine ⟨p, some (.int n), some v, kn4, rfl, af3.trans af4, by rw [ys1]; exact hp, by rw [ys1]; exact he⟩
  · rintro σ H' ⟨a, nv', fv, kn', rfl, af, ha, he⟩
    rw [nv_len, List.drop_length] at he
    exact q H' kn' .non af (.inl ⟨rfl, he⟩)
end
end Wk
namespace Wk
open PySem PySem.Spec PyProof.Rows L2 Nq
/-! A step is made. -/
theorem keyOf_inj {a b : Sf79.Step} (h : keyOf a = keyOf b) : a = b := by
  unfold keyOf at h
  simp only [Prod.mk.injEq] at h
  obtain ⟨h1, h2, h3⟩ := h
  have ip : a.parts = b.parts := by
    have : ∀ (l m : List Nat), (l.map fun (n : Nat) => (n : Int)) = (m.map fun (n : Nat) => (n : Int)) → l = m := by
      intro l
      induction l with
      | nil => intro m e; cases m with | nil => rfl | cons _ _ => cases e
      | cons a l ih =>
        intro m e
        cases m with
        | nil => cases e
        | cons b m =>
          rw [List.map_cons, List.map_cons, List.cons.injEq] at e
          rw [ih m e.2, show a = b by omega]
    exact this _ _ h3
  have hk : kindOf a = kindOf b := by omega
  have hn : numOf a = numOf b := by omega
  cases a <;> cases b <;> simp_all [kindOf, numOf, Sf79.Step.parts]
theorem nAt_find : ∀ (steps : List Sf79.Step) (xs : List NE) (k : Nat), xs.length = steps.length → (∀ (i : Nat) (t : Sf79.Step), steps[i]? = some t → ∃ b, xs[i]? = some (keyOf t, b, k + i)) → ∀ t, nAt xs (keyOf t) = (steps.findIdx? fun u => u == t).map (k + ·)
  | [], xs, k, hl, _, t => by
    rw [List.eq_nil_of_length_eq_zero hl]
    rfl
  | u :: r, [], k, hl, _, t => by cases hl
  | u :: r, e :: xs, k, hl, hk, t => by
    obtain ⟨b, eb⟩ := hk 0 u rfl
    have eb : e = (keyOf u, b, k) := Option.some.inj eb
    subst eb
    have ih := nAt_find r xs (k + 1) (by simpa using hl) (fun i t h => by
      obtain ⟨b, e⟩ := hk (i + 1) t h
      refine ⟨b, ?_⟩
      rw [show k + 1 + i = k + (i + 1) by omega]
      exact e) t
    rw [List.findIdx?_cons]
    unfold nAt at ih ⊢
    rw [List.find?_cons]
    by_cases c : u = t
    · subst c
      simp
    · have c1 : ¬ keyOf u = keyOf t := fun z => c (keyOf_inj z)
      rw [decide_eq_false (show ¬ (keyOf u, b, k).1 = keyOf t from c1), show (u == t) = false from beq_eq_false_iff_ne.mpr c]
      simp only [Bool.false_eq_true, if_false]
      rw [ih]
      cases r.findIdx? fun u => u == t with
      | none => rfl
      | some i =>
        simp only [Option.map_some]
        congr 1
        omega
/-- all but what stands at W is as it was -/
def ButW (W : List Addr) (H H' : Hp) : Prop := ∀ q o, H q = some o → q ∉ W → H' q = some o
theorem ButW.of {W : List Addr} {H H1 : Hp} (s : Same H H1) : ButW W H H1 := fun q o e _ => s q o e
theorem ButW.trans {W : List Addr} {H H1 H2 : Hp} (a : ButW W H H1) (b : ButW W H1 H2) : ButW W H H2 := fun q o e n => b q o (a q o e n) n
theorem ButW.upd {W : List Addr} {H : Hp} {d : Addr} {o : HO} (h : d ∈ W) : ButW W H (L2.upd H d o) := fun q u e n => by
  rw [upd_ne (show q ≠ d from fun z => n (z ▸ h))]
  exact e
def DD.W (D : DD) : List Addr := [D.g, D.L.sa, D.L.ka, D.nd]
section
variable {P : Program} {w : World} {A : Adr} {H H' H0 H1 : Hp} {D : DD} {x : S} {kn kn' : Lw.Kn} {q : Addr} {o : HO}
theorem DA.notW (h : DA P w A H D x kn) (e : H q = some o) (n1 : ∀ ys, o ≠ .lst ys) (n2 : ∀ φ, o ≠ .ext φ) : q ∉ D.W := fun hm => by
  unfold DD.W at hm
  simp only [List.mem_cons, List.not_mem_nil, or_false] at hm
  rcases hm with z | z | z | z
  · rw [z, h.g] at e; exact n1 _ (Option.some.inj e).symm
  · rw [z, h.ls.sa] at e; exact n1 _ (Option.some.inj e).symm
  · rw [z, h.ls.ka] at e; exact n1 _ (Option.some.inj e).symm
  · rw [z, h.nd] at e; exact n2 _ (Option.some.inj e).symm
theorem DA.there (h : DA P w A H D x kn) : ∀ q ∈ D.lists, ∃ ys, H q = some (.lst ys) := fun q hq => by
  unfold DD.lists at hq
  rcases List.mem_append.mp hq with hq | hq
  · rcases List.mem_append.mp hq with hq | hq
    · simp only [List.mem_cons, List.not_mem_nil, or_false] at hq
      obtain ⟨gv, hg, _⟩ := h.ls.ga
      rcases hq with rfl | rfl | rfl | rfl
      · exact ⟨_, h.ls.sa⟩
      · exact ⟨_, hg⟩
      · exact ⟨_, h.ls.ka⟩
      · exact ⟨_, h.g⟩
    · obtain ⟨i, hi, rfl⟩ := List.getElem_of_mem hq
      have hi2 : i < x.steps.length := by rw [← h.ls.lp]; exact hi
      obtain ⟨t, ht⟩ := step_there hi2
      have := (h.ls.st i t ht).pa
      have e : adr D.L.ps i = D.L.ps[i] := by unfold adr; rw [List.getD_eq_getElem?_getD, List.getElem?_eq_getElem hi]; rfl
      rw [e] at this
      exact ⟨_, this⟩
  · have := h.task
    cases hj : x.task with
    | none =>
      rw [hj] at this
      rw [this.2] at hq
      cases hq
    | some j =>
      rw [hj] at this
      obtain ⟨t, td, ra, sa, _, e2, _, h2, h3⟩ := this
      rw [e2] at hq
      simp only [List.mem_cons, List.not_mem_nil, or_false] at hq
      rcases hq with rfl | rfl
      · exact ⟨_, h2⟩
      · exact ⟨_, h3⟩
/-- a list of the desk's that is none of those that grow -/
theorem DA.notW_l (h : DA P w A H D x kn) (hq : q ∈ D.L.ps ++ D.tl ∨ q = D.L.ga) : q ∉ D.W := fun hm => by
  have sep := h.sep
  have hin : q ∈ D.lists := by
    unfold DD.lists
    rcases hq with hq | hq
    · rw [List.append_assoc]; exact List.mem_append_right _ hq
    · rw [hq]; simp
  obtain ⟨ys, hl⟩ := h.there q hin
  unfold DD.W at hm
  simp only [List.mem_cons, List.not_mem_nil, or_false] at hm
  unfold DD.lists at sep
  rw [List.append_assoc, List.nodup_append] at sep
  obtain ⟨s1, _, s3⟩ := sep
  simp only [List.nodup_cons, List.mem_cons, List.not_mem_nil, or_false, not_or] at s1
  obtain ⟨⟨a1, a2, a3⟩, ⟨b1, b2⟩, c1, _⟩ := s1
  rcases hm with z | z | z | z
  · rcases hq with hq | hq
    · exact s3 D.g (by simp) q hq z.symm
    · exact b2 (hq ▸ z)
  · rcases hq with hq | hq
    · exact s3 D.L.sa (by simp) q hq z.symm
    · exact a1 (hq ▸ z.symm)
  · rcases hq with hq | hq
    · exact s3 D.L.ka (by simp) q hq z.symm
    · exact b1 (hq ▸ z)
  · rw [z, h.nd] at hl; cases hl
theorem counts_more (O : Lw.Ok x) {t : Sf79.Step} : counts (Lw.more x t) = counts x ++ [0] := by
  unfold counts
  show ((List.range (x.steps ++ [t]).length).map fun s => x.asked.count s) = _
  rw [List.length_append, List.length_singleton, List.range_succ, List.map_append]
  congr 1
  show [x.asked.count x.steps.length] = [0]
  rw [List.count_eq_zero.mpr fun h => Nat.lt_irrefl _ (O.asked _ h)]
/-- the desk with a step more -/
theorem DA.more (h : DA P w A H D x kn) {t : Sf79.Step} {sx pl dn b : Addr} (ht : Lw.OKS t) (hp : ∀ p ∈ t.parts, p < x.steps.length) (nn : t ∉ x.steps) (hl : x.steps.length < 4096) (k : ButW D.W H H') (f1 : H pl = none) (f2 : H dn = none)
    (eg : H' D.g = some (.lst (nv (counts x ++ [0])))) (es : H' D.L.sa = some (.lst ((D.L.ss ++ [sx]).map V.ref))) (ek : H' D.L.ka = some (.lst ((D.L.ds ++ [dn]).map V.ref))) (en : H' D.nd = some (NO P w D.nd (D.xs ++ [(keyOf t, b, x.steps.length)])))
    (est : StepAt A H' sx pl t (Lw.maskOf x.steps t)) (ed : H' dn = some (.dK [])) (ekey : KeyAt H' (keyOf t) b) :
    DA P w A H' { D with L := { D.L with ss := D.L.ss ++ [sx], ps := D.L.ps ++ [pl], ds := D.L.ds ++ [dn] }, xs := D.xs ++ [(keyOf t, b, x.steps.length)] } (Lw.more x t) (Lw.cut x.steps.length kn) ∧
    Fr H D H' { D with L := { D.L with ss := D.L.ss ++ [sx], ps := D.L.ps ++ [pl], ds := D.L.ds ++ [dn] }, xs := D.xs ++ [(keyOf t, b, x.steps.length)] } := by
  have lenm : (Lw.more x t).steps.length = x.steps.length + 1 := by
    show (x.steps ++ [t]).length = _
    rw [List.length_append]
    rfl
  have adl : ∀ {l : List Addr} {a : Addr} {i : Nat}, i < l.length → adr (l ++ [a]) i = adr l i := fun {l a i} hi => by
    unfold adr
    rw [List.getD_eq_getElem?_getD, List.getD_eq_getElem?_getD, List.getElem?_append_left hi]
  have adr' : ∀ {l : List Addr} {a : Addr}, adr (l ++ [a]) l.length = a := fun {l a} => by
    unfold adr
    rw [List.getD_eq_getElem?_getD, List.getElem?_append_right (Nat.le_refl _), Nat.sub_self]
    rfl
  have dnn : dn ∉ D.L.ds := fun hm => by
    obtain ⟨i, hi, e⟩ := List.getElem_of_mem hm
    have : adr D.L.ds i = dn := by unfold adr; rw [List.getD_eq_getElem?_getD, List.getElem?_eq_getElem hi]; exact e
    exact h.lc.some i hi (this ▸ f2)
  have pln : pl ∉ D.lists := fun hm => by
    obtain ⟨ys, e⟩ := h.there pl hm
    rw [f1] at e
    cases e
  refine ⟨{
    ob := k _ _ h.ob (h.notW h.ob (fun _ z => nomatch z) fun _ z => nomatch z)
    ls := {
      ob := k _ _ h.ls.ob (h.notW h.ls.ob (fun _ z => nomatch z) fun _ z => nomatch z)
      sa := es
      ga := let ⟨gv, e, r⟩ := h.ls.ga; ⟨gv, k _ _ e (h.notW_l (.inr rfl)), r⟩
      ka := ek
      ls := by show (D.L.ss ++ [sx]).length = _; rw [lenm, List.length_append, h.ls.ls]; rfl
      lp := by show (D.L.ps ++ [pl]).length = _; rw [lenm, List.length_append, h.ls.lp]; rfl
      ld := by show (D.L.ds ++ [dn]).length = _; rw [lenm, List.length_append, h.ls.ld]; rfl
      nd := by
        show (D.L.ds ++ [dn]).Nodup
        rw [List.nodup_append]
        exact ⟨h.ls.nd, List.nodup_cons.mpr ⟨List.not_mem_nil, List.nodup_nil⟩, fun a ha b hb e => dnn (by rw [← List.mem_singleton.mp hb, ← e]; exact ha)⟩
      st := fun i u hu => by
        have hu : (x.steps ++ [t])[i]? = some u := hu
        show StepAt A H' (adr (D.L.ss ++ [sx]) i) (adr (D.L.ps ++ [pl]) i) u (Lw.mask (x.steps ++ [t]) i)
        by_cases c : i < x.steps.length
        · rw [List.getElem?_append_left c] at hu
          rw [adl (by rw [h.ls.ls]; exact c), adl (by rw [h.ls.lp]; exact c), Lw.mask_more c]
          obtain ⟨⟨dx, hx⟩, hq⟩ := h.ls.st i u hu
          exact ⟨⟨dx, k _ _ hx (h.notW hx (fun _ z => nomatch z) fun _ z => nomatch z)⟩, k _ _ hq (h.notW_l (.inl (List.mem_append_left _ (List.mem_of_getElem? (adr_get (by rw [h.ls.lp]; exact c))))))⟩
        · rw [List.getElem?_append_right (by omega)] at hu
          have hi : i - x.steps.length = 0 := by
            cases e : i - x.steps.length with
            | zero => rfl
            | succ k => rw [e] at hu; cases hu
          rw [hi] at hu
          cases hu
          have ei : i = x.steps.length := by omega
          subst ei
          have a1 := adr' (l := D.L.ss) (a := sx)
          have a2 := adr' (l := D.L.ps) (a := pl)
          rw [h.ls.ls] at a1
          rw [h.ls.lp] at a2
          rw [a1, a2, Lw.mask_new]
          exact est }
    lc := fun i hi => by
      have hi : i < (D.L.ds ++ [dn]).length := hi
      show ∃ kvs, H' (adr (D.L.ds ++ [dn]) i) = some (.dK kvs) ∧ KvOk kvs (Lw.cut x.steps.length kn i)
      by_cases c : i < x.steps.length
      · obtain ⟨kvs, e, r⟩ := h.lc i (by rw [h.ls.ld]; exact c)
        rw [adl (by rw [h.ls.ld]; exact c)]
        refine ⟨kvs, k _ _ e (h.notW e (fun _ z => nomatch z) fun _ z => nomatch z), ?_⟩
        have : Lw.cut x.steps.length kn i = kn i := by
          funext k'
          unfold Lw.cut
          rw [if_pos c]
        rw [this]
        exact r
      · rw [List.length_append, List.length_singleton, h.ls.ld] at hi
        have ei : i = D.L.ds.length := by rw [h.ls.ld]; omega
        rw [ei, adr']
        refine ⟨[], ed, ?_⟩
        have : Lw.cut x.steps.length kn D.L.ds.length = fun _ => none := by
          funext k'
          unfold Lw.cut
          rw [if_neg (by rw [h.ls.ld]; exact Nat.lt_irrefl _)]
        rw [this]
        exact KvOk.nil
    good := h.good.more h.ok hp
    ok := h.ok.more ht hp nn hl
    nd := en
    xl := by show (D.xs ++ _).length = _; rw [lenm, List.length_append, h.xl]; rfl
    xk := fun i u hu => by
      have hu : (x.steps ++ [t])[i]? = some u := hu
      show ∃ b', (D.xs ++ [(keyOf t, b, x.steps.length)])[i]? = some (keyOf u, b', i)
      by_cases c : i < x.steps.length
      · rw [List.getElem?_append_left c] at hu
        rw [List.getElem?_append_left (by rw [h.xl]; exact c)]
        exact h.xk i u hu
      · rw [List.getElem?_append_right (by omega)] at hu
        have hi : i - x.steps.length = 0 := by
          cases e : i - x.steps.length with
          | zero => rfl
          | succ k => rw [e] at hu; cases hu
        rw [hi] at hu
        cases hu
        have ei : i = x.steps.length := by omega
        subst ei
        refine ⟨b, ?_⟩
        rw [List.getElem?_append_right (by rw [h.xl]; exact Nat.le_refl _), h.xl, Nat.sub_self]
        rfl
    ka := fun e he => by
      have he : e ∈ D.xs ++ [(keyOf t, b, x.steps.length)] := he
      rcases List.mem_append.mp he with he | he
      · obtain ⟨c, h1, h2⟩ := h.ka e he
        exact ⟨c, k _ _ h1 (h.notW h1 (fun _ z => nomatch z) fun _ z => nomatch z), k _ _ h2 (h.notW h2 (fun _ z => nomatch z) fun _ z => nomatch z)⟩
      · rw [List.mem_singleton.mp he]
        exact ekey
    g := by rw [counts_more h.ok]; exact eg
    task := h.task.mono fun q o e m n1 n2 => by
      refine k q o e fun hm => ?_
      cases o with
      | lst ys => exact h.notW_l (.inl (List.mem_append_right _ (m ys rfl))) hm
      | ext φ => exact n2 φ rfl
      | _ => exact h.notW e (fun _ z => nomatch z) (fun _ z => nomatch z) hm
    sep := by
      show ([D.L.sa, D.L.ga, D.L.ka, D.g] ++ (D.L.ps ++ [pl]) ++ D.tl).Nodup
      have e : ([D.L.sa, D.L.ga, D.L.ka, D.g] ++ (D.L.ps ++ [pl]) ++ D.tl) = ([D.L.sa, D.L.ga, D.L.ka, D.g] ++ D.L.ps) ++ pl :: D.tl := by simp
      rw [e, List.perm_middle.nodup_iff]
      refine List.nodup_cons.mpr ⟨?_, ?_⟩
      · have : D.lists = ([D.L.sa, D.L.ga, D.L.ka, D.g] ++ D.L.ps) ++ D.tl := rfl
        rw [← this]; exact pln
      · exact h.sep }, ?_⟩
  refine ⟨fun q o e hs _ => k q o e fun hm => hs ?_, fun q hq => ?_, rfl⟩
  · unfold DD.W at hm
    unfold DD.sup DD.lists
    simp only [List.mem_cons, List.not_mem_nil, or_false] at hm
    rcases hm with rfl | rfl | rfl | rfl <;> simp
  · have hq : q ∈ [D.d, D.L.l, D.nd] ++ ([D.L.sa, D.L.ga, D.L.ka, D.g] ++ (D.L.ps ++ [pl]) ++ D.tl) := hq
    by_cases c : q = pl
    · subst c; exact .inr f1
    · left
      unfold DD.sup DD.lists
      simp only [List.mem_append, List.mem_cons, List.not_mem_nil, or_false, c] at hq ⊢
      exact hq
end
end Wk
namespace Wk
open PySem PySem.Spec PyProof.Rows L2 Nq
/-! A step is made: Desk.made. -/
section
variable {K : PySem.W.Frag} {σ : L2.St} {H : Hp} {ta td te : TE} {v : V} {P : Program} {w : World} {a b : Addr} {xs : List NE} {k : NK} {n : Nat}
theorem tst_nin (hy : Ev te σ H (.ref b)) (hd : Ev td σ H (.ref a)) (h : H a = some (NO P w a xs)) (ks : KeysAt H xs) (kb : KeyAt H k b) : Tst (tB (tNIn P w te td)) σ H ((nAt xs k).isSome = true) :=
  fun R r => hy _ (hd _ ⟨a, b, xs, k, rfl, rfl, h, ks, kb, _, rfl, r _ Iff.rfl⟩)
theorem ev_nget (hd : Ev td σ H (.ref a)) (hy : Ev te σ H (.ref b)) (h : H a = some (NO P w a xs)) (ks : KeysAt H xs) (kb : KeyAt H k b) (e : nAt xs k = some n) : Ev (tNGet P w td te) σ H (.int (n : Nat)) :=
  fun Q q => hd _ (hy _ ⟨a, b, xs, k, n, rfl, rfl, h, ks, kb, e, q⟩)
/-- return [e] -/
theorem s_ret1 {E : Ends} (h : Ev te σ H v) (q : ∀ p, H p = none → E.rt (.ref p) (upd H p (.lst [v]))) : tRet (tLst (tCons te tNil)) E σ H := h _ ⟨(by show 1 ≤ sizeLine; decide), q⟩
end
theorem upd_free {H : Hp} {a b : Addr} {o : HO} (h : upd H a o b = none) : b ≠ a ∧ H b = none := by
  have n : b ≠ a := fun z => by subst z; rw [upd_same] at h; cases h
  rw [upd_ne n] at h
  exact ⟨n, h⟩
theorem ButW.mut {W : List Addr} {H H1 : Hp} {d : Addr} {o : HO} (k : ButW W H H1) (h : H d = none) : ButW W H (L2.upd H1 d o) := fun b u e n => by
  rw [upd_ne (ne_of_none e h)]
  exact k b u e n
theorem ButW.put {W : List Addr} {H H1 : Hp} {d : Addr} {o : HO} (k : ButW W H H1) (h : d ∈ W) : ButW W H (L2.upd H1 d o) := k.trans (ButW.upd h)
section
variable {P : Program} {w : World} {A : Adr} {H H' H0 H1 H2 : Hp} {D D' : DD} {x : S} {kn kn' : Lw.Kn} {Q : VK}
theorem Fr.pre (s : Same H H1) (f : Fr H1 D H2 D') : Fr H D H2 D' := ⟨fun b o e n m => f.out b o (s b o e) n m, fun b h => (f.sup b h).imp id s.free, f.d⟩
theorem Fr.snd (f : Fr H D H1 D') (s : Same H1 H2) : Fr H D H2 D' := ⟨fun b o e n m => s b o (f.out b o e n m), f.sup, f.d⟩
/-- what the caller of a method waits for -/
def Waits (P : Program) (w : World) (A : Adr) (H : Hp) (D : DD) (r : S × Sf79.Ans) (Q : VK) : Prop := ∀ H' D' kn' p, DA P w A H' D' r.1 kn' → Fr H D H' D' → H' p = some (.lst (ansV r.2)) → (∀ ys, H p = some (.lst ys) → p ∈ D.sup) → Q (.ref p) H'
theorem Waits.pre {r : S × Sf79.Ans} (q : Waits P w A H D r Q) (s : Same H H1) : Waits P w A H1 D r Q := fun H' D' kn' p a f e n => q H' D' kn' p a (f.pre s) e fun ys h => n ys (s _ _ h)
/-- return [z], the state as it was -/
theorem say {E : Ends} {te : TE} {σ : L2.St} {z : Int} (q : Waits P w A H D (x, Sf79.says z) E.rt) (h : DA P w A H1 D x kn') (k : Keep H H1) (he : Ev te σ H1 (.int z)) : tRet (tLst (tCons te tNil)) E σ H1 :=
  s_ret1 he fun p hp => q _ D kn' p (h.same (same_new hp)) ((Fr.keep k).snd (same_new hp)) (by rw [upd_same, ans_says]) fun ys e => by
    rw [k _ _ e fun _ z => nomatch z] at hp
    cases hp
/-- return [z], the state another one -/
theorem say' {E : Ends} {te : TE} {σ : L2.St} {z : Int} {y : S} (q : Waits P w A H D (y, Sf79.says z) E.rt) (h : DA P w A H1 D' y kn') (f : Fr H D H1 D') (he : Ev te σ H1 (.int z)) : tRet (tLst (tCons te tNil)) E σ H1 :=
  s_ret1 he fun p hp => q _ D' kn' p (h.same (same_new hp)) (f.snd (same_new hp)) (by rw [upd_same, ans_says]) fun ys e => Classical.byContradiction fun n => by
    rw [f.out _ _ e n fun _ z => nomatch z] at hp
    cases hp
theorem DA.find (h : DA P w A H D x kn) (t : Sf79.Step) : nAt D.xs (keyOf t) = x.steps.findIdx? fun u => u == t := by
  rw [nAt_find x.steps D.xs 0 h.xl (fun i t e => by rw [Nat.zero_add]; exact h.xk i t e) t]
  cases x.steps.findIdx? fun u => u == t with
  | none => rfl
  | some i => exact congrArg some (Nat.zero_add i)
end
/-- what made answers -/
def madeR (x : S) (zs : List Int) (t : Sf79.Step) : S × Sf79.Ans := if zs.all x.has = false then (x, Sf79.says (-1)) else x.make t
def sp_Desk_made (P : Program) (w : World) (K : PySem.W.Frag) (A : Adr) : Sp := fun vs H Q _ => ∃ (D : DD) (x : S) (kn : Lw.Kn) (t : Sf79.Step) (a : Addr) (zs : List Int), vs = [.ref D.d, .int (kindOf t : Nat), .int (numOf t : Nat), .ref a] ∧ DA P w A H D x kn ∧ H a = some (.lst (zs.map V.int)) ∧ a ∉ D.lists ∧ zs.length ≤ 2000 ∧
  (zs.all x.has = true → t.parts = Sf79.nats zs ∧ Lw.OKS t) ∧ Waits P w A H D (madeR x zs t) Q
section
variable {P : Program} {w : World} {K : PySem.W.Frag} {mg : Str → Option Value} {base : Heap} {A : Adr}
theorem foldl_snoc {f : Nat → Nat} {l : List Nat} {i p s : Nat} (h : l[i]? = some p) : (l.take (i + 1)).foldl (fun a p => a ||| f p) s = (l.take i).foldl (fun a p => a ||| f p) s ||| f p := by
  rw [List.take_add_one, h, List.foldl_append]
  rfl
def base0 (t : Sf79.Step) : Nat := match t with
  | .col i => 2 ^ i
  | _ => 0
theorem maskOf_base (l : List Sf79.Step) (t : Sf79.Step) : Lw.maskOf l t = t.parts.foldl (fun (a p : Nat) => a ||| Lw.mask l p) (base0 t) := by cases t <;> rfl
theorem base0_no {t : Sf79.Step} (h : ¬ kindOf t = 0) : base0 t = 0 := by
  cases t with
  | col i => exact absurd rfl h
  | _ => rfl
theorem s_ifset {E : Ends} {t : TT} {te : TE} {σ : L2.St} {H : Hp} {n : Nat} {v : V} {c : Prop} (h : Tst t σ H c) (h1 : c → Ev te σ H v) (h2 : ¬ c → σ.set n (some v) = σ) (k : E.nx (σ.set n (some v)) H) : tIfS t (tAsg te (gName n)) tNext E σ H :=
  s_if h (fun z => s_set (h1 z) k) fun z => by
    rw [h2 z] at k
    exact k
abbrev s_Desk_made : Stmt := inClass (top 53) 4
abbrev N_Desk_made : List Str := ["self", "kind", "number", "parts", "key", "columns", "part"]
theorem sc_Desk_made : FnScope ["self", "kind", "number", "parts", "key", "columns", "part"] ["self", "kind", "number", "parts"] (defScope s_Desk_made) := ⟨rfl, rfl, rfl, by decide +kernel, rfl, by decide +kernel, by decide +kernel⟩
theorem ok_Desk_made {f : Addr} {fd : FuncData} (F : Fun K "made" "Desk.made" s_Desk_made f fd) (T : Txt K mg A) (F_Lanes_added : MtG P w K mg base A.L "added" 1 ["self", "step"] (sp_Lanes_added P w K A)) (M_Step : MkG P w K mg base A.S "Step" 1 ["self", "kind", "number", "parts", "columns"] (sp_Step___init__ P w K A)) (F_Desk_have : MtG P w K mg base A.D "have" 2 ["self", "numbers"] (sp_Desk_have P w K A)) : FnOk P w K mg base CX0 3 f fd ["self", "kind", "number", "parts"] (sp_Desk_made P w K A) := by
  refine F.ok sc_Desk_made (fun vs H Q E h => ?_) (fun cdv B outer s H vs Q E hr h => ?_)
  · obtain ⟨D, x, kn, t, a, zs, rfl, _⟩ := h
    rfl
  obtain ⟨D, x, kn, t, a, zs, rfl, hD, ha, hna, hl, ht, q⟩ := h
  refine ⟨_, (pss_cons (ps_if (pt_not (pt_val (pe_mt F_Desk_have (hr.mono (by decide)) (pv 0) (pa_cons (pv 3) pa_nil)))) (pss_one (ps_ret (pe_lst (pa_cons (pe_gi T.missing rfl) pa_nil)))) pss_nil) (pss_cons (ps_set (i := 4) sc_Desk_made.nd rfl (Or.inl rfl) (pe_tup (pa_cons (pv 1) (pa_cons (pv 2) (pa_cons (pe_callTy call_tuple_of rfl T.b_tuple (by decide +kernel) (pa_cons (pv 3) pa_nil)) pa_nil))))) (pss_cons (ps_if (pt_cmp (pc_nin hr.units (pv 4) (pe_fld (pv 0) rfl))) (pss_one (ps_ret (pe_lst (pa_cons (pe_nget hr.units (pe_fld (pv 0) rfl) (pv 4) (fun _ _ => rfl)) pa_nil)))) pss_nil) (pss_cons (ps_if (pt_cmpR op_eq (pe_callB call_lenN rfl T.b_len PySem.boot_len (pa_cons (pe_fld (pv 0) rfl) pa_nil)) (pe_gi T.most_steps rfl) (nomark _)) (pss_one (ps_ret (pe_lst (pa_cons (pe_gi T.full rfl) pa_nil)))) pss_nil) (pss_cons (ps_set (i := 5) sc_Desk_made.nd rfl (Or.inl rfl) pe_int) (pss_cons (ps_if (pt_cmpR op_eq (pv 1) (pe_gi T.column rfl) (nomark _)) (pss_one (ps_set (i := 5) sc_Desk_made.nd rfl (Or.inl rfl) (pe_op op_shl pe_int (pv 2)))) pss_nil) (pss_cons (ps_for PassesOwn.never rfl (pi_list (pv 3)) (pg_name (i := 6) sc_Desk_made.nd rfl (Or.inl rfl)) (pss_one (ps_set (i := 5) sc_Desk_made.nd rfl (Or.inl rfl) (pe_op op_or (pv 5) (pe_fld (pe_ix ix_list (pe_fld (pe_fld (pv 0) rfl) rfl) (pv 6) (fun _ _ => rfl)) rfl))))) (pss_cons (ps_expr (pe_bm PySem.F.plainAttrs_list PySem.F.slot_list_append PySem.F.type_list_append mt_append (pe_fld (pv 0) rfl) (pa_cons pe_int pa_nil))) (pss_cons (ps_nput hr.units (pe_fld (pv 0) rfl) (pv 4) (pe_mt F_Lanes_added (hr.mono (by decide)) (pe_fld (pv 0) rfl) (pa_cons (pe_mk M_Step (hr.mono (by decide)) rfl (pa_cons (pv 1) (pa_cons (pv 2) (pa_cons (pe_callTy call_list_of rfl T.b_list (by decide +kernel) (pa_cons (pv 3) pa_nil)) (pa_cons (pv 5) pa_nil))))) pa_nil)) rfl) (pss_one (ps_ret (pe_lst (pa_cons (pe_nget hr.units (pe_fld (pv 0) rfl) (pv 4) (fun _ _ => rfl)) pa_nil))))))))))))), ?_⟩
  have hv : ∀ {H1}, DA P w A H1 D x kn → H1 a = some (.lst (zs.map V.int)) → ∀ {σ : L2.St}, σ[0]? = some (some (V.ref D.d)) → σ[3]? = some (some (V.ref a)) → ∀ {f : Str} {v : V}, NoAttr K A.D f → (fD (.ref D.L.l) (.ref D.nd) (.int (x.rows : Nat)) D.tv (.ref D.g)).lookup f = some v → Ev (tFld K (tVar 0) f) σ H1 v := fun h _ _ e _ _ _ hn hl => ev_fld (ev_var e) h.ob T.cD hn hl
  refine s_ifS (tstS_not (b := zs.all x.has = true) fun R r => ?_) (fun c H1 s1 => ?_) fun c H1 s1 => ?_
  · exact e_meth (ev_var rfl) hD.ob fD_m_have (eva_cons (ev_var rfl) eva_nil) ⟨D, x, kn, a, zs, rfl, hD, ha, by omega, fun H1 s1 => ⟨_, rfl, r _ H1 s1 Iff.rfl⟩⟩
  · have e : madeR x zs t = (x, Sf79.says (-1)) := if_pos (eq_false_of_ne_true c)
    rw [e] at q
    exact say q (hD.same s1) (Keep.of s1) ev_c
  have c : zs.all x.has = true := Decidable.not_not.mp c
  have e : madeR x zs t = x.make t := if_neg (by rw [c]; exact fun z => nomatch z)
  rw [e] at q
  obtain ⟨hlt, hzs⟩ := Lw.have_of c
  obtain ⟨hp, ok⟩ := ht c
  rw [← hp] at hlt hzs
  clear ht
  -- key = (kind, number, tuple(parts))
  refine ⟨_, rfl, _, rfl, _, rfl, a, _, rfl, .inl ⟨SqL.of (s1 _ _ ha), fun c2 hc2 => ⟨(by show 3 ≤ sizeLine; decide), fun b hb => ?_⟩⟩⟩
  generalize hH3 : upd (upd H1 c2 (.tup (zs.map V.int))) b (.tup [.int (kindOf t : Nat), .int (numOf t : Nat), .ref c2]) = H3
  have kb : KeyAt H3 (keyOf t) b := by
    refine ⟨c2, by rw [← hH3]; exact upd_same, ?_⟩
    rw [← hH3, upd_ne (Ne.symm (upd_free hb).1), upd_same]
    show _ = some (HO.tup ((t.parts.map fun (n : Nat) => (n : Int)).map V.int))
    rw [← hzs]
  have s3 : Same H H3 := by
    rw [← hH3]
    exact (s1.trans (same_new hc2)).trans (same_new hb)
  have a3 : H3 a = some (.lst (zs.map V.int)) := s3 _ _ ha
  have q3 := q.pre s3
  have D3 := hD.same s3
  clear hH3 hb hc2 q ha hD
  have hv3 : ∀ {σ : L2.St}, σ[0]? = some (some (V.ref D.d)) → ∀ {f : Str} {v : V}, NoAttr K A.D f → (fD (.ref D.L.l) (.ref D.nd) (.int (x.rows : Nat)) D.tv (.ref D.g)).lookup f = some v → Ev (tFld K (tVar 0) f) σ H3 v := fun e _ _ hn hl => ev_fld (ev_var e) D3.ob T.cD hn hl
  refine s_if1 (tst_nin (ev_var rfl) (hv3 rfl (T.nD _ (by simp)) fD_numbers) D3.nd D3.ka kb) (fun c3 => ?_) fun c3 => ?_
  · rw [D3.find] at c3
    obtain ⟨n, hn⟩ := Option.isSome_iff_exists.mp c3
    have e : x.make t = (x, Sf79.says n) := by
      unfold Sf79.S.make
      rw [hn]
    rw [e] at q3
    exact say q3 D3 (Keep.refl _) (ev_nget (hv3 rfl (T.nD _ (by simp)) fD_numbers) (ev_var rfl) D3.nd D3.ka kb (by rw [D3.find]; exact hn))
  rw [D3.find] at c3
  have fnone : (x.steps.findIdx? fun u => u == t) = none := by
    cases e : x.steps.findIdx? fun u => u == t with
    | none => rfl
    | some i => rw [e] at c3; exact absurd rfl c3
  have nn : t ∉ x.steps := fun hm => by
    have := List.findIdx?_eq_none_iff.mp fnone t hm
    simp at this
  have n0 : nAt D.xs (keyOf t) = none := by rw [D3.find]; exact fnone
  refine hv3 rfl (T.nD _ (by simp)) fD_numbers _ ⟨D.nd, D.xs, rfl, D3.nd, D3.ka, rfl, _, rfl, ?_⟩
  have ml := D3.ok.most
  rw [D3.xl, dec_lit (z := 4096) 4096 rfl]
  by_cases c4 : x.steps.length = 4096
  · refine ift (decide_eq_true c4) ?_
    have e : x.make t = (x, Sf79.says (-2)) := by
      unfold Sf79.S.make
      rw [fnone]
      exact if_pos c4
    rw [e] at q3
    exact say q3 D3 (Keep.refl _) ev_c
  refine iff' (decide_eq_false c4) ?_
  have e : x.make t = (Lw.more x t, Sf79.says x.steps.length) := by
    unfold Sf79.S.make
    rw [fnone]
    exact if_neg c4
  rw [e] at q3
  have a4 : H3 a = some (.lst (nv t.parts)) := by rw [a3, nv_ints, ← hzs]
  -- columns
  refine s_set ev_c ?_
  refine s_ifset (v := .int (base0 t : Nat)) (tst_iff (tst_eq (ev_var rfl) ev_c rfl) (int_lit 0 rfl)) (fun c5 => ?_) (fun c5 => ?_) ?_
  · cases t with
    | col i =>
      have hi : i < 64 := ok
      refine ev_is (ev_I ev_c (ev_var rfl) ⟨?_, ?_, by decide⟩) ?_
      · show (0 : Int) ≤ (i : Int); omega
      · show (i : Int) ≤ 1000000; omega
      · show V.int (1 * 2 ^ ((i : Int)).toNat) = V.int ((2 ^ i : Nat) : Int)
        rw [Int.one_mul, Int.toNat_natCast, Int.natCast_pow]
        rfl
    | _ => cases c5
  · rw [base0_no c5]
    rfl
  refine s_forL (ev_var rfl) (SqL.of a4) ?_
  refine for_it walk_list (fun i σ H' => ∃ pv, σ = [some (.ref D.d), some (.int (kindOf t : Nat)), some (.int (numOf t : Nat)), some (.ref a), some (.ref b), some (.int ((t.parts.take i).foldl (fun (a p : Nat) => a ||| Lw.mask x.steps p) (base0 t) : Nat)), pv] ∧ H' = H3)
    ⟨none, rfl, rfl⟩ (fun i σ H' _ ⟨_, _, e⟩ => by rw [e]; exact SqL.of a4) ?_ ?_
  · rintro i v σ H' H'' hi ⟨pv, rfl, rfl⟩ ⟨rfl, hv⟩
    obtain ⟨p, ep, rfl⟩ := nv_at hv
    have hpl : p < x.steps.length := hlt p (List.mem_of_getElem? ep)
    obtain ⟨u, hu⟩ := step_there hpl
    obtain ⟨dx, hx⟩ := (D3.ls.st p u hu).ob
    refine s_set (ev_is (ev_I0 (ev_var rfl) (ev_fld (ev_step T D3.ls hpl (ev_lanes T D3 (ev_var rfl)) (ev_var rfl)) hx T.cS (T.nS _ (by simp)) fS_columns)) (congrArg V.int (or_nat _ _))) ?_
    refine ⟨some (.int p), ?_, rfl⟩
    rw [foldl_snoc ep]
    rfl
  rintro σ H' ⟨pv, rfl, e9⟩
  have e9 := e9.symm
  subst e9
  rw [nv_len, List.take_length, ← maskOf_base]
  -- self.given.append(0)
  have sep := D3.sep
  unfold DD.lists at sep
  simp only [List.cons_append, List.nodup_cons, List.mem_cons, not_or] at sep
  obtain ⟨⟨n1, n2, n3, _⟩, ⟨n4, n5, _⟩, ⟨n6, _⟩, _⟩ := sep
  have nng : D.nd ≠ D.g := ne_of D3.nd D3.g fun z => nomatch z
  have nns : D.nd ≠ D.L.sa := ne_of D3.nd D3.ls.sa fun z => nomatch z
  have nnk : D.nd ≠ D.L.ka := ne_of D3.nd D3.ls.ka fun z => nomatch z
  have nag : a ≠ D.g := fun z => hna (by rw [z]; simp [DD.lists])
  have nas : a ≠ D.L.sa := fun z => hna (by rw [z]; simp [DD.lists])
  have nak : a ≠ D.L.ka := fun z => hna (by rw [z]; simp [DD.lists])
  have naw : a ∉ D.W := fun hm => by
    unfold DD.W at hm
    simp only [List.mem_cons, List.not_mem_nil, or_false] at hm
    rcases hm with z | z | z | z
    · exact nag z
    · exact nas z
    · exact nak z
    · exact ne_of a3 D3.nd (fun z => nomatch z) z
  have gW : D.g ∈ D.W := by simp [DD.W]
  have sW : D.L.sa ∈ D.W := by simp [DD.W]
  have kW : D.L.ka ∈ D.W := by simp [DD.W]
  have nW : D.nd ∈ D.W := by simp [DD.W]
  have glen : (nv (counts x)).length ≤ 1000000 := by
    rw [nv_len]
    unfold counts
    rw [List.length_map, List.length_range]
    omega
  refine s_app (hv3 rfl (T.nD _ (by simp)) fD_given) D3.g ev_c glen ?_
  generalize hH4 : upd H3 D.g (.lst (nv (counts x) ++ [.int 0])) = H4
  have k4 : ButW D.W H3 H4 := by rw [← hH4]; exact ButW.upd gW
  have f4 : ∀ {z : Addr}, H4 z = none → H3 z = none := fun {z} e => by rw [← hH4] at e; exact (upd_free e).2
  have nob := D3.notW D3.ob (fun _ z => nomatch z) fun _ z => nomatch z
  have nol := D3.notW D3.ls.ob (fun _ z => nomatch z) fun _ z => nomatch z
  -- list(parts), the step
  refine ⟨_, rfl, D.d, A.D, D.dd, _, _, rfl, k4 _ _ D3.ob nob, T.cD, T.nD _ (by simp), fD_lanes, D.L.l, D.L.dl, _, rfl, k4 _ _ D3.ls.ob nol, fL_m_added, ?_⟩
  refine ⟨_, rfl, _, rfl, _, rfl, a, _, rfl, .inl (SqL.of (k4 _ _ a4 naw)), fun pl hpl => ⟨_, rfl, fun sx dx hsx hdx hne => ?_⟩⟩
  refine ⟨sx, dx, _, _, _, _, rfl, upd_same, rfl, ?_⟩
  obtain ⟨nsp, hsx⟩ := upd_free hsx
  obtain ⟨ndp, hdx⟩ := upd_free hdx
  rw [upd_upd]
  generalize hH6 : upd (upd (upd H4 pl (.lst (nv t.parts))) dx (.own sx)) sx (.ins A.S dx (fS (.int (kindOf t : Nat)) (.int (numOf t : Nat)) (.ref pl) (.int (Lw.maskOf x.steps t : Nat)))) = H6
  have k6 : ButW D.W H3 H6 := by rw [← hH6]; exact ((k4.mut (f4 hpl)).mut (f4 hdx)).mut (f4 hsx)
  have m6 : ∀ {z : Addr} {o : HO}, H4 z = some o → H6 z = some o := fun {z o} e => by
    rw [← hH6, upd_ne (ne_of_none e hsx), upd_ne (ne_of_none e hdx), upd_ne (ne_of_none e hpl)]
    exact e
  have g4 : H4 D.g = some (.lst (nv (counts x) ++ [.int 0])) := by rw [← hH4, upd_same]
  have e4 : ∀ {z : Addr}, z ≠ D.g → H4 z = H3 z := fun {z} n => by rw [← hH4, upd_ne n]
  have sx6 : H6 sx = some (.ins A.S dx (fS (.int (kindOf t : Nat)) (.int (numOf t : Nat)) (.ref pl) (.int (Lw.maskOf x.steps t : Nat)))) := by rw [← hH6, upd_same]
  have pl6 : H6 pl = some (.lst (nv t.parts)) := by rw [← hH6, upd_ne (Ne.symm nsp), upd_ne (Ne.symm ndp), upd_same]
  have f6 : ∀ {z : Addr}, H6 z = none → z ≠ sx ∧ z ≠ pl ∧ H4 z = none := fun {z} e => by
    rw [← hH6] at e
    obtain ⟨a1, e⟩ := upd_free e
    obtain ⟨_, e⟩ := upd_free e
    obtain ⟨a2, e⟩ := upd_free e
    exact ⟨a1, a2, e⟩
  have s6 : H6 D.L.sa = some (.lst (D.L.ss.map V.ref)) := m6 (by rw [e4 n3]; exact D3.ls.sa)
  have ka6 : H6 D.L.ka = some (.lst (D.L.ds.map V.ref)) := m6 (by rw [e4 n6]; exact D3.ls.ka)
  have nd6 : H6 D.nd = some (NO P w D.nd D.xs) := m6 (by rw [e4 nng]; exact D3.nd)
  have g6 := m6 g4
  refine ⟨D.L.l, D.L.dl, D.L.sa, D.L.ga, D.L.ka, sx, D.L.ss, D.L.ds, rfl, k6 _ _ D3.ls.ob nol, s6, ka6, D3.sk.1, by rw [D3.ls.ls]; exact ml, by rw [D3.ls.ld]; exact ml, fun dn hdn => ?_⟩
  obtain ⟨d1, d2, d4⟩ := f6 hdn
  have d3 := f4 d4
  have x3 := f4 hsx
  have p3 := f4 hpl
  have neG : ∀ {z : Addr}, H3 z = none → ∀ {y : Addr} {o : HO}, H3 y = some o → y ≠ z := fun h _ _ e => ne_of_none e h
  generalize hH7 : upd (upd (upd H6 D.L.sa (.lst ((D.L.ss ++ [sx]).map V.ref))) dn (.dK [])) D.L.ka (.lst ((D.L.ds ++ [dn]).map V.ref)) = H7
  have k7 : ButW D.W H3 H7 := by rw [← hH7]; exact ((k6.put sW).mut d3).put kW
  have nd7 : H7 D.nd = some (NO P w D.nd D.xs) := by rw [← hH7, upd_ne nnk, upd_ne (neG d3 D3.nd), upd_ne nns]; exact nd6
  have g7 : H7 D.g = some (.lst (nv (counts x) ++ [.int 0])) := by rw [← hH7, upd_ne (Ne.symm n6), upd_ne (neG d3 D3.g), upd_ne (Ne.symm n3)]; exact g6
  have s7 : H7 D.L.sa = some (.lst ((D.L.ss ++ [sx]).map V.ref)) := by rw [← hH7, upd_ne D3.sk.1, upd_ne (neG d3 D3.ls.sa), upd_same]
  have ka7 : H7 D.L.ka = some (.lst ((D.L.ds ++ [dn]).map V.ref)) := by rw [← hH7, upd_same]
  have dn7 : H7 dn = some (.dK []) := by rw [← hH7, upd_ne (neG d3 D3.ls.ka).symm, upd_same]
  have sx7 := show H7 sx = some (.ins A.S dx (stF t pl (Lw.maskOf x.steps t))) by rw [← hH7, upd_ne (neG x3 D3.ls.ka).symm, upd_ne d1.symm, upd_ne (neG x3 D3.ls.sa).symm]; exact sx6
  have pl7 : H7 pl = some (.lst (nv t.parts)) := by rw [← hH7, upd_ne (neG p3 D3.ls.ka).symm, upd_ne d2.symm, upd_ne (neG p3 D3.ls.sa).symm]; exact pl6
  have tupk : ∀ {H' : Hp}, ButW D.W H3 H' → ∀ b ys, H3 b = some (.tup ys) → H' b = some (.tup ys) := fun k b ys e => k _ _ e (D3.notW e (fun _ z => nomatch z) fun _ z => nomatch z)
  have kbk : ∀ {H' : Hp}, ButW D.W H3 H' → KeyAt H' (keyOf t) b := fun k => let ⟨c, h1, h2⟩ := kb; ⟨c, tupk k _ _ h1, tupk k _ _ h2⟩
  have lss : (V.int (D.L.ss.length : Nat)) = .int (x.steps.length : Nat) := by rw [D3.ls.ls]
  refine ⟨_, rfl, D.d, A.D, D.dd, _, _, rfl, k7 _ _ D3.ob nob, T.cD, T.nD _ (by simp), fD_numbers, _, rfl, D.nd, b, D.xs, keyOf t, x.steps.length, lss, rfl, rfl, nd7, keysAt_mono D3.ka (tupk k7), kbk k7, n0, szl (by rw [D3.xl]; omega), ?_⟩
  have k8 : ButW D.W H3 (upd H7 D.nd (NO P w D.nd (D.xs ++ [(keyOf t, b, x.steps.length)]))) := k7.put nW
  have nf : ∀ {z : Addr}, H3 z = none → z ≠ D.nd := fun h => (neG h D3.nd).symm
  obtain ⟨D8, F8⟩ := D3.more ok hlt nn (by omega) k8 p3 d3 (by rw [upd_ne nng.symm, g7]; exact congrArg (fun z => some (HO.lst z)) (nv_append (v := 0))) (by rw [upd_ne nns.symm]; exact s7) (by rw [upd_ne nnk.symm]; exact ka7) upd_same
    ⟨⟨dx, by rw [upd_ne (nf x3)]; exact sx7⟩, by rw [upd_ne (nf p3)]; exact pl7⟩ (by rw [upd_ne (nf d3)]; exact dn7) (kbk k8)
  refine say' q3 D8 F8 (ev_nget (ev_fld (ev_var rfl) D8.ob T.cD (T.nD _ (by simp)) fD_numbers) (ev_var rfl) D8.nd D8.ka (kbk k8) ?_)
  show nAt (D.xs ++ [(keyOf t, b, x.steps.length)]) (keyOf t) = _
  unfold nAt at n0 ⊢
  rw [List.find?_append, Option.map_eq_none_iff.mp n0]
  simp
end
end Wk
namespace Wk
open PySem PySem.Spec PyProof.Rows L2 Nq
/-! The calls that make a step. -/
/-- a method that answers as a call does -/
def spCall (P : Program) (w : World) (A : Adr) (c : Sf79.Call) (args : List V) (vs : List V) (H : Hp) (Q : VK) (C : DD → Prop) : Prop := ∃ (D : DD) (x : S) (kn : Lw.Kn), vs = .ref D.d :: args ∧ DA P w A H D x kn ∧ C D ∧ Waits P w A H D (Sf79.does x c) Q
def sp_Desk_column (P : Program) (w : World) (K : PySem.W.Frag) (A : Adr) : Sp := fun vs H Q _ => ∃ z : Int, spCall P w A (.column z) [.int z] vs H Q fun _ => True
def sp_Desk_value (P : Program) (w : World) (K : PySem.W.Frag) (A : Adr) : Sp := fun vs H Q _ => ∃ v : Nat, spCall P w A (.value v) [.int v] vs H Q fun _ => True
def sp_Desk_given_value (P : Program) (w : World) (K : PySem.W.Frag) (A : Adr) : Sp := fun vs H Q _ => ∃ z : Int, spCall P w A (.given z) [.int z] vs H Q fun _ => True
def sp_Desk_operation (P : Program) (w : World) (K : PySem.W.Frag) (A : Adr) : Sp := fun vs H Q _ => ∃ (z : Int) (a : Addr) (ps : List Int), spCall P w A (.operation z ps) [.int z, .ref a] vs H Q fun D => H a = some (.lst (ps.map V.int)) ∧ a ∉ D.lists ∧ ps.length ≤ 2000
def sp_Desk_cast (P : Program) (w : World) (K : PySem.W.Frag) (A : Adr) : Sp := fun vs H Q _ => ∃ (z p : Int), spCall P w A (.cast z p) [.int z, .int p] vs H Q fun _ => True
def sp_Desk_choice (P : Program) (w : World) (K : PySem.W.Frag) (A : Adr) : Sp := fun vs H Q _ => ∃ (a : Addr) (ps : List Int), spCall P w A (.choice ps) [.ref a] vs H Q fun D => H a = some (.lst (ps.map V.int)) ∧ a ∉ D.lists ∧ ps.length ≤ 2000
section
variable {P : Program} {w : World} {K : PySem.W.Frag} {mg : Str → Option Value} {base : Heap} {A : Adr}
theorem madeR_nil {x : S} {t : Sf79.Step} : madeR x [] t = x.make t := if_neg (by simp)
theorem DA.new_out {H : Hp} {D : DD} {x : S} {kn : Lw.Kn} {p : Addr} (h : DA P w A H D x kn) (hp : H p = none) : p ∉ D.lists := fun hm => by
  obtain ⟨ys, e⟩ := h.there p hm
  rw [hp] at e
  cases e
theorem upto_of {z : Int} {n m : Nat} (hm : n + 1 = m) : Sf79.upto z n = true ↔ (0 ≤ z ∧ z < (m : Int)) := by
  unfold Sf79.upto
  rw [Bool.and_eq_true, decide_eq_true_iff, decide_eq_true_iff]
  omega
theorem nat_of {z : Int} (h : 0 ≤ z) : ∃ n : Nat, z = (n : Int) := ⟨z.toNat, by omega⟩
abbrev s_Desk_column : Stmt := inClass (top 53) 5
abbrev N_Desk_column : List Str := ["self", "number"]
theorem sc_Desk_column : FnScope ["self", "number"] ["self", "number"] (defScope s_Desk_column) := ⟨rfl, rfl, rfl, by decide +kernel, rfl, by decide +kernel, by decide +kernel⟩
theorem ok_Desk_column {f : Addr} {fd : FuncData} (F : Fun K "column" "Desk.column" s_Desk_column f fd) (T : Txt K mg A) (F_Desk_made : MtG P w K mg base A.D "made" 3 ["self", "kind", "number", "parts"] (sp_Desk_made P w K A)) : FnOk P w K mg base CX0 4 f fd ["self", "number"] (sp_Desk_column P w K A) := by
  refine F.ok sc_Desk_column (fun vs H Q E h => ?_) (fun cdv B outer s H vs Q E hr h => ?_)
  · obtain ⟨z, D, x, kn, rfl, _⟩ := h
    rfl
  obtain ⟨z, D, x, kn, rfl, hD, _, q⟩ := h
  refine ⟨_, (pss_cons (ps_if (pt_not (pt_chain op_le op_lt pe_int (pv 1) (pe_gi T.columns rfl))) (pss_one (ps_ret (pe_lst (pa_cons (pe_gi T.odd rfl) pa_nil)))) pss_nil) (pss_one (ps_ret (pe_mt F_Desk_made (hr.mono (by decide)) (pv 0) (pa_cons (pe_gi T.column rfl) (pa_cons (pv 1) (pa_cons (pe_lst pa_nil) pa_nil))))))), ?_⟩
  refine s_if1 (tst_not (tst_of (a := 0 ≤ z ∧ z < ((64 : Nat) : Int)) (ev_chain ev_c (ev_var rfl) ev_c) (by rw [Bool.and_eq_true, decide_eq_true_iff, decide_eq_true_iff]; exact Iff.rfl))) (fun c => ?_) fun c => ?_
  · have e : Sf79.does x (.column z) = (x, Sf79.says (-3)) := if_neg fun k => c ((upto_of rfl).mp k)
    rw [e] at q
    exact say q hD (Keep.refl _) ev_c
  have c : 0 ≤ z ∧ z < ((64 : Nat) : Int) := Decidable.not_not.mp c
  have e : Sf79.does x (.column z) = x.make (.col z.toNat) := if_pos ((upto_of rfl).mpr c)
  rw [e] at q
  obtain ⟨n, rfl⟩ := nat_of c.1
  refine ⟨_, rfl, D.d, D.dd, _, rfl, hD.ob, fD_m_made, _, rfl, (by show 0 ≤ sizeLine; decide), fun p hp => ⟨D, x, kn, .col n, p, [], rfl, hD.same (same_new hp), upd_same, hD.new_out hp, Nat.zero_le _, fun _ => ⟨rfl, (by have := c.2; show n < 64; omega)⟩, ?_⟩⟩
  rw [madeR_nil]
  exact q.pre (same_new hp)
abbrev s_Desk_given_value : Stmt := inClass (top 53) 7
abbrev N_Desk_given_value : List Str := ["self", "number"]
theorem sc_Desk_given_value : FnScope ["self", "number"] ["self", "number"] (defScope s_Desk_given_value) := ⟨rfl, rfl, rfl, by decide +kernel, rfl, by decide +kernel, by decide +kernel⟩
theorem ok_Desk_given_value {f : Addr} {fd : FuncData} (F : Fun K "given_value" "Desk.given_value" s_Desk_given_value f fd) (T : Txt K mg A) (F_Desk_made : MtG P w K mg base A.D "made" 3 ["self", "kind", "number", "parts"] (sp_Desk_made P w K A)) : FnOk P w K mg base CX0 4 f fd ["self", "number"] (sp_Desk_given_value P w K A) := by
  refine F.ok sc_Desk_given_value (fun vs H Q E h => ?_) (fun cdv B outer s H vs Q E hr h => ?_)
  · obtain ⟨z, D, x, kn, rfl, _⟩ := h
    rfl
  obtain ⟨z, D, x, kn, rfl, hD, _, q⟩ := h
  refine ⟨_, (pss_cons (ps_if (pt_not (pt_chain op_le op_lt pe_int (pv 1) (pe_gi T.givens rfl))) (pss_one (ps_ret (pe_lst (pa_cons (pe_gi T.odd rfl) pa_nil)))) pss_nil) (pss_one (ps_ret (pe_mt F_Desk_made (hr.mono (by decide)) (pv 0) (pa_cons (pe_gi T.given rfl) (pa_cons (pv 1) (pa_cons (pe_lst pa_nil) pa_nil))))))), ?_⟩
  refine s_if1 (tst_not (tst_of (a := 0 ≤ z ∧ z < ((64 : Nat) : Int)) (ev_chain ev_c (ev_var rfl) ev_c) (by rw [Bool.and_eq_true, decide_eq_true_iff, decide_eq_true_iff]; exact Iff.rfl))) (fun c => ?_) fun c => ?_
  · have e : Sf79.does x (.given z) = (x, Sf79.says (-3)) := if_neg fun k => c ((upto_of rfl).mp k)
    rw [e] at q
    exact say q hD (Keep.refl _) ev_c
  have c : 0 ≤ z ∧ z < ((64 : Nat) : Int) := Decidable.not_not.mp c
  have e : Sf79.does x (.given z) = x.make (.given z.toNat) := if_pos ((upto_of rfl).mpr c)
  rw [e] at q
  obtain ⟨n, rfl⟩ := nat_of c.1
  refine ⟨_, rfl, D.d, D.dd, _, rfl, hD.ob, fD_m_made, _, rfl, (by show 0 ≤ sizeLine; decide), fun p hp => ⟨D, x, kn, .given n, p, [], rfl, hD.same (same_new hp), upd_same, hD.new_out hp, Nat.zero_le _, fun _ => ⟨rfl, (by have := c.2; show n < 64; omega)⟩, ?_⟩⟩
  rw [madeR_nil]
  exact q.pre (same_new hp)
abbrev s_Desk_value : Stmt := inClass (top 53) 6
abbrev N_Desk_value : List Str := ["self", "number"]
theorem sc_Desk_value : FnScope ["self", "number"] ["self", "number"] (defScope s_Desk_value) := ⟨rfl, rfl, rfl, by decide +kernel, rfl, by decide +kernel, by decide +kernel⟩
theorem ok_Desk_value {f : Addr} {fd : FuncData} (F : Fun K "value" "Desk.value" s_Desk_value f fd) (T : Txt K mg A) (F_Desk_made : MtG P w K mg base A.D "made" 3 ["self", "kind", "number", "parts"] (sp_Desk_made P w K A)) (F_is_value : FnG P w K mg base "is_value" 1 ["number"] (sp_is_value P w K A)) : FnOk P w K mg base CX0 4 f fd ["self", "number"] (sp_Desk_value P w K A) := by
  refine F.ok sc_Desk_value (fun vs H Q E h => ?_) (fun cdv B outer s H vs Q E hr h => ?_)
  · obtain ⟨v, D, x, kn, rfl, _⟩ := h
    rfl
  obtain ⟨v, D, x, kn, rfl, hD, _, q⟩ := h
  refine ⟨_, (pss_cons (ps_if (pt_not (pt_val (pe_fn F_is_value (hr.mono (by decide)) rfl (pa_cons (pv 1) pa_nil)))) (pss_one (ps_ret (pe_lst (pa_cons (pe_gi T.odd rfl) pa_nil)))) pss_nil) (pss_one (ps_ret (pe_mt F_Desk_made (hr.mono (by decide)) (pv 0) (pa_cons (pe_gi T.value rfl) (pa_cons (pv 1) (pa_cons (pe_lst pa_nil) pa_nil))))))), ?_⟩
  refine s_if1 (a := ¬ v < 2 ^ 64) (tst_not fun R r => e_call (eva_cons (ev_var rfl) eva_nil) ⟨v, rfl, _, rfl, r _ decide_eq_true_iff⟩) (fun c => ?_) fun c => ?_
  · have e : Sf79.does x (.value v) = (x, Sf79.says (-3)) := if_neg c
    rw [e] at q
    exact say q hD (Keep.refl _) ev_c
  have c : v < 2 ^ 64 := Decidable.not_not.mp c
  have e : Sf79.does x (.value v) = x.make (.val v) := if_pos c
  rw [e] at q
  refine ⟨_, rfl, D.d, D.dd, _, rfl, hD.ob, fD_m_made, _, rfl, (by show 0 ≤ sizeLine; decide), fun p hp => ⟨D, x, kn, .val v, p, [], rfl, hD.same (same_new hp), upd_same, hD.new_out hp, Nat.zero_le _, fun _ => ⟨rfl, c⟩, ?_⟩⟩
  rw [madeR_nil]
  exact q.pre (same_new hp)
theorem alone_iff {n : Nat} : ([1, 4, 5].contains n = true) ↔ (n = 1 ∨ n = 4 ∨ n = 5) := by simp
theorem partsOk_iff {o n : Nat} : Sf79.partsOk o n = true ↔ (1 ≤ n ∧ n ≤ 16) ∧ ¬ ((o = 1 ∨ o = 4 ∨ o = 5) ∧ 1 < n) := by
  unfold Sf79.partsOk
  by_cases c : o = 1 ∨ o = 4 ∨ o = 5
  · rw [if_pos (alone_iff.mpr c), beq_iff_eq]
    omega
  · rw [if_neg (fun z => c (alone_iff.mp z)), Bool.and_eq_true, decide_eq_true_iff, decide_eq_true_iff]
    omega
abbrev s_Desk_operation : Stmt := inClass (top 53) 8
abbrev N_Desk_operation : List Str := ["self", "number", "parts"]
theorem sc_Desk_operation : FnScope ["self", "number", "parts"] ["self", "number", "parts"] (defScope s_Desk_operation) := ⟨rfl, rfl, rfl, by decide +kernel, rfl, by decide +kernel, by decide +kernel⟩
theorem ok_Desk_operation {f : Addr} {fd : FuncData} (F : Fun K "operation" "Desk.operation" s_Desk_operation f fd) (T : Txt K mg A) (F_Desk_made : MtG P w K mg base A.D "made" 3 ["self", "kind", "number", "parts"] (sp_Desk_made P w K A)) : FnOk P w K mg base CX0 4 f fd ["self", "number", "parts"] (sp_Desk_operation P w K A) := by
  refine F.ok sc_Desk_operation (fun vs H Q E h => ?_) (fun cdv B outer s H vs Q E hr h => ?_)
  · obtain ⟨z, a, ps, D, x, kn, rfl, _⟩ := h
    rfl
  obtain ⟨z, a, ps, D, x, kn, rfl, hD, ⟨ha, hna, hl⟩, q⟩ := h
  refine ⟨_, (pss_cons (ps_if (PW.pt (pw_or (pt_not (pt_chain op_le op_lt pe_int (pv 1) (pe_gi T.operations rfl))) (pw_or1 (pt_not (pt_chain op_le op_le pe_int (pe_callB call_len_seq rfl T.b_len PySem.boot_len (pa_cons (pv 2) pa_nil)) (pe_gi T.most_parts rfl)))))) (pss_one (ps_ret (pe_lst (pa_cons (pe_gi T.odd rfl) pa_nil)))) pss_nil) (pss_cons (ps_if (PW.pt (pw_and (pt_cmpR op_in_seq (pv 1) (pe_gr T.gAlone rfl) rfl) (pw_and1 (pt_cmpR op_gt (pe_callB call_len_seq rfl T.b_len PySem.boot_len (pa_cons (pv 2) pa_nil)) pe_int (nomark _))))) (pss_one (ps_ret (pe_lst (pa_cons (pe_gi T.odd rfl) pa_nil)))) pss_nil) (pss_one (ps_ret (pe_mt F_Desk_made (hr.mono (by decide)) (pv 0) (pa_cons (pe_gi T.operation rfl) (pa_cons (pv 1) (pa_cons (pv 2) pa_nil)))))))), ?_⟩
  have ln : ∀ {σ : L2.St}, σ[2]? = some (some (V.ref a)) → Ev (tCB (rLen K) (tCons (tVar 2) tNil)) σ H (.int (ps.length : Nat)) := fun h => ev_is (ev_len (ev_var h) (SqL.of ha)) (by rw [List.length_map])
  refine s_if1 (a := ¬ (0 ≤ z ∧ z < ((256 : Nat) : Int)) ∨ ¬ (1 ≤ ps.length ∧ ps.length ≤ 16)) (tst_or (tst_not (tst_of (ev_chain ev_c (ev_var rfl) ev_c) (by rw [Bool.and_eq_true, decide_eq_true_iff, decide_eq_true_iff]; exact Iff.rfl))) fun _ =>
    tst_not (tst_of (ev_chain ev_c (ln rfl) ev_c) (by rw [Bool.and_eq_true, decide_eq_true_iff, decide_eq_true_iff]; omega))) (fun c => ?_) fun c => ?_
  · have e : Sf79.does x (.operation z ps) = (x, Sf79.says (-3)) := if_pos (by
      rcases c with c | c
      · exact .inl (eq_false_of_ne_true fun k => c ((upto_of rfl).mp k))
      · exact .inr (eq_false_of_ne_true fun k => c (partsOk_iff.mp k).1))
    rw [e] at q
    exact say q hD (Keep.refl _) ev_c
  have c1 : 0 ≤ z ∧ z < ((256 : Nat) : Int) := Decidable.not_not.mp fun k => c (.inl k)
  have c2 : 1 ≤ ps.length ∧ ps.length ≤ 16 := Decidable.not_not.mp fun k => c (.inr k)
  have u := (upto_of (z := z) (n := 255) rfl).mpr c1
  obtain ⟨n, rfl⟩ := nat_of c1.1
  refine s_if1 (a := (n = 1 ∨ n = 4 ∨ n = 5) ∧ 1 < ps.length) (tst_and (tst_iff (tst_of (ev_inT (ev_var rfl) ev_c (T.tAlone H) rfl rfl) Iff.rfl) (by rw [inT_alone, decide_eq_true_iff])) fun _ =>
    tst_iff (tst_gt (ln rfl) ev_c) (by omega)) (fun c3 => ?_) fun c3 => ?_
  · have e : Sf79.does x (.operation n ps) = (x, Sf79.says (-3)) := if_pos (.inr (eq_false_of_ne_true fun k => (partsOk_iff.mp k).2 c3))
    rw [e] at q
    exact say q hD (Keep.refl _) ev_c
  have pk : Sf79.partsOk n ps.length = true := partsOk_iff.mpr ⟨c2, c3⟩
  have e : Sf79.does x (.operation n ps) = madeR x ps (.op n (Sf79.nats ps)) := if_neg (by
    rintro (k | k)
    · rw [u] at k; cases k
    · rw [show (n : Int).toNat = n from rfl, pk] at k; cases k)
  rw [e] at q
  exact r_meth (ev_var rfl) hD.ob fD_m_made (eva_cons ev_c (eva_cons (ev_var rfl) (eva_cons (ev_var rfl) eva_nil))) ⟨D, x, kn, .op n (Sf79.nats ps), a, ps, rfl, hD, ha, hna, hl, fun _ => ⟨rfl, (by have := c1.2; show n < 256; omega), (by show Sf79.partsOk n (List.map Int.toNat ps).length = true; rw [List.length_map]; exact pk)⟩, q⟩
abbrev s_Desk_cast : Stmt := inClass (top 53) 9
abbrev N_Desk_cast : List Str := ["self", "number", "part"]
theorem sc_Desk_cast : FnScope ["self", "number", "part"] ["self", "number", "part"] (defScope s_Desk_cast) := ⟨rfl, rfl, rfl, by decide +kernel, rfl, by decide +kernel, by decide +kernel⟩
theorem ok_Desk_cast {f : Addr} {fd : FuncData} (F : Fun K "cast" "Desk.cast" s_Desk_cast f fd) (T : Txt K mg A) (F_Desk_made : MtG P w K mg base A.D "made" 3 ["self", "kind", "number", "parts"] (sp_Desk_made P w K A)) : FnOk P w K mg base CX0 4 f fd ["self", "number", "part"] (sp_Desk_cast P w K A) := by
  refine F.ok sc_Desk_cast (fun vs H Q E h => ?_) (fun cdv B outer s H vs Q E hr h => ?_)
  · obtain ⟨z, p, D, x, kn, rfl, _⟩ := h
    rfl
  obtain ⟨z, r, D, x, kn, rfl, hD, _, q⟩ := h
  refine ⟨_, (pss_cons (ps_if (pt_not (pt_chain op_le op_lt pe_int (pv 1) (pe_gi T.casts rfl))) (pss_one (ps_ret (pe_lst (pa_cons (pe_gi T.odd rfl) pa_nil)))) pss_nil) (pss_one (ps_ret (pe_mt F_Desk_made (hr.mono (by decide)) (pv 0) (pa_cons (pe_gi T.cast rfl) (pa_cons (pv 1) (pa_cons (pe_lst (pa_cons (pv 2) pa_nil)) pa_nil))))))), ?_⟩
  refine s_if1 (tst_not (tst_of (a := 0 ≤ z ∧ z < ((65536 : Nat) : Int)) (ev_chain ev_c (ev_var rfl) ev_c) (by rw [Bool.and_eq_true, decide_eq_true_iff, decide_eq_true_iff]; exact Iff.rfl))) (fun c => ?_) fun c => ?_
  · have e : Sf79.does x (.cast z r) = (x, Sf79.says (-3)) := if_pos (eq_false_of_ne_true fun k => c ((upto_of rfl).mp k))
    rw [e] at q
    exact say q hD (Keep.refl _) ev_c
  have c : 0 ≤ z ∧ z < ((65536 : Nat) : Int) := Decidable.not_not.mp c
  have u := (upto_of (z := z) (n := 65535) rfl).mpr c
  obtain ⟨n, rfl⟩ := nat_of c.1
  have e : Sf79.does x (.cast n r) = madeR x [r] (.cast n r.toNat) := by
    have e1 : Sf79.does x (.cast n r) = if x.has r = false then (x, Sf79.says (-1)) else x.make (.cast n r.toNat) := if_neg (by rw [u]; exact fun z => nomatch z)
    rw [e1]
    unfold madeR
    rw [show [r].all x.has = x.has r from by simp]
  rw [e] at q
  refine ⟨_, rfl, D.d, D.dd, _, rfl, hD.ob, fD_m_made, _, rfl, _, rfl, (by show 1 ≤ sizeLine; decide), fun p hp => ⟨D, x, kn, .cast n r.toNat, p, [r], rfl, hD.same (same_new hp), upd_same, hD.new_out hp, (by show 1 ≤ 2000; decide), fun _ => ⟨rfl, (by have := c.2; show n < 65536; omega)⟩, q.pre (same_new hp)⟩⟩
abbrev s_Desk_choice : Stmt := inClass (top 53) 10
abbrev N_Desk_choice : List Str := ["self", "parts"]
theorem sc_Desk_choice : FnScope ["self", "parts"] ["self", "parts"] (defScope s_Desk_choice) := ⟨rfl, rfl, rfl, by decide +kernel, rfl, by decide +kernel, by decide +kernel⟩
theorem ok_Desk_choice {f : Addr} {fd : FuncData} (F : Fun K "choice" "Desk.choice" s_Desk_choice f fd) (T : Txt K mg A) (F_Desk_made : MtG P w K mg base A.D "made" 3 ["self", "kind", "number", "parts"] (sp_Desk_made P w K A)) : FnOk P w K mg base CX0 4 f fd ["self", "parts"] (sp_Desk_choice P w K A) := by
  refine F.ok sc_Desk_choice (fun vs H Q E h => ?_) (fun cdv B outer s H vs Q E hr h => ?_)
  · obtain ⟨a, ps, D, x, kn, rfl, _⟩ := h
    rfl
  obtain ⟨a, ps, D, x, kn, rfl, hD, ⟨ha, hna, hl⟩, q⟩ := h
  refine ⟨_, (pss_cons (ps_if (PW.pt (pw_or (pt_not (pt_chain op_le op_le pe_int (pe_callB call_len_seq rfl T.b_len PySem.boot_len (pa_cons (pv 1) pa_nil)) (pe_gi T.most_choice rfl))) (pw_or1 (pt_cmpR op_eq (pe_op op_and (pe_callB call_len_seq rfl T.b_len PySem.boot_len (pa_cons (pv 1) pa_nil)) pe_int) pe_int (nomark _))))) (pss_one (ps_ret (pe_lst (pa_cons (pe_gi T.odd rfl) pa_nil)))) pss_nil) (pss_one (ps_ret (pe_mt F_Desk_made (hr.mono (by decide)) (pv 0) (pa_cons (pe_gi T.choice rfl) (pa_cons pe_int (pa_cons (pv 1) pa_nil))))))), ?_⟩
  have ln : ∀ {σ : L2.St}, σ[1]? = some (some (V.ref a)) → Ev (tCB (rLen K) (tCons (tVar 1) tNil)) σ H (.int (ps.length : Nat)) := fun h => ev_is (ev_len (ev_var h) (SqL.of ha)) (by rw [List.length_map])
  refine s_if1 (a := ¬ (3 ≤ ps.length ∧ ps.length ≤ 129) ∨ ps.length % 2 = 0) (tst_or (tst_not (tst_of (ev_chain ev_c (ln rfl) ev_c) (by rw [Bool.and_eq_true, decide_eq_true_iff, decide_eq_true_iff]; omega))) fun _ =>
    tst_iff (tst_eq (ev_is (ev_I0 (ln rfl) ev_c) (congrArg V.int (and_one _))) ev_c rfl) (int_lit 0 rfl)) (fun c => ?_) fun c => ?_
  · have e : Sf79.does x (.choice ps) = (x, Sf79.says (-3)) := if_pos (by omega)
    rw [e] at q
    exact say q hD (Keep.refl _) ev_c
  have e : Sf79.does x (.choice ps) = madeR x ps (.choice (Sf79.nats ps)) := if_neg (by omega)
  rw [e] at q
  have nl : (Sf79.nats ps).length = ps.length := List.length_map _
  exact r_meth (ev_var rfl) hD.ob fD_m_made (eva_cons ev_c (eva_cons ev_c (eva_cons (ev_var rfl) eva_nil))) ⟨D, x, kn, .choice (Sf79.nats ps), a, ps, rfl, hD, ha, hna, hl, fun _ => ⟨rfl, (by show 3 ≤ (Sf79.nats ps).length ∧ (Sf79.nats ps).length ≤ 129 ∧ (Sf79.nats ps).length % 2 = 1; rw [nl]; omega)⟩, q⟩
end
end Wk
namespace Wk
open PySem PySem.Spec PyProof.Rows L2 Nq
/-! What a step is, what it hangs on, what is known of it, what is needed. -/
section
variable {K : PySem.W.Frag} {σ : L2.St} {H : Hp} {ta tb : TE} {x y : V} {E : Ends} {l b : Addr} {xs zs : List V}
theorem s_ret2 (ha : Ev ta σ H x) (hb : Ev tb σ H y) (q : ∀ p, H p = none → E.rt (.ref p) (upd H p (.lst [x, y]))) : tRet (tLst (tCons ta (tCons tb tNil))) E σ H := ha _ (hb _ ⟨(by show 2 ≤ sizeLine; decide), q⟩)
theorem s_cat (ha : Ev ta σ H (.ref l)) (hb : Ev tb σ H (.ref b)) (hl : H l = some (.lst xs)) (hz : H b = some (.lst zs)) (hn : xs.length + zs.length ≤ 1000000) (q : ∀ p, H p = none → E.rt (.ref p) (upd H p (.lst (xs ++ zs)))) : tRet (tOp rCat ta tb) E σ H :=
  ha _ (hb _ ⟨l, b, xs, zs, rfl, rfl, hl, hz, sz hn, q⟩)
theorem s_lst2 {n : Nat} (ha : Ev ta σ H x) (hb : Ev tb σ H y) (q : ∀ p, H p = none → E.nx (σ.set n (some (.ref p))) (upd H p (.lst [x, y]))) : tAsg (tLst (tCons ta (tCons tb tNil))) (gName n) E σ H := ha _ (hb _ ⟨(by show 2 ≤ sizeLine; decide), q⟩)
/-- return [e] + xs -/
theorem s_cat1 (ha : Ev ta σ H x) (hb : ∀ p, H p = none → Ev tb σ (upd H p (.lst [x])) (.ref b)) (hz : H b = some (.lst zs)) (hn : zs.length ≤ 100000) (q : ∀ p H1, H1 p = none → Same H H1 → E.rt (.ref p) (upd H1 p (.lst (x :: zs)))) : tRet (tOp rCat (tLst (tCons ta tNil)) tb) E σ H :=
  ha _ ⟨(by show 1 ≤ sizeLine; decide), fun l hl => hb l hl _ ⟨l, b, [x], zs, rfl, rfl, upd_same, same_new hl _ _ hz, sz (by rw [List.length_singleton]; omega), fun p hp => q p _ hp (same_new hl)⟩⟩
end
section
variable {P : Program} {w : World} {A : Adr} {H H' H0 H1 H2 : Hp} {D D' : DD} {x : S} {kn kn' : Lw.Kn} {Q : VK} {p : Addr}
theorem giveback {a : Sf79.Ans} {ys : List V} (q : Waits P w A H D (x, a) Q) (h : DA P w A H1 D x kn') (k : Keep H H1) (hp : H1 p = none) (e : ys = ansV a) : Q (.ref p) (upd H1 p (.lst ys)) :=
  q _ D kn' p (h.same (same_new hp)) ((Fr.keep k).snd (same_new hp)) (by rw [upd_same, e]) fun ys e => by
    rw [k _ _ e fun _ z => nomatch z] at hp
    cases hp
end
def sp_Desk_step (P : Program) (w : World) (K : PySem.W.Frag) (A : Adr) : Sp := fun vs H Q _ => ∃ z : Int, spCall P w A (.step z) [.int z] vs H Q fun _ => True
def sp_Desk_uses (P : Program) (w : World) (K : PySem.W.Frag) (A : Adr) : Sp := fun vs H Q _ => ∃ z : Int, spCall P w A (.uses z) [.int z] vs H Q fun _ => True
def sp_Desk_work (P : Program) (w : World) (K : PySem.W.Frag) (A : Adr) : Sp := fun vs H Q _ => ∃ z : Int, spCall P w A (.work z) [.int z] vs H Q fun _ => True
def sp_Desk_known_of (P : Program) (w : World) (K : PySem.W.Frag) (A : Adr) : Sp := fun vs H Q _ => ∃ (z l : Int), spCall P w A (.known z l) [.int z, .int l] vs H Q fun _ => True
def sp_Desk_need (P : Program) (w : World) (K : PySem.W.Frag) (A : Adr) : Sp := fun vs H Q _ => spCall P w A .need [] vs H Q fun _ => True
section
variable {P : Program} {w : World} {K : PySem.W.Frag} {mg : Str → Option Value} {base : Heap} {A : Adr}
theorem told_eq (t : Sf79.Step) : ansV ⟨(t.parts.length : Nat), t.told⟩ = V.int (t.parts.length : Nat) :: .int (kindOf t : Nat) :: (if kindOf t = 5 then nv t.parts else .int (numOf t : Nat) :: nv t.parts) := by
  rw [ansV_eq]
  cases t <;> rfl
/-- not self.has(number) -/
theorem tst_has {H : Hp} {D : DD} {x : S} {kn : Lw.Kn} {σ : L2.St} {to : TE} {t : TA} {z : Int} (h : DA P w A H D x kn) (ho : Ev to σ H (.ref D.d)) (ha : EvA t σ H [.int z]) : Tst (tNot (tB (tMeth A.D "has" (sp_Desk_has P w K A) [] E0 to t))) σ H (¬ x.has z = true) :=
  tst_not (tstB_of (e_has h ho ha) Iff.rfl)
abbrev s_Desk_step : Stmt := inClass (top 53) 11
abbrev N_Desk_step : List Str := ["self", "number", "step", "answer"]
theorem sc_Desk_step : FnScope ["self", "number", "step", "answer"] ["self", "number"] (defScope s_Desk_step) := ⟨rfl, rfl, rfl, by decide +kernel, rfl, by decide +kernel, by decide +kernel⟩
theorem ok_Desk_step {f : Addr} {fd : FuncData} (F : Fun K "step" "Desk.step" s_Desk_step f fd) (T : Txt K mg A) (F_Desk_has : MtG P w K mg base A.D "has" 1 ["self", "number"] (sp_Desk_has P w K A)) : FnOk P w K mg base CX0 2 f fd ["self", "number"] (sp_Desk_step P w K A) := by
  refine F.ok sc_Desk_step (fun vs H Q E h => ?_) (fun cdv B outer s H vs Q E hr h => ?_)
  · obtain ⟨z, D, x, kn, rfl, _⟩ := h
    rfl
  obtain ⟨z, D, x, kn, rfl, hD, _, q⟩ := h
  refine ⟨_, (pss_cons (ps_if (pt_not (pt_val (pe_mt F_Desk_has (hr.mono (by decide)) (pv 0) (pa_cons (pv 1) pa_nil)))) (pss_one (ps_ret (pe_lst (pa_cons (pe_gi T.missing rfl) pa_nil)))) pss_nil) (pss_cons (ps_set (i := 2) sc_Desk_step.nd rfl (Or.inl rfl) (pe_ix ix_list (pe_fld (pe_fld (pv 0) rfl) rfl) (pv 1) (fun _ _ => rfl))) (pss_cons (ps_set (i := 3) sc_Desk_step.nd rfl (Or.inl rfl) (pe_lst (pa_cons (pe_callB call_len_seq rfl T.b_len PySem.boot_len (pa_cons (pe_fld (pv 2) rfl) pa_nil)) (pa_cons (pe_fld (pv 2) rfl) pa_nil)))) (pss_cons (ps_if (pt_cmpR op_ne (pe_fld (pv 2) rfl) (pe_gi T.choice rfl) (nomark _)) (pss_one (ps_expr (pe_bm PySem.F.plainAttrs_list PySem.F.slot_list_append PySem.F.type_list_append mt_append (pv 3) (pa_cons (pe_fld (pv 2) rfl) pa_nil)))) pss_nil) (pss_one (ps_ret (pe_op op_cat (pv 3) (pe_fld (pv 2) rfl)))))))), ?_⟩
  refine s_if1 (tst_has hD (ev_var rfl) (eva_cons (ev_var rfl) eva_nil)) (fun c => ?_) fun c => ?_
  · have e : Sf79.does x (.step z) = (x, Sf79.says (-1)) := congrArg (Prod.mk x) (if_pos (eq_false_of_ne_true c))
    rw [e] at q
    exact say q hD (Keep.refl _) ev_c
  obtain ⟨hz, hn⟩ := Lw.has_of (Decidable.not_not.mp c)
  obtain ⟨t, ht⟩ := step_there hn
  have e : Sf79.does x (.step z) = (x, ⟨(t.parts.length : Nat), t.told⟩) := congrArg (Prod.mk x) (by
    rw [if_neg (by rw [Decidable.not_not.mp c]; exact fun z => nomatch z), ht])
  rw [e] at q
  generalize z.toNat = n at hz hn ht
  subst hz
  have s0 := hD.ls.st n t ht
  obtain ⟨dx, hx⟩ := s0.ob
  have few := Lw.parts_few (hD.ok.oks n t ht)
  refine s_set (ev_step T hD.ls hn (ev_lanes T hD (ev_var rfl)) (ev_var rfl)) ?_
  have fk : ∀ {H' σ}, Same H H' → σ[2]? = some (some (V.ref (adr D.L.ss n))) → ∀ {f : Str} {v : V}, NoAttr K A.S f → (stF t (adr D.L.ps n) (Lw.mask x.steps n)).lookup f = some v → Ev (tFld K (tVar 2) f) σ H' v := fun s1 h _ _ hn hl => ev_fld (ev_var h) (s1 _ _ hx) T.cS hn hl
  refine s_lst2 (ev_len (fk (Same.refl H) rfl (T.nS _ (by simp)) fS_parts) (SqL.of s0.pa)) (fk (Same.refl H) rfl (T.nS _ (by simp)) fS_kind) fun p hp => ?_
  rw [nv_len]
  have s1 : Same H (upd H p (.lst [.int (t.parts.length : Nat), .int (kindOf t : Nat)])) := same_new hp
  refine s_if1 (tst_iff (tst_ne (fk s1 rfl (T.nS _ (by simp)) fS_kind) ev_c rfl) (not_congr (int_lit 5 rfl))) (fun c5 => ?_) fun c5 => ?_
  · refine s_app (ev_var rfl) upd_same (fk s1 rfl (T.nS _ (by simp)) fS_number) (by show 2 ≤ 1000000; decide) ?_
    have s2 := same_mut (o := .lst ([.int (t.parts.length : Nat), .int (kindOf t : Nat)] ++ [.int (numOf t : Nat)])) s1 hp
    refine s_cat (ev_var rfl) (fk s2 rfl (T.nS _ (by simp)) fS_parts) upd_same (s2 _ _ s0.pa) (by rw [nv_len]; show 3 + t.parts.length ≤ 1000000; omega) fun r hr => giveback q (hD.same s2) (Keep.of s2) hr ?_
    rw [told_eq, if_neg c5]
    rfl
  · refine s_cat (ev_var rfl) (fk s1 rfl (T.nS _ (by simp)) fS_parts) upd_same (s1 _ _ s0.pa) (by rw [nv_len]; show 2 + t.parts.length ≤ 1000000; omega) fun r hr => giveback q (hD.same s1) (Keep.of s1) hr ?_
    rw [told_eq, if_pos (Decidable.not_not.mp c5)]
    rfl
abbrev s_Desk_uses : Stmt := inClass (top 53) 12
abbrev N_Desk_uses : List Str := ["self", "number", "columns"]
theorem sc_Desk_uses : FnScope ["self", "number", "columns"] ["self", "number"] (defScope s_Desk_uses) := ⟨rfl, rfl, rfl, by decide +kernel, rfl, by decide +kernel, by decide +kernel⟩
theorem ok_Desk_uses {f : Addr} {fd : FuncData} (F : Fun K "uses" "Desk.uses" s_Desk_uses f fd) (T : Txt K mg A) (F_bits_of : FnG P w K mg base "bits_of" 1 ["mask"] (sp_bits_of P w K A)) (F_Desk_has : MtG P w K mg base A.D "has" 1 ["self", "number"] (sp_Desk_has P w K A)) : FnOk P w K mg base CX0 2 f fd ["self", "number"] (sp_Desk_uses P w K A) := by
  refine F.ok sc_Desk_uses (fun vs H Q E h => ?_) (fun cdv B outer s H vs Q E hr h => ?_)
  · obtain ⟨z, D, x, kn, rfl, _⟩ := h
    rfl
  obtain ⟨z, D, x, kn, rfl, hD, _, q⟩ := h
  refine ⟨_, (pss_cons (ps_if (pt_not (pt_val (pe_mt F_Desk_has (hr.mono (by decide)) (pv 0) (pa_cons (pv 1) pa_nil)))) (pss_one (ps_ret (pe_lst (pa_cons (pe_gi T.missing rfl) pa_nil)))) pss_nil) (pss_cons (ps_set (i := 2) sc_Desk_uses.nd rfl (Or.inl rfl) (pe_fn F_bits_of (hr.mono (by decide)) rfl (pa_cons (pe_fld (pe_ix ix_list (pe_fld (pe_fld (pv 0) rfl) rfl) (pv 1) (fun _ _ => rfl)) rfl) pa_nil))) (pss_one (ps_ret (pe_op op_cat (pe_lst (pa_cons (pe_callB call_len_seq rfl T.b_len PySem.boot_len (pa_cons (pv 2) pa_nil)) pa_nil)) (pv 2)))))), ?_⟩
  refine s_if1 (tst_has hD (ev_var rfl) (eva_cons (ev_var rfl) eva_nil)) (fun c => ?_) fun c => ?_
  · have e : Sf79.does x (.uses z) = (x, Sf79.says (-1)) := congrArg (Prod.mk x) (if_pos (eq_false_of_ne_true c))
    rw [e] at q
    exact say q hD (Keep.refl _) ev_c
  obtain ⟨hz, hn⟩ := Lw.has_of (Decidable.not_not.mp c)
  obtain ⟨t, ht⟩ := step_there hn
  have e : Sf79.does x (.uses z) = (x, ⟨((List.range 64).filter fun (i : Nat) => (Lw.mask x.steps z.toNat).testBit i).length, (List.range 64).filter fun (i : Nat) => (Lw.mask x.steps z.toNat).testBit i⟩) := congrArg (Prod.mk x) (if_neg (by rw [Decidable.not_not.mp c]; exact fun z => nomatch z))
  rw [e] at q
  generalize z.toNat = n at hz hn ht q
  subst hz
  obtain ⟨dx, hx⟩ := (hD.ls.st n t ht).ob
  refine e_call (eva_cons (ev_fld (ev_step T hD.ls hn (ev_lanes T hD (ev_var rfl)) (ev_var rfl)) hx T.cS (T.nS _ (by simp)) fS_columns) eva_nil) ⟨Lw.mask x.steps n, rfl, fun p H1 s1 h1 => ?_⟩
  have few : ((List.range 64).filter fun (i : Nat) => (Lw.mask x.steps n).testBit i).length ≤ 100000 := Nat.le_trans (List.length_filter_le _ _) (by rw [List.length_range]; decide)
  generalize (List.range 64).filter (fun (i : Nat) => (Lw.mask x.steps n).testBit i) = cs at h1 q few
  refine s_cat1 (ev_len (ev_var rfl) (SqL.of h1)) (fun r hr => ev_var rfl) h1 (by rw [nv_len]; exact few) fun r H2 hr s2 => giveback q (hD.same (s1.trans s2)) (Keep.of (s1.trans s2)) hr ?_
  rw [ansV_eq, nv_len]
abbrev s_Desk_work : Stmt := inClass (top 53) 24
abbrev N_Desk_work : List Str := ["self", "number"]
theorem sc_Desk_work : FnScope ["self", "number"] ["self", "number"] (defScope s_Desk_work) := ⟨rfl, rfl, rfl, by decide +kernel, rfl, by decide +kernel, by decide +kernel⟩
theorem ok_Desk_work {f : Addr} {fd : FuncData} (F : Fun K "work" "Desk.work" s_Desk_work f fd) (T : Txt K mg A) (F_Desk_has : MtG P w K mg base A.D "has" 1 ["self", "number"] (sp_Desk_has P w K A)) : FnOk P w K mg base CX0 2 f fd ["self", "number"] (sp_Desk_work P w K A) := by
  refine F.ok sc_Desk_work (fun vs H Q E h => ?_) (fun cdv B outer s H vs Q E hr h => ?_)
  · obtain ⟨z, D, x, kn, rfl, _⟩ := h
    rfl
  obtain ⟨z, D, x, kn, rfl, hD, _, q⟩ := h
  refine ⟨_, (pss_cons (ps_if (pt_not (pt_val (pe_mt F_Desk_has (hr.mono (by decide)) (pv 0) (pa_cons (pv 1) pa_nil)))) (pss_one (ps_ret (pe_lst (pa_cons (pe_gi T.missing rfl) pa_nil)))) pss_nil) (pss_one (ps_ret (pe_lst (pa_cons (pe_ix ix_list (pe_fld (pv 0) rfl) (pv 1) (fun _ _ => rfl)) pa_nil))))), ?_⟩
  refine s_if1 (tst_has hD (ev_var rfl) (eva_cons (ev_var rfl) eva_nil)) (fun c => ?_) fun c => ?_
  · have e : Sf79.does x (.work z) = (x, Sf79.says (-1)) := congrArg (Prod.mk x) (if_pos (eq_false_of_ne_true c))
    rw [e] at q
    exact say q hD (Keep.refl _) ev_c
  obtain ⟨hz, hn⟩ := Lw.has_of (Decidable.not_not.mp c)
  have e : Sf79.does x (.work z) = (x, Sf79.says (x.asked.count z.toNat : Nat)) := congrArg (Prod.mk x) (if_neg (by rw [Decidable.not_not.mp c]; exact fun z => nomatch z))
  rw [e] at q
  generalize z.toNat = n at hz hn q
  subst hz
  refine say q hD (Keep.refl _) (ev_ixL (ev_fld (ev_var rfl) hD.ob T.cD (T.nD _ (by simp)) fD_given) (ev_var rfl) (SqL.of hD.g) (atI_nat (j := n) (nv_get ?_)))
  unfold counts
  rw [List.getElem?_map, List.getElem?_range hn]
  rfl
abbrev s_Desk_known_of : Stmt := inClass (top 53) 23
abbrev N_Desk_known_of : List Str := ["self", "number", "row", "value"]
theorem sc_Desk_known_of : FnScope ["self", "number", "row", "value"] ["self", "number", "row"] (defScope s_Desk_known_of) := ⟨rfl, rfl, rfl, by decide +kernel, rfl, by decide +kernel, by decide +kernel⟩
theorem ok_Desk_known_of {f : Addr} {fd : FuncData} (F : Fun K "known_of" "Desk.known_of" s_Desk_known_of f fd) (T : Txt K mg A) (F_Lanes_value : MtG P w K mg base A.L "value" 5 ["self", "number", "row"] (sp_Lanes_value P w K A)) (F_Desk_has : MtG P w K mg base A.D "has" 1 ["self", "number"] (sp_Desk_has P w K A)) : FnOk P w K mg base CX0 6 f fd ["self", "number", "row"] (sp_Desk_known_of P w K A) := by
  refine F.ok sc_Desk_known_of (fun vs H Q E h => ?_) (fun cdv B outer s H vs Q E hr h => ?_)
  · obtain ⟨z, l, D, x, kn, rfl, _⟩ := h
    rfl
  obtain ⟨z, l, D, x, kn, rfl, hD, _, q⟩ := h
  refine ⟨_, (pss_cons (ps_if (pt_not (pt_val (pe_mt F_Desk_has (hr.mono (by decide)) (pv 0) (pa_cons (pv 1) pa_nil)))) (pss_one (ps_ret (pe_lst (pa_cons (pe_gi T.missing rfl) pa_nil)))) pss_nil) (pss_cons (ps_if (pt_not (pt_chain op_le op_lt pe_int (pv 2) (pe_fld (pv 0) rfl))) (pss_one (ps_ret (pe_lst (pa_cons (pe_gi T.odd rfl) pa_nil)))) pss_nil) (pss_cons (ps_set (i := 3) sc_Desk_known_of.nd rfl (Or.inl rfl) (pe_mt F_Lanes_value (hr.mono (by decide)) (pe_fld (pv 0) rfl) (pa_cons (pv 1) (pa_cons (pv 2) pa_nil)))) (pss_cons (ps_if (pt_cmp (pc_isN (pv 3))) (pss_one (ps_ret (pe_lst (pa_cons (pe_gi T.not_yet rfl) pa_nil)))) pss_nil) (pss_one (ps_ret (pe_lst (pa_cons pe_int (pa_cons (pv 3) pa_nil))))))))), ?_⟩
  refine s_if1 (tst_has hD (ev_var rfl) (eva_cons (ev_var rfl) eva_nil)) (fun c => ?_) fun c => ?_
  · have e : Sf79.does x (.known z l) = (x, Sf79.says (-1)) := congrArg (Prod.mk x) (if_pos (eq_false_of_ne_true c))
    rw [e] at q
    exact say q hD (Keep.refl _) ev_c
  obtain ⟨hz, hn⟩ := Lw.has_of (Decidable.not_not.mp c)
  have e : Sf79.does x (.known z l) = (x, if Sf79.upto l 1023 = false ∨ (x.rows : Int) ≤ l then Sf79.says (-3) else match x.known z.toNat l.toNat with
    | none => Sf79.says (-4)
    | some v => ⟨0, [v]⟩) := congrArg (Prod.mk x) (if_neg (by rw [Decidable.not_not.mp c]; exact fun z => nomatch z))
  rw [e] at q
  generalize z.toNat = n at hz hn q
  subst hz
  have hr0 := hD.ok.rows
  refine s_if1 (tst_not (tst_of (a := 0 ≤ l ∧ l < (x.rows : Int)) (ev_chain ev_c (ev_var rfl) (ev_fld (ev_var rfl) hD.ob T.cD (T.nD _ (by simp)) fD_many)) (by rw [Bool.and_eq_true, decide_eq_true_iff, decide_eq_true_iff]))) (fun c2 => ?_) fun c2 => ?_
  · rw [if_pos] at q
    · exact say q hD (Keep.refl _) ev_c
    · by_cases c3 : 0 ≤ l
      · exact .inr (by omega)
      · exact .inl (eq_false_of_ne_true fun k => c3 ((upto_of rfl).mp k).1)
  have c2 := Decidable.not_not.mp c2
  rw [if_neg] at q
  rotate_left
  · rintro (k | k)
    · rw [(upto_of (m := 1024) rfl).mpr (by omega)] at k; cases k
    · omega
  obtain ⟨r, rfl⟩ := nat_of c2.1
  refine e_meth (ev_lanes T hD (ev_var rfl)) hD.ls.ob fL_m_value (eva_cons (ev_var rfl) (eva_cons (ev_var rfl) eva_nil)) ⟨D.L, x, kn, n, r, rfl, hD.ls, hD.lc, hD.ok, hD.good, hn, by omega, fun H1 kn1 k1 c1 g1 le1 _ => ?_⟩
  have hD1 := hD.after ⟨k1, c1, g1, le1⟩
  rw [show (r : Int).toNat = r from rfl] at q
  refine s_if1 (tst_iff (tst_isN (ev_var rfl)) ov_non) (fun c3 => ?_) fun c3 => ?_
  · rw [c3] at q
    exact say q hD1 k1 ev_c
  · obtain ⟨u, hu⟩ := Option.ne_none_iff_exists'.mp c3
    rw [hu] at q
    refine s_ret2 ev_c (ev_var rfl) fun p hp => giveback q hD1 k1 hp ?_
    rw [hu]
    rfl
abbrev s_Desk_need : Stmt := inClass (top 53) 20
abbrev N_Desk_need : List Str := ["self", "found"]
theorem sc_Desk_need : FnScope ["self", "found"] ["self"] (defScope s_Desk_need) := ⟨rfl, rfl, rfl, by decide +kernel, rfl, by decide +kernel, by decide +kernel⟩
theorem ok_Desk_need {f : Addr} {fd : FuncData} (F : Fun K "need" "Desk.need" s_Desk_need f fd) (T : Txt K mg A) (F_Desk_needed : MtG P w K mg base A.D "needed" 9 ["self"] (sp_Desk_needed P w K A)) : FnOk P w K mg base CX0 10 f fd ["self"] (sp_Desk_need P w K A) := by
  refine F.ok sc_Desk_need (fun vs H Q E h => ?_) (fun cdv B outer s H vs Q E hr h => ?_)
  · obtain ⟨D, x, kn, rfl, _⟩ := h
    rfl
  obtain ⟨D, x, kn, rfl, hD, _, q⟩ := h
  refine ⟨_, (pss_cons (ps_set (i := 1) sc_Desk_need.nd rfl (Or.inl rfl) (pe_mt0 F_Desk_needed (hr.mono (by decide)) (pv 0))) (pss_cons (ps_if (pt_cmp (pc_isN (pv 1))) (pss_one (ps_ret (pe_lst (pa_cons (pe_gi T.nothing_needed rfl) pa_nil)))) pss_nil) (pss_one (ps_ret (pe_op op_cat (pe_lst (pa_cons (pe_ix ix_tup (pv 1) pe_int (fun _ _ => rfl)) pa_nil)) (pe_ix ix_tup (pv 1) pe_int (fun _ _ => rfl))))))), ?_⟩
  refine e_meth (ev_var rfl) hD.ob fD_m_needed eva_nil ⟨D, x, kn, rfl, hD, fun H1 kn1 v a1 nr => ?_⟩
  have hD1 := hD.after a1
  refine s_if1 (tst_isN (ev_var rfl)) (fun c => ?_) fun c => ?_
  · have en : x.next = none := by
      rcases nr with ⟨_, e⟩ | ⟨p, b, s, l, e, _⟩
      · exact e
      · rw [e] at c; cases c
    have e : Sf79.does x .need = (x, Sf79.says (-5)) := congrArg (Prod.mk x) (by rw [en])
    rw [e] at q
    exact say q hD1 a1.keep ev_c
  · rcases nr with ⟨e, _⟩ | ⟨p, b, s, l, rfl, hp, hb, ho, en⟩
    · exact absurd e c
    have e : Sf79.does x .need = (x, ⟨(s : Nat), l⟩) := congrArg (Prod.mk x) (by rw [en])
    rw [e] at q
    have ll : l.length ≤ 100000 := Nat.le_trans ho.len (by decide)
    refine s_cat1 (ev_ixT (ev_var rfl) ev_c (SqT.of hp) (atI_nat (j := 0) rfl)) (fun r hr => ev_ixT (ev_var rfl) ev_c (SqT.of (same_new hr _ _ hp)) (atI_nat (j := 1) rfl)) hb (by rw [nv_len]; exact ll) fun r H2 hr s2 => giveback q (hD1.same s2) (a1.keep.trans (Keep.of s2)) hr ?_
    rw [ansV_eq]
end
end Wk
namespace Wk
open PySem PySem.Spec PyProof.Rows L2 Nq
/-! Other rows, other given values, another task. -/
def DD.M (D : DD) : List Addr := [D.d, D.L.l, D.L.ga, D.L.ka]
/-- the desk with other dicts and another task -/
def DD.to (D : DD) (ka : Addr) (ds : List Addr) (tv : V) (tl : List Addr) : DD := { D with L := { D.L with ka := ka, ds := ds }, tv := tv, tl := tl }
section
variable {P : Program} {w : World} {A : Adr} {H H' H0 H1 H2 : Hp} {D D' : DD} {x y : S} {kn kn' : Lw.Kn} {Q : VK} {p q : Addr} {o : HO}
theorem DA.notM (h : DA P w A H D x kn) (e : H q = some o) (n1 : ∀ ys, o ≠ .lst ys) (n2 : ∀ C dx fs, o ≠ .ins C dx fs) : q ∉ D.M := fun hm => by
  unfold DD.M at hm
  simp only [List.mem_cons, List.not_mem_nil, or_false] at hm
  obtain ⟨gv, hg, _⟩ := h.ls.ga
  rcases hm with z | z | z | z
  · rw [z, h.ob] at e; exact n2 _ _ _ (Option.some.inj e).symm
  · rw [z, h.ls.ob] at e; exact n2 _ _ _ (Option.some.inj e).symm
  · rw [z, hg] at e; exact n1 _ (Option.some.inj e).symm
  · rw [z, h.ls.ka] at e; exact n1 _ (Option.some.inj e).symm
/-- a list that is neither of the two -/
theorem DA.notM_l (h : DA P w A H D x kn) {ys : List V} (e : H q = some (.lst ys)) (n1 : q ≠ D.L.ga) (n2 : q ≠ D.L.ka) : q ∉ D.M := fun hm => by
  unfold DD.M at hm
  simp only [List.mem_cons, List.not_mem_nil, or_false] at hm
  rcases hm with z | z | z | z
  · rw [z, h.ob] at e; cases e
  · rw [z, h.ls.ob] at e; cases e
  · exact n1 z
  · exact n2 z
theorem DA.notM_s (h : DA P w A H D x kn) {i : Nat} {t : Sf79.Step} (ht : x.steps[i]? = some t) : adr D.L.ss i ∉ D.M := fun hm => by
  obtain ⟨dx, hx⟩ := (h.ls.st i t ht).ob
  unfold DD.M at hm
  simp only [List.mem_cons, List.not_mem_nil, or_false] at hm
  obtain ⟨gv, hg, _⟩ := h.ls.ga
  have nl : ∀ {C C' d d' : Addr} {fs gs : List (Str × V)}, some (HO.ins C d fs) = some (HO.ins C' d' gs) → fs.length = gs.length := fun e => by
    have := Option.some.inj e
    rw [HO.ins.injEq] at this
    exact congrArg List.length this.2.2
  rcases hm with z | z | z | z
  · rw [z, h.ob] at hx
    have : (5 : Nat) = 4 := nl hx
    omega
  · rw [z, h.ls.ob] at hx
    have : (3 : Nat) = 4 := nl hx
    omega
  · rw [z, hg] at hx; cases hx
  · rw [z, h.ls.ka] at hx; cases hx
theorem DA.move (h : DA P w A H D x kn) {ka' : Addr} {ds' tl' : List Addr} {tv' : V} (k : ButW D.M H H1) (ys : y.steps = x.steps) (ya : y.asked = x.asked)
    (ob : H1 D.d = some (.ins A.D D.dd (fD (.ref D.L.l) (.ref D.nd) (.int (y.rows : Nat)) tv' (.ref D.g))))
    (lo : H1 D.L.l = some (.ins A.L D.L.dl (fL (.ref D.L.sa) (.ref D.L.ga) (.ref ka'))))
    (ga : ∃ gv : List Nat, H1 D.L.ga = some (.lst (nv gv)) ∧ gv.length = 64 ∧ ∀ i, i < 64 → gv.getD i 0 = y.given i)
    (ka : H1 ka' = some (.lst (ds'.map V.ref))) (ld : ds'.length = x.steps.length) (nd : ds'.Nodup) (lc : LC H1 { D.L with ka := ka', ds := ds' } kn') (good : Lw.Good y kn') (ok : Lw.Ok y) (task : TaskAt A H1 y.task tv' tl')
    (hk : ka' = D.L.ka ∨ H ka' = none) (tn : tl'.Nodup) (tf : ∀ q ∈ tl', H q = none ∧ q ≠ ka') : DA P w A H1 (D.to ka' ds' tv' tl') y kn' ∧ Fr H D H1 (D.to ka' ds' tv' tl') := by
  have sep := h.sep
  have mk : D.L.ka ∈ D.lists := by simp [DD.lists]
  have kn0 : ∀ q ∈ D.lists, q ≠ D.L.ka → q ≠ ka' := fun q hq n z => by
    rcases hk with e | e
    · exact n (z.trans e)
    · obtain ⟨ys, e2⟩ := h.there q hq
      rw [z, e] at e2
      cases e2
  have fr : ∀ q ∈ D.lists, q ∉ tl' := fun q hq hm => by
    obtain ⟨ys, e⟩ := h.there q hq
    rw [(tf q hm).1] at e
    cases e
  have e0 : D.lists = D.L.sa :: D.L.ga :: D.L.ka :: D.g :: (D.L.ps ++ D.tl) := rfl
  rw [e0] at sep
  simp only [List.nodup_cons, List.mem_cons, not_or] at sep
  obtain ⟨⟨n1, n2, n3, n4⟩, ⟨n5, n6, n7⟩, ⟨n8, n9⟩, ⟨n10, n11⟩⟩ := sep
  have inl : ∀ q ∈ D.L.ps, q ∈ D.lists := fun q hq => by rw [e0]; simp [hq]
  have psk : ∀ q ∈ D.L.ps, q ≠ D.L.ka := fun q hq z => n9 (z ▸ List.mem_append_left _ hq)
  have psg : ∀ q ∈ D.L.ps, q ≠ D.L.ga := fun q hq z => n7 (z ▸ List.mem_append_left _ hq)
  refine ⟨{
    ob := ob
    ls := {
      ob := lo
      sa := k _ _ h.ls.sa (h.notM_l h.ls.sa n1 n2)
      ga := ga
      ka := ka
      ls := by rw [ys]; exact h.ls.ls
      lp := by rw [ys]; exact h.ls.lp
      ld := by rw [ys]; exact ld
      nd := nd
      st := fun i t ht => by
        rw [ys] at ht ⊢
        obtain ⟨⟨dx, hx⟩, hp⟩ := h.ls.st i t ht
        have hm : adr D.L.ps i ∈ D.L.ps := List.mem_of_getElem? (adr_get (by rw [h.ls.lp]; exact (List.getElem?_eq_some_iff.mp ht).1))
        exact ⟨⟨dx, k _ _ hx (h.notM_s ht)⟩, k _ _ hp (h.notM_l hp (psg _ hm) (psk _ hm))⟩ }
    lc := lc
    good := good
    ok := ok
    nd := k _ _ h.nd (h.notM h.nd (fun _ z => nomatch z) fun _ _ _ z => nomatch z)
    xl := by rw [ys]; exact h.xl
    xk := by rw [ys]; exact h.xk
    ka := keysAt_mono h.ka fun b ys e => k _ _ e (h.notM e (fun _ z => nomatch z) fun _ _ _ z => nomatch z)
    g := by
      have : counts y = counts x := by unfold counts; rw [ys, ya]
      rw [this]
      exact k _ _ h.g (h.notM_l h.g (Ne.symm n6) (Ne.symm n8))
    task := task
    sep := ?_ }, ?_⟩
  · show (D.L.sa :: D.L.ga :: ka' :: D.g :: (D.L.ps ++ tl')).Nodup
    have np : (D.L.ps ++ tl').Nodup := List.nodup_append.mpr ⟨(List.nodup_append.mp n11).1, tn, fun a ha b hb e => fr a (inl a ha) (e ▸ hb)⟩
    have nk : ∀ q ∈ D.L.ps ++ tl', q ≠ ka' := fun q hq => (List.mem_append.mp hq).elim (fun hq => kn0 q (inl q hq) (psk q hq)) fun hq => (tf q hq).2
    have nn : ∀ q ∈ D.lists, q ∉ D.L.ps → q ∉ D.L.ps ++ tl' := fun q hq n hm => (List.mem_append.mp hm).elim n (fr q hq)
    have ms : D.L.sa ∈ D.lists := by simp [DD.lists]
    have mga : D.L.ga ∈ D.lists := by simp [DD.lists]
    have mg : D.g ∈ D.lists := by simp [DD.lists]
    simp only [List.nodup_cons, List.mem_cons, not_or]
    exact ⟨⟨n1, kn0 _ ms n2, n3, nn _ ms fun z => n4 (List.mem_append_left _ z)⟩, ⟨kn0 _ mga n5, n6, nn _ mga fun z => n7 (List.mem_append_left _ z)⟩, ⟨Ne.symm (kn0 _ mg (Ne.symm n8)), fun z => nk _ z rfl⟩, nn _ mg fun z => n10 (List.mem_append_left _ z), np⟩
  · refine ⟨fun b o e hs _ => k b o e fun hm => hs ?_, fun b hb => ?_, rfl⟩
    · unfold DD.M at hm
      unfold DD.sup
      rw [e0]
      simp only [List.mem_cons, List.not_mem_nil, or_false] at hm
      rcases hm with rfl | rfl | rfl | rfl <;> simp
    · have hb : b ∈ [D.d, D.L.l, D.nd] ++ (D.L.sa :: D.L.ga :: ka' :: D.g :: (D.L.ps ++ tl')) := hb
      by_cases c1 : b ∈ tl'
      · exact .inr (tf b c1).1
      by_cases c2 : b = ka'
      · rcases hk with e | e
        · left; unfold DD.sup; rw [e0, c2, e]; simp
        · right; rw [c2]; exact e
      · left
        unfold DD.sup
        rw [e0]
        simp only [List.mem_append, List.mem_cons, List.not_mem_nil, or_false, c1, c2, false_or] at hb ⊢
        rcases hb with hb | hb | hb | hb | hb
        · exact .inl hb
        · exact .inr (.inl hb)
        · exact .inr (.inr (.inl hb))
        · exact .inr (.inr (.inr (.inr (.inl hb))))
        · exact .inr (.inr (.inr (.inr (.inr (.inl hb)))))
end
end Wk
namespace Wk
open PySem PySem.Spec PyProof.Rows L2 Nq
/-! A task: run, choose. -/
section
variable {P : Program} {w : World} {A : Adr} {H H' H0 H1 H2 : Hp} {D D' : DD} {x y : S} {kn kn' : Lw.Kn} {Q : VK} {p q : Addr} {o : HO}
theorem DA.newtask (h : DA P w A H D x kn) {j : Sf79.Job} (ok : Lw.Ok (Lw.taskS x j)) {ra sa t td : Addr} (k : ∀ b o, H b = some o → b ≠ D.d → H1 b = some o) (f1 : H ra = none) (f2 : H sa = none) (ne : ra ≠ sa)
    (ob : H1 D.d = some (.ins A.D D.dd (fD (.ref D.L.l) (.ref D.nd) (.int (x.rows : Nat)) (.ref t) (.ref D.g))))
    (ht : H1 t = some (.ins A.T td (fT (.ref ra) (.ref sa) (.bl (isC j))))) (hra : H1 ra = some (.lst (nv (Lw.taskLanes j)))) (hsa : H1 sa = some (.lst (nv (Lw.taskSteps j)))) :
    DA P w A H1 (D.to D.L.ka D.L.ds (.ref t) [ra, sa]) (Lw.taskS x j) kn ∧ Fr H D H1 (D.to D.L.ka D.L.ds (.ref t) [ra, sa]) := by
  have nd : ∀ b o, H b = some o → (∀ dx fs, o ≠ .ins A.D dx fs) → H1 b = some o := fun b o e n => k b o e fun z => by
    subst z
    rw [h.ob] at e
    exact n _ _ (Option.some.inj e).symm
  have lo : H1 D.L.l = some (.ins A.L D.L.dl (fL (.ref D.L.sa) (.ref D.L.ga) (.ref D.L.ka))) := k _ _ h.ls.ob fun z => by
    have e := h.ls.ob
    rw [z, h.ob] at e
    have e := Option.some.inj e
    rw [HO.ins.injEq] at e
    have : (5 : Nat) = 3 := congrArg List.length e.2.2
    omega
  refine h.move (kn' := kn) (ka' := D.L.ka) (ds' := D.L.ds) (fun b o e hm => k b o e fun z => hm (by rw [z]; simp [DD.M])) rfl rfl ob lo ?_ ?_ h.ls.ld h.ls.nd ?_ (h.good.task j) ok ?_ (.inl rfl) ?_ ?_
  · obtain ⟨gv, e, r⟩ := h.ls.ga
    exact ⟨gv, nd _ _ e (fun _ _ z => nomatch z), r⟩
  · exact nd _ _ h.ls.ka fun _ _ z => nomatch z
  · intro i hi
    obtain ⟨kvs, e, r⟩ := h.lc i hi
    exact ⟨kvs, nd _ _ e (fun _ _ z => nomatch z), r⟩
  · exact ⟨t, td, ra, sa, rfl, rfl, ht, hra, hsa⟩
  · exact List.nodup_cons.mpr ⟨by simpa using ne, List.nodup_cons.mpr ⟨List.not_mem_nil, List.nodup_nil⟩⟩
  · intro q hq
    have : q = ra ∨ q = sa := by simpa using hq
    rcases this with rfl | rfl
    · exact ⟨f1, (ne_of_none h.ls.ka f1).symm⟩
    · exact ⟨f2, (ne_of_none h.ls.ka f2).symm⟩
end
def sp_Desk_run (P : Program) (w : World) (K : PySem.W.Frag) (A : Adr) : Sp := fun vs H Q _ => ∃ (z : Int) (a : Addr) (zs : List Int), spCall P w A (.run z zs) [.int z, .ref a] vs H Q fun D => H a = some (.lst (zs.map V.int)) ∧ zs.length ≤ 2000
def sp_Desk_choose (P : Program) (w : World) (K : PySem.W.Frag) (A : Adr) : Sp := fun vs H Q _ => ∃ (a b : Addr) (zs ss : List Int), spCall P w A (.choose ss zs) [.ref a, .ref b] vs H Q fun D => H a = some (.lst (zs.map V.int)) ∧ zs.length ≤ 2000 ∧ H b = some (.lst (ss.map V.int)) ∧ ss.length ≤ 2000
section
variable {P : Program} {w : World} {K : PySem.W.Frag} {mg : Str → Option Value} {base : Heap} {A : Adr}
theorem map_nats {zs : List Int} (h : zs = (Sf79.nats zs).map fun (n : Nat) => (n : Int)) : zs.map V.int = nv (Sf79.nats zs) := by
  rw [nv_ints, ← h]
theorem tstS_rows {H : Hp} {D : DD} {x : S} {kn : Lw.Kn} {σ : L2.St} {to : TE} {t : TA} {a : Addr} {zs : List Int} (h : DA P w A H D x kn) (ho : Ev to σ H (.ref D.d)) (ha : EvA t σ H [.ref a]) (hz : H a = some (.lst (zs.map V.int))) (hl : zs.length ≤ 2000) :
    TstS (tNot (tB (tMeth A.D "are_rows" (sp_Desk_are_rows P w K A) [] E0 to t))) σ H (¬ x.lanesOk zs = true) := by
  refine tstS_not (b := x.lanesOk zs = true) fun R r => ?_
  exact e_meth ho h.ob fD_m_are_rows ha ⟨D, x, kn, a, zs, rfl, h, hz, hl, fun H1 s1 => ⟨_, rfl, r _ H1 s1 Iff.rfl⟩⟩
theorem tstS_have {H : Hp} {D : DD} {x : S} {kn : Lw.Kn} {σ : L2.St} {to : TE} {t : TA} {a : Addr} {zs : List Int} (h : DA P w A H D x kn) (ho : Ev to σ H (.ref D.d)) (ha : EvA t σ H [.ref a]) (hz : H a = some (.lst (zs.map V.int))) (hl : zs.length ≤ 2000) :
    TstS (tNot (tB (tMeth A.D "have" (sp_Desk_have P w K A) [] E0 to t))) σ H (¬ zs.all x.has = true) := by
  refine tstS_not (b := zs.all x.has = true) fun R r => ?_
  exact e_meth ho h.ob fD_m_have ha ⟨D, x, kn, a, zs, rfl, h, hz, hl, fun H1 s1 => ⟨_, rfl, r _ H1 s1 Iff.rfl⟩⟩
abbrev s_Desk_run : Stmt := inClass (top 53) 16
abbrev N_Desk_run : List Str := ["self", "number", "rows"]
theorem sc_Desk_run : FnScope ["self", "number", "rows"] ["self", "number", "rows"] (defScope s_Desk_run) := ⟨rfl, rfl, rfl, by decide +kernel, rfl, by decide +kernel, by decide +kernel⟩
theorem ok_Desk_run {f : Addr} {fd : FuncData} (F : Fun K "run" "Desk.run" s_Desk_run f fd) (T : Txt K mg A) (M_Task : MkG P w K mg base A.T "Task" 1 ["self", "rows", "steps", "is_choice"] (sp_Task___init__ P w K A)) (F_Desk_are_rows : MtG P w K mg base A.D "are_rows" 2 ["self", "rows"] (sp_Desk_are_rows P w K A)) (F_Desk_has : MtG P w K mg base A.D "has" 1 ["self", "number"] (sp_Desk_has P w K A)) : FnOk P w K mg base CX0 3 f fd ["self", "number", "rows"] (sp_Desk_run P w K A) := by
  refine F.ok sc_Desk_run (fun vs H Q E h => ?_) (fun cdv B outer s H vs Q E hr h => ?_)
  · obtain ⟨z, a, zs, D, x, kn, rfl, _⟩ := h
    rfl
  obtain ⟨z, a, zs, D, x, kn, rfl, hD, ⟨ha, hl⟩, q⟩ := h
  refine ⟨_, (pss_cons (ps_if (pt_not (pt_val (pe_mt F_Desk_has (hr.mono (by decide)) (pv 0) (pa_cons (pv 1) pa_nil)))) (pss_one (ps_ret (pe_lst (pa_cons (pe_gi T.missing rfl) pa_nil)))) pss_nil) (pss_cons (ps_if (pt_not (pt_val (pe_mt F_Desk_are_rows (hr.mono (by decide)) (pv 0) (pa_cons (pv 2) pa_nil)))) (pss_one (ps_ret (pe_lst (pa_cons (pe_gi T.odd rfl) pa_nil)))) pss_nil) (pss_cons (ps_fld (pv 0) (pe_mk M_Task (hr.mono (by decide)) rfl (pa_cons (pe_callTy call_list_of rfl T.b_list (by decide +kernel) (pa_cons (pv 2) pa_nil)) (pa_cons (pe_lst (pa_cons (pv 1) pa_nil)) (pa_cons pe_bl pa_nil)))) rfl) (pss_one (ps_ret (pe_lst (pa_cons pe_int pa_nil))))))), ?_⟩
  refine s_if1 (tst_has hD (ev_var rfl) (eva_cons (ev_var rfl) eva_nil)) (fun c => ?_) fun c => ?_
  · have e : Sf79.does x (.run z zs) = (x, Sf79.says (-1)) := if_pos (eq_false_of_ne_true c)
    rw [e] at q
    exact say q hD (Keep.refl _) ev_c
  have c := Decidable.not_not.mp c
  refine s_ifS (tstS_rows hD (ev_var rfl) (eva_cons (ev_var rfl) eva_nil) ha hl) (fun c2 H1 s1 => ?_) fun c2 H1 s1 => ?_
  · have e : Sf79.does x (.run z zs) = (x, Sf79.says (-3)) := (if_neg (by rw [c]; exact fun z => nomatch z)).trans (if_pos (eq_false_of_ne_true c2))
    rw [e] at q
    exact say q (hD.same s1) (Keep.of s1) ev_c
  have c2 := Decidable.not_not.mp c2
  have e : Sf79.does x (.run z zs) = (Lw.taskS x (.run z.toNat (Sf79.nats zs)), Sf79.says 0) := (if_neg (by rw [c]; exact fun z => nomatch z)).trans (if_neg (by rw [c2]; exact fun z => nomatch z))
  rw [e] at q
  obtain ⟨hz, hn⟩ := Lw.has_of c
  obtain ⟨hla, hzs⟩ := Lw.lanes_of c2
  generalize z.toNat = n at hz hn q
  subst hz
  have q1 := q.pre s1
  have D1 := hD.same s1
  have a1 := s1 _ _ ha
  rw [map_nats hzs] at a1
  refine ⟨_, rfl, a, _, rfl, .inl (SqL.of a1), fun ra hra => ⟨_, rfl, (by show 1 ≤ sizeLine; decide), fun sa hsa => ?_⟩⟩
  refine fun t td ht htd ne => ?_
  obtain ⟨na, hsa⟩ := upd_free hsa
  obtain ⟨ntsa, ht⟩ := upd_free ht
  obtain ⟨ntra, ht⟩ := upd_free ht
  obtain ⟨nt1, htd⟩ := upd_free htd
  obtain ⟨nt2, htd⟩ := upd_free htd
  refine ⟨t, td, _, _, _, rfl, upd_same, rfl, ?_⟩
  rw [upd_upd]
  generalize hH2 : upd (upd (upd (upd H1 ra (.lst (nv (Sf79.nats zs)))) sa (.lst [.int (n : Nat)])) td (.own t)) t (.ins A.T td (fT (.ref ra) (.ref sa) (.bl false))) = H2
  have s2 : Same H1 H2 := by
    rw [← hH2]
    exact same_mut (same_mut (same_mut (same_mut (Same.refl _) hra) hsa) htd) ht
  refine ⟨_, rfl, D.d, A.D, D.dd, _, rfl, s2 _ _ D1.ob, T.cD, T.nD _ (by simp), (by show 5 < 1000; decide), ?_⟩
  rw [fD_put_task]
  have nd : ∀ {z : Addr}, H1 z = none → z ≠ D.d := fun h => (ne_of_none D1.ob h).symm
  obtain ⟨D2, F2⟩ := D1.newtask (H1 := upd H2 D.d (.ins A.D D.dd (fD (.ref D.L.l) (.ref D.nd) (.int (x.rows : Nat)) (.ref t) (.ref D.g)))) (Lw.Ok.taskRun D1.ok hn hla) (ra := ra) (sa := sa) (t := t) (td := td)
    (fun b o e n => by rw [upd_ne n]; exact s2 _ _ e) hra hsa (Ne.symm na) upd_same (by rw [upd_ne (nd ht), ← hH2, upd_same]; rfl)
    (by rw [upd_ne (nd hra), ← hH2, upd_ne (Ne.symm ntra), upd_ne (Ne.symm nt2), upd_ne (Ne.symm na), upd_same]; rfl)
    (by rw [upd_ne (nd hsa), ← hH2, upd_ne (Ne.symm ntsa), upd_ne (Ne.symm nt1), upd_same]; rfl)
  exact say' (σ := []) q1 D2 F2 ev_c
abbrev s_Desk_choose : Stmt := inClass (top 53) 17
abbrev N_Desk_choose : List Str := ["self", "rows", "steps"]
theorem sc_Desk_choose : FnScope ["self", "rows", "steps"] ["self", "rows", "steps"] (defScope s_Desk_choose) := ⟨rfl, rfl, rfl, by decide +kernel, rfl, by decide +kernel, by decide +kernel⟩
theorem ok_Desk_choose {f : Addr} {fd : FuncData} (F : Fun K "choose" "Desk.choose" s_Desk_choose f fd) (T : Txt K mg A) (M_Task : MkG P w K mg base A.T "Task" 1 ["self", "rows", "steps", "is_choice"] (sp_Task___init__ P w K A)) (F_Desk_are_rows : MtG P w K mg base A.D "are_rows" 2 ["self", "rows"] (sp_Desk_are_rows P w K A)) (F_Desk_have : MtG P w K mg base A.D "have" 2 ["self", "numbers"] (sp_Desk_have P w K A)) : FnOk P w K mg base CX0 3 f fd ["self", "rows", "steps"] (sp_Desk_choose P w K A) := by
  refine F.ok sc_Desk_choose (fun vs H Q E h => ?_) (fun cdv B outer s H vs Q E hr h => ?_)
  · obtain ⟨a, b, zs, ss, D, x, kn, rfl, _⟩ := h
    rfl
  obtain ⟨a, b, zs, ss, D, x, kn, rfl, hD, ⟨ha, hl, hb, hl2⟩, q⟩ := h
  refine ⟨_, (pss_cons (ps_if (pt_not (pt_chain op_le op_le pe_int (pe_callB call_len_seq rfl T.b_len PySem.boot_len (pa_cons (pv 2) pa_nil)) (pe_gi T.most_chosen rfl))) (pss_one (ps_ret (pe_lst (pa_cons (pe_gi T.odd rfl) pa_nil)))) pss_nil) (pss_cons (ps_if (pt_not (pt_val (pe_mt F_Desk_have (hr.mono (by decide)) (pv 0) (pa_cons (pv 2) pa_nil)))) (pss_one (ps_ret (pe_lst (pa_cons (pe_gi T.missing rfl) pa_nil)))) pss_nil) (pss_cons (ps_if (pt_not (pt_val (pe_mt F_Desk_are_rows (hr.mono (by decide)) (pv 0) (pa_cons (pv 1) pa_nil)))) (pss_one (ps_ret (pe_lst (pa_cons (pe_gi T.odd rfl) pa_nil)))) pss_nil) (pss_cons (ps_fld (pv 0) (pe_mk M_Task (hr.mono (by decide)) rfl (pa_cons (pe_callTy call_list_of rfl T.b_list (by decide +kernel) (pa_cons (pv 1) pa_nil)) (pa_cons (pe_callTy call_list_of rfl T.b_list (by decide +kernel) (pa_cons (pv 2) pa_nil)) (pa_cons pe_bl pa_nil)))) rfl) (pss_one (ps_ret (pe_lst (pa_cons pe_int pa_nil)))))))), ?_⟩
  have ln : ∀ {σ : L2.St}, σ[2]? = some (some (V.ref b)) → Ev (tCB (rLen K) (tCons (tVar 2) tNil)) σ H (.int (ss.length : Nat)) := fun h => ev_is (ev_len (ev_var h) (SqL.of hb)) (by rw [List.length_map])
  refine s_if1 (a := ¬ (1 ≤ ss.length ∧ ss.length ≤ 64)) (tst_not (tst_of (ev_chain ev_c (ln rfl) ev_c) (by rw [Bool.and_eq_true, decide_eq_true_iff, decide_eq_true_iff]; omega))) (fun c0 => ?_) fun c0 => ?_
  · have e : Sf79.does x (.choose ss zs) = (x, Sf79.says (-3)) := if_pos (by
      cases ss with
      | nil => exact .inl rfl
      | cons p r =>
        have : (p :: r).length = r.length + 1 := rfl
        exact .inr (by omega))
    rw [e] at q
    exact say q hD (Keep.refl _) ev_c
  have c0 := Decidable.not_not.mp c0
  have n0 : ¬ (ss = [] ∨ 64 < ss.length) := by
    rintro (k | k)
    · rw [k] at c0; exact absurd c0.1 (by decide)
    · omega
  refine s_ifS (tstS_have hD (ev_var rfl) (eva_cons (ev_var rfl) eva_nil) hb hl2) (fun c H0 s0 => ?_) fun c H0 s0 => ?_
  · have e : Sf79.does x (.choose ss zs) = (x, Sf79.says (-1)) := (if_neg n0).trans (if_pos (eq_false_of_ne_true c))
    rw [e] at q
    exact say q (hD.same s0) (Keep.of s0) ev_c
  have c := Decidable.not_not.mp c
  have D0 := hD.same s0
  refine s_ifS (tstS_rows D0 (ev_var rfl) (eva_cons (ev_var rfl) eva_nil) (s0 _ _ ha) hl) (fun c2 H1 s1 => ?_) fun c2 H1 s1 => ?_
  · have e : Sf79.does x (.choose ss zs) = (x, Sf79.says (-3)) := ((if_neg n0).trans (if_neg (by rw [c]; exact fun z => nomatch z))).trans (if_pos (eq_false_of_ne_true c2))
    rw [e] at q
    exact say q (D0.same s1) (Keep.of (s0.trans s1)) ev_c
  have c2 := Decidable.not_not.mp c2
  have e : Sf79.does x (.choose ss zs) = (Lw.taskS x (.choose (Sf79.nats ss) (Sf79.nats zs)), Sf79.says 0) := ((if_neg n0).trans (if_neg (by rw [c]; exact fun z => nomatch z))).trans (if_neg (by rw [c2]; exact fun z => nomatch z))
  rw [e] at q
  obtain ⟨hn, hss⟩ := Lw.have_of c
  obtain ⟨hla, hzs⟩ := Lw.lanes_of c2
  have q1 := q.pre (s0.trans s1)
  have D1 := D0.same s1
  have a1 := (s0.trans s1) _ _ ha
  have b1 := (s0.trans s1) _ _ hb
  rw [map_nats hzs] at a1
  rw [map_nats hss] at b1
  refine ⟨_, rfl, a, _, rfl, .inl (SqL.of a1), fun ra hra => ⟨_, rfl, b, _, rfl, .inl (SqL.of (same_new hra _ _ b1)), fun sa hsa => ?_⟩⟩
  refine fun t td ht htd ne => ?_
  obtain ⟨na, hsa⟩ := upd_free hsa
  obtain ⟨ntsa, ht⟩ := upd_free ht
  obtain ⟨ntra, ht⟩ := upd_free ht
  obtain ⟨nt1, htd⟩ := upd_free htd
  obtain ⟨nt2, htd⟩ := upd_free htd
  refine ⟨t, td, _, _, _, rfl, upd_same, rfl, ?_⟩
  rw [upd_upd]
  generalize hH2 : upd (upd (upd (upd H1 ra (.lst (nv (Sf79.nats zs)))) sa (.lst (nv (Sf79.nats ss)))) td (.own t)) t (.ins A.T td (fT (.ref ra) (.ref sa) (.bl true))) = H2
  have s2 : Same H1 H2 := by
    rw [← hH2]
    exact same_mut (same_mut (same_mut (same_mut (Same.refl _) hra) hsa) htd) ht
  refine ⟨_, rfl, D.d, A.D, D.dd, _, rfl, s2 _ _ D1.ob, T.cD, T.nD _ (by simp), (by show 5 < 1000; decide), ?_⟩
  rw [fD_put_task]
  have nd : ∀ {z : Addr}, H1 z = none → z ≠ D.d := fun h => (ne_of_none D1.ob h).symm
  obtain ⟨D2, F2⟩ := D1.newtask (H1 := upd H2 D.d (.ins A.D D.dd (fD (.ref D.L.l) (.ref D.nd) (.int (x.rows : Nat)) (.ref t) (.ref D.g)))) (Lw.Ok.taskChoose D1.ok hn (by show (ss.map Int.toNat).length ≤ 64; rw [List.length_map]; exact c0.2) hla) (ra := ra) (sa := sa) (t := t) (td := td)
    (fun b o e n => by rw [upd_ne n]; exact s2 _ _ e) hra hsa (Ne.symm na) upd_same (by rw [upd_ne (nd ht), ← hH2, upd_same]; rfl)
    (by rw [upd_ne (nd hra), ← hH2, upd_ne (Ne.symm ntra), upd_ne (Ne.symm nt2), upd_ne (Ne.symm na), upd_same]; rfl)
    (by rw [upd_ne (nd hsa), ← hH2, upd_ne (Ne.symm ntsa), upd_ne (Ne.symm nt1), upd_same]; rfl)
  exact say' (σ := []) q1 D2 F2 ev_c
end
end Wk
namespace Wk
open PySem PySem.Spec PyProof.Rows L2 Nq
/-! Other rows; another given value. -/
section
variable {P : Program} {w : World} {A : Adr} {H H' H0 H1 H2 : Hp} {D D' : DD} {x y : S} {kn kn' : Lw.Kn} {Q : VK} {p q : Addr} {o : HO}
theorem DA.psk (h : DA P w A H D x kn) {i : Nat} (hi : i < x.steps.length) : adr D.L.ps i ≠ D.L.ka := fun z => by
  have hm : adr D.L.ps i ∈ D.L.ps := List.mem_of_getElem? (adr_get (by rw [h.ls.lp]; exact hi))
  have sep := h.sep
  have e0 : D.lists = D.L.sa :: D.L.ga :: D.L.ka :: D.g :: (D.L.ps ++ D.tl) := rfl
  rw [e0] at sep
  simp only [List.nodup_cons, List.mem_cons, not_or] at sep
  exact sep.2.2.1.2 (z ▸ List.mem_append_left _ hm)
theorem DA.lnd (h : DA P w A H D x kn) : D.L.l ≠ D.d := fun z => by
  have e := h.ls.ob
  rw [z, h.ob] at e
  have e := Option.some.inj e
  rw [HO.ins.injEq] at e
  have : (5 : Nat) = 3 := congrArg List.length e.2.2
  omega
end
def sp_Desk_batch (P : Program) (w : World) (K : PySem.W.Frag) (A : Adr) : Sp := fun vs H Q _ => ∃ z : Int, spCall P w A (.batch z) [.int z] vs H Q fun _ => True
def sp_Desk_give_value (P : Program) (w : World) (K : PySem.W.Frag) (A : Adr) : Sp := fun vs H Q _ => ∃ (z : Int) (v : Nat), spCall P w A (.set z v) [.int z, .int v] vs H Q fun _ => True
section
variable {P : Program} {w : World} {K : PySem.W.Frag} {mg : Str → Option Value} {base : Heap} {A : Adr}
abbrev s_Desk_batch : Stmt := inClass (top 53) 14
abbrev N_Desk_batch : List Str := ["self", "many"]
theorem sc_Desk_batch : FnScope ["self", "many"] ["self", "many"] (defScope s_Desk_batch) := ⟨rfl, rfl, rfl, by decide +kernel, rfl, by decide +kernel, by decide +kernel⟩
theorem ok_Desk_batch {f : Addr} {fd : FuncData} (F : Fun K "batch" "Desk.batch" s_Desk_batch f fd) (T : Txt K mg A) (F_Lanes_forget_rows : MtG P w K mg base A.L "forget_rows" 2 ["self"] (sp_Lanes_forget_rows P w K A)) : FnOk P w K mg base CX0 3 f fd ["self", "many"] (sp_Desk_batch P w K A) := by
  refine F.ok sc_Desk_batch (fun vs H Q E h => ?_) (fun cdv B outer s H vs Q E hr h => ?_)
  · obtain ⟨z, D, x, kn, rfl, _⟩ := h
    rfl
  obtain ⟨z, D, x, kn, rfl, hD, _, q⟩ := h
  refine ⟨_, (pss_cons (ps_if (pt_not (pt_chain op_le op_le pe_int (pv 1) (pe_gi T.most_rows rfl))) (pss_one (ps_ret (pe_lst (pa_cons (pe_gi T.odd rfl) pa_nil)))) pss_nil) (pss_cons (ps_expr (pe_mt0 F_Lanes_forget_rows (hr.mono (by decide)) (pe_fld (pv 0) rfl))) (pss_cons (ps_fld (pv 0) (pv 1) rfl) (pss_cons (ps_fld (pv 0) pe_non rfl) (pss_one (ps_ret (pe_lst (pa_cons pe_int pa_nil)))))))), ?_⟩
  refine s_if1 (tst_not (tst_of (a := 0 ≤ z ∧ z ≤ 1024) (ev_chain ev_c (ev_var rfl) ev_c) (by rw [Bool.and_eq_true, decide_eq_true_iff, decide_eq_true_iff]))) (fun c => ?_) fun c => ?_
  · have e : Sf79.does x (.batch z) = (x, Sf79.says (-3)) := if_pos (eq_false_of_ne_true fun k => c (by have := (upto_of (m := 1025) rfl).mp k; omega))
    rw [e] at q
    exact say q hD (Keep.refl _) ev_c
  have c := Decidable.not_not.mp c
  have e : Sf79.does x (.batch z) = (Lw.batchS x z.toNat, Sf79.says 0) := if_neg (by rw [(upto_of (m := 1025) rfl).mpr (by omega)]; exact fun z => nomatch z)
  rw [e] at q
  obtain ⟨n, rfl⟩ := nat_of c.1
  rw [show (n : Int).toNat = n from rfl] at q
  refine ⟨_, rfl, D.d, A.D, D.dd, _, _, rfl, hD.ob, T.cD, T.nD _ (by simp), fD_lanes, D.L.l, D.L.dl, _, rfl, hD.ls.ob, fL_m_forget_rows, ?_⟩
  refine ⟨D.L, x, rfl, hD.ls, hD.sk.1, fun i hi => hD.psk hi, fun i hi => hD.lc.some i (by rw [hD.ls.ld]; exact hi), hD.ok.most, fun H1 ds b1 ld nd hk all => ?_⟩
  have b1' : ∀ b o, H b = some o → (∀ ys, o ≠ .lst ys) → H1 b = some o := fun b o e n => b1 b o e fun z => by
    rw [z, hD.ls.ka] at e
    exact n _ (Option.some.inj e).symm
  refine ⟨_, rfl, _, rfl, D.d, A.D, D.dd, _, rfl, b1' _ _ hD.ob (fun _ z => nomatch z), T.cD, T.nD _ (by simp), (by show 5 < 1000; decide), ?_⟩
  rw [fD_put_many]
  refine ⟨_, rfl, D.d, A.D, D.dd, _, rfl, upd_same, T.cD, T.nD _ (by simp), (by show 5 < 1000; decide), ?_⟩
  rw [upd_upd, fD_put_task]
  have nd2 : ∀ b o, H1 b = some o → (∀ C dx fs, o ≠ .ins C dx fs) → upd H1 D.d (.ins A.D D.dd (fD (.ref D.L.l) (.ref D.nd) (.int (n : Nat)) .non (.ref D.g))) b = some o := fun b o e m => by
    rw [upd_ne fun z => ?_]
    · exact e
    · rw [z, b1' _ _ hD.ob (fun _ z => nomatch z)] at e
      exact m _ _ _ (Option.some.inj e).symm
  obtain ⟨D2, F2⟩ := hD.move (y := Lw.batchS x n) (kn' := Lw.keepStill x kn) (ka' := D.L.ka) (ds' := ds) (tl' := []) (tv' := .non) (H1 := upd H1 D.d (.ins A.D D.dd (fD (.ref D.L.l) (.ref D.nd) (.int (n : Nat)) .non (.ref D.g))))
    (fun b o e hm => by
      rw [upd_ne fun z => hm (by rw [z]; simp [DD.M])]
      exact b1 b o e fun z => hm (by rw [z]; simp [DD.M])) rfl rfl upd_same
    (by rw [upd_ne hD.lnd]; exact b1' _ _ hD.ls.ob fun _ z => nomatch z)
    (by
      obtain ⟨gv, e, r⟩ := hD.ls.ga
      exact ⟨gv, nd2 _ _ (b1 _ _ e hD.sk.2.2) (fun _ _ _ z => nomatch z), r⟩)
    (nd2 _ _ hk fun _ _ _ z => nomatch z) (ld.trans hD.ls.ld) nd
    (fun i hi => by
      have hi : i < ds.length := hi
      have hi2 : i < x.steps.length := by rw [ld, hD.ls.ld] at hi; exact hi
      have := all i hi2
      show ∃ kvs, upd H1 D.d _ (adr ds i) = some (.dK kvs) ∧ KvOk kvs (Lw.keepStill x kn i)
      by_cases c : Lw.still x.steps i = true
      · rw [if_pos c] at this
        obtain ⟨kvs, e, r⟩ := hD.lc i (by rw [hD.ls.ld]; exact hi2)
        refine ⟨kvs, by rw [this]; exact nd2 _ _ (b1' _ _ e fun _ z => nomatch z) (fun _ _ _ z => nomatch z), ?_⟩
        have : Lw.keepStill x kn i = kn i := by
          funext k
          exact if_pos c
        rw [this]
        exact r
      · rw [if_neg c] at this
        refine ⟨[], nd2 _ _ this.2 (fun _ _ _ z => nomatch z), ?_⟩
        have : Lw.keepStill x kn i = fun _ => none := by
          funext k
          exact if_neg c
        rw [this]
        exact KvOk.nil)
    (hD.good.batch hD.ok (by omega)) (hD.ok.batch (by omega)) ⟨rfl, rfl⟩ (.inl rfl) List.nodup_nil (fun _ h => nomatch h)
  exact say' (σ := []) q D2 F2 ev_c
abbrev s_Desk_give_value : Stmt := inClass (top 53) 13
abbrev N_Desk_give_value : List Str := ["self", "number", "value"]
theorem sc_Desk_give_value : FnScope ["self", "number", "value"] ["self", "number", "value"] (defScope s_Desk_give_value) := ⟨rfl, rfl, rfl, by decide +kernel, rfl, by decide +kernel, by decide +kernel⟩
theorem ok_Desk_give_value {f : Addr} {fd : FuncData} (F : Fun K "give_value" "Desk.give_value" s_Desk_give_value f fd) (T : Txt K mg A) (F_Lanes_forget_all : MtG P w K mg base A.L "forget_all" 1 ["self"] (sp_Lanes_forget_all P w K A)) (F_is_value : FnG P w K mg base "is_value" 1 ["number"] (sp_is_value P w K A)) : FnOk P w K mg base CX0 2 f fd ["self", "number", "value"] (sp_Desk_give_value P w K A) := by
  refine F.ok sc_Desk_give_value (fun vs H Q E h => ?_) (fun cdv B outer s H vs Q E hr h => ?_)
  · obtain ⟨z, v, D, x, kn, rfl, _⟩ := h
    rfl
  obtain ⟨z, v, D, x, kn, rfl, hD, _, q⟩ := h
  refine ⟨_, (pss_cons (ps_if (PW.pt (pw_or (pt_not (pt_chain op_le op_lt pe_int (pv 1) (pe_gi T.givens rfl))) (pw_or1 (pt_not (pt_val (pe_fn F_is_value (hr.mono (by decide)) rfl (pa_cons (pv 2) pa_nil))))))) (pss_one (ps_ret (pe_lst (pa_cons (pe_gi T.odd rfl) pa_nil)))) pss_nil) (pss_cons (ps_asg (pv 2) (pg_sub (pe_fld (pe_fld (pv 0) rfl) rfl) (pv 1) set_list)) (pss_cons (ps_expr (pe_mt0 F_Lanes_forget_all (hr.mono (by decide)) (pe_fld (pv 0) rfl))) (pss_cons (ps_fld (pv 0) pe_int rfl) (pss_cons (ps_fld (pv 0) pe_non rfl) (pss_one (ps_ret (pe_lst (pa_cons pe_int pa_nil))))))))), ?_⟩
  refine s_if1 (a := ¬ (0 ≤ z ∧ z < ((64 : Nat) : Int)) ∨ ¬ v < 2 ^ 64) (tst_or (tst_not (tst_of (ev_chain ev_c (ev_var rfl) ev_c) (by rw [Bool.and_eq_true, decide_eq_true_iff, decide_eq_true_iff]; exact Iff.rfl))) fun _ =>
    tst_not fun R r => e_call (eva_cons (ev_var rfl) eva_nil) ⟨v, rfl, _, rfl, r _ decide_eq_true_iff⟩) (fun c => ?_) fun c => ?_
  · have e : Sf79.does x (.set z v) = (x, Sf79.says (-3)) := if_pos (by
      rcases c with c | c
      · exact .inl (eq_false_of_ne_true fun k => c ((upto_of rfl).mp k))
      · exact .inr (Nat.le_of_not_lt c))
    rw [e] at q
    exact say q hD (Keep.refl _) ev_c
  have c1 : 0 ≤ z ∧ z < ((64 : Nat) : Int) := Decidable.not_not.mp fun k => c (.inl k)
  have c2 : v < 2 ^ 64 := Decidable.not_not.mp fun k => c (.inr k)
  have e : Sf79.does x (.set z v) = (Lw.setS x z.toNat v, Sf79.says 0) := if_neg (by
    rintro (k | k)
    · rw [(upto_of rfl).mpr c1] at k; cases k
    · exact Nat.lt_irrefl _ (Nat.lt_of_lt_of_le c2 k))
  rw [e] at q
  obtain ⟨n, rfl⟩ := nat_of c1.1
  rw [show (n : Int).toNat = n from rfl] at q
  obtain ⟨gv, hg, gl, gi⟩ := hD.ls.ga
  have hn : n < 64 := by have := c1.2; omega
  refine ⟨_, rfl, _, rfl, D.d, A.D, D.dd, _, _, rfl, hD.ob, T.cD, T.nD _ (by simp), fD_lanes, D.L.l, A.L, D.L.dl, _, _, rfl, hD.ls.ob, T.cL, T.nL _ (by simp), fL_givens, _, rfl, D.L.ga, _, (n : Int), n, rfl, rfl, hg, ?_, ?_⟩
  · unfold ixN
    rw [nv_len, gl, if_pos (by omega), if_pos (by omega)]
    simp
  have eg : (nv gv).set n (.int (v : Nat)) = nv (gv.set n v) := by
    unfold nv
    rw [List.map_set]
  rw [eg]
  have ng : ∀ b o, H b = some o → (∀ ys, o ≠ .lst ys) → upd H D.L.ga (.lst (nv (gv.set n v))) b = some o := fun b o e m => by
    rw [upd_ne fun z => ?_]
    · exact e
    · rw [z, hg] at e
      exact m _ (Option.some.inj e).symm
  refine ⟨_, rfl, D.d, A.D, D.dd, _, _, rfl, ng _ _ hD.ob (fun _ z => nomatch z), T.cD, T.nD _ (by simp), fD_lanes, D.L.l, D.L.dl, _, rfl, ng _ _ hD.ls.ob (fun _ z => nomatch z), fL_m_forget_all, ?_⟩
  refine ⟨D.L.l, D.L.dl, D.L.sa, D.L.ga, D.L.ka, D.L.ss, rfl, ng _ _ hD.ls.ob (fun _ z => nomatch z), by rw [upd_ne hD.sk.2.1]; exact hD.ls.sa, by rw [hD.ls.ls]; exact hD.ok.most, fun H2 ka' ds b2 fk fd ndd ld hk hl => ?_⟩
  obtain ⟨nkg, fk⟩ := upd_free fk
  have d2 : H2 D.d = some (.ins A.D D.dd (fD (.ref D.L.l) (.ref D.nd) (.int (x.rows : Nat)) D.tv (.ref D.g))) := b2 _ _ (ng _ _ hD.ob (fun _ z => nomatch z)) (Ne.symm hD.lnd)
  refine ⟨_, rfl, D.d, A.D, D.dd, _, rfl, d2, T.cD, T.nD _ (by simp), (by show 5 < 1000; decide), ?_⟩
  rw [fD_put_many]
  refine ⟨_, rfl, D.d, A.D, D.dd, _, rfl, upd_same, T.cD, T.nD _ (by simp), (by show 5 < 1000; decide), ?_⟩
  rw [upd_upd, fD_put_task]
  have nd2 : ∀ b o, H2 b = some o → (∀ C dx fs, o ≠ .ins C dx fs) → upd H2 D.d (.ins A.D D.dd (fD (.ref D.L.l) (.ref D.nd) (.int 0) .non (.ref D.g))) b = some o := fun b o e m => by
    rw [upd_ne fun z => ?_]
    · exact e
    · rw [z, d2] at e
      exact m _ _ _ (Option.some.inj e).symm
  have ngl : D.L.ga ≠ D.L.l := ne_of hg hD.ls.ob fun z => nomatch z
  obtain ⟨D2, F2⟩ := hD.move (y := Lw.setS x n v) (kn' := fun _ _ => none) (ka' := ka') (ds' := ds) (tl' := []) (tv' := .non) (H1 := upd H2 D.d (.ins A.D D.dd (fD (.ref D.L.l) (.ref D.nd) (.int 0) .non (.ref D.g))))
    (fun b o e hm => by
      rw [upd_ne fun z => hm (by rw [z]; simp [DD.M])]
      refine b2 b o ?_ fun z => hm (by rw [z]; simp [DD.M])
      rw [upd_ne fun z => hm (by rw [z]; simp [DD.M])]
      exact e) rfl rfl upd_same
    (by rw [upd_ne hD.lnd]; exact hl)
    (by
      refine ⟨gv.set n v, nd2 _ _ (b2 _ _ upd_same ngl) (fun _ _ _ z => nomatch z), by rw [List.length_set]; exact gl, fun i hi => ?_⟩
      rw [Lw.given_set, List.getD_eq_getElem?_getD, List.getElem?_set]
      by_cases c : n = i
      · rw [if_pos c, if_pos (by omega), if_pos c.symm]
        rfl
      · rw [if_neg c, if_neg (Ne.symm c), ← gi i hi, List.getD_eq_getElem?_getD])
    (nd2 _ _ hk fun _ _ _ z => nomatch z) (ld.trans hD.ls.ls) ndd
    (fun i hi => ⟨[], nd2 _ _ (fd _ (List.mem_of_getElem? (adr_get hi))).2 (fun _ _ _ z => nomatch z), KvOk.nil⟩)
    (Lw.Good.set n v) (hD.ok.set n v) ⟨rfl, rfl⟩ (.inr fk) List.nodup_nil (fun _ h => nomatch h)
  exact say' (σ := []) q D2 F2 ev_c
end
end Wk
namespace Wk
open PySem PySem.Spec PyProof.Rows L2 Nq
/-! A desk that is new. -/
theorem lenK {fs : List (Str × V)} {f : Str} {v : V} (k : Nat) (h : fs.length < k) : (putF f v fs).length < k + 1 := Nat.lt_of_le_of_lt (length_putF _ _ _) (Nat.succ_lt_succ h)
theorem But.free {a b : Addr} {H H1 : Hp} (k : But a H H1) (n : b ≠ a) (h : H1 b = none) : H b = none := by
  cases e : H b with
  | none => rfl
  | some o => rw [k b o e n] at h; cases h
section
variable {P : Program} {w : World} {A : Adr} {H1 : Hp}
theorem DA.fresh {d dd l dl nd g sa ga ka : Addr} (ob : H1 d = some (.ins A.D dd (fD (.ref l) (.ref nd) (.int 0) .non (.ref g)))) (lo : H1 l = some (.ins A.L dl (fL (.ref sa) (.ref ga) (.ref ka)))) (es : H1 sa = some (.lst []))
    (eg : H1 ga = some (.lst (nv (List.replicate 64 0)))) (ek : H1 ka = some (.lst [])) (en : H1 nd = some (NO P w nd [])) (e5 : H1 g = some (.lst [])) (n1 : sa ≠ ga) (n2 : sa ≠ ka) (n3 : ga ≠ ka) (n4 : sa ≠ g) (n5 : ga ≠ g) (n6 : ka ≠ g) :
    DA P w A H1 ⟨d, dd, ⟨l, dl, sa, ga, ka, [], [], []⟩, nd, g, [], .non, []⟩ Sf79.fresh fun _ _ => none where
  ob := ob
  ls := {
    ob := lo
    sa := es
    ga := ⟨_, eg, List.length_replicate, fun i hi => by
      rw [List.getD_eq_getElem?_getD, List.getElem?_replicate, if_pos hi]
      rfl⟩
    ka := ek
    ls := rfl
    lp := rfl
    ld := rfl
    nd := List.nodup_nil
    st := fun i t h => (Lw.no_step h).elim }
  lc := fun i hi => absurd hi (Nat.not_lt_zero _)
  good := Lw.Good.fresh
  ok := Lw.Ok.fresh
  nd := en
  xl := rfl
  xk := fun i t h => (Lw.no_step h).elim
  ka := fun e h => (nomatch h)
  g := e5
  task := ⟨rfl, rfl⟩
  sep := by
    show [sa, ga, ka, g].Nodup
    simp [n1, n2, n3, n4, n5, n6]
end
def sp_Desk_fresh (P : Program) (w : World) (K : PySem.W.Frag) (A : Adr) : Sp := fun vs H Q _ => spCall P w A .open_ [] vs H Q fun _ => True
def sp_Desk___init__ (P : Program) (w : World) (K : PySem.W.Frag) (A : Adr) : Sp := fun vs H Q _ => ∃ (d dd : Addr), vs = [.ref d] ∧ H d = some (.ins A.D dd []) ∧ ∀ H' D', DA P w A H' D' Sf79.fresh (fun _ _ => none) → D'.d = d → (∀ b o, H b = some o → b ≠ d → H' b = some o) → (∀ b ∈ D'.sup, b = d ∨ H b = none) → Q .non H'
section
variable {P : Program} {w : World} {K : PySem.W.Frag} {mg : Str → Option Value} {base : Heap} {A : Adr}
abbrev s_Desk___init__ : Stmt := inClass (top 53) 0
abbrev N_Desk___init__ : List Str := ["self"]
theorem sc_Desk___init__ : FnScope ["self"] ["self"] (defScope s_Desk___init__) := ⟨rfl, rfl, rfl, by decide +kernel, rfl, by decide +kernel, by decide +kernel⟩
theorem ok_Desk___init__ {f : Addr} {fd : FuncData} (F : Fun K "__init__" "Desk.__init__" s_Desk___init__ f fd) (T : Txt K mg A) (M_Lanes : MkG P w K mg base A.L "Lanes" 1 ["self"] (sp_Lanes___init__ P w K A)) : FnOk P w K mg base CX0 3 f fd ["self"] (sp_Desk___init__ P w K A) := by
  refine F.ok sc_Desk___init__ (fun vs H Q E h => ?_) (fun cdv B outer s H vs Q E hr h => ?_)
  · obtain ⟨d, dd, rfl, _⟩ := h
    rfl
  obtain ⟨d, dd, rfl, ed, q⟩ := h
  refine ⟨_, (pss_cons (ps_fld (pv 0) (pe_mk0 M_Lanes (hr.mono (by decide)) rfl) rfl) (pss_cons (ps_fld (pv 0) pe_nnew rfl) (pss_cons (ps_fld (pv 0) pe_int rfl) (pss_cons (ps_fld (pv 0) pe_non rfl) (pss_one (ps_fld (pv 0) (pe_lst pa_nil) rfl)))))), ?_⟩
  have ed0 := ed
  refine fun l dl hl hdl hne => ⟨l, dl, rfl, upd_same, fun Hb sa ga ka bl fs fg fk n1 n2 n3 el es eg ek => ⟨rfl, ?_⟩⟩
  obtain ⟨nsl, fs⟩ := upd_free fs
  obtain ⟨nsd, fs⟩ := upd_free fs
  obtain ⟨ngl, fg⟩ := upd_free fg
  obtain ⟨ngd, fg⟩ := upd_free fg
  obtain ⟨nkl, fk⟩ := upd_free fk
  obtain ⟨nkd, fk⟩ := upd_free fk
  have kb : ∀ b o, H b = some o → Hb b = some o := fun b o e => bl b o (by rw [upd_ne (ne_of_none e hl), upd_ne (ne_of_none e hdl)]; exact e) (ne_of_none e hl)
  have fb : ∀ {b : Addr}, Hb b = none → H b = none := fun {b} h => by
    cases e : H b with
    | none => rfl
    | some o => rw [kb b o e] at h; cases h
  have ed := kb _ _ ed
  refine ⟨_, rfl, d, A.D, dd, _, rfl, ed, T.cD, T.nD _ (by simp), (by show 0 < 1000; decide), ?_⟩
  -- numbers
  refine fun nd hnd => ⟨_, rfl, d, A.D, dd, _, rfl, (by rw [upd_ne (Ne.symm (upd_free hnd).1), upd_same]), T.cD, T.nD _ (by simp), (lenK 999 (by show 0 < 999; decide)), ?_⟩
  obtain ⟨ndd, hnd⟩ := upd_free hnd
  refine ⟨_, rfl, d, A.D, dd, _, rfl, upd_same, T.cD, T.nD _ (by simp), (lenK 999 (lenK 998 (by show 0 < 998; decide))), ?_⟩
  rw [upd_upd]
  refine ⟨_, rfl, d, A.D, dd, _, rfl, upd_same, T.cD, T.nD _ (by simp), (lenK 999 (lenK 998 (lenK 997 (by show 0 < 997; decide)))), ?_⟩
  rw [upd_upd]
  refine ⟨(by show 0 ≤ sizeLine; decide), fun g hg => ⟨_, rfl, d, A.D, dd, _, rfl, (by rw [upd_ne (Ne.symm (upd_free hg).1), upd_same]), T.cD, T.nD _ (by simp), (lenK 999 (lenK 998 (lenK 997 (lenK 996 (by show 0 < 996; decide))))), ?_⟩⟩
  rw [fD_new]
  obtain ⟨ngd2, hg⟩ := upd_free hg
  obtain ⟨ngn, hg⟩ := upd_free hg
  obtain ⟨_, hg⟩ := upd_free hg
  have ne : ∀ {a b : Addr} {o : HO}, Hb a = some o → Hb b = none → a ≠ b := fun e h => ne_of_none e h
  have ldn : ∀ {a : Addr}, H a = none → a ≠ d := fun h z => by rw [z, ed0] at h; cases h
  have FA := DA.fresh (P := P) (w := w) (A := A) (H1 := upd (upd (upd (upd (upd Hb d (.ins A.D dd (putF "lanes" (.ref l) []))) nd (NO P w nd [])) d (.ins A.D dd (putF "task" .non (putF "many" (.int 0) (putF "numbers" (.ref nd) (putF "lanes" (.ref l) [])))))) g (.lst [])) d (.ins A.D dd (fD (.ref l) (.ref nd) (.int 0) .non (.ref g))))
    (d := d) (dd := dd) (l := l) (dl := dl) (nd := nd) (g := g) (sa := sa) (ga := ga) (ka := ka) upd_same
    (by rw [upd_ne (ldn hl), upd_ne (ne el hg), upd_ne (ldn hl), upd_ne (ne el hnd), upd_ne (ldn hl)]; exact el)
    (by rw [upd_ne (ldn fs), upd_ne (ne es hg), upd_ne (ldn fs), upd_ne (ne es hnd), upd_ne (ldn fs)]; exact es)
    (by rw [upd_ne (ldn fg), upd_ne (ne eg hg), upd_ne (ldn fg), upd_ne (ne eg hnd), upd_ne (ldn fg)]; exact eg)
    (by rw [upd_ne (ldn fk), upd_ne (ne ek hg), upd_ne (ldn fk), upd_ne (ne ek hnd), upd_ne (ldn fk)]; exact ek)
    (by rw [upd_ne ndd, upd_ne (Ne.symm ngn), upd_ne ndd, upd_same])
    (by rw [upd_ne ngd2, upd_same])
    n1 n2 n3 (ne es hg) (ne eg hg) (ne ek hg)
  have FB : ∀ b o, H b = some o → b ≠ d → upd (upd (upd (upd (upd Hb d (.ins A.D dd (putF "lanes" (.ref l) []))) nd (NO P w nd [])) d (.ins A.D dd (putF "task" .non (putF "many" (.int 0) (putF "numbers" (.ref nd) (putF "lanes" (.ref l) [])))))) g (.lst [])) d (.ins A.D dd (fD (.ref l) (.ref nd) (.int 0) .non (.ref g))) b = some o := fun b o e n => by
    rw [upd_ne n, upd_ne (ne (kb b o e) hg), upd_ne n, upd_ne (ne (kb b o e) hnd), upd_ne n]
    exact kb b o e
  have FC : ∀ b ∈ DD.sup ⟨d, dd, ⟨l, dl, sa, ga, ka, [], [], []⟩, nd, g, [], .non, []⟩, b = d ∨ H b = none := fun b hb => by
    have hb : b ∈ [d, l, nd, sa, ga, ka, g] := hb
    simp only [List.mem_cons, List.not_mem_nil, or_false] at hb
    rcases hb with rfl | rfl | rfl | rfl | rfl | rfl | rfl
    · exact .inl rfl
    · exact .inr hl
    · exact .inr (fb hnd)
    · exact .inr fs
    · exact .inr fg
    · exact .inr fk
    · exact .inr (fb hg)
  exact q _ _ FA rfl FB FC
abbrev s_Desk_fresh : Stmt := inClass (top 53) 1
abbrev N_Desk_fresh : List Str := ["self"]
theorem sc_Desk_fresh : FnScope ["self"] ["self"] (defScope s_Desk_fresh) := ⟨rfl, rfl, rfl, by decide +kernel, rfl, by decide +kernel, by decide +kernel⟩
theorem ok_Desk_fresh {f : Addr} {fd : FuncData} (F : Fun K "fresh" "Desk.fresh" s_Desk_fresh f fd) (T : Txt K mg A) (M_Lanes : MkG P w K mg base A.L "Lanes" 1 ["self"] (sp_Lanes___init__ P w K A)) : FnOk P w K mg base CX0 3 f fd ["self"] (sp_Desk_fresh P w K A) := by
  refine F.ok sc_Desk_fresh (fun vs H Q E h => ?_) (fun cdv B outer s H vs Q E hr h => ?_)
  · obtain ⟨D, x, kn, rfl, _⟩ := h
    rfl
  obtain ⟨D, x, kn, rfl, hD, _, q⟩ := h
  have ed := hD.ob
  generalize hd : D.d = d at ed
  generalize D.dd = dd at ed
  generalize hfs : fD (.ref D.L.l) (.ref D.nd) (.int (x.rows : Nat)) D.tv (.ref D.g) = fs0 at ed
  have lfs : fs0.length < 996 := by rw [← hfs]; show 5 < 996; decide
  have e9 : ∀ {x0 x1 x2 x3 x4 : V}, putF "given" x4 (putF "task" x3 (putF "many" x2 (putF "numbers" x1 (putF "lanes" x0 fs0)))) = fD x0 x1 x2 x3 x4 := by
    intro x0 x1 x2 x3 x4
    rw [← hfs, fD_put_lanes, fD_put_numbers, fD_put_many, fD_put_task, fD_put_given]
  have ed0 := ed
  have q : Waits P w A H D (Sf79.fresh, Sf79.says 0) Q := q
  refine ⟨_, (pss_cons (ps_fld (pv 0) (pe_mk0 M_Lanes (hr.mono (by decide)) rfl) rfl) (pss_cons (ps_fld (pv 0) pe_nnew rfl) (pss_cons (ps_fld (pv 0) pe_int rfl) (pss_cons (ps_fld (pv 0) pe_non rfl) (pss_cons (ps_fld (pv 0) (pe_lst pa_nil) rfl) (pss_one (ps_ret (pe_lst (pa_cons pe_int pa_nil))))))))), ?_⟩
  refine fun l dl hl hdl hne => ⟨l, dl, rfl, upd_same, fun Hb sa ga ka bl fs fg fk n1 n2 n3 el es eg ek => ⟨rfl, ?_⟩⟩
  obtain ⟨nsl, fs⟩ := upd_free fs
  obtain ⟨nsd, fs⟩ := upd_free fs
  obtain ⟨ngl, fg⟩ := upd_free fg
  obtain ⟨ngd, fg⟩ := upd_free fg
  obtain ⟨nkl, fk⟩ := upd_free fk
  obtain ⟨nkd, fk⟩ := upd_free fk
  have kb : ∀ b o, H b = some o → Hb b = some o := fun b o e => bl b o (by rw [upd_ne (ne_of_none e hl), upd_ne (ne_of_none e hdl)]; exact e) (ne_of_none e hl)
  have fb : ∀ {b : Addr}, Hb b = none → H b = none := fun {b} h => by
    cases e : H b with
    | none => rfl
    | some o => rw [kb b o e] at h; cases h
  have ed := kb _ _ ed
  refine ⟨_, rfl, d, A.D, dd, _, rfl, ed, T.cD, T.nD _ (by simp), (Nat.lt_trans lfs (by decide)), ?_⟩
  -- numbers
  refine fun nd hnd => ⟨_, rfl, d, A.D, dd, _, rfl, (by rw [upd_ne (Ne.symm (upd_free hnd).1), upd_same]), T.cD, T.nD _ (by simp), (lenK 999 (Nat.lt_trans lfs (by decide))), ?_⟩
  obtain ⟨ndd, hnd⟩ := upd_free hnd
  refine ⟨_, rfl, d, A.D, dd, _, rfl, upd_same, T.cD, T.nD _ (by simp), (lenK 999 (lenK 998 (Nat.lt_trans lfs (by decide)))), ?_⟩
  rw [upd_upd]
  refine ⟨_, rfl, d, A.D, dd, _, rfl, upd_same, T.cD, T.nD _ (by simp), (lenK 999 (lenK 998 (lenK 997 (Nat.lt_trans lfs (by decide))))), ?_⟩
  rw [upd_upd]
  refine ⟨(by show 0 ≤ sizeLine; decide), fun g hg => ⟨_, rfl, d, A.D, dd, _, rfl, (by rw [upd_ne (Ne.symm (upd_free hg).1), upd_same]), T.cD, T.nD _ (by simp), (lenK 999 (lenK 998 (lenK 997 (lenK 996 (lfs))))), ?_⟩⟩
  rw [e9]
  obtain ⟨ngd2, hg⟩ := upd_free hg
  obtain ⟨ngn, hg⟩ := upd_free hg
  obtain ⟨_, hg⟩ := upd_free hg
  have ne : ∀ {a b : Addr} {o : HO}, Hb a = some o → Hb b = none → a ≠ b := fun e h => ne_of_none e h
  have ldn : ∀ {a : Addr}, H a = none → a ≠ d := fun h z => by rw [z, ed0] at h; cases h
  have FA := DA.fresh (P := P) (w := w) (A := A) (H1 := upd (upd (upd (upd (upd Hb d (.ins A.D dd (putF "lanes" (.ref l) fs0))) nd (NO P w nd [])) d (.ins A.D dd (putF "task" .non (putF "many" (.int 0) (putF "numbers" (.ref nd) (putF "lanes" (.ref l) fs0)))))) g (.lst [])) d (.ins A.D dd (fD (.ref l) (.ref nd) (.int 0) .non (.ref g))))
    (d := d) (dd := dd) (l := l) (dl := dl) (nd := nd) (g := g) (sa := sa) (ga := ga) (ka := ka) upd_same
    (by rw [upd_ne (ldn hl), upd_ne (ne el hg), upd_ne (ldn hl), upd_ne (ne el hnd), upd_ne (ldn hl)]; exact el)
    (by rw [upd_ne (ldn fs), upd_ne (ne es hg), upd_ne (ldn fs), upd_ne (ne es hnd), upd_ne (ldn fs)]; exact es)
    (by rw [upd_ne (ldn fg), upd_ne (ne eg hg), upd_ne (ldn fg), upd_ne (ne eg hnd), upd_ne (ldn fg)]; exact eg)
    (by rw [upd_ne (ldn fk), upd_ne (ne ek hg), upd_ne (ldn fk), upd_ne (ne ek hnd), upd_ne (ldn fk)]; exact ek)
    (by rw [upd_ne ndd, upd_ne (Ne.symm ngn), upd_ne ndd, upd_same])
    (by rw [upd_ne ngd2, upd_same])
    n1 n2 n3 (ne es hg) (ne eg hg) (ne ek hg)
  have FB : ∀ b o, H b = some o → b ≠ d → upd (upd (upd (upd (upd Hb d (.ins A.D dd (putF "lanes" (.ref l) fs0))) nd (NO P w nd [])) d (.ins A.D dd (putF "task" .non (putF "many" (.int 0) (putF "numbers" (.ref nd) (putF "lanes" (.ref l) fs0)))))) g (.lst [])) d (.ins A.D dd (fD (.ref l) (.ref nd) (.int 0) .non (.ref g))) b = some o := fun b o e n => by
    rw [upd_ne n, upd_ne (ne (kb b o e) hg), upd_ne n, upd_ne (ne (kb b o e) hnd), upd_ne n]
    exact kb b o e
  have FC : ∀ b ∈ DD.sup ⟨d, dd, ⟨l, dl, sa, ga, ka, [], [], []⟩, nd, g, [], .non, []⟩, b = d ∨ H b = none := fun b hb => by
    have hb : b ∈ [d, l, nd, sa, ga, ka, g] := hb
    simp only [List.mem_cons, List.not_mem_nil, or_false] at hb
    rcases hb with rfl | rfl | rfl | rfl | rfl | rfl | rfl
    · exact .inl rfl
    · exact .inr hl
    · exact .inr (fb hnd)
    · exact .inr fs
    · exact .inr fg
    · exact .inr fk
    · exact .inr (fb hg)
  refine say' (σ := []) q FA ⟨fun b o e hs _ => FB b o e fun z => hs (by rw [z, ← hd]; simp [DD.sup]), fun b hb => (FC b hb).imp (fun z => by rw [z, ← hd]; simp [DD.sup]) id, hd.symm⟩ ev_c
end
end Wk
namespace Wk
open PySem PySem.Spec PyProof.Rows L2 Nq
/-! Values of what is needed are given. -/
section
variable {P : Program} {w : World} {A : Adr} {H H' H0 H1 H2 : Hp} {D D' : DD} {x y : S} {kn kn' : Lw.Kn}
theorem counts_give {n : Nat} {rows vs : List Nat} (hn : n < x.steps.length) : counts (Lw.giveS x n rows vs) = (counts x).set n (x.asked.count n + rows.length) := by
  refine List.ext_getElem? fun i => ?_
  rw [List.getElem?_set]
  unfold counts
  rw [List.getElem?_map, List.length_map, List.length_range, List.getElem?_map]
  show ((List.range x.steps.length)[i]?).map _ = _
  by_cases hi : i < x.steps.length
  · rw [List.getElem?_range hi]
    simp only [Option.map_some]
    rw [Lw.count_give]
    by_cases c : n = i
    · subst c
      rw [if_pos rfl, if_pos rfl, if_pos hi, Nat.add_comm]
    · rw [if_neg c, if_neg (fun z => c z.symm), Nat.zero_add]
  · rw [List.getElem?_eq_none (by rw [List.length_range]; omega)]
    rw [if_neg (fun z => hi (by omega))]
    rfl
theorem DA.gave (h : DA P w A H D x kn) {n : Nat} {rows vs : List Nat} (O : Lw.Ok (Lw.giveS x n rows vs)) (G : Lw.Good (Lw.giveS x n rows vs) kn') (lc : LC H1 D.L kn') (k : Keep H H1) (hn : n < x.steps.length) :
    DA P w A (upd H1 D.g (.lst ((nv (counts x)).set n (.int ((x.asked.count n : Nat) + (rows.length : Nat)))))) D (Lw.giveS x n rows vs) kn' ∧ Fr H D (upd H1 D.g (.lst ((nv (counts x)).set n (.int ((x.asked.count n : Nat) + (rows.length : Nat)))))) D := by
  have sep := h.sep
  have e0 : D.lists = D.L.sa :: D.L.ga :: D.L.ka :: D.g :: (D.L.ps ++ D.tl) := rfl
  rw [e0] at sep
  simp only [List.nodup_cons, List.mem_cons, not_or] at sep
  obtain ⟨⟨n1, n2, n3, n4⟩, ⟨n5, n6, n7⟩, ⟨n8, n9⟩, ⟨n10, n11⟩⟩ := sep
  have g1 := k _ _ h.g fun _ z => nomatch z
  generalize hX : upd H1 D.g (.lst ((nv (counts x)).set n (.int ((x.asked.count n : Nat) + (rows.length : Nat))))) = X
  have kx : ∀ b o, H1 b = some o → b ≠ D.g → X b = some o := fun b o e n => by rw [← hX, upd_ne n]; exact e
  have nx : ∀ b o, H1 b = some o → (∀ ys, o ≠ .lst ys) → X b = some o := fun b o e m => kx b o e fun z => by
    rw [z, g1] at e
    exact m _ (Option.some.inj e).symm
  have nk : ∀ b o, H b = some o → (∀ kvs, o ≠ .dK kvs) → (∀ ys, o ≠ .lst ys) → X b = some o := fun b o e m1 m2 => nx b o (k b o e m1) m2
  have lk : ∀ b ys, H b = some (.lst ys) → b ≠ D.g → X b = some (.lst ys) := fun b ys e m => kx b _ (k b _ e fun _ z => nomatch z) m
  refine ⟨{
    ob := nk _ _ h.ob (fun _ z => nomatch z) fun _ z => nomatch z
    ls := {
      ob := nk _ _ h.ls.ob (fun _ z => nomatch z) fun _ z => nomatch z
      sa := lk _ _ h.ls.sa n3
      ga := let ⟨gv, e, r⟩ := h.ls.ga; ⟨gv, lk _ _ e n6, r⟩
      ka := lk _ _ h.ls.ka n8
      ls := h.ls.ls
      lp := h.ls.lp
      ld := h.ls.ld
      nd := h.ls.nd
      st := fun i t ht => by
        obtain ⟨⟨dx, hx⟩, hp⟩ := h.ls.st i t ht
        have hm : adr D.L.ps i ∈ D.L.ps := List.mem_of_getElem? (adr_get (by rw [h.ls.lp]; exact (List.getElem?_eq_some_iff.mp ht).1))
        exact ⟨⟨dx, nk _ _ hx (fun _ z => nomatch z) fun _ z => nomatch z⟩, lk _ _ hp fun z => n10 (z ▸ List.mem_append_left _ hm)⟩ }
    lc := fun i hi => by
      obtain ⟨kvs, e, r⟩ := lc i hi
      exact ⟨kvs, nx _ _ e (fun _ z => nomatch z), r⟩
    good := G
    ok := O
    nd := nk _ _ h.nd (fun _ z => nomatch z) fun _ z => nomatch z
    xl := h.xl
    xk := h.xk
    ka := keysAt_mono h.ka fun b ys e => nk _ _ e (fun _ z => nomatch z) fun _ z => nomatch z
    g := by
      rw [counts_give hn, ← hX, upd_same]
      unfold nv
      rw [List.map_set]
      rfl
    task := h.task.mono fun b o e m n1 n2 => kx b o (k b o e n1) fun z => by
      rw [z, h.g] at e
      exact n10 (z ▸ List.mem_append_right _ (m _ (Option.some.inj e).symm))
    sep := h.sep }, fun b o e hs hk => kx b o (k b o e hk) fun z => hs (by rw [z]; unfold DD.sup; rw [e0]; simp), fun b h => .inl h, rfl⟩
end
def sp_Desk_give (P : Program) (w : World) (K : PySem.W.Frag) (A : Adr) : Sp := fun vs H Q _ => ∃ (a : Addr) (us : List Nat), spCall P w A (.give us) [.ref a] vs H Q fun _ => H a = some (.lst (nv us)) ∧ us.length ≤ 2000
section
variable {P : Program} {w : World} {K : PySem.W.Frag} {mg : Str → Option Value} {base : Heap} {A : Adr}
theorem gput_take {kn : Lw.Kn} {n i r v : Nat} {zs : List (Nat × Nat)} (h : zs[i]? = some (r, v)) : Lw.gput kn n (zs.take (i + 1)) = Lw.put (Lw.gput kn n (zs.take i)) n r v := by
  unfold Lw.gput
  rw [List.take_add_one, h, List.foldl_append]
  rfl
abbrev s_Desk_give : Stmt := inClass (top 53) 21
abbrev N_Desk_give : List Str := ["self", "values", "found", "number", "rows", "row", "value"]
theorem sc_Desk_give : FnScope ["self", "values", "found", "number", "rows", "row", "value"] ["self", "values"] (defScope s_Desk_give) := ⟨rfl, rfl, rfl, by decide +kernel, rfl, by decide +kernel, by decide +kernel⟩
theorem ok_Desk_give {f : Addr} {fd : FuncData} (F : Fun K "give" "Desk.give" s_Desk_give f fd) (T : Txt K mg A) (F_Lanes_keep : MtG P w K mg base A.L "keep" 3 ["self", "number", "row", "value"] (sp_Lanes_keep P w K A)) (F_is_value : FnG P w K mg base "is_value" 1 ["number"] (sp_is_value P w K A)) (F_Desk_needed : MtG P w K mg base A.D "needed" 9 ["self"] (sp_Desk_needed P w K A)) : FnOk P w K mg base CX0 10 f fd ["self", "values"] (sp_Desk_give P w K A) := by
  refine F.ok sc_Desk_give (fun vs H Q E h => ?_) (fun cdv B outer s H vs Q E hr h => ?_)
  · obtain ⟨a, us, D, x, kn, rfl, _⟩ := h
    rfl
  obtain ⟨a, us, D, x, kn, rfl, hD, ⟨ha, hl⟩, q⟩ := h
  refine ⟨_, (pss_cons (ps_set (i := 2) sc_Desk_give.nd rfl (Or.inl rfl) (pe_mt0 F_Desk_needed (hr.mono (by decide)) (pv 0))) (pss_cons (ps_if (pt_cmp (pc_isN (pv 2))) (pss_one (ps_ret (pe_lst (pa_cons (pe_gi T.nothing_needed rfl) pa_nil)))) pss_nil) (pss_cons (ps_asg (pv 2) (pg_tup rfl (pgs_cons (pg_name (i := 3) sc_Desk_give.nd rfl (Or.inl rfl)) (pgs_cons (pg_name (i := 4) sc_Desk_give.nd rfl (Or.inl rfl)) pgs_nil)))) (pss_cons (ps_if (PW.pt (pw_or (pt_cmpR op_ne (pe_callB call_len_seq rfl T.b_len PySem.boot_len (pa_cons (pv 1) pa_nil)) (pe_callB call_len_seq rfl T.b_len PySem.boot_len (pa_cons (pv 4) pa_nil)) (nomark _)) (pw_or1 (pt_not (pt_val (pe_callB (cr_all rfl) rfl T.b_all (by decide +kernel) (pa_cons (pe_lc rfl sc_Desk_give.nd (pi_list (pv 1)) (blkOk_by (own := [("value", 6)]) (N := N_Desk_give) (sc := defScope s_Desk_give) (by decide +kernel)) (fun _ _ _ _ _ => (pg_name (i := 6) sc_Desk_give.nd rfl (Or.inl rfl))) (fun _ _ _ _ _ => pts_nil) (fun _ _ _ _ _ => (pe_fn F_is_value (hr.mono (by decide)) rfl (pa_cons (pv 6) pa_nil)))) pa_nil))))))) (pss_one (ps_ret (pe_lst (pa_cons (pe_gi T.odd rfl) pa_nil)))) pss_nil) (pss_cons (ps_for PassesOwn.never rfl (pi_zip rfl T.b_zip (pa_cons (pv 4) (pa_cons (pv 1) pa_nil))) (pg_tup rfl (pgs_cons (pg_name (i := 5) sc_Desk_give.nd rfl (Or.inl rfl)) (pgs_cons (pg_name (i := 6) sc_Desk_give.nd rfl (Or.inl rfl)) pgs_nil))) (pss_one (ps_expr (pe_mt F_Lanes_keep (hr.mono (by decide)) (pe_fld (pv 0) rfl) (pa_cons (pv 3) (pa_cons (pv 5) (pa_cons (pv 6) pa_nil))))))) (pss_cons (ps_augS (pe_fld (pv 0) rfl) (pv 3) get_list (pe_callB call_len_seq rfl T.b_len PySem.boot_len (pa_cons (pv 4) pa_nil)) ip_add set_list) (pss_one (ps_ret (pe_lst (pa_cons pe_int pa_nil)))))))))), ?_⟩
  refine e_meth (ev_var rfl) hD.ob fD_m_needed eva_nil ⟨D, x, kn, rfl, hD, fun H1 kn1 v a1 nr => ?_⟩
  have hD1 := hD.after a1
  refine s_if1 (tst_isN (ev_var rfl)) (fun c => ?_) fun c => ?_
  · have en : x.next = none := by
      rcases nr with ⟨_, e⟩ | ⟨p, b, s, l, e, _⟩
      · exact e
      · rw [e] at c; cases c
    have e : Sf79.does x (.give us) = (x, Sf79.says (-5)) := by
      show (match x.next with | none => _ | some n => _) = _
      rw [en]
    rw [e] at q
    exact say q hD1 a1.keep ev_c
  rcases nr with ⟨e, _⟩ | ⟨p, b, n, rows, rfl, hp, hb, ho, en⟩
  · exact absurd e c
  clear c
  have e : Sf79.does x (.give us) = if us.length ≠ rows.length ∨ us.any (fun (v : Nat) => decide (2 ^ 64 ≤ v)) = true then (x, Sf79.says (-3)) else (Lw.giveS x n rows us, Sf79.says 0) := by
    show (match x.next with | none => _ | some n => _) = _
    rw [en]
    rfl
  rw [e] at q
  have a2 := a1.keep _ _ ha fun _ z => nomatch z
  refine ⟨_, rfl, g_pair hp ?_⟩
  refine s_ifS (b := us.length ≠ rows.length ∨ ¬ us.all (fun v => decide (v < 2 ^ 64)) = true) (tstS_or (tstS (tst_iff (tst_ne (ev_len (ev_var rfl) (SqL.of a2)) (ev_len (ev_var rfl) (SqL.of hb)) rfl) (by rw [nv_len, nv_len, ne_eq, ne_eq, int_eq]))) fun _ H2 s2 =>
    tstS_not (tstS_iff (tst_all (xs := nv us) (p := fun x => match x with | .int z => decide (z.toNat < 2 ^ 64) | _ => false) fun Q' q' =>
      comp_map (fun x => V.bl (match x with | .int z => decide (z.toNat < 2 ^ 64) | _ => false)) (ev_var rfl) (SqL.of (s2 _ _ a2)) (by rw [nv_len]; omega) (fun j x H' hx s1 => ?_) q') ?_)) (fun c H2 s2 => ?_) fun c H2 s2 => ?_
  · obtain ⟨v, ev, rfl⟩ := nv_at hx
    exact fun Q q => e_call (eva_cons (ev_var rfl) eva_nil) ⟨v, rfl, q⟩
  · unfold nv
    rw [List.all_eq_true]
    simp only [List.mem_map, forall_exists_index, and_imp, forall_apply_eq_imp_iff₂, Int.toNat_natCast]
  · rw [if_pos] at q
    · exact say q (hD1.same s2) (a1.keep.trans (Keep.of s2)) ev_c
    · rcases c with c | c
      · exact .inl c
      · refine .inr ?_
        rw [List.any_eq_true]
        rw [List.all_eq_true] at c
        simp only [decide_eq_true_eq] at c ⊢
        obtain ⟨v, h⟩ := Classical.not_forall.mp c
        obtain ⟨h1, h2⟩ := Classical.not_imp.mp h
        exact ⟨v, h1, by omega⟩
  have cl : us.length = rows.length := Decidable.not_not.mp fun k => c (.inl k)
  have ca : us.all (fun v => decide (v < 2 ^ 64)) = true := Decidable.not_not.mp fun k => c (.inr k)
  rw [if_neg (by
    rintro (k | k)
    · exact k cl
    · rw [List.any_eq_true] at k
      obtain ⟨v, h1, h2⟩ := k
      have := List.all_eq_true.mp ca v h1
      rw [decide_eq_true_iff] at h2 this
      omega)] at q
  have D2 := hD1.same s2
  have zl : (List.zip rows us).length = rows.length := by rw [List.length_zip]; omega
  refine ⟨_, rfl, _, rfl, b, a, nv rows, nv us, rfl, SqL.of (s2 _ _ hb), SqL.of (s2 _ _ a2), ?_⟩
  refine for_it (walk_zip (n := rows.length) (by rw [nv_len, nv_len]; omega)) (fun i σ H' => ∃ (rv vv : Option V), σ = [some (.ref D.d), some (.ref a), some (.ref p), some (.int n), some (.ref b), rv, vv] ∧ Keep H2 H' ∧ LC H' D.L (Lw.gput kn1 n ((List.zip rows us).take i)))
    ⟨none, none, rfl, Keep.refl _, D2.lc⟩ (fun i σ H' _ ⟨_, _, _, k, _⟩ => ⟨SqL.of (k _ _ (s2 _ _ hb) fun _ z => nomatch z), SqL.of (k _ _ (s2 _ _ a2) fun _ z => nomatch z)⟩) ?_ ?_
  · rintro i v σ H' H'' hi ⟨rv, vv, rfl, k, lc⟩ ⟨Tp, xr, xv, rfl, hT, rfl, hr1, hv1⟩
    obtain ⟨r, er, rfl⟩ := nv_at hr1
    obtain ⟨u, eu, rfl⟩ := nv_at hv1
    have kT : Keep H2 (upd H' Tp (.tup [.int (r : Nat), .int (u : Nat)])) := k.trans (Keep.of (same_new hT))
    have lcT : LC (upd H' Tp (.tup [.int (r : Nat), .int (u : Nat)])) D.L (Lw.gput kn1 n ((List.zip rows us).take i)) := lc.same (same_new hT)
    refine g_pair upd_same ?_
    have ob := kT _ _ D2.ob fun _ z => nomatch z
    have lo := kT _ _ D2.ls.ob fun _ z => nomatch z
    refine e_meth (ev_fld (ev_var rfl) ob T.cD (T.nD _ (by simp)) fD_lanes) lo fL_m_keep (eva_cons (ev_var rfl) (eva_cons (ev_var rfl) (eva_cons (ev_var rfl) eva_nil))) ⟨D.L, x, _, n, r, u, rfl, D2.ls.keep kT, lcT, ho.lt, ho.le r (List.mem_of_getElem? er), fun H3 h3 lc3 => ?_⟩
    rw [Lw.opn_key ho.op r (List.mem_of_getElem? er), ← gput_take (i := i) (by rw [List.getElem?_zip_eq_some]; exact ⟨er, eu⟩)] at lc3
    refine ⟨some (.int (r : Nat)), some (.int (u : Nat)), rfl, fun c o e nk => ?_, lc3⟩
    obtain ⟨kvs, e2, _⟩ := lcT n (by rw [D2.ls.ld]; exact ho.lt)
    have e1 := kT c o e nk
    rw [h3 c fun z => ?_]
    · exact e1
    · rw [z, e2] at e1
      exact nk _ (Option.some.inj e1).symm
  rintro σ H3 ⟨rv, vv, rfl, k, lc⟩
  rw [← zl, List.take_length] at lc
  have NE := Lw.next_end hD1.ok en
  have g3 := k _ _ D2.g fun _ z => nomatch z
  refine ⟨_, rfl, D.d, A.D, D.dd, _, _, rfl, k _ _ D2.ob (fun _ z => nomatch z), T.cD, T.nD _ (by simp), fD_given, _, rfl, D.g, nv (counts x), n, .int (x.asked.count n : Nat), rfl, rfl, SqL.of g3, ?_, _, rfl, b, _, rfl, .inl (SqL.of (k _ _ (s2 _ _ hb) fun _ z => nomatch z)), _, _, rfl, rfl, D.g, _, (n : Int), n, rfl, rfl, g3, ?_, ?_⟩
  · refine nv_get ?_
    unfold counts
    rw [List.getElem?_map, List.getElem?_range ho.lt]
    rfl
  · unfold ixN
    rw [nv_len]
    have : (counts x).length = x.steps.length := by unfold counts; rw [List.length_map, List.length_range]
    have := ho.lt
    rw [if_pos (by omega), if_pos (by omega)]
    simp
  rw [nv_len]
  obtain ⟨D4, F4⟩ := D2.gave (H1 := H3) (rows := rows) (vs := us) (hD1.ok.give NE) (hD1.good.give hD1.ok NE cl) lc k ho.lt
  exact say' (σ := []) q D4 ⟨fun b o e hs nk => F4.out b o ((a1.keep.trans (Keep.of s2)) b o e nk) hs nk, fun b h => .inl h, rfl⟩ ev_c
end
end Wk
namespace Wk
open PySem PySem.Spec PyProof.Rows L2 Nq
/-! What came of the task. -/
def sp_Desk_got (P : Program) (w : World) (K : PySem.W.Frag) (A : Adr) : Sp := fun vs H Q _ => spCall P w A .got [] vs H Q fun _ => True
section
variable {P : Program} {w : World} {K : PySem.W.Frag} {mg : Str → Option Value} {base : Heap} {A : Adr}
theorem s_catE {tb ta : TE} {σ : L2.St} {H : Hp} {x : V} {E : Ends} (h : Ev ta σ H x) (k : ∀ l, H l = none → tb σ (upd H l (.lst [x])) fun y H1 => rCat (.ref l) y H1 E.rt) : tRet (tOp rCat (tLst (tCons ta tNil)) tb) E σ H := h _ ⟨(by show 1 ≤ sizeLine; decide), k⟩
theorem s_ifNor {u : TT} {ta : TE} {σ : L2.St} {H : Hp} {x : V} {E : Ends} {p q : TS} (h : Ev ta σ H x) (h1 : x = .non → p E σ H) (h2 : x ≠ .non → u σ H fun c H' => if c = true then p E σ H' else q E σ H') : tIfS (tOr (tB (tIsN ta)) u) p q E σ H :=
  tst_isN h _ fun c e => by
    by_cases z : c = true
    · exact ift z (ift rfl (h1 (e.mp z)))
    · exact iff' (eq_false_of_ne_true z) (h2 fun k => z (e.mpr k))
abbrev s_Desk_got : Stmt := inClass (top 53) 22
abbrev N_Desk_got : List Str := ["self", "rows", "number", "row"]
theorem sc_Desk_got : FnScope ["self", "rows", "number", "row"] ["self"] (defScope s_Desk_got) := ⟨rfl, rfl, rfl, by decide +kernel, rfl, by decide +kernel, by decide +kernel⟩
theorem ok_Desk_got {f : Addr} {fd : FuncData} (F : Fun K "got" "Desk.got" s_Desk_got f fd) (T : Txt K mg A) (F_Desk_true_in : MtG P w K mg base A.D "true_in" 6 ["self", "number", "rows"] (sp_Desk_true_in P w K A)) (F_Lanes_value : MtG P w K mg base A.L "value" 5 ["self", "number", "row"] (sp_Lanes_value P w K A)) (F_Desk_needed : MtG P w K mg base A.D "needed" 9 ["self"] (sp_Desk_needed P w K A)) : FnOk P w K mg base CX0 10 f fd ["self"] (sp_Desk_got P w K A) := by
  refine F.ok sc_Desk_got (fun vs H Q E h => ?_) (fun cdv B outer s H vs Q E hr h => ?_)
  · obtain ⟨D, x, kn, rfl, _⟩ := h
    rfl
  obtain ⟨D, x, kn, rfl, hD, _, q⟩ := h
  refine ⟨_, (pss_cons (ps_if (PW.pt (pw_or (pt_cmp (pc_isN (pe_fld (pv 0) rfl))) (pw_or1 (pt_cmp (pc_notN (pe_mt0 F_Desk_needed (hr.mono (by decide)) (pv 0))))))) (pss_one (ps_ret (pe_lst (pa_cons (pe_gi T.not_yet rfl) pa_nil)))) pss_nil) (pss_cons (ps_set (i := 1) sc_Desk_got.nd rfl (Or.inl rfl) (pe_fld (pe_fld (pv 0) rfl) rfl)) (pss_cons (ps_if (pt_not (pt_val (pe_fld (pe_fld (pv 0) rfl) rfl))) (pss_one (ps_ret (pe_op op_cat (pe_lst (pa_cons (pe_callB call_len_seq rfl T.b_len PySem.boot_len (pa_cons (pv 1) pa_nil)) pa_nil)) (pe_lc rfl sc_Desk_got.nd (pi_list (pv 1)) (blkOk_by (own := [("row", 3)]) (N := N_Desk_got) (sc := defScope s_Desk_got) (by decide +kernel)) (fun _ _ _ _ _ => (pg_name (i := 3) sc_Desk_got.nd rfl (Or.inl rfl))) (fun _ _ _ _ _ => pts_nil) (fun _ _ _ _ _ => (pe_mt F_Lanes_value (hr.mono (by decide)) (pe_fldK (K := K) rfl (pv 0) rfl) (pa_cons (pe_ix (ix_listK (K := K) rfl) (pe_fldK (K := K) rfl (pe_fldK (K := K) rfl (pv 0) rfl) rfl) pe_int (fun _ _ => rfl)) (pa_cons (pv 3) pa_nil)))))))) pss_nil) (pss_cons (ps_for PassesOwn.never rfl (pi_list (pe_fld (pe_fld (pv 0) rfl) rfl)) (pg_name (i := 2) sc_Desk_got.nd rfl (Or.inl rfl)) (pss_one (ps_set (i := 1) sc_Desk_got.nd rfl (Or.inl rfl) (pe_mt F_Desk_true_in (hr.mono (by decide)) (pv 0) (pa_cons (pv 2) (pa_cons (pv 1) pa_nil)))))) (pss_one (ps_ret (pe_op op_cat (pe_lst (pa_cons (pe_callB call_len_seq rfl T.b_len PySem.boot_len (pa_cons (pv 1) pa_nil)) pa_nil)) (pv 1)))))))), ?_⟩
  have tv : ∀ {H' kn'}, DA P w A H' D x kn' → ∀ {σ : L2.St}, σ[0]? = some (some (V.ref D.d)) → Ev (tFld K (tVar 0) "task") σ H' D.tv := fun h _ e => ev_fld (ev_var e) h.ob T.cD (T.nD _ (by simp)) fD_task
  have tsk := hD.task
  refine s_ifNor (tv hD rfl) (fun c => ?_) fun c0 => ?_
  · have hj : x.task = none := by
      cases hj : x.task with
      | none => rfl
      | some j =>
        rw [hj] at tsk
        obtain ⟨t, td, ra, sa, e1, _⟩ := tsk
        rw [e1] at c
        cases c
    have e : Sf79.does x .got = (x, Sf79.says (-4)) := congrArg (Prod.mk x) (if_pos (.inl hj))
    rw [e] at q
    exact say q hD (Keep.refl _) ev_c
  cases hj : x.task with
  | none =>
    rw [hj] at tsk
    exact absurd tsk.1 c0
  | some j =>
  rw [hj] at tsk
  obtain ⟨t, td, ra, sa, e1, e2, ht, hra, hsa⟩ := tsk
  refine e_meth (ev_var rfl) hD.ob fD_m_needed eva_nil ⟨D, x, kn, rfl, hD, fun H1 kn1 v a1 nr => ⟨_, rfl, ?_⟩⟩
  have hD1 := hD.after a1
  by_cases c : v = .non
  rotate_left
  · refine ift (by rw [decide_eq_false c]; rfl) ?_
    have en : x.next ≠ none := by
      rcases nr with ⟨z, _⟩ | ⟨p, b, s, l, _, _, _, _, z⟩
      · exact absurd z c
      · rw [z]; exact fun z => nomatch z
    have e : Sf79.does x .got = (x, Sf79.says (-4)) := congrArg (Prod.mk x) (if_pos (.inr en))
    rw [e] at q
    exact say (σ := []) q hD1 a1.keep ev_c
  refine iff' (by rw [decide_eq_true c]; rfl) ?_
  have en : x.next = none := by
    rcases nr with ⟨_, z⟩ | ⟨p, b, s, l, z, _⟩
    · exact z
    · rw [z] at c; cases c
  have e : Sf79.does x .got = (x, x.results) := congrArg (Prod.mk x) (if_neg (by
    rintro (k | k)
    · rw [hj] at k; cases k
    · exact k en))
  rw [e] at q
  obtain ⟨k1, k2, k3⟩ := Lw.task_steps hD.ok hj
  have lle := Lw.lanes_le hD.ok k2
  have lln := Lw.lanes_len hD.ok k2
  have tf : ∀ {H' kn'}, After A H D.L x kn kn' H' → ∀ {σ : L2.St}, σ[0]? = some (some (V.ref D.d)) → ∀ {f : Str} {v : V}, NoAttr K A.T f → (fT (.ref ra) (.ref sa) (.bl (isC j))).lookup f = some v → Ev (tFld K (tFld K (tVar 0) "task") f) σ H' v := fun af _ e _ _ hn hl =>
    ev_fld (ev_is (tv (hD.after af) e) e1) (af.keep _ _ ht fun _ z => nomatch z) T.cT hn hl
  have ra1 := a1.keep _ _ hra fun _ z => nomatch z
  have sa1 := a1.keep _ _ hsa fun _ z => nomatch z
  refine s_set (tf a1 rfl (T.nT _ (by simp)) fT_rows) ?_
  refine s_if1 (tst_not (tstB_of (a := isC j = true) (tf a1 rfl (T.nT _ (by simp)) fT_is_choice) Iff.rfl)) (fun c2 => ?_) fun c2 => ?_
  · cases j with
    | choose ss l => exact absurd rfl c2
    | run s l =>
    rw [Lw.results_run hD.ok hj] at q
    have hs : s < x.steps.length := k1 s List.mem_cons_self
    replace ra1 : H1 ra = some (.lst (nv l)) := ra1
    replace hra : H ra = some (.lst (nv l)) := hra
    replace lle : ∀ a ∈ l, a ≤ 1024 := lle
    replace lln : l.length ≤ 1024 := lln
    have ok0 : Lw.opn x s l = [] := by
      rw [Lw.next_nd hD.ok, hj] at en
      have en : (match Lw.nd x (s + 1) s l with | some n => some n | none => none) = none := en
      cases h9 : Lw.nd x (s + 1) s l with
      | none => exact (Lw.nd_none hs).mp h9
      | some n => rw [h9] at en; cases en
    have all := Lw.all_known hD.ok.wf ok0
    refine s_catE (ev_len (ev_var rfl) (SqL.of ra1)) fun l0 hl0 => ?_
    replace hl0 : H1 l0 = none := hl0
    have a2 : After A H D.L x kn kn1 (upd H1 l0 (.lst [.int ((nv l).length : Nat)])) := a1.same (same_new hl0)
    refine ⟨_, rfl, ra, rfl, ⟨_, SqL.of (a2.keep _ _ hra fun _ z => nomatch z)⟩, fun D2 hD2 => ?_⟩
    generalize hH2 : upd H1 l0 (.lst [.int ((nv l).length : Nat)]) = H2 at a2 hD2
    have hl2 : H2 l0 = some (.lst [.int ((nv l).length : Nat)]) := by rw [← hH2, upd_same]
    have hDD := hD.after a2
    refine lc_list (K := K) (a := ra) (xs := nv l) (fun j H' => ∃ kn', After A H2 D.L x kn1 kn' H' ∧ H' D2 = some (.lst (nv ((l.take j).map fun r => (x.known s r).getD 0)))) ?_ ?_ ?_ ?_
    · exact ⟨kn1, (After.start hDD.lc hDD.good).mut hDD.lc.some hD2, upd_same⟩
    · rintro i H' _ ⟨kn', af, _⟩
      exact SqL.of ((a2.trans af).keep _ _ hra fun _ z => nomatch z)
    · rintro i y H' hy ⟨kn', af, hd⟩
      obtain ⟨r, er, rfl⟩ := nv_at hy
      refine ⟨wipe1, ?_⟩
      have af0 := a2.trans af
      have hD' := hD.after af0
      refine ift (B := False) rfl ?_
      refine e_meth (ev_lanes T hD' (ev_var rfl)) hD'.ls.ob fL_m_value (eva_cons (ev_ixL (tf af0 rfl (T.nT _ (by simp)) fT_steps) ev_c (SqL.of (af0.keep _ _ hsa fun _ z => nomatch z)) (atI_nat (j := 0) rfl)) (eva_cons (ev_var rfl) eva_nil)) ⟨D.L, x, kn', s, r, rfl, hD'.ls, hD'.lc, hD.ok, hD'.good, hs, lle r (List.mem_of_getElem? er), fun H3 kn3 k3 c3 g3 le3 _ => ?_⟩
      have af3 := af.trans ⟨k3, c3, g3, le3⟩
      have hd3 := k3 _ _ hd fun _ z => nomatch z
      have hkn := all r (List.mem_of_getElem? er)
      have ov1 : ov (x.known s r) = .int ((x.known s r).getD 0 : Nat) := by
        cases h9 : x.known s r with
        | none => exact absurd h9 hkn
        | some u => rfl
      rw [ov1]
      refine ⟨_, hd3, ?_, kn3, af3.mut hDD.lc.some hD2, ?_⟩
      · rw [nv_len, List.length_map]
        rw [List.length_take]
        exact szl (by omega)
      · rw [upd_same, List.take_add_one, er]
        show some (HO.lst (nv _ ++ [_])) = _
        rw [nv_append, List.map_append]
        rfl
    · rintro H' ⟨kn', af, hd⟩
      rw [nv_len, List.take_length] at hd
      have af0 := a2.trans af
      refine ⟨l0, D2, _, _, rfl, rfl, af.keep _ _ hl2 (fun _ z => nomatch z), hd, ?_, fun p hp => giveback q (hD.after af0) af0.keep hp ?_⟩
      · have e9 : (nv (l.map fun r => (x.known s r).getD 0)).length = l.length := by rw [nv_len, List.length_map]
        rw [e9]
        exact sz (by show 1 + l.length ≤ 1000000; omega)
      · rw [ansV_eq, nv_len]
        rfl
  · cases j with
    | run s l => exact absurd (fun z => nomatch z) c2
    | choose ss l =>
    rw [Lw.results_choose hD.ok hj] at q
    refine s_forL (tf a1 rfl (T.nT _ (by simp)) fT_steps) (SqL.of sa1) ?_
    refine for_it walk_list (fun i σ H' => ∃ (a : Addr) (nv' rv : Option V) (kn' : Lw.Kn), σ = [some (.ref D.d), some (.ref a), nv', rv] ∧ After A H D.L x kn kn' H' ∧ H' a = some (.lst (nv (Lw.yesAll x (ss.take i) l))))
      ⟨ra, none, none, kn1, rfl, a1, ra1⟩ (fun i σ H' _ ⟨_, _, _, _, _, af, _⟩ => SqL.of (af.keep _ _ hsa fun _ z => nomatch z)) ?_ ?_
    · rintro i v σ H' H2 hi ⟨a, nv', rv, kn', rfl, af, ha⟩ ⟨rfl, hv⟩
      obtain ⟨n, en, rfl⟩ := nv_at hv
      replace en : ss[i]? = some n := en
      have hn := k1 n (List.mem_of_getElem? en)
      have hD' := hD.after af
      obtain ⟨ys, yl⟩ := Lw.yesAll_sub x (ss.take i) l
      have ys1 : Lw.yesAll x (ss.take (i + 1)) l = Lw.yes x n (Lw.yesAll x (ss.take i) l) := by
        rw [List.take_add_one, en]
        exact Lw.yesAll_snoc x _ n l
      refine e_meth (ev_var rfl) hD'.ob fD_m_true_in (eva_cons (ev_var rfl) (eva_cons (ev_var rfl) eva_nil)) ⟨D, x, kn', n, a, _, rfl, hD', hn, ha, fun l hl => lle l (ys l hl), Nat.le_trans yl (Nat.le_trans lln (by decide)), fun p H4 kn4 af4 hp => ?_⟩
      exact ⟨p, some (.int n), rv, kn4, rfl, af.trans af4, by rw [ys1]; exact hp⟩
    · rintro σ H' ⟨a, nv', rv, kn', rfl, af, ha⟩
      rw [show (nv (Lw.taskSteps (.choose ss l))).length = ss.length from nv_len _, List.take_length] at ha
      obtain ⟨ys, yl⟩ := Lw.yesAll_sub x ss l
      have yl2 : (Lw.yesAll x ss l).length ≤ 1024 := Nat.le_trans yl lln
      refine s_cat1 (ev_len (ev_var rfl) (SqL.of ha)) (fun r hr => ev_var rfl) ha (by rw [nv_len]; omega) fun p H2 hp s2 => giveback q (hD.after (af.same s2)) (af.keep.trans (Keep.of s2)) hp ?_
      rw [ansV_eq, nv_len]
end
end Wk
namespace Wk
open PySem PySem.Spec PyProof.Rows L2 Nq
/-! A call by its number. -/
/-- a call that is asked, as the document has it -/
inductive IsCall : List (List Int) → Sf79.Call → Prop where
  | c1  : IsCall [[1]] (.open_)
  | c2 (i : Int) : IsCall [[2, i]] (.column i)
  | c3 (v : Nat) : IsCall [[3, ((v : Nat) : Int)]] (.value v)
  | c4 (i : Int) : IsCall [[4, i]] (.given i)
  | c5 (o : Int) (ps : List Int) : IsCall [[5, o], ps] (.operation o ps)
  | c6 (t : Int) (p : Int) : IsCall [[6, t, p]] (.cast t p)
  | c7 (ps : List Int) : IsCall [[7], ps] (.choice ps)
  | c8  : IsCall [[8]] (.steps)
  | c9 (s : Int) : IsCall [[9, s]] (.step s)
  | c10 (s : Int) : IsCall [[10, s]] (.uses s)
  | c11 (i : Int) (v : Nat) : IsCall [[11, i, ((v : Nat) : Int)]] (.set i v)
  | c12 (n : Int) : IsCall [[12, n]] (.batch n)
  | c13 (s : Int) (k : List Int) : IsCall [[13, s], k] (.run s k)
  | c14 (k : List Int) (ss : List Int) : IsCall [[14], k, ss] (.choose ss k)
  | c15  : IsCall [[15]] (.need)
  | c16 (us : List Nat) : IsCall [[16], us.map fun (n : Nat) => (n : Int)] (.give us)
  | c17  : IsCall [[17]] (.got)
  | c18 (s : Int) (r : Int) : IsCall [[18, s, r]] (.known s r)
  | c19 (s : Int) : IsCall [[19, s]] (.work s)
theorem nat_in {v : Int} {b : Nat} (h : Sf79Neutral.natural v b = true) : ∃ n : Nat, v = (n : Int) := by
  unfold Sf79Neutral.natural at h
  rw [Bool.and_eq_true, decide_eq_true_iff] at h
  exact ⟨v.toNat, by omega⟩
theorem nats_in {b : Nat} : ∀ {vs : List Int}, vs.all (fun (v : Int) => Sf79Neutral.natural v b) = true → ∃ us : List Nat, vs = us.map fun (n : Nat) => (n : Int)
  | [], _ => ⟨[], rfl⟩
  | v :: r, h => by
    rw [List.all_cons, Bool.and_eq_true] at h
    obtain ⟨n, e⟩ := nat_in h.1
    obtain ⟨us, e2⟩ := nats_in h.2
    exact ⟨n :: us, by rw [List.map_cons, ← e, ← e2]⟩
theorem asked_call {c : List (List Int)} (h : Sf79Neutral.asked1 c = true) : ∃ q, IsCall c q := by
  unfold Sf79Neutral.asked1 at h
  split at h
  · exact ⟨_, .c1⟩
  · exact ⟨_, .c2 _⟩
  · obtain ⟨n, rfl⟩ := nat_in h
    exact ⟨_, .c3 n⟩
  · exact ⟨_, .c4 _⟩
  · exact ⟨_, .c5 _ _⟩
  · exact ⟨_, .c6 _ _⟩
  · exact ⟨_, .c7 _⟩
  · exact ⟨_, .c8⟩
  · exact ⟨_, .c9 _⟩
  · exact ⟨_, .c10 _⟩
  · rw [Bool.and_eq_true] at h
    obtain ⟨n, rfl⟩ := nat_in h.2
    exact ⟨_, .c11 _ n⟩
  · exact ⟨_, .c12 _⟩
  · exact ⟨_, .c13 _ _⟩
  · exact ⟨_, .c14 _ _⟩
  · exact ⟨_, .c15⟩
  · obtain ⟨us, rfl⟩ := nats_in h
    exact ⟨_, .c16 us⟩
  · exact ⟨_, .c17⟩
  · exact ⟨_, .c18 _ _⟩
  · exact ⟨_, .c19 _⟩
  · cases h
theorem nats_back (us : List Nat) : (us.map fun (n : Nat) => (n : Int)).map Int.toNat = us := by
  rw [List.map_map]
  exact (List.map_congr_left fun _ _ => rfl).trans (List.map_id us)
theorem call_of {c : List (List Int)} {q : Sf79.Call} (h : IsCall c q) : Sf79Neutral.callOf c = some q := by
  cases h with
  | c1 => rfl
  | c2 i => rfl
  | c3 v => rfl
  | c4 i => rfl
  | c5 o ps => rfl
  | c6 t p => rfl
  | c7 ps => rfl
  | c8 => rfl
  | c9 s => rfl
  | c10 s => rfl
  | c11 i v => rfl
  | c12 n => rfl
  | c13 s k => rfl
  | c14 k ss => rfl
  | c15 => rfl
  | c16 us =>
    show some (Sf79.Call.give ((us.map fun (n : Nat) => (n : Int)).map Int.toNat)) = _
    rw [nats_back]
  | c17 => rfl
  | c18 s r => rfl
  | c19 s => rfl
/-- the rows of a call, where they stand -/
def RowsAt (H : Hp) (D : DD) (ras : List Addr) (rs : List (List Int)) : Prop := ∀ (i : Nat) (zs : List Int), rs[i]? = some zs → ∃ a, ras[i]? = some a ∧ H a = some (.lst (zs.map V.int)) ∧ a ∉ D.lists ∧ zs.length ≤ 2000
def spOne (P : Program) (w : World) (A : Adr) (vs : List V) (H : Hp) (Q : VK) (C : Int → Prop) : Prop := ∃ (D : DD) (x : S) (kn : Lw.Kn) (c : List (List Int)) (q : Sf79.Call) (na ra : Addr) (ras : List Addr), vs = [.ref D.d, .int ((c.headD []).headD 0), .ref na, .ref ra] ∧ DA P w A H D x kn ∧ IsCall c q ∧ C ((c.headD []).headD 0) ∧
  H na = some (.lst (((c.headD []).drop 1).map V.int)) ∧ H ra = some (.lst (ras.map V.ref)) ∧ RowsAt H D ras (c.drop 1) ∧ Waits P w A H D (Sf79.does x q) Q
def sp_making (P : Program) (w : World) (K : PySem.W.Frag) (A : Adr) : Sp := fun vs H Q _ => spOne P w A vs H Q fun p => p < 11
def sp_working (P : Program) (w : World) (K : PySem.W.Frag) (A : Adr) : Sp := fun vs H Q _ => spOne P w A vs H Q fun p => 11 ≤ p
section
variable {P : Program} {w : World} {K : PySem.W.Frag} {mg : Str → Option Value} {base : Heap} {A : Adr}
theorem at_row {ras : List Addr} {i : Nat} {a : Addr} (h : ras[i]? = some a) : atI (ras.map V.ref) (i : Int) = some (.ref a) := atI_nat (by rw [List.getElem?_map, h]; rfl)
abbrev s_making : Stmt := top 54
abbrev N_making : List Str := ["desk", "call", "numbers", "rows"]
theorem sc_making : FnScope ["desk", "call", "numbers", "rows"] ["desk", "call", "numbers", "rows"] (defScope s_making) := ⟨rfl, rfl, rfl, by decide +kernel, rfl, by decide +kernel, by decide +kernel⟩
theorem ok_making {f : Addr} {fd : FuncData} (F : Fun K "making" "making" s_making f fd) (T : Txt K mg A) (F_Desk_uses : MtG P w K mg base A.D "uses" 2 ["self", "number"] (sp_Desk_uses P w K A)) (F_Desk_step : MtG P w K mg base A.D "step" 2 ["self", "number"] (sp_Desk_step P w K A)) (F_Desk_choice : MtG P w K mg base A.D "choice" 4 ["self", "parts"] (sp_Desk_choice P w K A)) (F_Desk_cast : MtG P w K mg base A.D "cast" 4 ["self", "number", "part"] (sp_Desk_cast P w K A)) (F_Desk_operation : MtG P w K mg base A.D "operation" 4 ["self", "number", "parts"] (sp_Desk_operation P w K A)) (F_Desk_given_value : MtG P w K mg base A.D "given_value" 4 ["self", "number"] (sp_Desk_given_value P w K A)) (F_Desk_value : MtG P w K mg base A.D "value" 4 ["self", "number"] (sp_Desk_value P w K A)) (F_Desk_column : MtG P w K mg base A.D "column" 4 ["self", "number"] (sp_Desk_column P w K A)) (F_Desk_fresh : MtG P w K mg base A.D "fresh" 3 ["self"] (sp_Desk_fresh P w K A)) : FnOk P w K mg base CX0 5 f fd ["desk", "call", "numbers", "rows"] (sp_making P w K A) := by
  refine F.ok sc_making (fun vs H Q E h => ?_) (fun cdv B outer s H vs Q E hr h => ?_)
  · obtain ⟨D, x, kn, c, q, na, ra, ras, rfl, _⟩ := h
    rfl
  obtain ⟨D, x, kn, c, q0, na, ra, ras, rfl, hD, hc, hp, hna, hra, hrs, q⟩ := h
  refine ⟨_, (pss_cons (ps_if (pt_cmpR op_eq (pv 1) pe_int (nomark _)) (pss_one (ps_ret (pe_mt0 F_Desk_fresh (hr.mono (by decide)) (pv 0)))) pss_nil) (pss_cons (ps_if (pt_cmpR op_eq (pv 1) pe_int (nomark _)) (pss_one (ps_ret (pe_mt F_Desk_column (hr.mono (by decide)) (pv 0) (pa_cons (pe_ix ix_list (pv 2) pe_int (fun _ _ => rfl)) pa_nil)))) pss_nil) (pss_cons (ps_if (pt_cmpR op_eq (pv 1) pe_int (nomark _)) (pss_one (ps_ret (pe_mt F_Desk_value (hr.mono (by decide)) (pv 0) (pa_cons (pe_ix ix_list (pv 2) pe_int (fun _ _ => rfl)) pa_nil)))) pss_nil) (pss_cons (ps_if (pt_cmpR op_eq (pv 1) pe_int (nomark _)) (pss_one (ps_ret (pe_mt F_Desk_given_value (hr.mono (by decide)) (pv 0) (pa_cons (pe_ix ix_list (pv 2) pe_int (fun _ _ => rfl)) pa_nil)))) pss_nil) (pss_cons (ps_if (pt_cmpR op_eq (pv 1) pe_int (nomark _)) (pss_one (ps_ret (pe_mt F_Desk_operation (hr.mono (by decide)) (pv 0) (pa_cons (pe_ix ix_list (pv 2) pe_int (fun _ _ => rfl)) (pa_cons (pe_ix ix_list (pv 3) pe_int (fun _ _ => rfl)) pa_nil))))) pss_nil) (pss_cons (ps_if (pt_cmpR op_eq (pv 1) pe_int (nomark _)) (pss_one (ps_ret (pe_mt F_Desk_cast (hr.mono (by decide)) (pv 0) (pa_cons (pe_ix ix_list (pv 2) pe_int (fun _ _ => rfl)) (pa_cons (pe_ix ix_list (pv 2) pe_int (fun _ _ => rfl)) pa_nil))))) pss_nil) (pss_cons (ps_if (pt_cmpR op_eq (pv 1) pe_int (nomark _)) (pss_one (ps_ret (pe_mt F_Desk_choice (hr.mono (by decide)) (pv 0) (pa_cons (pe_ix ix_list (pv 3) pe_int (fun _ _ => rfl)) pa_nil)))) pss_nil) (pss_cons (ps_if (pt_cmpR op_eq (pv 1) pe_int (nomark _)) (pss_one (ps_ret (pe_lst (pa_cons (pe_callB call_len_seq rfl T.b_len PySem.boot_len (pa_cons (pe_fld (pe_fld (pv 0) rfl) rfl) pa_nil)) pa_nil)))) pss_nil) (pss_cons (ps_if (pt_cmpR op_eq (pv 1) pe_int (nomark _)) (pss_one (ps_ret (pe_mt F_Desk_step (hr.mono (by decide)) (pv 0) (pa_cons (pe_ix ix_list (pv 2) pe_int (fun _ _ => rfl)) pa_nil)))) pss_nil) (pss_one (ps_ret (pe_mt F_Desk_uses (hr.mono (by decide)) (pv 0) (pa_cons (pe_ix ix_list (pv 2) pe_int (fun _ _ => rfl)) pa_nil))))))))))))), ?_⟩
  cases hc with
  | c1 =>
    refine s_if1 (tst_eq (ev_var rfl) ev_c rfl) (fun _ => ?_) fun z => absurd rfl z
    exact e_meth (ev_var rfl) hD.ob fD_m_fresh eva_nil ⟨D, x, kn, rfl, hD, trivial, q⟩
  | c2 i =>
    refine s_if1 (tst_eq (ev_var rfl) ev_c rfl) (fun z => absurd (V.int.inj z) (show ¬ ((2 : Int) = 1) by decide)) fun _ => ?_
    refine s_if1 (tst_eq (ev_var rfl) ev_c rfl) (fun _ => ?_) fun z => absurd rfl z
    exact e_meth (ev_var rfl) hD.ob fD_m_column (eva_cons (ev_ixL (ev_var rfl) ev_c (SqL.of hna) (atI_nat (j := 0) rfl)) eva_nil) ⟨i, D, x, kn, rfl, hD, trivial, q⟩
  | c3 v =>
    refine s_if1 (tst_eq (ev_var rfl) ev_c rfl) (fun z => absurd (V.int.inj z) (show ¬ ((3 : Int) = 1) by decide)) fun _ => ?_
    refine s_if1 (tst_eq (ev_var rfl) ev_c rfl) (fun z => absurd (V.int.inj z) (show ¬ ((3 : Int) = 2) by decide)) fun _ => ?_
    refine s_if1 (tst_eq (ev_var rfl) ev_c rfl) (fun _ => ?_) fun z => absurd rfl z
    exact e_meth (ev_var rfl) hD.ob fD_m_value (eva_cons (ev_ixL (ev_var rfl) ev_c (SqL.of hna) (atI_nat (j := 0) rfl)) eva_nil) ⟨v, D, x, kn, rfl, hD, trivial, q⟩
  | c4 i =>
    refine s_if1 (tst_eq (ev_var rfl) ev_c rfl) (fun z => absurd (V.int.inj z) (show ¬ ((4 : Int) = 1) by decide)) fun _ => ?_
    refine s_if1 (tst_eq (ev_var rfl) ev_c rfl) (fun z => absurd (V.int.inj z) (show ¬ ((4 : Int) = 2) by decide)) fun _ => ?_
    refine s_if1 (tst_eq (ev_var rfl) ev_c rfl) (fun z => absurd (V.int.inj z) (show ¬ ((4 : Int) = 3) by decide)) fun _ => ?_
    refine s_if1 (tst_eq (ev_var rfl) ev_c rfl) (fun _ => ?_) fun z => absurd rfl z
    exact e_meth (ev_var rfl) hD.ob fD_m_given_value (eva_cons (ev_ixL (ev_var rfl) ev_c (SqL.of hna) (atI_nat (j := 0) rfl)) eva_nil) ⟨i, D, x, kn, rfl, hD, trivial, q⟩
  | c5 o ps =>
    refine s_if1 (tst_eq (ev_var rfl) ev_c rfl) (fun z => absurd (V.int.inj z) (show ¬ ((5 : Int) = 1) by decide)) fun _ => ?_
    refine s_if1 (tst_eq (ev_var rfl) ev_c rfl) (fun z => absurd (V.int.inj z) (show ¬ ((5 : Int) = 2) by decide)) fun _ => ?_
    refine s_if1 (tst_eq (ev_var rfl) ev_c rfl) (fun z => absurd (V.int.inj z) (show ¬ ((5 : Int) = 3) by decide)) fun _ => ?_
    refine s_if1 (tst_eq (ev_var rfl) ev_c rfl) (fun z => absurd (V.int.inj z) (show ¬ ((5 : Int) = 4) by decide)) fun _ => ?_
    obtain ⟨a0, e0, h0, m0, l0⟩ := hrs 0 _ rfl
    refine s_if1 (tst_eq (ev_var rfl) ev_c rfl) (fun _ => ?_) fun z => absurd rfl z
    exact e_meth (ev_var rfl) hD.ob fD_m_operation (eva_cons (ev_ixL (ev_var rfl) ev_c (SqL.of hna) (atI_nat (j := 0) rfl)) (eva_cons (ev_ixL (ev_var rfl) ev_c (SqL.of hra) (at_row (i := 0) e0)) eva_nil)) ⟨o, a0, ps, D, x, kn, rfl, hD, ⟨h0, m0, l0⟩, q⟩
  | c6 t p =>
    refine s_if1 (tst_eq (ev_var rfl) ev_c rfl) (fun z => absurd (V.int.inj z) (show ¬ ((6 : Int) = 1) by decide)) fun _ => ?_
    refine s_if1 (tst_eq (ev_var rfl) ev_c rfl) (fun z => absurd (V.int.inj z) (show ¬ ((6 : Int) = 2) by decide)) fun _ => ?_
    refine s_if1 (tst_eq (ev_var rfl) ev_c rfl) (fun z => absurd (V.int.inj z) (show ¬ ((6 : Int) = 3) by decide)) fun _ => ?_
    refine s_if1 (tst_eq (ev_var rfl) ev_c rfl) (fun z => absurd (V.int.inj z) (show ¬ ((6 : Int) = 4) by decide)) fun _ => ?_
    refine s_if1 (tst_eq (ev_var rfl) ev_c rfl) (fun z => absurd (V.int.inj z) (show ¬ ((6 : Int) = 5) by decide)) fun _ => ?_
    refine s_if1 (tst_eq (ev_var rfl) ev_c rfl) (fun _ => ?_) fun z => absurd rfl z
    exact e_meth (ev_var rfl) hD.ob fD_m_cast (eva_cons (ev_ixL (ev_var rfl) ev_c (SqL.of hna) (atI_nat (j := 0) rfl)) (eva_cons (ev_ixL (ev_var rfl) ev_c (SqL.of hna) (atI_nat (j := 1) rfl)) eva_nil)) ⟨t, p, D, x, kn, rfl, hD, trivial, q⟩
  | c7 ps =>
    refine s_if1 (tst_eq (ev_var rfl) ev_c rfl) (fun z => absurd (V.int.inj z) (show ¬ ((7 : Int) = 1) by decide)) fun _ => ?_
    refine s_if1 (tst_eq (ev_var rfl) ev_c rfl) (fun z => absurd (V.int.inj z) (show ¬ ((7 : Int) = 2) by decide)) fun _ => ?_
    refine s_if1 (tst_eq (ev_var rfl) ev_c rfl) (fun z => absurd (V.int.inj z) (show ¬ ((7 : Int) = 3) by decide)) fun _ => ?_
    refine s_if1 (tst_eq (ev_var rfl) ev_c rfl) (fun z => absurd (V.int.inj z) (show ¬ ((7 : Int) = 4) by decide)) fun _ => ?_
    refine s_if1 (tst_eq (ev_var rfl) ev_c rfl) (fun z => absurd (V.int.inj z) (show ¬ ((7 : Int) = 5) by decide)) fun _ => ?_
    refine s_if1 (tst_eq (ev_var rfl) ev_c rfl) (fun z => absurd (V.int.inj z) (show ¬ ((7 : Int) = 6) by decide)) fun _ => ?_
    obtain ⟨a0, e0, h0, m0, l0⟩ := hrs 0 _ rfl
    refine s_if1 (tst_eq (ev_var rfl) ev_c rfl) (fun _ => ?_) fun z => absurd rfl z
    exact e_meth (ev_var rfl) hD.ob fD_m_choice (eva_cons (ev_ixL (ev_var rfl) ev_c (SqL.of hra) (at_row (i := 0) e0)) eva_nil) ⟨a0, ps, D, x, kn, rfl, hD, ⟨h0, m0, l0⟩, q⟩
  | c8 =>
    refine s_if1 (tst_eq (ev_var rfl) ev_c rfl) (fun z => absurd (V.int.inj z) (show ¬ ((8 : Int) = 1) by decide)) fun _ => ?_
    refine s_if1 (tst_eq (ev_var rfl) ev_c rfl) (fun z => absurd (V.int.inj z) (show ¬ ((8 : Int) = 2) by decide)) fun _ => ?_
    refine s_if1 (tst_eq (ev_var rfl) ev_c rfl) (fun z => absurd (V.int.inj z) (show ¬ ((8 : Int) = 3) by decide)) fun _ => ?_
    refine s_if1 (tst_eq (ev_var rfl) ev_c rfl) (fun z => absurd (V.int.inj z) (show ¬ ((8 : Int) = 4) by decide)) fun _ => ?_
    refine s_if1 (tst_eq (ev_var rfl) ev_c rfl) (fun z => absurd (V.int.inj z) (show ¬ ((8 : Int) = 5) by decide)) fun _ => ?_
    refine s_if1 (tst_eq (ev_var rfl) ev_c rfl) (fun z => absurd (V.int.inj z) (show ¬ ((8 : Int) = 6) by decide)) fun _ => ?_
    refine s_if1 (tst_eq (ev_var rfl) ev_c rfl) (fun z => absurd (V.int.inj z) (show ¬ ((8 : Int) = 7) by decide)) fun _ => ?_
    refine s_if1 (tst_eq (ev_var rfl) ev_c rfl) (fun _ => ?_) fun z => absurd rfl z
    exact say q hD (Keep.refl _) (ev_is (ev_len (ev_fld (ev_lanes T hD (ev_var rfl)) hD.ls.ob T.cL (T.nL _ (by simp)) fL_steps) (SqL.of hD.ls.sa)) (by rw [List.length_map, hD.ls.ls]))
  | c9 s =>
    refine s_if1 (tst_eq (ev_var rfl) ev_c rfl) (fun z => absurd (V.int.inj z) (show ¬ ((9 : Int) = 1) by decide)) fun _ => ?_
    refine s_if1 (tst_eq (ev_var rfl) ev_c rfl) (fun z => absurd (V.int.inj z) (show ¬ ((9 : Int) = 2) by decide)) fun _ => ?_
    refine s_if1 (tst_eq (ev_var rfl) ev_c rfl) (fun z => absurd (V.int.inj z) (show ¬ ((9 : Int) = 3) by decide)) fun _ => ?_
    refine s_if1 (tst_eq (ev_var rfl) ev_c rfl) (fun z => absurd (V.int.inj z) (show ¬ ((9 : Int) = 4) by decide)) fun _ => ?_
    refine s_if1 (tst_eq (ev_var rfl) ev_c rfl) (fun z => absurd (V.int.inj z) (show ¬ ((9 : Int) = 5) by decide)) fun _ => ?_
    refine s_if1 (tst_eq (ev_var rfl) ev_c rfl) (fun z => absurd (V.int.inj z) (show ¬ ((9 : Int) = 6) by decide)) fun _ => ?_
    refine s_if1 (tst_eq (ev_var rfl) ev_c rfl) (fun z => absurd (V.int.inj z) (show ¬ ((9 : Int) = 7) by decide)) fun _ => ?_
    refine s_if1 (tst_eq (ev_var rfl) ev_c rfl) (fun z => absurd (V.int.inj z) (show ¬ ((9 : Int) = 8) by decide)) fun _ => ?_
    refine s_if1 (tst_eq (ev_var rfl) ev_c rfl) (fun _ => ?_) fun z => absurd rfl z
    exact e_meth (ev_var rfl) hD.ob fD_m_step (eva_cons (ev_ixL (ev_var rfl) ev_c (SqL.of hna) (atI_nat (j := 0) rfl)) eva_nil) ⟨s, D, x, kn, rfl, hD, trivial, q⟩
  | c10 s =>
    refine s_if1 (tst_eq (ev_var rfl) ev_c rfl) (fun z => absurd (V.int.inj z) (show ¬ ((10 : Int) = 1) by decide)) fun _ => ?_
    refine s_if1 (tst_eq (ev_var rfl) ev_c rfl) (fun z => absurd (V.int.inj z) (show ¬ ((10 : Int) = 2) by decide)) fun _ => ?_
    refine s_if1 (tst_eq (ev_var rfl) ev_c rfl) (fun z => absurd (V.int.inj z) (show ¬ ((10 : Int) = 3) by decide)) fun _ => ?_
    refine s_if1 (tst_eq (ev_var rfl) ev_c rfl) (fun z => absurd (V.int.inj z) (show ¬ ((10 : Int) = 4) by decide)) fun _ => ?_
    refine s_if1 (tst_eq (ev_var rfl) ev_c rfl) (fun z => absurd (V.int.inj z) (show ¬ ((10 : Int) = 5) by decide)) fun _ => ?_
    refine s_if1 (tst_eq (ev_var rfl) ev_c rfl) (fun z => absurd (V.int.inj z) (show ¬ ((10 : Int) = 6) by decide)) fun _ => ?_
    refine s_if1 (tst_eq (ev_var rfl) ev_c rfl) (fun z => absurd (V.int.inj z) (show ¬ ((10 : Int) = 7) by decide)) fun _ => ?_
    refine s_if1 (tst_eq (ev_var rfl) ev_c rfl) (fun z => absurd (V.int.inj z) (show ¬ ((10 : Int) = 8) by decide)) fun _ => ?_
    refine s_if1 (tst_eq (ev_var rfl) ev_c rfl) (fun z => absurd (V.int.inj z) (show ¬ ((10 : Int) = 9) by decide)) fun _ => ?_
    exact e_meth (ev_var rfl) hD.ob fD_m_uses (eva_cons (ev_ixL (ev_var rfl) ev_c (SqL.of hna) (atI_nat (j := 0) rfl)) eva_nil) ⟨s, D, x, kn, rfl, hD, trivial, q⟩
  | c11 => exact absurd hp (show ¬ ((11 : Int) < 11) by decide)
  | c12 => exact absurd hp (show ¬ ((12 : Int) < 11) by decide)
  | c13 => exact absurd hp (show ¬ ((13 : Int) < 11) by decide)
  | c14 => exact absurd hp (show ¬ ((14 : Int) < 11) by decide)
  | c15 => exact absurd hp (show ¬ ((15 : Int) < 11) by decide)
  | c16 => exact absurd hp (show ¬ ((16 : Int) < 11) by decide)
  | c17 => exact absurd hp (show ¬ ((17 : Int) < 11) by decide)
  | c18 => exact absurd hp (show ¬ ((18 : Int) < 11) by decide)
  | c19 => exact absurd hp (show ¬ ((19 : Int) < 11) by decide)
abbrev s_working : Stmt := top 55
abbrev N_working : List Str := ["desk", "call", "numbers", "rows"]
theorem sc_working : FnScope ["desk", "call", "numbers", "rows"] ["desk", "call", "numbers", "rows"] (defScope s_working) := ⟨rfl, rfl, rfl, by decide +kernel, rfl, by decide +kernel, by decide +kernel⟩
theorem ok_working {f : Addr} {fd : FuncData} (F : Fun K "working" "working" s_working f fd) (T : Txt K mg A) (F_Desk_work : MtG P w K mg base A.D "work" 2 ["self", "number"] (sp_Desk_work P w K A)) (F_Desk_known_of : MtG P w K mg base A.D "known_of" 6 ["self", "number", "row"] (sp_Desk_known_of P w K A)) (F_Desk_got : MtG P w K mg base A.D "got" 10 ["self"] (sp_Desk_got P w K A)) (F_Desk_give : MtG P w K mg base A.D "give" 10 ["self", "values"] (sp_Desk_give P w K A)) (F_Desk_need : MtG P w K mg base A.D "need" 10 ["self"] (sp_Desk_need P w K A)) (F_Desk_choose : MtG P w K mg base A.D "choose" 3 ["self", "rows", "steps"] (sp_Desk_choose P w K A)) (F_Desk_run : MtG P w K mg base A.D "run" 3 ["self", "number", "rows"] (sp_Desk_run P w K A)) (F_Desk_batch : MtG P w K mg base A.D "batch" 3 ["self", "many"] (sp_Desk_batch P w K A)) (F_Desk_give_value : MtG P w K mg base A.D "give_value" 2 ["self", "number", "value"] (sp_Desk_give_value P w K A)) : FnOk P w K mg base CX0 11 f fd ["desk", "call", "numbers", "rows"] (sp_working P w K A) := by
  refine F.ok sc_working (fun vs H Q E h => ?_) (fun cdv B outer s H vs Q E hr h => ?_)
  · obtain ⟨D, x, kn, c, q, na, ra, ras, rfl, _⟩ := h
    rfl
  obtain ⟨D, x, kn, c, q0, na, ra, ras, rfl, hD, hc, hp, hna, hra, hrs, q⟩ := h
  refine ⟨_, (pss_cons (ps_if (pt_cmpR op_eq (pv 1) pe_int (nomark _)) (pss_one (ps_ret (pe_mt F_Desk_give_value (hr.mono (by decide)) (pv 0) (pa_cons (pe_ix ix_list (pv 2) pe_int (fun _ _ => rfl)) (pa_cons (pe_ix ix_list (pv 2) pe_int (fun _ _ => rfl)) pa_nil))))) pss_nil) (pss_cons (ps_if (pt_cmpR op_eq (pv 1) pe_int (nomark _)) (pss_one (ps_ret (pe_mt F_Desk_batch (hr.mono (by decide)) (pv 0) (pa_cons (pe_ix ix_list (pv 2) pe_int (fun _ _ => rfl)) pa_nil)))) pss_nil) (pss_cons (ps_if (pt_cmpR op_eq (pv 1) pe_int (nomark _)) (pss_one (ps_ret (pe_mt F_Desk_run (hr.mono (by decide)) (pv 0) (pa_cons (pe_ix ix_list (pv 2) pe_int (fun _ _ => rfl)) (pa_cons (pe_ix ix_list (pv 3) pe_int (fun _ _ => rfl)) pa_nil))))) pss_nil) (pss_cons (ps_if (pt_cmpR op_eq (pv 1) pe_int (nomark _)) (pss_one (ps_ret (pe_mt F_Desk_choose (hr.mono (by decide)) (pv 0) (pa_cons (pe_ix ix_list (pv 3) pe_int (fun _ _ => rfl)) (pa_cons (pe_ix ix_list (pv 3) pe_int (fun _ _ => rfl)) pa_nil))))) pss_nil) (pss_cons (ps_if (pt_cmpR op_eq (pv 1) pe_int (nomark _)) (pss_one (ps_ret (pe_mt0 F_Desk_need (hr.mono (by decide)) (pv 0)))) pss_nil) (pss_cons (ps_if (pt_cmpR op_eq (pv 1) pe_int (nomark _)) (pss_one (ps_ret (pe_mt F_Desk_give (hr.mono (by decide)) (pv 0) (pa_cons (pe_ix ix_list (pv 3) pe_int (fun _ _ => rfl)) pa_nil)))) pss_nil) (pss_cons (ps_if (pt_cmpR op_eq (pv 1) pe_int (nomark _)) (pss_one (ps_ret (pe_mt0 F_Desk_got (hr.mono (by decide)) (pv 0)))) pss_nil) (pss_cons (ps_if (pt_cmpR op_eq (pv 1) pe_int (nomark _)) (pss_one (ps_ret (pe_mt F_Desk_known_of (hr.mono (by decide)) (pv 0) (pa_cons (pe_ix ix_list (pv 2) pe_int (fun _ _ => rfl)) (pa_cons (pe_ix ix_list (pv 2) pe_int (fun _ _ => rfl)) pa_nil))))) pss_nil) (pss_one (ps_ret (pe_mt F_Desk_work (hr.mono (by decide)) (pv 0) (pa_cons (pe_ix ix_list (pv 2) pe_int (fun _ _ => rfl)) pa_nil)))))))))))), ?_⟩
  cases hc with
  | c1 => exact absurd hp (show ¬ (11 ≤ (1 : Int)) by decide)
  | c2 => exact absurd hp (show ¬ (11 ≤ (2 : Int)) by decide)
  | c3 => exact absurd hp (show ¬ (11 ≤ (3 : Int)) by decide)
  | c4 => exact absurd hp (show ¬ (11 ≤ (4 : Int)) by decide)
  | c5 => exact absurd hp (show ¬ (11 ≤ (5 : Int)) by decide)
  | c6 => exact absurd hp (show ¬ (11 ≤ (6 : Int)) by decide)
  | c7 => exact absurd hp (show ¬ (11 ≤ (7 : Int)) by decide)
  | c8 => exact absurd hp (show ¬ (11 ≤ (8 : Int)) by decide)
  | c9 => exact absurd hp (show ¬ (11 ≤ (9 : Int)) by decide)
  | c10 => exact absurd hp (show ¬ (11 ≤ (10 : Int)) by decide)
  | c11 i v =>
    refine s_if1 (tst_eq (ev_var rfl) ev_c rfl) (fun _ => ?_) fun z => absurd rfl z
    exact e_meth (ev_var rfl) hD.ob fD_m_give_value (eva_cons (ev_ixL (ev_var rfl) ev_c (SqL.of hna) (atI_nat (j := 0) rfl)) (eva_cons (ev_ixL (ev_var rfl) ev_c (SqL.of hna) (atI_nat (j := 1) rfl)) eva_nil)) ⟨i, v, D, x, kn, rfl, hD, trivial, q⟩
  | c12 n =>
    refine s_if1 (tst_eq (ev_var rfl) ev_c rfl) (fun z => absurd (V.int.inj z) (show ¬ ((12 : Int) = 11) by decide)) fun _ => ?_
    refine s_if1 (tst_eq (ev_var rfl) ev_c rfl) (fun _ => ?_) fun z => absurd rfl z
    exact e_meth (ev_var rfl) hD.ob fD_m_batch (eva_cons (ev_ixL (ev_var rfl) ev_c (SqL.of hna) (atI_nat (j := 0) rfl)) eva_nil) ⟨n, D, x, kn, rfl, hD, trivial, q⟩
  | c13 s k =>
    refine s_if1 (tst_eq (ev_var rfl) ev_c rfl) (fun z => absurd (V.int.inj z) (show ¬ ((13 : Int) = 11) by decide)) fun _ => ?_
    refine s_if1 (tst_eq (ev_var rfl) ev_c rfl) (fun z => absurd (V.int.inj z) (show ¬ ((13 : Int) = 12) by decide)) fun _ => ?_
    obtain ⟨a0, e0, h0, m0, l0⟩ := hrs 0 _ rfl
    refine s_if1 (tst_eq (ev_var rfl) ev_c rfl) (fun _ => ?_) fun z => absurd rfl z
    exact e_meth (ev_var rfl) hD.ob fD_m_run (eva_cons (ev_ixL (ev_var rfl) ev_c (SqL.of hna) (atI_nat (j := 0) rfl)) (eva_cons (ev_ixL (ev_var rfl) ev_c (SqL.of hra) (at_row (i := 0) e0)) eva_nil)) ⟨s, a0, k, D, x, kn, rfl, hD, ⟨h0, l0⟩, q⟩
  | c14 k ss =>
    refine s_if1 (tst_eq (ev_var rfl) ev_c rfl) (fun z => absurd (V.int.inj z) (show ¬ ((14 : Int) = 11) by decide)) fun _ => ?_
    refine s_if1 (tst_eq (ev_var rfl) ev_c rfl) (fun z => absurd (V.int.inj z) (show ¬ ((14 : Int) = 12) by decide)) fun _ => ?_
    refine s_if1 (tst_eq (ev_var rfl) ev_c rfl) (fun z => absurd (V.int.inj z) (show ¬ ((14 : Int) = 13) by decide)) fun _ => ?_
    obtain ⟨a0, e0, h0, m0, l0⟩ := hrs 0 _ rfl
    obtain ⟨a1, e1, h1, m1, l1⟩ := hrs 1 _ rfl
    refine s_if1 (tst_eq (ev_var rfl) ev_c rfl) (fun _ => ?_) fun z => absurd rfl z
    exact e_meth (ev_var rfl) hD.ob fD_m_choose (eva_cons (ev_ixL (ev_var rfl) ev_c (SqL.of hra) (at_row (i := 0) e0)) (eva_cons (ev_ixL (ev_var rfl) ev_c (SqL.of hra) (at_row (i := 1) e1)) eva_nil)) ⟨a0, a1, k, ss, D, x, kn, rfl, hD, ⟨h0, l0, h1, l1⟩, q⟩
  | c15 =>
    refine s_if1 (tst_eq (ev_var rfl) ev_c rfl) (fun z => absurd (V.int.inj z) (show ¬ ((15 : Int) = 11) by decide)) fun _ => ?_
    refine s_if1 (tst_eq (ev_var rfl) ev_c rfl) (fun z => absurd (V.int.inj z) (show ¬ ((15 : Int) = 12) by decide)) fun _ => ?_
    refine s_if1 (tst_eq (ev_var rfl) ev_c rfl) (fun z => absurd (V.int.inj z) (show ¬ ((15 : Int) = 13) by decide)) fun _ => ?_
    refine s_if1 (tst_eq (ev_var rfl) ev_c rfl) (fun z => absurd (V.int.inj z) (show ¬ ((15 : Int) = 14) by decide)) fun _ => ?_
    refine s_if1 (tst_eq (ev_var rfl) ev_c rfl) (fun _ => ?_) fun z => absurd rfl z
    exact e_meth (ev_var rfl) hD.ob fD_m_need eva_nil ⟨D, x, kn, rfl, hD, trivial, q⟩
  | c16 us =>
    refine s_if1 (tst_eq (ev_var rfl) ev_c rfl) (fun z => absurd (V.int.inj z) (show ¬ ((16 : Int) = 11) by decide)) fun _ => ?_
    refine s_if1 (tst_eq (ev_var rfl) ev_c rfl) (fun z => absurd (V.int.inj z) (show ¬ ((16 : Int) = 12) by decide)) fun _ => ?_
    refine s_if1 (tst_eq (ev_var rfl) ev_c rfl) (fun z => absurd (V.int.inj z) (show ¬ ((16 : Int) = 13) by decide)) fun _ => ?_
    refine s_if1 (tst_eq (ev_var rfl) ev_c rfl) (fun z => absurd (V.int.inj z) (show ¬ ((16 : Int) = 14) by decide)) fun _ => ?_
    refine s_if1 (tst_eq (ev_var rfl) ev_c rfl) (fun z => absurd (V.int.inj z) (show ¬ ((16 : Int) = 15) by decide)) fun _ => ?_
    obtain ⟨a0, e0, h0, m0, l0⟩ := hrs 0 _ rfl
    refine s_if1 (tst_eq (ev_var rfl) ev_c rfl) (fun _ => ?_) fun z => absurd rfl z
    exact e_meth (ev_var rfl) hD.ob fD_m_give (eva_cons (ev_ixL (ev_var rfl) ev_c (SqL.of hra) (at_row (i := 0) e0)) eva_nil) ⟨a0, us, D, x, kn, rfl, hD, ⟨(by rw [nv_ints]; exact h0), (by rw [List.length_map] at l0; exact l0)⟩, q⟩
  | c17 =>
    refine s_if1 (tst_eq (ev_var rfl) ev_c rfl) (fun z => absurd (V.int.inj z) (show ¬ ((17 : Int) = 11) by decide)) fun _ => ?_
    refine s_if1 (tst_eq (ev_var rfl) ev_c rfl) (fun z => absurd (V.int.inj z) (show ¬ ((17 : Int) = 12) by decide)) fun _ => ?_
    refine s_if1 (tst_eq (ev_var rfl) ev_c rfl) (fun z => absurd (V.int.inj z) (show ¬ ((17 : Int) = 13) by decide)) fun _ => ?_
    refine s_if1 (tst_eq (ev_var rfl) ev_c rfl) (fun z => absurd (V.int.inj z) (show ¬ ((17 : Int) = 14) by decide)) fun _ => ?_
    refine s_if1 (tst_eq (ev_var rfl) ev_c rfl) (fun z => absurd (V.int.inj z) (show ¬ ((17 : Int) = 15) by decide)) fun _ => ?_
    refine s_if1 (tst_eq (ev_var rfl) ev_c rfl) (fun z => absurd (V.int.inj z) (show ¬ ((17 : Int) = 16) by decide)) fun _ => ?_
    refine s_if1 (tst_eq (ev_var rfl) ev_c rfl) (fun _ => ?_) fun z => absurd rfl z
    exact e_meth (ev_var rfl) hD.ob fD_m_got eva_nil ⟨D, x, kn, rfl, hD, trivial, q⟩
  | c18 s r =>
    refine s_if1 (tst_eq (ev_var rfl) ev_c rfl) (fun z => absurd (V.int.inj z) (show ¬ ((18 : Int) = 11) by decide)) fun _ => ?_
    refine s_if1 (tst_eq (ev_var rfl) ev_c rfl) (fun z => absurd (V.int.inj z) (show ¬ ((18 : Int) = 12) by decide)) fun _ => ?_
    refine s_if1 (tst_eq (ev_var rfl) ev_c rfl) (fun z => absurd (V.int.inj z) (show ¬ ((18 : Int) = 13) by decide)) fun _ => ?_
    refine s_if1 (tst_eq (ev_var rfl) ev_c rfl) (fun z => absurd (V.int.inj z) (show ¬ ((18 : Int) = 14) by decide)) fun _ => ?_
    refine s_if1 (tst_eq (ev_var rfl) ev_c rfl) (fun z => absurd (V.int.inj z) (show ¬ ((18 : Int) = 15) by decide)) fun _ => ?_
    refine s_if1 (tst_eq (ev_var rfl) ev_c rfl) (fun z => absurd (V.int.inj z) (show ¬ ((18 : Int) = 16) by decide)) fun _ => ?_
    refine s_if1 (tst_eq (ev_var rfl) ev_c rfl) (fun z => absurd (V.int.inj z) (show ¬ ((18 : Int) = 17) by decide)) fun _ => ?_
    refine s_if1 (tst_eq (ev_var rfl) ev_c rfl) (fun _ => ?_) fun z => absurd rfl z
    exact e_meth (ev_var rfl) hD.ob fD_m_known_of (eva_cons (ev_ixL (ev_var rfl) ev_c (SqL.of hna) (atI_nat (j := 0) rfl)) (eva_cons (ev_ixL (ev_var rfl) ev_c (SqL.of hna) (atI_nat (j := 1) rfl)) eva_nil)) ⟨s, r, D, x, kn, rfl, hD, trivial, q⟩
  | c19 s =>
    refine s_if1 (tst_eq (ev_var rfl) ev_c rfl) (fun z => absurd (V.int.inj z) (show ¬ ((19 : Int) = 11) by decide)) fun _ => ?_
    refine s_if1 (tst_eq (ev_var rfl) ev_c rfl) (fun z => absurd (V.int.inj z) (show ¬ ((19 : Int) = 12) by decide)) fun _ => ?_
    refine s_if1 (tst_eq (ev_var rfl) ev_c rfl) (fun z => absurd (V.int.inj z) (show ¬ ((19 : Int) = 13) by decide)) fun _ => ?_
    refine s_if1 (tst_eq (ev_var rfl) ev_c rfl) (fun z => absurd (V.int.inj z) (show ¬ ((19 : Int) = 14) by decide)) fun _ => ?_
    refine s_if1 (tst_eq (ev_var rfl) ev_c rfl) (fun z => absurd (V.int.inj z) (show ¬ ((19 : Int) = 15) by decide)) fun _ => ?_
    refine s_if1 (tst_eq (ev_var rfl) ev_c rfl) (fun z => absurd (V.int.inj z) (show ¬ ((19 : Int) = 16) by decide)) fun _ => ?_
    refine s_if1 (tst_eq (ev_var rfl) ev_c rfl) (fun z => absurd (V.int.inj z) (show ¬ ((19 : Int) = 17) by decide)) fun _ => ?_
    refine s_if1 (tst_eq (ev_var rfl) ev_c rfl) (fun z => absurd (V.int.inj z) (show ¬ ((19 : Int) = 18) by decide)) fun _ => ?_
    exact e_meth (ev_var rfl) hD.ob fD_m_work (eva_cons (ev_ixL (ev_var rfl) ev_c (SqL.of hna) (atI_nat (j := 0) rfl)) eva_nil) ⟨s, D, x, kn, rfl, hD, trivial, q⟩
end
end Wk
namespace Wk
open PySem PySem.Spec PyProof.Rows L2 Nq
/-! The rows of a call. -/
section
variable {K : PySem.W.Frag} {σ : L2.St} {H : Hp} {te tl th to : TE} {Q : VK} {a l : Addr} {xs ys : List V} {lo hi : Int} {y : V} {E : Ends}
theorem e_slice (he : Ev te σ H (.ref a)) (hl : Ev tl σ H (.int lo)) (hh : Ev th σ H (.int hi)) (hs : SqL K H a xs) (q : ∀ p, H p = none → Q (.ref p) (upd H p (.lst (cutV xs (some lo) (some hi))))) : tSl (rSlL K) te (tPart tl) (tPart th) σ H Q :=
  he _ (hl _ ⟨lo, rfl, hh _ ⟨hi, rfl, a, xs, rfl, hs, q⟩⟩)
theorem s_appE (ho : Ev to σ H (.ref l)) (hl : SqL K H l xs) (he : te σ H fun y H1 => H1 l = some (.lst ys) ∧ ys.length ≤ 10000000 ∧ E.nx σ (upd H1 l (.lst (ys ++ [y])))) (hm : ∀ R R' : VK, (∀ v H, R v H → R' v H) → te σ H R → te σ H R') : tDrop (tBM K "list" rAppend to (tCons te tNil)) E σ H :=
  ho _ ⟨.inl ⟨rfl, _, hl⟩, hm _ _ (fun y H1 ⟨h1, h2, h3⟩ => ⟨l, ys, y, rfl, rfl, h1, Nat.lt_of_le_of_lt h2 (by decide), h3⟩) he⟩
end
theorem cut_mid (a b c : List Int) {lo hi : Int} (h1 : lo = (a.length : Int)) (h2 : hi = ((a.length + b.length : Nat) : Int)) : cutV ((a ++ (b ++ c)).map V.int) (some lo) (some hi) = b.map V.int := by
  unfold cutV
  rw [h1, h2, HT.sIx_nat, HT.sIx_nat, List.length_map, List.length_append, List.length_append]
  rw [Nat.min_eq_left (by omega), Nat.min_eq_left (by omega), Nat.add_sub_cancel_left, ← List.map_drop, ← List.map_take, List.drop_left, List.take_left]
theorem putRows_app : ∀ (a b : List (List Int)), PyFlat.putRows (a ++ b) = PyFlat.putRows a ++ PyFlat.putRows b
  | [], _ => rfl
  | x :: a, b => by
    show PyFlat.putRow x ++ PyFlat.putRows (a ++ b) = (PyFlat.putRow x ++ PyFlat.putRows a) ++ PyFlat.putRows b
    rw [putRows_app a b, List.append_assoc]
def sp_rows_at (P : Program) (w : World) (K : PySem.W.Frag) (A : Adr) : Sp := fun vs H Q _ => ∃ (ca : Addr) (pre post : List Int) (rs : List (List Int)), vs = [.ref ca, .int (pre.length : Nat), .int (rs.length : Nat)] ∧ SqL K H ca ((pre ++ (PyFlat.putRows rs ++ post)).map V.int) ∧ rs.length ≤ 10 ∧
  ∀ (p ra : Addr) (ras : List Addr) (H' : Hp), Same H H' → H' p = some (.tup [.ref ra, .int ((pre.length + (PyFlat.putRows rs).length : Nat) : Int)]) → H' ra = some (.lst (ras.map V.ref)) →
    (∀ (i : Nat) (zs : List Int), rs[i]? = some zs → ∃ a, ras[i]? = some a ∧ H' a = some (.lst (zs.map V.int)) ∧ H a = none) → Q (.ref p) H'
section
variable {P : Program} {w : World} {K : PySem.W.Frag} {mg : Str → Option Value} {base : Heap} {A : Adr}
abbrev s_rows_at : Stmt := top 56
abbrev N_rows_at : List Str := ["calls", "at", "many", "rows", "turn", "end"]
theorem sc_rows_at : FnScope ["calls", "at", "many", "rows", "turn", "end"] ["calls", "at", "many"] (defScope s_rows_at) := ⟨rfl, rfl, rfl, by decide +kernel, rfl, by decide +kernel, by decide +kernel⟩
theorem ok_rows_at {f : Addr} {fd : FuncData} (F : Fun K "rows_at" "rows_at" s_rows_at f fd) (T : Txt K mg A)  : FnOk P w K mg base CX0 1 f fd ["calls", "at", "many"] (sp_rows_at P w K A) := by
  refine F.ok sc_rows_at (fun vs H Q E h => ?_) (fun cdv B outer s H vs Q E hr h => ?_)
  · obtain ⟨ca, pre, post, rs, rfl, _⟩ := h
    rfl
  obtain ⟨ca, pre, post, rs, rfl, hc, hk, q⟩ := h
  refine ⟨_, (pss_cons (ps_set (i := 3) sc_rows_at.nd rfl (Or.inl rfl) (pe_lst pa_nil)) (pss_cons (ps_for PassesOwn.never rfl (pi_range1 rfl T.b_range (pa_cons (pv 2) pa_nil)) (pg_name (i := 4) sc_rows_at.nd rfl (Or.inl rfl)) (pss_cons (ps_set (i := 5) sc_rows_at.nd rfl (Or.inl rfl) (pe_op op_add (pe_op op_add (pv 1) pe_int) (pe_ix ix_list (pv 0) (pv 1) (fun _ _ => rfl)))) (pss_cons (ps_expr (pe_bm PySem.F.plainAttrs_list PySem.F.slot_list_append PySem.F.type_list_append mt_append (pv 3) (pa_cons (pe_slice sl_list (pv 0) (po_some (pe_op op_add (pv 1) pe_int)) (po_some (pv 5))) pa_nil))) (pss_one (ps_set (i := 1) sc_rows_at.nd rfl (Or.inl rfl) (pv 5)))))) (pss_one (ps_ret (pe_tup (pa_cons (pv 3) (pa_cons (pv 1) pa_nil))))))), ?_⟩
  refine ⟨(by show 0 ≤ sizeLine; decide), fun R hR => ?_⟩
  refine ⟨_, rfl, _, rfl, (by omega), (by omega), ?_⟩
  refine for_it (n := rs.length) walk_range (fun i σ H' => ∃ (ras : List Addr) (tv ev : Option V), σ = [some (.ref ca), some (.int ((pre ++ PyFlat.putRows (rs.take i)).length : Nat)), some (.int (rs.length : Nat)), some (.ref R), tv, ev] ∧ Same H H' ∧ H' R = some (.lst (ras.map V.ref)) ∧ ras.length = i ∧
    (∀ (j : Nat) (zs : List Int), (rs.take i)[j]? = some zs → ∃ a, ras[j]? = some a ∧ H' a = some (.lst (zs.map V.int)) ∧ H a = none ∧ a ≠ R))
    ⟨[], none, none, (by rw [List.take_zero]; show _ = [_, some (V.int ((pre ++ []).length : Nat)), _, _, _, _]; rw [List.append_nil]; rfl), same_new hR, upd_same, rfl, fun j zs h => by rw [List.take_zero] at h; cases h⟩ (fun _ _ _ _ _ => trivial) ?_ ?_
  · rintro i v σ H' H'' hi ⟨ras, tv, ev, rfl, s1, r1, l1, all⟩ ⟨rfl, rfl⟩
    obtain ⟨z, hz⟩ : ∃ z, rs[i]? = some z := ⟨_, List.getElem?_eq_getElem hi⟩
    have e1 : rs = rs.take i ++ z :: rs.drop (i + 1) := by
      have hi2 := (List.getElem?_eq_some_iff.mp hz)
      have := (List.take_append_drop i rs).symm
      rw [List.drop_eq_getElem_cons hi2.1, hi2.2] at this
      exact this
    have tk : rs.take (i + 1) = rs.take i ++ [z] := by rw [List.take_add_one, hz]; rfl
    generalize hpre : pre ++ PyFlat.putRows (rs.take i) = ap at *
    have el : pre ++ (PyFlat.putRows rs ++ post) = ap ++ ((z.length : Int) :: (z ++ (PyFlat.putRows (rs.drop (i + 1)) ++ post))) := by
      rw [← hpre]
      conv => lhs; rw [e1]
      rw [putRows_app]
      show pre ++ (PyFlat.putRows (rs.take i) ++ ((z.length : Int) :: z ++ PyFlat.putRows (rs.drop (i + 1))) ++ post) = _
      simp [List.append_assoc]
    have ca2 : ∀ {H2}, Same H H2 → SqL K H2 ca ((ap ++ ((z.length : Int) :: (z ++ (PyFlat.putRows (rs.drop (i + 1)) ++ post)))).map V.int) := fun s => by rw [← el]; exact s.seq hc
    have g0 : atI ((ap ++ ((z.length : Int) :: (z ++ (PyFlat.putRows (rs.drop (i + 1)) ++ post)))).map V.int) ((ap.length : Nat) : Int) = some (.int (z.length : Nat)) := atI_nat (by
      rw [List.getElem?_map, List.getElem?_append_right (Nat.le_refl _), Nat.sub_self]
      rfl)
    refine s_set (ev_I0 (ev_I0 (ev_var rfl) ev_c) (ev_ixL (ev_var rfl) (ev_var rfl) (ca2 s1) g0)) ?_
    refine ⟨_, rfl, .inl ⟨rfl, _, SqL.of r1⟩, ?_⟩
    refine e_slice (ev_var rfl) (ev_I0 (ev_var rfl) ev_c) (ev_var rfl) (ca2 s1) fun a ha => ?_
    have ec : cutV ((ap ++ ((z.length : Int) :: (z ++ (PyFlat.putRows (rs.drop (i + 1)) ++ post)))).map V.int) (some ((ap.length : Nat) + 1)) (some ((ap.length : Nat) + 1 + (z.length : Nat))) = z.map V.int := by
      rw [show ap ++ ((z.length : Int) :: (z ++ (PyFlat.putRows (rs.drop (i + 1)) ++ post))) = (ap ++ [(z.length : Int)]) ++ (z ++ (PyFlat.putRows (rs.drop (i + 1)) ++ post)) by simp]
      exact cut_mid _ _ _ (by rw [List.length_append]; rfl) (by rw [List.length_append, List.length_singleton]; omega)
    rw [ec]
    have nR : R ≠ a := ne_of_none r1 ha
    refine ⟨R, ras.map V.ref, .ref a, rfl, rfl, by rw [upd_ne nR]; exact r1, szl (by rw [List.length_map]; omega), ?_⟩
    have sA : Same H (upd H'' a (.lst (z.map V.int))) := s1.trans (same_new ha)
    refine s_set (ev_var rfl) ?_
    refine ⟨ras ++ [a], some (.int (0 + (i : Int))), some (.int ((ap.length : Nat) + 1 + (z.length : Nat))), ?_, same_mut sA hR, ?_, by rw [List.length_append, List.length_singleton, l1], fun j zs h => ?_⟩
    · have : (pre ++ PyFlat.putRows (rs.take (i + 1))).length = ap.length + 1 + z.length := by
        rw [tk, putRows_app, ← List.append_assoc, hpre, List.length_append]
        show ap.length + (PyFlat.putRow z ++ []).length = _
        rw [List.append_nil]
        show ap.length + (z.length + 1) = _
        omega
      rw [this]
      rfl
    · rw [upd_same, List.map_append]
      rfl
    · rw [tk] at h
      by_cases c : j < (rs.take i).length
      · rw [List.getElem?_append_left c] at h
        obtain ⟨b, h1, h2, h3, h4⟩ := all j zs h
        exact ⟨b, by rw [List.getElem?_append_left (List.getElem?_eq_some_iff.mp h1).1]; exact h1, by rw [upd_ne h4, upd_ne (ne_of_none h2 ha)]; exact h2, h3, h4⟩
      · rw [List.getElem?_append_right (by omega)] at h
        have tl : (rs.take i).length = i := by rw [List.length_take]; omega
        have hj : j - (rs.take i).length = 0 := by
          cases e : j - (rs.take i).length with
          | zero => rfl
          | succ k => rw [e] at h; cases h
        rw [hj] at h
        cases h
        have : j = ras.length := by omega
        subst this
        exact ⟨a, by rw [List.getElem?_append_right (Nat.le_refl _), Nat.sub_self]; rfl, by rw [upd_ne (Ne.symm nR), upd_same], s1.free ha, Ne.symm nR⟩
  · rintro σ H' ⟨ras, tv, ev, rfl, s1, r1, l1, all⟩
    rw [List.take_length] at all ⊢
    refine s_tup2 (ev_var rfl) (ev_var rfl) fun p hp => q p R ras _ (s1.trans (same_new hp)) (by rw [upd_same, List.length_append]) (by rw [upd_ne (ne_of_none r1 hp)]; exact r1) fun i zs h => ?_
    obtain ⟨a, h1, h2, h3, _⟩ := all i zs h
    exact ⟨a, h1, by rw [upd_ne (ne_of_none h2 hp)]; exact h2, h3⟩
end
end Wk
namespace Wk
open PySem PySem.Spec PyProof.Rows L2 Nq
/-! The calls one behind the other: answers. -/
theorem whole_is (c : List (List Int)) : PySf79.whole c = c := by
  unfold PySf79.whole
  split <;> rfl
theorem call_at {c : List (List Int)} {q : Sf79.Call} (h : IsCall c q) : ∃ (p : Int) (ns : List Int) (rs : List (List Int)), c = (p :: ns) :: rs ∧ rs.length ≤ 10 ∧
    atI (([0, 0, 1, 1, 1, 1, 2, 0, 0, 1, 1, 2, 1, 1, 0, 0, 0, 0, 2, 1] : List Int).map V.int) p = some (.int (ns.length : Nat)) ∧ atI (([0, 0, 0, 0, 0, 1, 0, 1, 0, 0, 0, 0, 0, 1, 2, 0, 1, 0, 0, 0] : List Int).map V.int) p = some (.int (rs.length : Nat)) := by
  cases h with
  | c1 => exact ⟨1, [], [], rfl, (by show 0 ≤ 10; decide), rfl, rfl⟩
  | c2 i => exact ⟨2, [i], [], rfl, (by show 0 ≤ 10; decide), rfl, rfl⟩
  | c3 v => exact ⟨3, [((v : Nat) : Int)], [], rfl, (by show 0 ≤ 10; decide), rfl, rfl⟩
  | c4 i => exact ⟨4, [i], [], rfl, (by show 0 ≤ 10; decide), rfl, rfl⟩
  | c5 o ps => exact ⟨5, [o], [ps], rfl, (by show 1 ≤ 10; decide), rfl, rfl⟩
  | c6 t p => exact ⟨6, [t, p], [], rfl, (by show 0 ≤ 10; decide), rfl, rfl⟩
  | c7 ps => exact ⟨7, [], [ps], rfl, (by show 1 ≤ 10; decide), rfl, rfl⟩
  | c8 => exact ⟨8, [], [], rfl, (by show 0 ≤ 10; decide), rfl, rfl⟩
  | c9 s => exact ⟨9, [s], [], rfl, (by show 0 ≤ 10; decide), rfl, rfl⟩
  | c10 s => exact ⟨10, [s], [], rfl, (by show 0 ≤ 10; decide), rfl, rfl⟩
  | c11 i v => exact ⟨11, [i, ((v : Nat) : Int)], [], rfl, (by show 0 ≤ 10; decide), rfl, rfl⟩
  | c12 n => exact ⟨12, [n], [], rfl, (by show 0 ≤ 10; decide), rfl, rfl⟩
  | c13 s k => exact ⟨13, [s], [k], rfl, (by show 1 ≤ 10; decide), rfl, rfl⟩
  | c14 k ss => exact ⟨14, [], [k, ss], rfl, (by show 2 ≤ 10; decide), rfl, rfl⟩
  | c15 => exact ⟨15, [], [], rfl, (by show 0 ≤ 10; decide), rfl, rfl⟩
  | c16 us => exact ⟨16, [], [us.map fun (n : Nat) => (n : Int)], rfl, (by show 1 ≤ 10; decide), rfl, rfl⟩
  | c17 => exact ⟨17, [], [], rfl, (by show 0 ≤ 10; decide), rfl, rfl⟩
  | c18 s r => exact ⟨18, [s, r], [], rfl, (by show 0 ≤ 10; decide), rfl, rfl⟩
  | c19 s => exact ⟨19, [s], [], rfl, (by show 0 ≤ 10; decide), rfl, rfl⟩
theorem rows_short {c : List (List Int)} {q : Sf79.Call} (h : IsCall c q) (hb : PyInside.call PySf79.bound c = true) : ∀ zs ∈ c.drop 1, zs.length ≤ 2000 := by
  have one : ∀ {lo hi : Int} {m n : Nat} {b : List (Int × Int × Nat × Nat)} {r : List Int} {rs : List (List Int)}, PyInside.lists ((lo, hi, m, n) :: b) (r :: rs) = true → r.length ≤ n ∧ PyInside.lists b rs = true := fun {lo hi m n b r rs} h => by
    have h : (decide (m ≤ r.length) && decide (r.length ≤ n) && r.all (PyInside.within lo hi) && PyInside.lists b rs) = true := h
    simp only [Bool.and_eq_true, decide_eq_true_eq] at h
    exact ⟨h.1.1.2, h.2⟩
  cases h with
  | c1 => exact fun zs hz => (nomatch hz)
  | c2 i => exact fun zs hz => (nomatch hz)
  | c3 v => exact fun zs hz => (nomatch hz)
  | c4 i => exact fun zs hz => (nomatch hz)
  | c5 o ps =>
    have h : (PyInside.each (PySf79.bound 5).1 [o] && PyInside.lists ([(-2147483648, 2147483647, 0, 40)] : List (Int × Int × Nat × Nat)) [ps]) = true := hb
    rw [Bool.and_eq_true] at h
    have h1 := one h.2
    intro zs hz
    rw [List.mem_singleton.mp (show zs ∈ [ps] from hz)]
    exact Nat.le_trans h1.1 (by decide)
  | c6 t p => exact fun zs hz => (nomatch hz)
  | c7 ps =>
    have h : (PyInside.each (PySf79.bound 7).1 [] && PyInside.lists ([(-2147483648, 2147483647, 0, 200)] : List (Int × Int × Nat × Nat)) [ps]) = true := hb
    rw [Bool.and_eq_true] at h
    have h1 := one h.2
    intro zs hz
    rw [List.mem_singleton.mp (show zs ∈ [ps] from hz)]
    exact Nat.le_trans h1.1 (by decide)
  | c8 => exact fun zs hz => (nomatch hz)
  | c9 s => exact fun zs hz => (nomatch hz)
  | c10 s => exact fun zs hz => (nomatch hz)
  | c11 i v => exact fun zs hz => (nomatch hz)
  | c12 n => exact fun zs hz => (nomatch hz)
  | c13 s k =>
    have h : (PyInside.each (PySf79.bound 13).1 [s] && PyInside.lists ([(-2147483648, 2147483647, 0, 1100)] : List (Int × Int × Nat × Nat)) [k]) = true := hb
    rw [Bool.and_eq_true] at h
    have h1 := one h.2
    intro zs hz
    rw [List.mem_singleton.mp (show zs ∈ [k] from hz)]
    exact Nat.le_trans h1.1 (by decide)
  | c14 k ss =>
    have h : (PyInside.each (PySf79.bound 14).1 [] && PyInside.lists ([(-2147483648, 2147483647, 0, 1100), (-2147483648, 2147483647, 0, 100)] : List (Int × Int × Nat × Nat)) [k, ss]) = true := hb
    rw [Bool.and_eq_true] at h
    have h1 := one h.2
    have h2 := one h1.2
    intro zs hz
    rcases List.mem_cons.mp (show zs ∈ [k, ss] from hz) with e | hz
    · rw [e]; exact Nat.le_trans h1.1 (by decide)
    · rw [List.mem_singleton.mp hz]; exact Nat.le_trans h2.1 (by decide)
  | c15 => exact fun zs hz => (nomatch hz)
  | c16 us =>
    have h : (PyInside.each (PySf79.bound 16).1 [] && PyInside.lists ([(0, 36893488147419103231, 0, 1100)] : List (Int × Int × Nat × Nat)) [us.map fun (n : Nat) => (n : Int)]) = true := hb
    rw [Bool.and_eq_true] at h
    have h1 := one h.2
    intro zs hz
    rw [List.mem_singleton.mp (show zs ∈ [us.map fun (n : Nat) => (n : Int)] from hz)]
    exact Nat.le_trans h1.1 (by decide)
  | c17 => exact fun zs hz => (nomatch hz)
  | c18 s r => exact fun zs hz => (nomatch hz)
  | c19 s => exact fun zs hz => (nomatch hz)
/-- what is asked of the calls that are still ahead -/
def Ahead (cs : List (List (List Int))) : Prop := ∀ c ∈ cs, ∃ q, IsCall c q ∧ ∀ zs ∈ c.drop 1, zs.length ≤ 2000
theorem asked_ahead {l : List Int} (h : PySf79.answers_asked l = true) : ∃ cs, l = PyFlat.put cs ∧ Ahead cs ∧ PySf79.answers l = PyFlat.told (PyFlat.played Sf79Neutral.step Sf79.fresh cs) ∧ (PySf79.answers l).length ≤ 10000000 := by
  unfold PySf79.answers_asked at h
  cases e : PyFlat.calls PySf79.shape l.length l with
  | none => rw [e] at h; cases h
  | some raw =>
    rw [e] at h
    simp only [Bool.and_eq_true] at h
    obtain ⟨⟨⟨_, h3⟩, h4⟩, h5⟩ := h
    have mw : raw.map PySf79.whole = raw := (List.map_congr_left fun c _ => whole_is c).trans (List.map_id raw)
    rw [mw] at h4
    have ea : PySf79.answers l = PyFlat.told (PyFlat.played Sf79Neutral.step Sf79.fresh raw) := by
      unfold PySf79.answers PySf79.calls
      rw [e]
      show PyFlat.told (PyFlat.played Sf79Neutral.step Sf79Neutral.start (raw.map PySf79.whole)) = _
      rw [mw]
      rfl
    refine ⟨raw, (PyFlat.put_calls _ _ _ e).1, fun c hc => ?_, ea, of_decide_eq_true h5⟩
    unfold Sf79Neutral.asked at h4
    rw [Bool.and_eq_true, Bool.and_eq_true, Bool.and_eq_true] at h4
    obtain ⟨q, hq⟩ := asked_call (List.all_eq_true.mp h4.1.2.1 c hc)
    exact ⟨q, hq, rows_short hq (List.all_eq_true.mp h3 c hc)⟩
/-- what was handed in, where it stands, apart from S -/
def Arg (K : PySem.W.Frag) (H : Hp) (ca : Addr) (xs : List V) (S : List Addr) : Prop := (∀ H', SqL K H' ca xs) ∨ (Rd H ca (.lst xs) ∧ ca ∉ S)
theorem Arg.seq {K : PySem.W.Frag} {H : Hp} {ca : Addr} {xs : List V} {S : List Addr} (h : Arg K H ca xs S) : SqL K H ca xs := h.elim (fun h => h H) fun h => .inl h.1
theorem Rd.move {H H' : Hp} {a : Addr} {o : HO} (h : Rd H a o) (n : ∀ kvs, o ≠ .dK kvs) (k : ∀ u, H a = some u → (∀ kvs, u ≠ .dK kvs) → H' a = some u) : Rd H' a o := by
  rcases h with h | ⟨f, h⟩
  · exact .inl (k _ h n)
  · exact .inr ⟨f, k _ h fun _ z => nomatch z⟩
theorem Rd.some {H : Hp} {a : Addr} {o : HO} (h : Rd H a o) : H a ≠ none := by
  rcases h with h | ⟨f, h⟩ <;> rw [h] <;> exact fun z => nomatch z
theorem Arg.move {K : PySem.W.Frag} {H H' : Hp} {ca : Addr} {xs : List V} {S S' : List Addr} (h : Arg K H ca xs S) (k : ∀ b o, H b = some o → b ∉ S → (∀ kvs, o ≠ .dK kvs) → H' b = some o) (e : ∀ b ∈ S', b ∈ S ∨ H b = none) : Arg K H' ca xs S' :=
  h.imp id fun ⟨r, n⟩ => ⟨Rd.move r (fun _ z => nomatch z) fun u hu nu => k ca u hu n nu, fun hm => (e ca hm).elim n (Rd.some r)⟩
theorem Arg.same {K : PySem.W.Frag} {H H' : Hp} {ca : Addr} {xs : List V} {S : List Addr} (h : Arg K H ca xs S) (s : Same H H') : Arg K H' ca xs S := h.move (fun b o e _ _ => s b o e) fun _ h => .inl h
theorem s_ifQ {E : Ends} {t : TT} {t1 t2 : TE} {g : TG} {σ : L2.St} {H : Hp} {a : Prop} (C : VK → Prop) (h : Tst t σ H a) (k : C fun v H' => g v σ H' E.nx) (h1 : a → ∀ R, C R → t1 σ H R) (h2 : ¬ a → ∀ R, C R → t2 σ H R) : tIfS t (tAsg t1 g) (tAsg t2 g) E σ H :=
  s_if h (fun z => h1 z _ k) fun z => h2 z _ k
def sp_answers (P : Program) (w : World) (K : PySem.W.Frag) (A : Adr) : Sp := fun vs H Q _ => ∃ (ca : Addr) (l : List Int), vs = [.ref ca] ∧ SqL K H ca (l.map V.int) ∧ PySf79.answers_asked l = true ∧ ∀ H' p, H' p = some (.lst ((PySf79.answers l).map V.int)) → Q (.ref p) H'
section
variable {P : Program} {w : World} {K : PySem.W.Frag} {mg : Str → Option Value} {base : Heap} {A : Adr}
theorem ansV_len (a : Sf79.Ans) : (ansV a).length = (Sf79Neutral.listOf a).length := List.length_map _
theorem step_is {x : S} {c : List (List Int)} {q : Sf79.Call} (h : IsCall c q) : Sf79Neutral.step x c = ((Sf79.does x q).1, Sf79Neutral.listOf (Sf79.does x q).2) := by
  unfold Sf79Neutral.step
  rw [call_of h]
abbrev s_answers : Stmt := top 57
abbrev N_answers : List Str := ["calls", "desk", "found", "at", "call", "end", "numbers", "rows", "answer"]
theorem sc_answers : FnScope ["calls", "desk", "found", "at", "call", "end", "numbers", "rows", "answer"] ["calls"] (defScope s_answers) := ⟨rfl, rfl, rfl, by decide +kernel, rfl, by decide +kernel, by decide +kernel⟩
theorem ok_answers {f : Addr} {fd : FuncData} (F : Fun K "answers" "answers" s_answers f fd) (T : Txt K mg A) (F_making : FnG P w K mg base "making" 5 ["desk", "call", "numbers", "rows"] (sp_making P w K A)) (F_working : FnG P w K mg base "working" 11 ["desk", "call", "numbers", "rows"] (sp_working P w K A)) (F_rows_at : FnG P w K mg base "rows_at" 1 ["calls", "at", "many"] (sp_rows_at P w K A)) (M_Desk : MkG P w K mg base A.D "Desk" 3 ["self"] (sp_Desk___init__ P w K A)) : FnOk P w K mg base CX0 12 f fd ["calls"] (sp_answers P w K A) := by
  refine F.ok sc_answers (fun vs H Q E h => ?_) (fun cdv B outer s H vs Q E hr h => ?_)
  · obtain ⟨ca, l, rfl, _⟩ := h
    rfl
  obtain ⟨ca, l, rfl, hc, hask, q⟩ := h
  refine ⟨_, (pss_cons (ps_set (i := 1) sc_answers.nd rfl (Or.inl rfl) (pe_mk0 M_Desk (hr.mono (by decide)) rfl)) (pss_cons (ps_set (i := 2) sc_answers.nd rfl (Or.inl rfl) (pe_lst pa_nil)) (pss_cons (ps_set (i := 3) sc_answers.nd rfl (Or.inl rfl) pe_int) (pss_cons (ps_while PassesOwn.never (pt_cmpR op_lt (pv 3) (pe_callB call_len_seq rfl T.b_len PySem.boot_len (pa_cons (pv 0) pa_nil)) (nomark _)) (pss_cons (ps_set (i := 4) sc_answers.nd rfl (Or.inl rfl) (pe_ix ix_list (pv 0) (pv 3) (fun _ _ => rfl))) (pss_cons (ps_set (i := 5) sc_answers.nd rfl (Or.inl rfl) (pe_op op_add (pe_op op_add (pv 3) pe_int) (pe_ix ix_tup (pe_gr T.gCounts rfl) (pv 4) (fun _ _ => rfl)))) (pss_cons (ps_set (i := 6) sc_answers.nd rfl (Or.inl rfl) (pe_slice sl_list (pv 0) (po_some (pe_op op_add (pv 3) pe_int)) (po_some (pv 5)))) (pss_cons (ps_asg (pe_fn F_rows_at (hr.mono (by decide)) rfl (pa_cons (pv 0) (pa_cons (pv 5) (pa_cons (pe_ix ix_tup (pe_gr T.gRows rfl) (pv 4) (fun _ _ => rfl)) pa_nil)))) (pg_tup rfl (pgs_cons (pg_name (i := 7) sc_answers.nd rfl (Or.inl rfl)) (pgs_cons (pg_name (i := 3) sc_answers.nd rfl (Or.inl rfl)) pgs_nil)))) (pss_cons (ps_if (pt_cmpR op_lt (pv 4) pe_int (nomark _)) (pss_one (ps_set (i := 8) sc_answers.nd rfl (Or.inl rfl) (pe_fn F_making (hr.mono (by decide)) rfl (pa_cons (pv 1) (pa_cons (pv 4) (pa_cons (pv 6) (pa_cons (pv 7) pa_nil))))))) (pss_one (ps_set (i := 8) sc_answers.nd rfl (Or.inl rfl) (pe_fn F_working (hr.mono (by decide)) rfl (pa_cons (pv 1) (pa_cons (pv 4) (pa_cons (pv 6) (pa_cons (pv 7) pa_nil)))))))) (pss_cons (ps_expr (pe_bm PySem.F.plainAttrs_list PySem.F.slot_list_append PySem.F.type_list_append mt_append (pv 2) (pa_cons (pe_callB call_len_seq rfl T.b_len PySem.boot_len (pa_cons (pv 8) pa_nil)) pa_nil))) (pss_one (ps_expr (pe_bm PySem.F.plainAttrs_list PySem.F.slot_list_extend PySem.F.type_list_extend mt_extend (pv 2) (pa_cons (pv 8) pa_nil))))))))))) (pss_one (ps_ret (pv 2))))))), ?_⟩
  obtain ⟨cs0, hl, hah, han, hsh⟩ := asked_ahead hask
  rw [han] at q hsh
  clear hask han
  generalize hres : PyFlat.told (PyFlat.played Sf79Neutral.step Sf79.fresh cs0) = res at q hsh
  -- desk = Desk()
  refine fun d dd hd hdd hne => ⟨d, dd, rfl, upd_same, fun H1 D hD ed b1 n1 => ⟨rfl, ?_⟩⟩
  have f0 : ∀ {b : Addr}, upd (upd H dd (.own d)) d (.ins A.D dd []) b = none → H b = none := fun h => (upd_free (upd_free h).2).2
  -- found = []
  refine ⟨(by show 0 ≤ sizeLine; decide), fun fa hfa => ?_⟩
  refine s_set ev_c ?_
  have g1 : ∀ b o, H b = some o → H1 b = some o := fun b o e => b1 b o (by rw [upd_ne (ne_of_none e hd), upd_ne (ne_of_none e hdd)]; exact e) (ne_of_none e hd)
  have fr1 : ∀ {b : Addr}, H1 b = none → H b = none := fun {b} h => by
    cases e : H b with
    | none => rfl
    | some o => rw [g1 b o e] at h; cases h
  have supd : ∀ b ∈ D.sup, H b = none := fun b hb => (n1 b hb).elim (fun z => by rw [z]; exact hd) f0
  have fsup : fa ∉ D.sup := fun hm => by
    have hs : ∀ b ∈ D.sup, H1 b ≠ none := fun b hb => by
      unfold DD.sup at hb
      rcases List.mem_append.mp hb with hb | hb
      · simp only [List.mem_cons, List.not_mem_nil, or_false] at hb
        rcases hb with rfl | rfl | rfl
        · rw [hD.ob]; exact fun z => nomatch z
        · rw [hD.ls.ob]; exact fun z => nomatch z
        · rw [hD.nd]; exact fun z => nomatch z
      · obtain ⟨ys, e⟩ := hD.there b hb
        rw [e]; exact fun z => nomatch z
    exact hs fa hm hfa
  have A0 : Arg K (upd H1 fa (.lst [])) ca (l.map V.int) (fa :: D.sup) := by
    rcases hc with hc | hc
    · refine .inr ⟨Rd.move hc (fun _ z => nomatch z) fun u hu _ => ?_, fun hm => ?_⟩
      · rw [upd_ne (ne_of_none (g1 _ _ hu) hfa)]
        exact g1 _ _ hu
      · rcases List.mem_cons.mp hm with z | hm
        · exact Rd.some hc (z ▸ fr1 hfa)
        · exact Rd.some hc (supd _ hm)
    · exact .inl fun H' => .inr hc
  refine ⟨fun m σ H' => ∃ (pre : List Int) (cs : List (List (List Int))) (D : DD) (x : S) (kn : Lw.Kn) (done : List Int) (o4 o5 o6 o7 o8 : Option V), σ = [some (.ref ca), some (.ref D.d), some (.ref fa), some (.int (pre.length : Nat)), o4, o5, o6, o7, o8] ∧
    l = pre ++ PyFlat.put cs ∧ cs.length = m ∧ Ahead cs ∧ DA P w A H' D x kn ∧ H' fa = some (.lst (done.map V.int)) ∧ fa ∉ D.sup ∧ Arg K H' ca (l.map V.int) (fa :: D.sup) ∧ done ++ PyFlat.told (PyFlat.played Sf79Neutral.step x cs) = res, ?_, ?_⟩
  · refine ⟨cs0.length, [], cs0, D, Sf79.fresh, _, [], none, none, none, none, none, ?_, hl, rfl, hah, hD.same (same_new hfa), upd_same, fsup, A0, hres⟩
    rw [ed]
    rfl
  rintro m σ H2 ⟨pre, cs, D, x, kn, done, o4, o5, o6, o7, o8, rfl, el, rfl, ah, D2, f2, fs2, A2, eres⟩
  refine tst_lt (ev_var rfl) (ev_len (ev_var rfl) A2.seq) _ fun c hcc => ?_
  rw [List.length_map] at hcc
  cases cs with
  | nil =>
    refine iff' (eq_false_of_ne_true fun z => ?_) ?_
    · have := hcc.mp z
      rw [el] at this
      have e0 : (pre ++ PyFlat.put []).length = pre.length := by rw [List.length_append]; rfl
      omega
    · have e0 : done = res := by rw [← eres]; exact (List.append_nil done).symm
      rw [e0] at f2
      exact s_ret (ev_var rfl) (q H2 fa f2)
  | cons c cs =>
  refine ift (hcc.mpr ?_) ⟨_, fun σ' H' z => ⟨cs.length, Nat.lt_succ_self _, z⟩, ?_⟩
  · obtain ⟨qc, ic, _⟩ := ah c List.mem_cons_self
    obtain ⟨p, ns, rs, rfl, _⟩ := call_at ic
    rw [el, List.length_append]
    show (pre.length : Int) < ((pre.length + (((p :: ns) ++ PyFlat.putRows rs) ++ PyFlat.put cs).length : Nat) : Int)
    rw [List.length_append, List.length_append, List.length_cons]
    omega
  clear hcc
  obtain ⟨qc, ic, hrow⟩ := ah c List.mem_cons_self
  obtain ⟨p, ns, rs, rfl, hk, hC, hR⟩ := call_at ic
  have e2 : l = pre ++ (p :: (ns ++ (PyFlat.putRows rs ++ PyFlat.put cs))) := by
    rw [el]
    show pre ++ (((p :: ns) ++ PyFlat.putRows rs) ++ PyFlat.put cs) = _
    simp [List.append_assoc]
  have hs : SqL K H2 ca ((pre ++ (p :: (ns ++ (PyFlat.putRows rs ++ PyFlat.put cs)))).map V.int) := by rw [← e2]; exact A2.seq
  have g0 : atI ((pre ++ (p :: (ns ++ (PyFlat.putRows rs ++ PyFlat.put cs)))).map V.int) ((pre.length : Nat) : Int) = some (.int p) := atI_nat (by
    rw [List.getElem?_map, List.getElem?_append_right (Nat.le_refl _), Nat.sub_self]
    rfl)
  refine s_set (ev_ixL (ev_var rfl) (ev_var rfl) hs g0) ?_
  refine s_set (ev_is (w := .int ((pre.length + 1 + ns.length : Nat) : Int)) (ev_I0 (g := fun i j => V.int (i + j)) (ev_I0 (g := fun i j => V.int (i + j)) (ev_var rfl) ev_c) (ev_ixT ev_c (ev_var rfl) (T.tCounts H2) hC)) (congrArg V.int (show ((pre.length : Nat) : Int) + 1 + ((ns.length : Nat) : Int) = ((pre.length + 1 + ns.length : Nat) : Int) by omega))) ?_
  refine e_slice (ev_var rfl) (ev_I0 (ev_var rfl) ev_c) (ev_var rfl) hs fun na hna => ?_
  have ec : cutV ((pre ++ (p :: (ns ++ (PyFlat.putRows rs ++ PyFlat.put cs)))).map V.int) (some ((pre.length : Nat) + 1)) (some ((pre.length + 1 + ns.length : Nat) : Int)) = ns.map V.int := by
    rw [show pre ++ (p :: (ns ++ (PyFlat.putRows rs ++ PyFlat.put cs))) = (pre ++ [p]) ++ (ns ++ (PyFlat.putRows rs ++ PyFlat.put cs)) by simp]
    exact cut_mid _ _ _ (by rw [List.length_append]; rfl) (by rw [List.length_append, List.length_singleton])
  rw [ec]
  have s3 : Same H2 (upd H2 na (.lst (ns.map V.int))) := same_new hna
  have epl : (pre ++ (p :: ns)).length = pre.length + 1 + ns.length := by rw [List.length_append, List.length_cons]; omega
  have e3 : l = (pre ++ (p :: ns)) ++ (PyFlat.putRows rs ++ PyFlat.put cs) := by rw [e2]; simp
  refine e_call (eva_cons (ev_var rfl) (eva_cons (ev_var rfl) (eva_cons (ev_ixT ev_c (ev_var rfl) (T.tRows _) hR) eva_nil))) ⟨ca, pre ++ (p :: ns), PyFlat.put cs, rs, by rw [epl], by rw [← e3]; exact (A2.same s3).seq, hk, fun tp ra ras H4 s4 htp hra hrows => ?_⟩
  refine g_pair htp ?_
  have s24 := s3.trans s4
  have D4 := D2.same s24
  have D3 := D2.same s3
  have na4 := s4 _ _ (show upd H2 na (.lst (ns.map V.int)) na = some (.lst (ns.map V.int)) from upd_same)
  have f4 := s24 _ _ f2
  have A4 := A2.same s24
  have rw4 : RowsAt H4 D ras rs := fun i zs h => by
    obtain ⟨a, h1, h2, h3⟩ := hrows i zs h
    exact ⟨a, h1, h2, D3.new_out h3, hrow zs (List.mem_of_getElem? h)⟩
  refine s_ifQ (Waits P w A H4 D (Sf79.does x qc)) (tst_lt (ev_var rfl) ev_c) ?_ (fun z R k => ?_) (fun z R k => ?_)
  rotate_left
  · exact e_call (eva_cons (ev_var rfl) (eva_cons (ev_var rfl) (eva_cons (ev_var rfl) (eva_cons (ev_var rfl) eva_nil)))) ⟨D, x, kn, (p :: ns) :: rs, qc, na, ra, ras, rfl, D4, ic, z, na4, hra, rw4, k⟩
  · exact e_call (eva_cons (ev_var rfl) (eva_cons (ev_var rfl) (eva_cons (ev_var rfl) (eva_cons (ev_var rfl) eva_nil)))) ⟨D, x, kn, (p :: ns) :: rs, qc, na, ra, ras, rfl, D4, ic, Int.not_lt.mp z, na4, hra, rw4, k⟩
  intro H5 D5 kn5 pa a5 F5 e5 n5
  have f5 := F5.out _ _ f4 fs2 fun _ z => nomatch z
  have fs5 : fa ∉ D5.sup := fun hm => (F5.sup fa hm).elim fs2 fun z => by rw [f4] at z; cases z
  have nf : pa ≠ fa := fun z => fs2 (by rw [← z]; exact n5 _ (by rw [z]; exact f4))
  have est : done ++ ((((Sf79Neutral.listOf (Sf79.does x qc).2).length : Nat) : Int) :: Sf79Neutral.listOf (Sf79.does x qc).2) ++ PyFlat.told (PyFlat.played Sf79Neutral.step (Sf79.does x qc).1 cs) = res := by
    rw [← eres]
    show _ = done ++ PyFlat.told ((Sf79Neutral.step x ((p :: ns) :: rs)).2 :: PyFlat.played Sf79Neutral.step (Sf79Neutral.step x ((p :: ns) :: rs)).1 cs)
    rw [step_is ic, List.append_assoc]
    rfl
  have len : done.length + (1 + (Sf79Neutral.listOf (Sf79.does x qc).2).length) ≤ 10000000 := by
    refine Nat.le_trans ?_ hsh
    rw [← est, List.length_append, List.length_append, List.length_cons]
    omega
  refine ⟨_, rfl, .inl ⟨rfl, _, SqL.of f5⟩, ?_⟩
  refine ev_len (ev_var rfl) (SqL.of e5) _ ⟨fa, _, _, rfl, rfl, f5, ?_, ?_⟩
  · rw [List.length_map]
    exact Nat.lt_of_le_of_lt (show done.length ≤ 10000000 by omega) (by decide)
  refine ⟨_, rfl, .inl ⟨rfl, _, SqL.of upd_same⟩, _, rfl, fa, pa, _, _, rfl, rfl, upd_same, by rw [upd_ne nf]; exact e5, ?_, ?_⟩
  · rw [List.length_append, List.length_map, List.length_singleton, ansV_len]
    exact Nat.le_trans (show done.length + 1 + (Sf79Neutral.listOf (Sf79.does x qc).2).length ≤ 10000000 by omega) (by decide)
  rw [upd_upd]
  have nl5 : fa ∉ D5.lists := fun hm => fs5 (List.mem_append_right _ hm)
  refine ⟨pre ++ ((p :: ns) ++ PyFlat.putRows rs), cs, D5, (Sf79.does x qc).1, kn5, done ++ ((((Sf79Neutral.listOf (Sf79.does x qc).2).length : Nat) : Int) :: Sf79Neutral.listOf (Sf79.does x qc).2), some (.int p), some (.int ((pre.length + 1 + ns.length : Nat) : Int)), some (.ref na), some (.ref ra), some (.ref pa), ?_, ?_, rfl, fun c hc => ah c (List.mem_cons_of_mem _ hc), a5.but (But.of (Same.refl _)).upd ⟨_, f5⟩ nl5, ?_, fs5, ?_, est⟩
  · rw [F5.d, show (pre ++ ((p :: ns) ++ PyFlat.putRows rs)).length = (pre ++ (p :: ns)).length + (PyFlat.putRows rs).length by rw [← List.append_assoc, List.length_append]]
    rfl
  · rw [el]
    show pre ++ (((p :: ns) ++ PyFlat.putRows rs) ++ PyFlat.put cs) = _
    simp [List.append_assoc]
  · rw [upd_same]
    congr 2
    rw [List.append_assoc, List.map_append]
    congr 1
    rw [ansV_len]
    rfl
  · have A5 : Arg K H5 ca (l.map V.int) (fa :: D5.sup) := A4.move (fun b o e n m => F5.out b o e (fun hm => n (List.mem_cons_of_mem _ hm)) m) fun b hb => by
      rcases List.mem_cons.mp hb with rfl | hb
      · exact .inl List.mem_cons_self
      · exact (F5.sup b hb).imp (List.mem_cons_of_mem _) id
    exact A5.move (fun b o e n _ => by rw [upd_ne fun z => n (by rw [z]; exact List.mem_cons_self)]; exact e) fun _ h => .inl h
end
end Wk
namespace Wk
open PySem PySem.Spec PyProof.Rows L2 Nq
/-! The end: what the top has written. -/
def FnAt (K : PySem.W.Frag) (x : Str) (st : Stmt) : Prop := ∃ (f : Addr) (fd : FuncData), Fun K x x st f fd ∧ PySem.W.nsIn K mainGlobals x = some (some (.ref f)) ∧ PySem.W.keepIn K (.ref f) = true
def MtAt (K : PySem.W.Frag) (C : Addr) (m qual : Str) (st : Stmt) : Prop := ∃ (f : Addr) (fd : FuncData), Fun K m qual st f fd ∧ Meth K C m f
def InitAt (K : PySem.W.Frag) (C : Addr) (qual : Str) (st : Stmt) : Prop := ∃ (f : Addr) (fd : FuncData), Fun K "__init__" qual st f fd ∧ Mk K C f
section
variable {K : PySem.W.Frag} {x m qual : Str} {st : Stmt} {f C : Addr} {oc : Value} {od an : Option Addr} {osl : Array (Option Value)} {kV doc pm cdv ct : Value}
theorem fnAt (a : PySem.W.nsIn K mainGlobals x = some (some (.ref f))) (l : K.lookup f = some ⟨oc, od, .func (PySem.W.fnOf x x (defArgs st) (defBody st) (defScope st) .none kV doc pm an cdv ct), osl⟩) (c : PySem.W.codeIn K cdv x = true) (k : PySem.W.keepIn K (.ref f) = true) : FnAt K x st :=
  ⟨f, _, fun_mk l c k, a, k⟩
theorem mtAt (a : PySem.W.findIn K (.ref C) m = some (some (.ref f))) (l : K.lookup f = some ⟨oc, od, .func (PySem.W.fnOf m qual (defArgs st) (defBody st) (defScope st) .none kV doc pm an cdv ct), osl⟩) (c : PySem.W.codeIn K cdv qual = true) (k : PySem.W.keepIn K (.ref f) = true) (i : PySem.W.isFn K (.ref f) = true) : MtAt K C m qual st :=
  ⟨f, _, fun_mk l c k, a, i, k⟩
theorem initAt (a : PySem.W.findIn K (.ref C) "__init__" = some (some (.ref f))) (l : K.lookup f = some ⟨oc, od, .func (PySem.W.fnOf "__init__" qual (defArgs st) (defBody st) (defScope st) .none kV doc pm an cdv ct), osl⟩) (c : PySem.W.codeIn K cdv qual = true) (k : PySem.W.keepIn K (.ref f) = true) (i : PySem.W.isFn K (.ref f) = true) (mk : PySem.W.makesIn K C = true) (kc : PySem.W.keepIn K (.ref C) = true) : InitAt K C qual st :=
  ⟨f, _, fun_mk l c k, mk, a, i, kc⟩
def TupAt (K : PySem.W.Frag) (a : Addr) (ns : List Int) : Prop := ∃ (od : Option Addr) (its : Array Value) (n : Nat) (sl : Array (Option Value)), K.lookup a = some ⟨.type "tuple", od, .seq its n, sl⟩ ∧ its.size ≤ sizeLine ∧ Vals (ns.map V.int) its.toList
theorem TupAt.wt {a : Addr} {ns : List Int} (h : TupAt K a ns) : WT K a ns := by
  obtain ⟨od, its, n, sl, l, z, v⟩ := h
  exact fun H => .inr ⟨_, its, n, l, rfl, rfl, z, v⟩
end
def sp_end (K : PySem.W.Frag) : Sp := fun vs H Q _ => ∃ (ca : Addr) (l : List Int), vs = [.ref ca] ∧ SqL K H ca (l.map V.int) ∧ PySf79.answers_asked l = true ∧ ∀ H' p, H' p = some (.lst ((PySf79.answers l).map V.int)) → Q (.ref p) H'
theorem all_mk {P : Program} {w : World} {K : PySem.W.Frag} {h : Heap} {mg : Str → Option Value} {fa fx AL AS AT AD AFREE AALONE ACOUNTS AROWS : Addr} {oc : Value} {od an : Option Addr} {osl : Array (Option Value)} {kV doc pm cdv ct : Value} (X : K.In h) (G : h.Ns mainGlobals mg) (hfa : mg "answers" = some (.ref fa))
    (a_L : PySem.W.nsIn K mainGlobals "Lanes" = some (some (.ref AL)))
    (a_S : PySem.W.nsIn K mainGlobals "Step" = some (some (.ref AS)))
    (a_T : PySem.W.nsIn K mainGlobals "Task" = some (some (.ref AT)))
    (a_D : PySem.W.nsIn K mainGlobals "Desk" = some (some (.ref AD)))
    (a_FREE : PySem.W.nsIn K mainGlobals "FREE" = some (some (.ref AFREE)))
    (a_ALONE : PySem.W.nsIn K mainGlobals "ALONE" = some (some (.ref AALONE)))
    (a_COUNTS : PySem.W.nsIn K mainGlobals "COUNTS" = some (some (.ref ACOUNTS)))
    (a_ROWS : PySem.W.nsIn K mainGlobals "ROWS" = some (some (.ref AROWS)))
    (w_FREE : TupAt K AFREE [14, 29, 30, 32])
    (w_ALONE : TupAt K AALONE [1, 4, 5])
    (w_COUNTS : TupAt K ACOUNTS [0, 0, 1, 1, 1, 1, 2, 0, 0, 1, 1, 2, 1, 1, 0, 0, 0, 0, 2, 1])
    (w_ROWS : TupAt K AROWS [0, 0, 0, 0, 0, 1, 0, 1, 0, 0, 0, 0, 0, 1, 2, 0, 1, 0, 0, 0])
    (i_COLUMN : ∃ t, PySem.W.nsIn K mainGlobals "COLUMN" = some (some (.int 0 t)))
    (i_VALUE : ∃ t, PySem.W.nsIn K mainGlobals "VALUE" = some (some (.int 1 t)))
    (i_GIVEN : ∃ t, PySem.W.nsIn K mainGlobals "GIVEN" = some (some (.int 2 t)))
    (i_OPERATION : ∃ t, PySem.W.nsIn K mainGlobals "OPERATION" = some (some (.int 3 t)))
    (i_CAST : ∃ t, PySem.W.nsIn K mainGlobals "CAST" = some (some (.int 4 t)))
    (i_CHOICE : ∃ t, PySem.W.nsIn K mainGlobals "CHOICE" = some (some (.int 5 t)))
    (i_NOTHING : ∃ t, PySem.W.nsIn K mainGlobals "NOTHING" = some (some (.int 0 t)))
    (i_UNTRUE : ∃ t, PySem.W.nsIn K mainGlobals "UNTRUE" = some (some (.int 1 t)))
    (i_TRUE : ∃ t, PySem.W.nsIn K mainGlobals "TRUE" = some (some (.int 2 t)))
    (i_AND : ∃ t, PySem.W.nsIn K mainGlobals "AND" = some (some (.int 2 t)))
    (i_OR : ∃ t, PySem.W.nsIn K mainGlobals "OR" = some (some (.int 3 t)))
    (i_IS_NOTHING : ∃ t, PySem.W.nsIn K mainGlobals "IS_NOTHING" = some (some (.int 4 t)))
    (i_IS_TRUE : ∃ t, PySem.W.nsIn K mainGlobals "IS_TRUE" = some (some (.int 5 t)))
    (i_FIRST : ∃ t, PySem.W.nsIn K mainGlobals "FIRST" = some (some (.int 31 t)))
    (i_IS : ∃ t, PySem.W.nsIn K mainGlobals "IS" = some (some (.int 0 t)))
    (i_ASKS : ∃ t, PySem.W.nsIn K mainGlobals "ASKS" = some (some (.int 1 t)))
    (i_ELSEWHERE : ∃ t, PySem.W.nsIn K mainGlobals "ELSEWHERE" = some (some (.int 2 t)))
    (i_GIVENS : ∃ t, PySem.W.nsIn K mainGlobals "GIVENS" = some (some (.int 64 t)))
    (i_ALL_ROWS : ∃ t, PySem.W.nsIn K mainGlobals "ALL_ROWS" = some (some (.int 1024 t)))
    (i_MISSING : ∃ t, PySem.W.nsIn K mainGlobals "MISSING" = some (some (.int (-1) t)))
    (i_FULL : ∃ t, PySem.W.nsIn K mainGlobals "FULL" = some (some (.int (-2) t)))
    (i_ODD : ∃ t, PySem.W.nsIn K mainGlobals "ODD" = some (some (.int (-3) t)))
    (i_NOT_YET : ∃ t, PySem.W.nsIn K mainGlobals "NOT_YET" = some (some (.int (-4) t)))
    (i_NOTHING_NEEDED : ∃ t, PySem.W.nsIn K mainGlobals "NOTHING_NEEDED" = some (some (.int (-5) t)))
    (i_COLUMNS : ∃ t, PySem.W.nsIn K mainGlobals "COLUMNS" = some (some (.int 64 t)))
    (i_OPERATIONS : ∃ t, PySem.W.nsIn K mainGlobals "OPERATIONS" = some (some (.int 256 t)))
    (i_CASTS : ∃ t, PySem.W.nsIn K mainGlobals "CASTS" = some (some (.int 65536 t)))
    (i_MOST_STEPS : ∃ t, PySem.W.nsIn K mainGlobals "MOST_STEPS" = some (some (.int 4096 t)))
    (i_MOST_PARTS : ∃ t, PySem.W.nsIn K mainGlobals "MOST_PARTS" = some (some (.int 16 t)))
    (i_MOST_CHOICE : ∃ t, PySem.W.nsIn K mainGlobals "MOST_CHOICE" = some (some (.int 129 t)))
    (i_MOST_ROWS : ∃ t, PySem.W.nsIn K mainGlobals "MOST_ROWS" = some (some (.int 1024 t)))
    (i_MOST_CHOSEN : ∃ t, PySem.W.nsIn K mainGlobals "MOST_CHOSEN" = some (some (.int 64 t)))
    (b_all : PySem.W.nsIn K mainGlobals "all" = some none)
    (b_len : PySem.W.nsIn K mainGlobals "len" = some none)
    (b_min : PySem.W.nsIn K mainGlobals "min" = some none)
    (b_list : PySem.W.nsIn K mainGlobals "list" = some none)
    (b_tuple : PySem.W.nsIn K mainGlobals "tuple" = some none)
    (b_range : PySem.W.nsIn K mainGlobals "range" = some none)
    (b_enumerate : PySem.W.nsIn K mainGlobals "enumerate" = some none)
    (b_zip : PySem.W.nsIn K mainGlobals "zip" = some none)
    (pg_L : PySem.W.plainGet K AL Str.empty = true)
    (hd_L : PySem.W.hasDictIn K AL = true)
    (po_L : PySem.W.plainOver K AL = true)
    (sa_L : PySem.W.findIn K (.ref AL) "__setattr__" = some (some (.builtin "object.__setattr__")))
    (n_L_steps : PySem.W.findIn K (.ref AL) "steps" = some none)
    (n_L_givens : PySem.W.findIn K (.ref AL) "givens" = some none)
    (n_L_known : PySem.W.findIn K (.ref AL) "known" = some none)
    (pg_S : PySem.W.plainGet K AS Str.empty = true)
    (hd_S : PySem.W.hasDictIn K AS = true)
    (po_S : PySem.W.plainOver K AS = true)
    (sa_S : PySem.W.findIn K (.ref AS) "__setattr__" = some (some (.builtin "object.__setattr__")))
    (n_S_kind : PySem.W.findIn K (.ref AS) "kind" = some none)
    (n_S_number : PySem.W.findIn K (.ref AS) "number" = some none)
    (n_S_parts : PySem.W.findIn K (.ref AS) "parts" = some none)
    (n_S_columns : PySem.W.findIn K (.ref AS) "columns" = some none)
    (pg_T : PySem.W.plainGet K AT Str.empty = true)
    (hd_T : PySem.W.hasDictIn K AT = true)
    (po_T : PySem.W.plainOver K AT = true)
    (sa_T : PySem.W.findIn K (.ref AT) "__setattr__" = some (some (.builtin "object.__setattr__")))
    (n_T_rows : PySem.W.findIn K (.ref AT) "rows" = some none)
    (n_T_steps : PySem.W.findIn K (.ref AT) "steps" = some none)
    (n_T_is_choice : PySem.W.findIn K (.ref AT) "is_choice" = some none)
    (pg_D : PySem.W.plainGet K AD Str.empty = true)
    (hd_D : PySem.W.hasDictIn K AD = true)
    (po_D : PySem.W.plainOver K AD = true)
    (sa_D : PySem.W.findIn K (.ref AD) "__setattr__" = some (some (.builtin "object.__setattr__")))
    (n_D_lanes : PySem.W.findIn K (.ref AD) "lanes" = some none)
    (n_D_numbers : PySem.W.findIn K (.ref AD) "numbers" = some none)
    (n_D_many : PySem.W.findIn K (.ref AD) "many" = some none)
    (n_D_task : PySem.W.findIn K (.ref AD) "task" = some none)
    (n_D_given : PySem.W.findIn K (.ref AD) "given" = some none)
    (h_bits_of : FnAt K "bits_of" s_bits_of)
    (h_Desk_has : MtAt K AD "has" "Desk.has" s_Desk_has)
    (h_Desk_uses : MtAt K AD "uses" "Desk.uses" s_Desk_uses)
    (h_Desk_step : MtAt K AD "step" "Desk.step" s_Desk_step)
    (h_Lanes_added : MtAt K AL "added" "Lanes.added" s_Lanes_added)
    (h_Step___init__ : InitAt K AS "Step.__init__" s_Step___init__)
    (h_Desk_have : MtAt K AD "have" "Desk.have" s_Desk_have)
    (h_Desk_made : MtAt K AD "made" "Desk.made" s_Desk_made)
    (h_Desk_choice : MtAt K AD "choice" "Desk.choice" s_Desk_choice)
    (h_Desk_cast : MtAt K AD "cast" "Desk.cast" s_Desk_cast)
    (h_Desk_operation : MtAt K AD "operation" "Desk.operation" s_Desk_operation)
    (h_Desk_given_value : MtAt K AD "given_value" "Desk.given_value" s_Desk_given_value)
    (h_is_value : FnAt K "is_value" s_is_value)
    (h_Desk_value : MtAt K AD "value" "Desk.value" s_Desk_value)
    (h_Desk_column : MtAt K AD "column" "Desk.column" s_Desk_column)
    (h_Lanes___init__ : InitAt K AL "Lanes.__init__" s_Lanes___init__)
    (h_Desk_fresh : MtAt K AD "fresh" "Desk.fresh" s_Desk_fresh)
    (h_making : FnAt K "making" s_making)
    (h_Desk_work : MtAt K AD "work" "Desk.work" s_Desk_work)
    (h_Step_is_still : MtAt K AS "is_still" "Step.is_still" s_Step_is_still)
    (h_Lanes_row_of : MtAt K AL "row_of" "Lanes.row_of" s_Lanes_row_of)
    (h_Lanes_found : MtAt K AL "found" "Lanes.found" s_Lanes_found)
    (h_Lanes_keep : MtAt K AL "keep" "Lanes.keep" s_Lanes_keep)
    (h_said_elsewhere : FnAt K "said_elsewhere" s_said_elsewhere)
    (h_of_one : FnAt K "of_one" s_of_one)
    (h_said_by_first : FnAt K "said_by_first" s_said_by_first)
    (h_said_by_many : FnAt K "said_by_many" s_said_by_many)
    (h_said_by_operation : FnAt K "said_by_operation" s_said_by_operation)
    (h_said_by_choice : FnAt K "said_by_choice" s_said_by_choice)
    (h_said : FnAt K "said" s_said)
    (h_Lanes_said_of : MtAt K AL "said_of" "Lanes.said_of" s_Lanes_said_of)
    (h_Lanes_value : MtAt K AL "value" "Lanes.value" s_Lanes_value)
    (h_Desk_known_of : MtAt K AD "known_of" "Desk.known_of" s_Desk_known_of)
    (h_Desk_true_in : MtAt K AD "true_in" "Desk.true_in" s_Desk_true_in)
    (h_Lanes_rows_of : MtAt K AL "rows_of" "Lanes.rows_of" s_Lanes_rows_of)
    (h_Step_is_free : MtAt K AS "is_free" "Step.is_free" s_Step_is_free)
    (h_Lanes_stopped_at : MtAt K AL "stopped_at" "Lanes.stopped_at" s_Lanes_stopped_at)
    (h_Lanes_part_needed : MtAt K AL "part_needed" "Lanes.part_needed" s_Lanes_part_needed)
    (h_Lanes_unknown_rows : MtAt K AL "unknown_rows" "Lanes.unknown_rows" s_Lanes_unknown_rows)
    (h_Lanes_needed : MtAt K AL "needed" "Lanes.needed" s_Lanes_needed)
    (h_Desk_needed : MtAt K AD "needed" "Desk.needed" s_Desk_needed)
    (h_Desk_got : MtAt K AD "got" "Desk.got" s_Desk_got)
    (h_Desk_give : MtAt K AD "give" "Desk.give" s_Desk_give)
    (h_Desk_need : MtAt K AD "need" "Desk.need" s_Desk_need)
    (h_Task___init__ : InitAt K AT "Task.__init__" s_Task___init__)
    (h_do_rise : FnAt K "do_rise" s_do_rise)
    (h_Desk_are_rows : MtAt K AD "are_rows" "Desk.are_rows" s_Desk_are_rows)
    (h_Desk_choose : MtAt K AD "choose" "Desk.choose" s_Desk_choose)
    (h_Desk_run : MtAt K AD "run" "Desk.run" s_Desk_run)
    (h_Lanes_forget_rows : MtAt K AL "forget_rows" "Lanes.forget_rows" s_Lanes_forget_rows)
    (h_Desk_batch : MtAt K AD "batch" "Desk.batch" s_Desk_batch)
    (h_Lanes_forget_all : MtAt K AL "forget_all" "Lanes.forget_all" s_Lanes_forget_all)
    (h_Desk_give_value : MtAt K AD "give_value" "Desk.give_value" s_Desk_give_value)
    (h_working : FnAt K "working" s_working)
    (h_rows_at : FnAt K "rows_at" s_rows_at)
    (h_Desk___init__ : InitAt K AD "Desk.__init__" s_Desk___init__)
    (a_answers : PySem.W.nsIn K mainGlobals "answers" = some (some (.ref fx)))
    (l_answers : K.lookup fx = some ⟨oc, od, .func (PySem.W.fnOf "answers" "answers" (defArgs s_answers) (defBody s_answers) (defScope s_answers) .none kV doc pm an cdv ct), osl⟩)
    (c_answers : PySem.W.codeIn K cdv "answers" = true)
    (k_answers : PySem.W.keepIn K (.ref fx) = true)
    : ∃ fd : FuncData, (∀ (s : Shared) (us : List Value), us.length = (["calls"] : List Str).length → BindsTo s fd ⟨us, []⟩ ((["calls"] : List Str).zip us)) ∧ ∀ base : Heap, K.In base → base.Ns mainGlobals mg → FnOk P w K mg base CX0 12 fa fd ["calls"] (sp_end K) := by
  have e := hfa.symm.trans (PySem.W.mg_of X G a_answers)
  cases e
  have g_L := PySem.W.mg_of X G a_L
  have g_S := PySem.W.mg_of X G a_S
  have g_T := PySem.W.mg_of X G a_T
  have g_D := PySem.W.mg_of X G a_D
  generalize ead : (⟨AL, AS, AT, AD, AFREE, AALONE, ACOUNTS, AROWS⟩ : Adr) = ad
  have T : Txt K mg ad := by
    rw [← ead]
    exact {
      column := let ⟨t, e⟩ := i_COLUMN; ⟨t, PySem.W.mg_of X G e⟩
      value := let ⟨t, e⟩ := i_VALUE; ⟨t, PySem.W.mg_of X G e⟩
      given := let ⟨t, e⟩ := i_GIVEN; ⟨t, PySem.W.mg_of X G e⟩
      operation := let ⟨t, e⟩ := i_OPERATION; ⟨t, PySem.W.mg_of X G e⟩
      cast := let ⟨t, e⟩ := i_CAST; ⟨t, PySem.W.mg_of X G e⟩
      choice := let ⟨t, e⟩ := i_CHOICE; ⟨t, PySem.W.mg_of X G e⟩
      nothing := let ⟨t, e⟩ := i_NOTHING; ⟨t, PySem.W.mg_of X G e⟩
      untrue := let ⟨t, e⟩ := i_UNTRUE; ⟨t, PySem.W.mg_of X G e⟩
      true_ := let ⟨t, e⟩ := i_TRUE; ⟨t, PySem.W.mg_of X G e⟩
      and_ := let ⟨t, e⟩ := i_AND; ⟨t, PySem.W.mg_of X G e⟩
      or_ := let ⟨t, e⟩ := i_OR; ⟨t, PySem.W.mg_of X G e⟩
      is_nothing := let ⟨t, e⟩ := i_IS_NOTHING; ⟨t, PySem.W.mg_of X G e⟩
      is_true := let ⟨t, e⟩ := i_IS_TRUE; ⟨t, PySem.W.mg_of X G e⟩
      first := let ⟨t, e⟩ := i_FIRST; ⟨t, PySem.W.mg_of X G e⟩
      is_ := let ⟨t, e⟩ := i_IS; ⟨t, PySem.W.mg_of X G e⟩
      asks := let ⟨t, e⟩ := i_ASKS; ⟨t, PySem.W.mg_of X G e⟩
      elsewhere := let ⟨t, e⟩ := i_ELSEWHERE; ⟨t, PySem.W.mg_of X G e⟩
      givens := let ⟨t, e⟩ := i_GIVENS; ⟨t, PySem.W.mg_of X G e⟩
      all_rows := let ⟨t, e⟩ := i_ALL_ROWS; ⟨t, PySem.W.mg_of X G e⟩
      missing := let ⟨t, e⟩ := i_MISSING; ⟨t, PySem.W.mg_of X G e⟩
      full := let ⟨t, e⟩ := i_FULL; ⟨t, PySem.W.mg_of X G e⟩
      odd := let ⟨t, e⟩ := i_ODD; ⟨t, PySem.W.mg_of X G e⟩
      not_yet := let ⟨t, e⟩ := i_NOT_YET; ⟨t, PySem.W.mg_of X G e⟩
      nothing_needed := let ⟨t, e⟩ := i_NOTHING_NEEDED; ⟨t, PySem.W.mg_of X G e⟩
      columns := let ⟨t, e⟩ := i_COLUMNS; ⟨t, PySem.W.mg_of X G e⟩
      operations := let ⟨t, e⟩ := i_OPERATIONS; ⟨t, PySem.W.mg_of X G e⟩
      casts := let ⟨t, e⟩ := i_CASTS; ⟨t, PySem.W.mg_of X G e⟩
      most_steps := let ⟨t, e⟩ := i_MOST_STEPS; ⟨t, PySem.W.mg_of X G e⟩
      most_parts := let ⟨t, e⟩ := i_MOST_PARTS; ⟨t, PySem.W.mg_of X G e⟩
      most_choice := let ⟨t, e⟩ := i_MOST_CHOICE; ⟨t, PySem.W.mg_of X G e⟩
      most_rows := let ⟨t, e⟩ := i_MOST_ROWS; ⟨t, PySem.W.mg_of X G e⟩
      most_chosen := let ⟨t, e⟩ := i_MOST_CHOSEN; ⟨t, PySem.W.mg_of X G e⟩
      gFree := PySem.W.mg_of X G a_FREE
      tFree := w_FREE.wt
      gAlone := PySem.W.mg_of X G a_ALONE
      tAlone := w_ALONE.wt
      gCounts := PySem.W.mg_of X G a_COUNTS
      tCounts := w_COUNTS.wt
      gRows := PySem.W.mg_of X G a_ROWS
      tRows := w_ROWS.wt
      cL := ⟨pg_L, hd_L, po_L, sa_L⟩
      nL := List.forall_mem_cons.mpr ⟨n_L_steps, List.forall_mem_cons.mpr ⟨n_L_givens, List.forall_mem_cons.mpr ⟨n_L_known, fun _ h => nomatch h⟩⟩⟩
      cS := ⟨pg_S, hd_S, po_S, sa_S⟩
      nS := List.forall_mem_cons.mpr ⟨n_S_kind, List.forall_mem_cons.mpr ⟨n_S_number, List.forall_mem_cons.mpr ⟨n_S_parts, List.forall_mem_cons.mpr ⟨n_S_columns, fun _ h => nomatch h⟩⟩⟩⟩
      cT := ⟨pg_T, hd_T, po_T, sa_T⟩
      nT := List.forall_mem_cons.mpr ⟨n_T_rows, List.forall_mem_cons.mpr ⟨n_T_steps, List.forall_mem_cons.mpr ⟨n_T_is_choice, fun _ h => nomatch h⟩⟩⟩
      cD := ⟨pg_D, hd_D, po_D, sa_D⟩
      nD := List.forall_mem_cons.mpr ⟨n_D_lanes, List.forall_mem_cons.mpr ⟨n_D_numbers, List.forall_mem_cons.mpr ⟨n_D_many, List.forall_mem_cons.mpr ⟨n_D_task, List.forall_mem_cons.mpr ⟨n_D_given, fun _ h => nomatch h⟩⟩⟩⟩⟩
      b_all := PySem.W.mg_none_of X G b_all
      b_len := PySem.W.mg_none_of X G b_len
      b_min := PySem.W.mg_none_of X G b_min
      b_list := PySem.W.mg_none_of X G b_list
      b_tuple := PySem.W.mg_none_of X G b_tuple
      b_range := PySem.W.mg_none_of X G b_range
      b_enumerate := PySem.W.mg_none_of X G b_enumerate
      b_zip := PySem.W.mg_none_of X G b_zip }
  have eL : ad.L = AL := by rw [← ead]
  have eS : ad.S = AS := by rw [← ead]
  have eT : ad.T = AT := by rw [← ead]
  have eD : ad.D = AD := by rw [← ead]
  clear ead
  subst eL eS eT eD
  have FA := fun_mk (st := s_answers) l_answers c_answers k_answers
  refine ⟨PySem.W.fnOf "answers" "answers" (defArgs s_answers) (defBody s_answers) (defScope s_answers) .none kV doc pm an cdv ct, fun s us hu => match us, hu with | [_], _ => .of_eq rfl, fun base _ _ => ?_⟩
  have F_bits_of : FnG P w K mg base "bits_of" 1 ["mask"] (sp_bits_of P w K ad) := by
    obtain ⟨f, fd, F, a, k⟩ := h_bits_of
    exact ⟨f, fd, ok_bits_of F T , PySem.W.mg_of X G a, k, F.binds (ps := ["mask"]) fun _ _ _ _ _ _ us hl => match us, hl with | [_], _ => rfl⟩
  have F_Desk_has : MtG P w K mg base ad.D "has" 1 ["self", "number"] (sp_Desk_has P w K ad) := by
    obtain ⟨f, fd, F, M⟩ := h_Desk_has
    exact ⟨T.cD, f, fd, ok_Desk_has F T , M, F.binds (ps := ["self", "number"]) fun _ _ _ _ _ _ us hl => match us, hl with | [_, _], _ => rfl⟩
  have F_Desk_uses : MtG P w K mg base ad.D "uses" 2 ["self", "number"] (sp_Desk_uses P w K ad) := by
    obtain ⟨f, fd, F, M⟩ := h_Desk_uses
    exact ⟨T.cD, f, fd, ok_Desk_uses F T (F_bits_of := F_bits_of) (F_Desk_has := F_Desk_has), M, F.binds (ps := ["self", "number"]) fun _ _ _ _ _ _ us hl => match us, hl with | [_, _], _ => rfl⟩
  have F_Desk_step : MtG P w K mg base ad.D "step" 2 ["self", "number"] (sp_Desk_step P w K ad) := by
    obtain ⟨f, fd, F, M⟩ := h_Desk_step
    exact ⟨T.cD, f, fd, ok_Desk_step F T (F_Desk_has := F_Desk_has), M, F.binds (ps := ["self", "number"]) fun _ _ _ _ _ _ us hl => match us, hl with | [_, _], _ => rfl⟩
  have F_Lanes_added : MtG P w K mg base ad.L "added" 1 ["self", "step"] (sp_Lanes_added P w K ad) := by
    obtain ⟨f, fd, F, M⟩ := h_Lanes_added
    exact ⟨T.cL, f, fd, ok_Lanes_added F T , M, F.binds (ps := ["self", "step"]) fun _ _ _ _ _ _ us hl => match us, hl with | [_, _], _ => rfl⟩
  have M_Step : MkG P w K mg base ad.S "Step" 1 ["self", "kind", "number", "parts", "columns"] (sp_Step___init__ P w K ad) := by
    obtain ⟨f, fd, F, M⟩ := h_Step___init__
    exact ⟨f, fd, ok_Step___init__ F T , M, g_S, F.binds (ps := ["self", "kind", "number", "parts", "columns"]) fun _ _ _ _ _ _ us hl => match us, hl with | [_, _, _, _, _], _ => rfl⟩
  have F_Desk_have : MtG P w K mg base ad.D "have" 2 ["self", "numbers"] (sp_Desk_have P w K ad) := by
    obtain ⟨f, fd, F, M⟩ := h_Desk_have
    exact ⟨T.cD, f, fd, ok_Desk_have F T (F_Desk_has := F_Desk_has), M, F.binds (ps := ["self", "numbers"]) fun _ _ _ _ _ _ us hl => match us, hl with | [_, _], _ => rfl⟩
  have F_Desk_made : MtG P w K mg base ad.D "made" 3 ["self", "kind", "number", "parts"] (sp_Desk_made P w K ad) := by
    obtain ⟨f, fd, F, M⟩ := h_Desk_made
    exact ⟨T.cD, f, fd, ok_Desk_made F T (F_Lanes_added := F_Lanes_added) (M_Step := M_Step) (F_Desk_have := F_Desk_have), M, F.binds (ps := ["self", "kind", "number", "parts"]) fun _ _ _ _ _ _ us hl => match us, hl with | [_, _, _, _], _ => rfl⟩
  have F_Desk_choice : MtG P w K mg base ad.D "choice" 4 ["self", "parts"] (sp_Desk_choice P w K ad) := by
    obtain ⟨f, fd, F, M⟩ := h_Desk_choice
    exact ⟨T.cD, f, fd, ok_Desk_choice F T (F_Desk_made := F_Desk_made), M, F.binds (ps := ["self", "parts"]) fun _ _ _ _ _ _ us hl => match us, hl with | [_, _], _ => rfl⟩
  have F_Desk_cast : MtG P w K mg base ad.D "cast" 4 ["self", "number", "part"] (sp_Desk_cast P w K ad) := by
    obtain ⟨f, fd, F, M⟩ := h_Desk_cast
    exact ⟨T.cD, f, fd, ok_Desk_cast F T (F_Desk_made := F_Desk_made), M, F.binds (ps := ["self", "number", "part"]) fun _ _ _ _ _ _ us hl => match us, hl with | [_, _, _], _ => rfl⟩
  have F_Desk_operation : MtG P w K mg base ad.D "operation" 4 ["self", "number", "parts"] (sp_Desk_operation P w K ad) := by
    obtain ⟨f, fd, F, M⟩ := h_Desk_operation
    exact ⟨T.cD, f, fd, ok_Desk_operation F T (F_Desk_made := F_Desk_made), M, F.binds (ps := ["self", "number", "parts"]) fun _ _ _ _ _ _ us hl => match us, hl with | [_, _, _], _ => rfl⟩
  have F_Desk_given_value : MtG P w K mg base ad.D "given_value" 4 ["self", "number"] (sp_Desk_given_value P w K ad) := by
    obtain ⟨f, fd, F, M⟩ := h_Desk_given_value
    exact ⟨T.cD, f, fd, ok_Desk_given_value F T (F_Desk_made := F_Desk_made), M, F.binds (ps := ["self", "number"]) fun _ _ _ _ _ _ us hl => match us, hl with | [_, _], _ => rfl⟩
  have F_is_value : FnG P w K mg base "is_value" 1 ["number"] (sp_is_value P w K ad) := by
    obtain ⟨f, fd, F, a, k⟩ := h_is_value
    exact ⟨f, fd, ok_is_value F T , PySem.W.mg_of X G a, k, F.binds (ps := ["number"]) fun _ _ _ _ _ _ us hl => match us, hl with | [_], _ => rfl⟩
  have F_Desk_value : MtG P w K mg base ad.D "value" 4 ["self", "number"] (sp_Desk_value P w K ad) := by
    obtain ⟨f, fd, F, M⟩ := h_Desk_value
    exact ⟨T.cD, f, fd, ok_Desk_value F T (F_Desk_made := F_Desk_made) (F_is_value := F_is_value), M, F.binds (ps := ["self", "number"]) fun _ _ _ _ _ _ us hl => match us, hl with | [_, _], _ => rfl⟩
  have F_Desk_column : MtG P w K mg base ad.D "column" 4 ["self", "number"] (sp_Desk_column P w K ad) := by
    obtain ⟨f, fd, F, M⟩ := h_Desk_column
    exact ⟨T.cD, f, fd, ok_Desk_column F T (F_Desk_made := F_Desk_made), M, F.binds (ps := ["self", "number"]) fun _ _ _ _ _ _ us hl => match us, hl with | [_, _], _ => rfl⟩
  have M_Lanes : MkG P w K mg base ad.L "Lanes" 1 ["self"] (sp_Lanes___init__ P w K ad) := by
    obtain ⟨f, fd, F, M⟩ := h_Lanes___init__
    exact ⟨f, fd, ok_Lanes___init__ F T , M, g_L, F.binds (ps := ["self"]) fun _ _ _ _ _ _ us hl => match us, hl with | [_], _ => rfl⟩
  have F_Desk_fresh : MtG P w K mg base ad.D "fresh" 3 ["self"] (sp_Desk_fresh P w K ad) := by
    obtain ⟨f, fd, F, M⟩ := h_Desk_fresh
    exact ⟨T.cD, f, fd, ok_Desk_fresh F T (M_Lanes := M_Lanes), M, F.binds (ps := ["self"]) fun _ _ _ _ _ _ us hl => match us, hl with | [_], _ => rfl⟩
  have F_making : FnG P w K mg base "making" 5 ["desk", "call", "numbers", "rows"] (sp_making P w K ad) := by
    obtain ⟨f, fd, F, a, k⟩ := h_making
    exact ⟨f, fd, ok_making F T (F_Desk_uses := F_Desk_uses) (F_Desk_step := F_Desk_step) (F_Desk_choice := F_Desk_choice) (F_Desk_cast := F_Desk_cast) (F_Desk_operation := F_Desk_operation) (F_Desk_given_value := F_Desk_given_value) (F_Desk_value := F_Desk_value) (F_Desk_column := F_Desk_column) (F_Desk_fresh := F_Desk_fresh), PySem.W.mg_of X G a, k, F.binds (ps := ["desk", "call", "numbers", "rows"]) fun _ _ _ _ _ _ us hl => match us, hl with | [_, _, _, _], _ => rfl⟩
  have F_Desk_work : MtG P w K mg base ad.D "work" 2 ["self", "number"] (sp_Desk_work P w K ad) := by
    obtain ⟨f, fd, F, M⟩ := h_Desk_work
    exact ⟨T.cD, f, fd, ok_Desk_work F T (F_Desk_has := F_Desk_has), M, F.binds (ps := ["self", "number"]) fun _ _ _ _ _ _ us hl => match us, hl with | [_, _], _ => rfl⟩
  have F_Step_is_still : MtG P w K mg base ad.S "is_still" 1 ["self"] (sp_Step_is_still P w K ad) := by
    obtain ⟨f, fd, F, M⟩ := h_Step_is_still
    exact ⟨T.cS, f, fd, ok_Step_is_still F T , M, F.binds (ps := ["self"]) fun _ _ _ _ _ _ us hl => match us, hl with | [_], _ => rfl⟩
  have F_Lanes_row_of : MtG P w K mg base ad.L "row_of" 2 ["self", "number", "row"] (sp_Lanes_row_of P w K ad) := by
    obtain ⟨f, fd, F, M⟩ := h_Lanes_row_of
    exact ⟨T.cL, f, fd, ok_Lanes_row_of F T (F_Step_is_still := F_Step_is_still), M, F.binds (ps := ["self", "number", "row"]) fun _ _ _ _ _ _ us hl => match us, hl with | [_, _, _], _ => rfl⟩
  have F_Lanes_found : MtG P w K mg base ad.L "found" 3 ["self", "number", "row"] (sp_Lanes_found P w K ad) := by
    obtain ⟨f, fd, F, M⟩ := h_Lanes_found
    exact ⟨T.cL, f, fd, ok_Lanes_found F T (F_Lanes_row_of := F_Lanes_row_of), M, F.binds (ps := ["self", "number", "row"]) fun _ _ _ _ _ _ us hl => match us, hl with | [_, _, _], _ => rfl⟩
  have F_Lanes_keep : MtG P w K mg base ad.L "keep" 3 ["self", "number", "row", "value"] (sp_Lanes_keep P w K ad) := by
    obtain ⟨f, fd, F, M⟩ := h_Lanes_keep
    exact ⟨T.cL, f, fd, ok_Lanes_keep F T (F_Lanes_row_of := F_Lanes_row_of), M, F.binds (ps := ["self", "number", "row", "value"]) fun _ _ _ _ _ _ us hl => match us, hl with | [_, _, _, _], _ => rfl⟩
  have F_said_elsewhere : FnG P w K mg base "said_elsewhere" 1 ["values", "many"] (sp_said_elsewhere P w K ad) := by
    obtain ⟨f, fd, F, a, k⟩ := h_said_elsewhere
    exact ⟨f, fd, ok_said_elsewhere F T , PySem.W.mg_of X G a, k, F.binds (ps := ["values", "many"]) fun _ _ _ _ _ _ us hl => match us, hl with | [_, _], _ => rfl⟩
  have F_of_one : FnG P w K mg base "of_one" 1 ["operation", "value"] (sp_of_one P w K ad) := by
    obtain ⟨f, fd, F, a, k⟩ := h_of_one
    exact ⟨f, fd, ok_of_one F T , PySem.W.mg_of X G a, k, F.binds (ps := ["operation", "value"]) fun _ _ _ _ _ _ us hl => match us, hl with | [_, _], _ => rfl⟩
  have F_said_by_first : FnG P w K mg base "said_by_first" 1 ["values", "many"] (sp_said_by_first P w K ad) := by
    obtain ⟨f, fd, F, a, k⟩ := h_said_by_first
    exact ⟨f, fd, ok_said_by_first F T , PySem.W.mg_of X G a, k, F.binds (ps := ["values", "many"]) fun _ _ _ _ _ _ us hl => match us, hl with | [_, _], _ => rfl⟩
  have F_said_by_many : FnG P w K mg base "said_by_many" 1 ["values", "many", "stop", "all_alike"] (sp_said_by_many P w K ad) := by
    obtain ⟨f, fd, F, a, k⟩ := h_said_by_many
    exact ⟨f, fd, ok_said_by_many F T , PySem.W.mg_of X G a, k, F.binds (ps := ["values", "many", "stop", "all_alike"]) fun _ _ _ _ _ _ us hl => match us, hl with | [_, _, _, _], _ => rfl⟩
  have F_said_by_operation : FnG P w K mg base "said_by_operation" 2 ["operation", "values", "many"] (sp_said_by_operation P w K ad) := by
    obtain ⟨f, fd, F, a, k⟩ := h_said_by_operation
    exact ⟨f, fd, ok_said_by_operation F T (F_said_elsewhere := F_said_elsewhere) (F_of_one := F_of_one) (F_said_by_first := F_said_by_first) (F_said_by_many := F_said_by_many), PySem.W.mg_of X G a, k, F.binds (ps := ["operation", "values", "many"]) fun _ _ _ _ _ _ us hl => match us, hl with | [_, _, _], _ => rfl⟩
  have F_said_by_choice : FnG P w K mg base "said_by_choice" 1 ["values", "many"] (sp_said_by_choice P w K ad) := by
    obtain ⟨f, fd, F, a, k⟩ := h_said_by_choice
    exact ⟨f, fd, ok_said_by_choice F T , PySem.W.mg_of X G a, k, F.binds (ps := ["values", "many"]) fun _ _ _ _ _ _ us hl => match us, hl with | [_, _], _ => rfl⟩
  have F_said : FnG P w K mg base "said" 3 ["step", "values"] (sp_said P w K ad) := by
    obtain ⟨f, fd, F, a, k⟩ := h_said
    exact ⟨f, fd, ok_said F T (F_said_elsewhere := F_said_elsewhere) (F_said_by_operation := F_said_by_operation) (F_said_by_choice := F_said_by_choice), PySem.W.mg_of X G a, k, F.binds (ps := ["step", "values"]) fun _ _ _ _ _ _ us hl => match us, hl with | [_, _], _ => rfl⟩
  have F_Lanes_said_of : MtG P w K mg base ad.L "said_of" 4 ["self", "number", "row"] (sp_Lanes_said_of P w K ad) := by
    obtain ⟨f, fd, F, M⟩ := h_Lanes_said_of
    exact ⟨T.cL, f, fd, ok_Lanes_said_of F T (F_said := F_said) (F_Lanes_found := F_Lanes_found), M, F.binds (ps := ["self", "number", "row"]) fun _ _ _ _ _ _ us hl => match us, hl with | [_, _, _], _ => rfl⟩
  have F_Lanes_value : MtG P w K mg base ad.L "value" 5 ["self", "number", "row"] (sp_Lanes_value P w K ad) := by
    obtain ⟨f, fd, F, M⟩ := h_Lanes_value
    exact ⟨T.cL, f, fd, ok_Lanes_value F T (F_Lanes_found := F_Lanes_found) (F_Lanes_keep := F_Lanes_keep) (F_Lanes_said_of := F_Lanes_said_of), M, F.binds (ps := ["self", "number", "row"]) fun _ _ _ _ _ _ us hl => match us, hl with | [_, _, _], _ => rfl⟩
  have F_Desk_known_of : MtG P w K mg base ad.D "known_of" 6 ["self", "number", "row"] (sp_Desk_known_of P w K ad) := by
    obtain ⟨f, fd, F, M⟩ := h_Desk_known_of
    exact ⟨T.cD, f, fd, ok_Desk_known_of F T (F_Lanes_value := F_Lanes_value) (F_Desk_has := F_Desk_has), M, F.binds (ps := ["self", "number", "row"]) fun _ _ _ _ _ _ us hl => match us, hl with | [_, _, _], _ => rfl⟩
  have F_Desk_true_in : MtG P w K mg base ad.D "true_in" 6 ["self", "number", "rows"] (sp_Desk_true_in P w K ad) := by
    obtain ⟨f, fd, F, M⟩ := h_Desk_true_in
    exact ⟨T.cD, f, fd, ok_Desk_true_in F T (F_Lanes_value := F_Lanes_value), M, F.binds (ps := ["self", "number", "rows"]) fun _ _ _ _ _ _ us hl => match us, hl with | [_, _, _], _ => rfl⟩
  have F_Lanes_rows_of : MtG P w K mg base ad.L "rows_of" 2 ["self", "number", "rows"] (sp_Lanes_rows_of P w K ad) := by
    obtain ⟨f, fd, F, M⟩ := h_Lanes_rows_of
    exact ⟨T.cL, f, fd, ok_Lanes_rows_of F T (F_Step_is_still := F_Step_is_still), M, F.binds (ps := ["self", "number", "rows"]) fun _ _ _ _ _ _ us hl => match us, hl with | [_, _, _], _ => rfl⟩
  have F_Step_is_free : MtG P w K mg base ad.S "is_free" 1 ["self"] (sp_Step_is_free P w K ad) := by
    obtain ⟨f, fd, F, M⟩ := h_Step_is_free
    exact ⟨T.cS, f, fd, ok_Step_is_free F T , M, F.binds (ps := ["self"]) fun _ _ _ _ _ _ us hl => match us, hl with | [_], _ => rfl⟩
  have F_Lanes_stopped_at : MtG P w K mg base ad.L "stopped_at" 6 ["self", "number", "row"] (sp_Lanes_stopped_at P w K ad) := by
    obtain ⟨f, fd, F, M⟩ := h_Lanes_stopped_at
    exact ⟨T.cL, f, fd, ok_Lanes_stopped_at F T (F_Lanes_said_of := F_Lanes_said_of) (F_Step_is_free := F_Step_is_free) (F_Lanes_value := F_Lanes_value), M, F.binds (ps := ["self", "number", "row"]) fun _ _ _ _ _ _ us hl => match us, hl with | [_, _, _], _ => rfl⟩
  have F_Lanes_part_needed : MtG P w K mg base ad.L "part_needed" 7 ["self", "number", "rows"] (sp_Lanes_part_needed P w K ad) := by
    obtain ⟨f, fd, F, M⟩ := h_Lanes_part_needed
    exact ⟨T.cL, f, fd, ok_Lanes_part_needed F T (F_Lanes_rows_of := F_Lanes_rows_of) (F_Lanes_stopped_at := F_Lanes_stopped_at), M, F.binds (ps := ["self", "number", "rows"]) fun _ _ _ _ _ _ us hl => match us, hl with | [_, _, _], _ => rfl⟩
  have F_Lanes_unknown_rows : MtG P w K mg base ad.L "unknown_rows" 6 ["self", "number", "rows"] (sp_Lanes_unknown_rows P w K ad) := by
    obtain ⟨f, fd, F, M⟩ := h_Lanes_unknown_rows
    exact ⟨T.cL, f, fd, ok_Lanes_unknown_rows F T (F_Lanes_rows_of := F_Lanes_rows_of) (F_Lanes_value := F_Lanes_value), M, F.binds (ps := ["self", "number", "rows"]) fun _ _ _ _ _ _ us hl => match us, hl with | [_, _, _], _ => rfl⟩
  have F_Lanes_needed : MtG P w K mg base ad.L "needed" 8 ["self", "number", "rows"] (sp_Lanes_needed P w K ad) := by
    obtain ⟨f, fd, F, M⟩ := h_Lanes_needed
    exact ⟨T.cL, f, fd, ok_Lanes_needed F T (F_Lanes_part_needed := F_Lanes_part_needed) (F_Lanes_unknown_rows := F_Lanes_unknown_rows), M, F.binds (ps := ["self", "number", "rows"]) fun _ _ _ _ _ _ us hl => match us, hl with | [_, _, _], _ => rfl⟩
  have F_Desk_needed : MtG P w K mg base ad.D "needed" 9 ["self"] (sp_Desk_needed P w K ad) := by
    obtain ⟨f, fd, F, M⟩ := h_Desk_needed
    exact ⟨T.cD, f, fd, ok_Desk_needed F T (F_Desk_true_in := F_Desk_true_in) (F_Lanes_needed := F_Lanes_needed), M, F.binds (ps := ["self"]) fun _ _ _ _ _ _ us hl => match us, hl with | [_], _ => rfl⟩
  have F_Desk_got : MtG P w K mg base ad.D "got" 10 ["self"] (sp_Desk_got P w K ad) := by
    obtain ⟨f, fd, F, M⟩ := h_Desk_got
    exact ⟨T.cD, f, fd, ok_Desk_got F T (F_Desk_true_in := F_Desk_true_in) (F_Lanes_value := F_Lanes_value) (F_Desk_needed := F_Desk_needed), M, F.binds (ps := ["self"]) fun _ _ _ _ _ _ us hl => match us, hl with | [_], _ => rfl⟩
  have F_Desk_give : MtG P w K mg base ad.D "give" 10 ["self", "values"] (sp_Desk_give P w K ad) := by
    obtain ⟨f, fd, F, M⟩ := h_Desk_give
    exact ⟨T.cD, f, fd, ok_Desk_give F T (F_Lanes_keep := F_Lanes_keep) (F_is_value := F_is_value) (F_Desk_needed := F_Desk_needed), M, F.binds (ps := ["self", "values"]) fun _ _ _ _ _ _ us hl => match us, hl with | [_, _], _ => rfl⟩
  have F_Desk_need : MtG P w K mg base ad.D "need" 10 ["self"] (sp_Desk_need P w K ad) := by
    obtain ⟨f, fd, F, M⟩ := h_Desk_need
    exact ⟨T.cD, f, fd, ok_Desk_need F T (F_Desk_needed := F_Desk_needed), M, F.binds (ps := ["self"]) fun _ _ _ _ _ _ us hl => match us, hl with | [_], _ => rfl⟩
  have M_Task : MkG P w K mg base ad.T "Task" 1 ["self", "rows", "steps", "is_choice"] (sp_Task___init__ P w K ad) := by
    obtain ⟨f, fd, F, M⟩ := h_Task___init__
    exact ⟨f, fd, ok_Task___init__ F T , M, g_T, F.binds (ps := ["self", "rows", "steps", "is_choice"]) fun _ _ _ _ _ _ us hl => match us, hl with | [_, _, _, _], _ => rfl⟩
  have F_do_rise : FnG P w K mg base "do_rise" 1 ["rows"] (sp_do_rise P w K ad) := by
    obtain ⟨f, fd, F, a, k⟩ := h_do_rise
    exact ⟨f, fd, ok_do_rise F T , PySem.W.mg_of X G a, k, F.binds (ps := ["rows"]) fun _ _ _ _ _ _ us hl => match us, hl with | [_], _ => rfl⟩
  have F_Desk_are_rows : MtG P w K mg base ad.D "are_rows" 2 ["self", "rows"] (sp_Desk_are_rows P w K ad) := by
    obtain ⟨f, fd, F, M⟩ := h_Desk_are_rows
    exact ⟨T.cD, f, fd, ok_Desk_are_rows F T (F_do_rise := F_do_rise), M, F.binds (ps := ["self", "rows"]) fun _ _ _ _ _ _ us hl => match us, hl with | [_, _], _ => rfl⟩
  have F_Desk_choose : MtG P w K mg base ad.D "choose" 3 ["self", "rows", "steps"] (sp_Desk_choose P w K ad) := by
    obtain ⟨f, fd, F, M⟩ := h_Desk_choose
    exact ⟨T.cD, f, fd, ok_Desk_choose F T (M_Task := M_Task) (F_Desk_are_rows := F_Desk_are_rows) (F_Desk_have := F_Desk_have), M, F.binds (ps := ["self", "rows", "steps"]) fun _ _ _ _ _ _ us hl => match us, hl with | [_, _, _], _ => rfl⟩
  have F_Desk_run : MtG P w K mg base ad.D "run" 3 ["self", "number", "rows"] (sp_Desk_run P w K ad) := by
    obtain ⟨f, fd, F, M⟩ := h_Desk_run
    exact ⟨T.cD, f, fd, ok_Desk_run F T (M_Task := M_Task) (F_Desk_are_rows := F_Desk_are_rows) (F_Desk_has := F_Desk_has), M, F.binds (ps := ["self", "number", "rows"]) fun _ _ _ _ _ _ us hl => match us, hl with | [_, _, _], _ => rfl⟩
  have F_Lanes_forget_rows : MtG P w K mg base ad.L "forget_rows" 2 ["self"] (sp_Lanes_forget_rows P w K ad) := by
    obtain ⟨f, fd, F, M⟩ := h_Lanes_forget_rows
    exact ⟨T.cL, f, fd, ok_Lanes_forget_rows F T (F_Step_is_still := F_Step_is_still), M, F.binds (ps := ["self"]) fun _ _ _ _ _ _ us hl => match us, hl with | [_], _ => rfl⟩
  have F_Desk_batch : MtG P w K mg base ad.D "batch" 3 ["self", "many"] (sp_Desk_batch P w K ad) := by
    obtain ⟨f, fd, F, M⟩ := h_Desk_batch
    exact ⟨T.cD, f, fd, ok_Desk_batch F T (F_Lanes_forget_rows := F_Lanes_forget_rows), M, F.binds (ps := ["self", "many"]) fun _ _ _ _ _ _ us hl => match us, hl with | [_, _], _ => rfl⟩
  have F_Lanes_forget_all : MtG P w K mg base ad.L "forget_all" 1 ["self"] (sp_Lanes_forget_all P w K ad) := by
    obtain ⟨f, fd, F, M⟩ := h_Lanes_forget_all
    exact ⟨T.cL, f, fd, ok_Lanes_forget_all F T , M, F.binds (ps := ["self"]) fun _ _ _ _ _ _ us hl => match us, hl with | [_], _ => rfl⟩
  have F_Desk_give_value : MtG P w K mg base ad.D "give_value" 2 ["self", "number", "value"] (sp_Desk_give_value P w K ad) := by
    obtain ⟨f, fd, F, M⟩ := h_Desk_give_value
    exact ⟨T.cD, f, fd, ok_Desk_give_value F T (F_Lanes_forget_all := F_Lanes_forget_all) (F_is_value := F_is_value), M, F.binds (ps := ["self", "number", "value"]) fun _ _ _ _ _ _ us hl => match us, hl with | [_, _, _], _ => rfl⟩
  have F_working : FnG P w K mg base "working" 11 ["desk", "call", "numbers", "rows"] (sp_working P w K ad) := by
    obtain ⟨f, fd, F, a, k⟩ := h_working
    exact ⟨f, fd, ok_working F T (F_Desk_work := F_Desk_work) (F_Desk_known_of := F_Desk_known_of) (F_Desk_got := F_Desk_got) (F_Desk_give := F_Desk_give) (F_Desk_need := F_Desk_need) (F_Desk_choose := F_Desk_choose) (F_Desk_run := F_Desk_run) (F_Desk_batch := F_Desk_batch) (F_Desk_give_value := F_Desk_give_value), PySem.W.mg_of X G a, k, F.binds (ps := ["desk", "call", "numbers", "rows"]) fun _ _ _ _ _ _ us hl => match us, hl with | [_, _, _, _], _ => rfl⟩
  have F_rows_at : FnG P w K mg base "rows_at" 1 ["calls", "at", "many"] (sp_rows_at P w K ad) := by
    obtain ⟨f, fd, F, a, k⟩ := h_rows_at
    exact ⟨f, fd, ok_rows_at F T , PySem.W.mg_of X G a, k, F.binds (ps := ["calls", "at", "many"]) fun _ _ _ _ _ _ us hl => match us, hl with | [_, _, _], _ => rfl⟩
  have M_Desk : MkG P w K mg base ad.D "Desk" 3 ["self"] (sp_Desk___init__ P w K ad) := by
    obtain ⟨f, fd, F, M⟩ := h_Desk___init__
    exact ⟨f, fd, ok_Desk___init__ F T (M_Lanes := M_Lanes), M, g_D, F.binds (ps := ["self"]) fun _ _ _ _ _ _ us hl => match us, hl with | [_], _ => rfl⟩
  exact ok_answers FA T (F_making := F_making) (F_working := F_working) (F_rows_at := F_rows_at) (M_Desk := M_Desk)
end Wk
open PySem PySem.W PyProof.Rows
set_option maxRecDepth 100000 in
set_option maxHeartbeats 80000000 in
theorem PySem.Challenge.cw_lanesums_s01_answers_holds : PySem.Challenge.rw_lanesums_s01_answers.Holds := by
  w_on; k_headS; (case hw => exact ⟨[.list [.int 1]], by decide +kernel, by decide +kernel⟩)
  k_fillS
  refine L2.walk_specK (r := PySem.Challenge.rw_lanesums_s01_answers) (k := 12) (CX := L2.CX0) (ps := ["calls"]) (sp := Wk.sp_end) (by decide +kernel) rfl rfl ⟨rfl, by decide, by decide⟩ (fun w h Y => PySem.W.kIn_of Y) ?F ?S (fun _ _ _ _ z => z)
  case F =>
    intro w mg fa h Y KX G hmg
    refine' Wk.all_mk KX G hmg ?a_L ?a_S ?a_T ?a_D ?a_FREE ?a_ALONE ?a_COUNTS ?a_ROWS ?w_FREE ?w_ALONE ?w_COUNTS ?w_ROWS ?i_COLUMN ?i_VALUE ?i_GIVEN ?i_OPERATION ?i_CAST ?i_CHOICE ?i_NOTHING ?i_UNTRUE ?i_TRUE ?i_AND ?i_OR ?i_IS_NOTHING ?i_IS_TRUE ?i_FIRST ?i_IS ?i_ASKS ?i_ELSEWHERE ?i_GIVENS ?i_ALL_ROWS ?i_MISSING ?i_FULL ?i_ODD ?i_NOT_YET ?i_NOTHING_NEEDED ?i_COLUMNS ?i_OPERATIONS ?i_CASTS ?i_MOST_STEPS ?i_MOST_PARTS ?i_MOST_CHOICE ?i_MOST_ROWS ?i_MOST_CHOSEN ?b_all ?b_len ?b_min ?b_list ?b_tuple ?b_range ?b_enumerate ?b_zip ?pg_L ?hd_L ?po_L ?sa_L ?n_L_steps ?n_L_givens ?n_L_known ?pg_S ?hd_S ?po_S ?sa_S ?n_S_kind ?n_S_number ?n_S_parts ?n_S_columns ?pg_T ?hd_T ?po_T ?sa_T ?n_T_rows ?n_T_steps ?n_T_is_choice ?pg_D ?hd_D ?po_D ?sa_D ?n_D_lanes ?n_D_numbers ?n_D_many ?n_D_task ?n_D_given ?h_bits_of ?h_Desk_has ?h_Desk_uses ?h_Desk_step ?h_Lanes_added ?h_Step___init__ ?h_Desk_have ?h_Desk_made ?h_Desk_choice ?h_Desk_cast ?h_Desk_operation ?h_Desk_given_value ?h_is_value ?h_Desk_value ?h_Desk_column ?h_Lanes___init__ ?h_Desk_fresh ?h_making ?h_Desk_work ?h_Step_is_still ?h_Lanes_row_of ?h_Lanes_found ?h_Lanes_keep ?h_said_elsewhere ?h_of_one ?h_said_by_first ?h_said_by_many ?h_said_by_operation ?h_said_by_choice ?h_said ?h_Lanes_said_of ?h_Lanes_value ?h_Desk_known_of ?h_Desk_true_in ?h_Lanes_rows_of ?h_Step_is_free ?h_Lanes_stopped_at ?h_Lanes_part_needed ?h_Lanes_unknown_rows ?h_Lanes_needed ?h_Desk_needed ?h_Desk_got ?h_Desk_give ?h_Desk_need ?h_Task___init__ ?h_do_rise ?h_Desk_are_rows ?h_Desk_choose ?h_Desk_run ?h_Lanes_forget_rows ?h_Desk_batch ?h_Lanes_forget_all ?h_Desk_give_value ?h_working ?h_rows_at ?h_Desk___init__ ?a_answers ?l_answers ?c_answers ?k_answers
    (case a_L => k_is)
    (case a_S => k_is)
    (case a_T => k_is)
    (case a_D => k_is)
    (case a_FREE => k_is)
    (case a_ALONE => k_is)
    (case a_COUNTS => k_is)
    (case a_ROWS => k_is)
    (case w_FREE => refine ⟨_, _, _, _, by k_is, by decide, ?_⟩; (repeat (refine .cons ⟨_, rfl⟩ ?_)); exact .nil)
    (case w_ALONE => refine ⟨_, _, _, _, by k_is, by decide, ?_⟩; (repeat (refine .cons ⟨_, rfl⟩ ?_)); exact .nil)
    (case w_COUNTS => refine ⟨_, _, _, _, by k_is, by decide, ?_⟩; (repeat (refine .cons ⟨_, rfl⟩ ?_)); exact .nil)
    (case w_ROWS => refine ⟨_, _, _, _, by k_is, by decide, ?_⟩; (repeat (refine .cons ⟨_, rfl⟩ ?_)); exact .nil)
    (case i_COLUMN => exact ⟨_, by k_is⟩)
    (case i_VALUE => exact ⟨_, by k_is⟩)
    (case i_GIVEN => exact ⟨_, by k_is⟩)
    (case i_OPERATION => exact ⟨_, by k_is⟩)
    (case i_CAST => exact ⟨_, by k_is⟩)
    (case i_CHOICE => exact ⟨_, by k_is⟩)
    (case i_NOTHING => exact ⟨_, by k_is⟩)
    (case i_UNTRUE => exact ⟨_, by k_is⟩)
    (case i_TRUE => exact ⟨_, by k_is⟩)
    (case i_AND => exact ⟨_, by k_is⟩)
    (case i_OR => exact ⟨_, by k_is⟩)
    (case i_IS_NOTHING => exact ⟨_, by k_is⟩)
    (case i_IS_TRUE => exact ⟨_, by k_is⟩)
    (case i_FIRST => exact ⟨_, by k_is⟩)
    (case i_IS => exact ⟨_, by k_is⟩)
    (case i_ASKS => exact ⟨_, by k_is⟩)
    (case i_ELSEWHERE => exact ⟨_, by k_is⟩)
    (case i_GIVENS => exact ⟨_, by k_is⟩)
    (case i_ALL_ROWS => exact ⟨_, by k_is⟩)
    (case i_MISSING => exact ⟨_, by k_is⟩)
    (case i_FULL => exact ⟨_, by k_is⟩)
    (case i_ODD => exact ⟨_, by k_is⟩)
    (case i_NOT_YET => exact ⟨_, by k_is⟩)
    (case i_NOTHING_NEEDED => exact ⟨_, by k_is⟩)
    (case i_COLUMNS => exact ⟨_, by k_is⟩)
    (case i_OPERATIONS => exact ⟨_, by k_is⟩)
    (case i_CASTS => exact ⟨_, by k_is⟩)
    (case i_MOST_STEPS => exact ⟨_, by k_is⟩)
    (case i_MOST_PARTS => exact ⟨_, by k_is⟩)
    (case i_MOST_CHOICE => exact ⟨_, by k_is⟩)
    (case i_MOST_ROWS => exact ⟨_, by k_is⟩)
    (case i_MOST_CHOSEN => exact ⟨_, by k_is⟩)
    (case b_all => k_is)
    (case b_len => k_is)
    (case b_min => k_is)
    (case b_list => k_is)
    (case b_tuple => k_is)
    (case b_range => k_is)
    (case b_enumerate => k_is)
    (case b_zip => k_is)
    (case pg_L => k_is)
    (case hd_L => k_is)
    (case po_L => k_is)
    (case sa_L => k_is)
    (case n_L_steps => k_is)
    (case n_L_givens => k_is)
    (case n_L_known => k_is)
    (case pg_S => k_is)
    (case hd_S => k_is)
    (case po_S => k_is)
    (case sa_S => k_is)
    (case n_S_kind => k_is)
    (case n_S_number => k_is)
    (case n_S_parts => k_is)
    (case n_S_columns => k_is)
    (case pg_T => k_is)
    (case hd_T => k_is)
    (case po_T => k_is)
    (case sa_T => k_is)
    (case n_T_rows => k_is)
    (case n_T_steps => k_is)
    (case n_T_is_choice => k_is)
    (case pg_D => k_is)
    (case hd_D => k_is)
    (case po_D => k_is)
    (case sa_D => k_is)
    (case n_D_lanes => k_is)
    (case n_D_numbers => k_is)
    (case n_D_many => k_is)
    (case n_D_task => k_is)
    (case n_D_given => k_is)
    (case h_bits_of => exact Wk.fnAt (by k_is) (by k_is) (by k_is) (by k_is))
    (case h_Desk_has => exact Wk.mtAt (by k_is) (by k_is) (by k_is) (by k_is) (by k_is))
    (case h_Desk_uses => exact Wk.mtAt (by k_is) (by k_is) (by k_is) (by k_is) (by k_is))
    (case h_Desk_step => exact Wk.mtAt (by k_is) (by k_is) (by k_is) (by k_is) (by k_is))
    (case h_Lanes_added => exact Wk.mtAt (by k_is) (by k_is) (by k_is) (by k_is) (by k_is))
    (case h_Step___init__ => exact Wk.initAt (by k_is) (by k_is) (by k_is) (by k_is) (by k_is) (by k_is) (by k_is))
    (case h_Desk_have => exact Wk.mtAt (by k_is) (by k_is) (by k_is) (by k_is) (by k_is))
    (case h_Desk_made => exact Wk.mtAt (by k_is) (by k_is) (by k_is) (by k_is) (by k_is))
    (case h_Desk_choice => exact Wk.mtAt (by k_is) (by k_is) (by k_is) (by k_is) (by k_is))
    (case h_Desk_cast => exact Wk.mtAt (by k_is) (by k_is) (by k_is) (by k_is) (by k_is))
    (case h_Desk_operation => exact Wk.mtAt (by k_is) (by k_is) (by k_is) (by k_is) (by k_is))
    (case h_Desk_given_value => exact Wk.mtAt (by k_is) (by k_is) (by k_is) (by k_is) (by k_is))
    (case h_is_value => exact Wk.fnAt (by k_is) (by k_is) (by k_is) (by k_is))
    (case h_Desk_value => exact Wk.mtAt (by k_is) (by k_is) (by k_is) (by k_is) (by k_is))
    (case h_Desk_column => exact Wk.mtAt (by k_is) (by k_is) (by k_is) (by k_is) (by k_is))
    (case h_Lanes___init__ => exact Wk.initAt (by k_is) (by k_is) (by k_is) (by k_is) (by k_is) (by k_is) (by k_is))
    (case h_Desk_fresh => exact Wk.mtAt (by k_is) (by k_is) (by k_is) (by k_is) (by k_is))
    (case h_making => exact Wk.fnAt (by k_is) (by k_is) (by k_is) (by k_is))
    (case h_Desk_work => exact Wk.mtAt (by k_is) (by k_is) (by k_is) (by k_is) (by k_is))
    (case h_Step_is_still => exact Wk.mtAt (by k_is) (by k_is) (by k_is) (by k_is) (by k_is))
    (case h_Lanes_row_of => exact Wk.mtAt (by k_is) (by k_is) (by k_is) (by k_is) (by k_is))
    (case h_Lanes_found => exact Wk.mtAt (by k_is) (by k_is) (by k_is) (by k_is) (by k_is))
    (case h_Lanes_keep => exact Wk.mtAt (by k_is) (by k_is) (by k_is) (by k_is) (by k_is))
    (case h_said_elsewhere => exact Wk.fnAt (by k_is) (by k_is) (by k_is) (by k_is))
    (case h_of_one => exact Wk.fnAt (by k_is) (by k_is) (by k_is) (by k_is))
    (case h_said_by_first => exact Wk.fnAt (by k_is) (by k_is) (by k_is) (by k_is))
    (case h_said_by_many => exact Wk.fnAt (by k_is) (by k_is) (by k_is) (by k_is))
    (case h_said_by_operation => exact Wk.fnAt (by k_is) (by k_is) (by k_is) (by k_is))
    (case h_said_by_choice => exact Wk.fnAt (by k_is) (by k_is) (by k_is) (by k_is))
    (case h_said => exact Wk.fnAt (by k_is) (by k_is) (by k_is) (by k_is))
    (case h_Lanes_said_of => exact Wk.mtAt (by k_is) (by k_is) (by k_is) (by k_is) (by k_is))
    (case h_Lanes_value => exact Wk.mtAt (by k_is) (by k_is) (by k_is) (by k_is) (by k_is))
    (case h_Desk_known_of => exact Wk.mtAt (by k_is) (by k_is) (by k_is) (by k_is) (by k_is))
    (case h_Desk_true_in => exact Wk.mtAt (by k_is) (by k_is) (by k_is) (by k_is) (by k_is))
    (case h_Lanes_rows_of => exact Wk.mtAt (by k_is) (by k_is) (by k_is) (by k_is) (by k_is))
    (case h_Step_is_free => exact Wk.mtAt (by k_is) (by k_is) (by k_is) (by k_is) (by k_is))
    (case h_Lanes_stopped_at => exact Wk.mtAt (by k_is) (by k_is) (by k_is) (by k_is) (by k_is))
    (case h_Lanes_part_needed => exact Wk.mtAt (by k_is) (by k_is) (by k_is) (by k_is) (by k_is))
    (case h_Lanes_unknown_rows => exact Wk.mtAt (by k_is) (by k_is) (by k_is) (by k_is) (by k_is))
    (case h_Lanes_needed => exact Wk.mtAt (by k_is) (by k_is) (by k_is) (by k_is) (by k_is))
    (case h_Desk_needed => exact Wk.mtAt (by k_is) (by k_is) (by k_is) (by k_is) (by k_is))
    (case h_Desk_got => exact Wk.mtAt (by k_is) (by k_is) (by k_is) (by k_is) (by k_is))
    (case h_Desk_give => exact Wk.mtAt (by k_is) (by k_is) (by k_is) (by k_is) (by k_is))
    (case h_Desk_need => exact Wk.mtAt (by k_is) (by k_is) (by k_is) (by k_is) (by k_is))
    (case h_Task___init__ => exact Wk.initAt (by k_is) (by k_is) (by k_is) (by k_is) (by k_is) (by k_is) (by k_is))
    (case h_do_rise => exact Wk.fnAt (by k_is) (by k_is) (by k_is) (by k_is))
    (case h_Desk_are_rows => exact Wk.mtAt (by k_is) (by k_is) (by k_is) (by k_is) (by k_is))
    (case h_Desk_choose => exact Wk.mtAt (by k_is) (by k_is) (by k_is) (by k_is) (by k_is))
    (case h_Desk_run => exact Wk.mtAt (by k_is) (by k_is) (by k_is) (by k_is) (by k_is))
    (case h_Lanes_forget_rows => exact Wk.mtAt (by k_is) (by k_is) (by k_is) (by k_is) (by k_is))
    (case h_Desk_batch => exact Wk.mtAt (by k_is) (by k_is) (by k_is) (by k_is) (by k_is))
    (case h_Lanes_forget_all => exact Wk.mtAt (by k_is) (by k_is) (by k_is) (by k_is) (by k_is))
    (case h_Desk_give_value => exact Wk.mtAt (by k_is) (by k_is) (by k_is) (by k_is) (by k_is))
    (case h_working => exact Wk.fnAt (by k_is) (by k_is) (by k_is) (by k_is))
    (case h_rows_at => exact Wk.fnAt (by k_is) (by k_is) (by k_is) (by k_is))
    (case h_Desk___init__ => exact Wk.initAt (by k_is) (by k_is) (by k_is) (by k_is) (by k_is) (by k_is) (by k_is))
    (case a_answers => k_is)
    (case l_answers => k_is)
    (case c_answers => k_is)
    (case k_answers => k_is)
  case S =>
    intro K H xs a hO hwi hask hx
    cases hx with
    | cons h1 h2 =>
      cases h2
      cases h1 with
      | lst hs ha =>
        have e := L2.ints_dw a.1 _ ha
        subst e
        exact ⟨_, a.1, rfl, hs, hask, fun H' p hp => .lst (L2.SqL.of hp) (L2.dw_ints _)⟩
#print axioms PySem.Challenge.cw_lanesums_s01_answers_holds
