import PyProof.Rows.All
import Wide.All
import OpenK.AllK
import Wide.FinOn
import PyProof.EqAt
import PyProof.EqKinds
import PyProof.NeKinds
import PyProof.TupleCall
import Open.SpecLaws
import KE.OsGo
import HandS.ForSpec
import HandS.Comp
import HandS.TryMany
import HandS.ExcInit
import HandS.ExcField
import PySem.Challenge.RW_cordboard_s01_answers
set_option Elab.async false
set_option linter.all false
set_option maxRecDepth 100000
set_option maxHeartbeats 4000000
namespace Cb
open Mu29
/-! ### lamps, one line at a time -/
/-- what a line's lamp must be -/
def fixL (s : State) (l : Nat) (x : Line) : Line := if x.off = true ∧ plugged s l = false then { x with lit := some (x.lit.getD s.now) } else { x with lit := none }
def lookS (s : State) (l : Nat) : State := { s with lines := s.lines.modify l (fixL s l) }
theorem lamps_get (s : State) (l : Nat) : (lamps s).lines[l]? = (s.lines[l]?).map (fixL s l) := by
  unfold lamps fixL
  simp only [List.getElem?_map, List.getElem?_zipIdx, Option.map_map]
  cases s.lines[l]? <;> simp [Function.comp]
theorem lamps_len (s : State) : (lamps s).lines.length = s.lines.length := by
  unfold lamps
  simp
theorem fix_off (s : State) (l : Nat) (x : Line) : (fixL s l x).off = x.off := by
  unfold fixL
  split <;> rfl
theorem fix_fix (s : State) (l : Nat) (x : Line) : fixL s l (fixL s l x) = fixL s l x := by
  unfold fixL
  by_cases h : x.off = true ∧ plugged s l = false
  · simp [h]
  · simp only [h, if_false]
theorem fix_congr {s t : State} (hc : s.cords = t.cords) (hn : s.now = t.now) (l : Nat) (x : Line) : fixL s l x = fixL t l x := by
  unfold fixL plugged
  rw [hc, hn]
theorem look_cords (s : State) (l : Nat) : (lookS s l).cords = s.cords := rfl
theorem looks_keep (L : List Nat) : ∀ s : State, (L.foldl lookS s).cords = s.cords ∧ (L.foldl lookS s).now = s.now ∧ (L.foldl lookS s).talks = s.talks ∧ (L.foldl lookS s).busies = s.busies ∧ (L.foldl lookS s).misses = s.misses ∧ (L.foldl lookS s).lines.length = s.lines.length := by
  induction L with
  | nil => intro s; exact ⟨rfl, rfl, rfl, rfl, rfl, rfl⟩
  | cons a L ih =>
    intro s
    obtain ⟨h1, h2, h3, h4, h5, h6⟩ := ih (lookS s a)
    refine ⟨h1, h2, h3, h4, h5, ?_⟩
    rw [List.foldl_cons, h6]
    simp [lookS]
theorem looks_get (L : List Nat) : ∀ (s : State) (l : Nat), (L.foldl lookS s).lines[l]? = if l ∈ L then (s.lines[l]?).map (fixL s l) else s.lines[l]? := by
  induction L with
  | nil => intro s l; simp
  | cons a L ih =>
    intro s l
    rw [List.foldl_cons, ih]
    have e : ∀ x, fixL (lookS s a) l x = fixL s l x := fun x => fix_congr rfl rfl l x
    have g : (lookS s a).lines[l]? = if a = l then (s.lines[l]?).map (fixL s l) else s.lines[l]? := by
      unfold lookS
      simp only [List.getElem?_modify]
      by_cases h : a = l
      · subst h; simp
      · simp [h]
    by_cases hL : l ∈ L
    · rw [if_pos hL, if_pos (List.mem_cons_of_mem _ hL), g]
      by_cases h : a = l
      · subst h
        rw [if_pos rfl]
        cases s.lines[a]? with
        | none => rfl
        | some x =>
          simp only [Option.map_some]
          rw [e, fix_fix]
      · rw [if_neg h]
        cases s.lines[l]? with
        | none => rfl
        | some x =>
          simp only [Option.map_some]
          rw [e]
    · rw [if_neg hL, g]
      by_cases h : a = l
      · subst h
        rw [if_pos rfl, if_pos List.mem_cons_self]
      · rw [if_neg h, if_neg (fun z => (List.mem_cons.mp z).elim (fun q => h q.symm) hL)]
theorem state_ext {s t : State} (h1 : s.now = t.now) (h2 : s.lines = t.lines) (h3 : s.cords = t.cords) (h4 : s.talks = t.talks) (h5 : s.busies = t.busies) (h6 : s.misses = t.misses) : s = t := by
  cases s; cases t
  simp only at h1 h2 h3 h4 h5 h6
  subst h1 h2 h3 h4 h5 h6
  rfl
/-- where all but some lines' lamps are as they must be, it is enough to look at these -/
theorem lamps_looks {s : State} {L : List Nat} (h : ∀ (l : Nat) x, s.lines[l]? = some x → l ∉ L → fixL s l x = x) : lamps s = L.foldl lookS s := by
  obtain ⟨h1, h2, h3, h4, h5, h6⟩ := looks_keep L s
  refine state_ext h2.symm ?_ h1.symm h3.symm h4.symm h5.symm
  refine List.ext_getElem? fun l => ?_
  rw [lamps_get, looks_get]
  by_cases hl : l ∈ L
  · rw [if_pos hl]
  · rw [if_neg hl]
    cases e : s.lines[l]? with
    | none => rfl
    | some x =>
      simp only [Option.map_some]
      rw [h l x e hl]
/-- each lamp is as it must be -/
def Cons (s : State) : Prop := ∀ (l : Nat) x, s.lines[l]? = some x → fixL s l x = x
theorem lamps_cons (s : State) : Cons (lamps s) := fun l x e => by
  rw [lamps_get] at e
  cases q : s.lines[l]? with
  | none => rw [q] at e; cases e
  | some y =>
    rw [q] at e
    simp only [Option.map_some, Option.some.injEq] at e
    subst e
    rw [fix_congr (s := lamps s) (t := s) rfl rfl, fix_fix]
theorem cons_lamps {s : State} (h : Cons s) : lamps s = s := lamps_looks (L := []) fun l x e _ => h l x e
theorem Cons.iff {s : State} (h : Cons s) {l : Nat} {x : Line} (e : s.lines[l]? = some x) : x.lit.isSome = true ↔ (x.off = true ∧ plugged s l = false) := by
  have q := h l x e
  unfold fixL at q
  by_cases c : x.off = true ∧ plugged s l = false
  · rw [if_pos c] at q
    constructor
    · exact fun _ => c
    · intro _
      rw [← q]
      rfl
  · rw [if_neg c] at q
    constructor
    · intro z
      rw [← q] at z
      cases z
    · exact fun z => absurd z c
theorem cons_of {s : State} (h : ∀ (l : Nat) x, s.lines[l]? = some x → (x.lit.isSome = true ↔ (x.off = true ∧ plugged s l = false))) : Cons s := fun l x e => by
  have q := h l x e
  unfold fixL
  obtain ⟨o, li⟩ := x
  by_cases c : o = true ∧ plugged s l = false
  · rw [if_pos c]
    have z := q.mpr c
    cases li with
    | none => cases z
    | some t => rfl
  · rw [if_neg c]
    cases li with
    | none => rfl
    | some t => exact absurd (q.mp rfl) c
/-- a line's lamp hangs on its line and on whether it's plugged alone -/
theorem fix_same {s t : State} {l : Nat} {x : Line} (h : fixL s l x = x) (hp : plugged t l = plugged s l) : fixL t l x = x := by
  unfold fixL at h ⊢
  rw [hp]
  obtain ⟨o, li⟩ := x
  by_cases c : o = true ∧ plugged s l = false
  · rw [if_pos c] at h ⊢
    cases li with
    | none => exact absurd (congrArg Line.lit h) (by simp)
    | some u => rfl
  · rw [if_neg c] at h ⊢
    exact h

/-! ### a cord set -/
theorem plugged_iff (s : State) (l : Nat) : plugged s l = true ↔ ∃ (k : Nat) (c : Stand), s.cords[k]? = some c ∧ l ∈ plugs c := by
  unfold plugged
  rw [List.any_eq_true]
  constructor
  · rintro ⟨c, hc, h⟩
    obtain ⟨k, hk⟩ := List.mem_iff_getElem?.mp hc
    exact ⟨k, c, hk, List.contains_iff_mem.mp h⟩
  · rintro ⟨k, c, hk, h⟩
    exact ⟨c, List.mem_of_getElem? hk, List.contains_iff_mem.mpr h⟩
theorem set_get {α : Type} {l : List α} {k j : Nat} {x y : α} (h : (l.set k x)[j]? = some y) : (j = k ∧ y = x) ∨ (j ≠ k ∧ l[j]? = some y) := by
  rw [List.getElem?_set] at h
  by_cases e : k = j
  · rw [if_pos e] at h
    split at h
    · exact .inl ⟨e.symm, (Option.some.inj h).symm⟩
    · cases h
  · rw [if_neg e] at h
    exact .inr ⟨fun z => e z.symm, h⟩
theorem get_set_ne {α : Type} {l : List α} {k j : Nat} {x : α} (h : j ≠ k) : (l.set k x)[j]? = l[j]? := by
  rw [List.getElem?_set, if_neg (fun z => h z.symm)]
theorem get_set_eq {α : Type} {l : List α} {k : Nat} {x y : α} (h : l[k]? = some y) : (l.set k x)[k]? = some x := by
  rw [List.getElem?_set, if_pos rfl, if_pos (List.getElem?_eq_some_iff.mp h).1]
/-- a line that's in neither the old nor the new cord is plugged as before -/
theorem plugged_set {s t : State} {k l : Nat} {c c' : Stand} (hk : s.cords[k]? = some c) (ht : t.cords = s.cords.set k c') (h1 : l ∉ plugs c) (h2 : l ∉ plugs c') : plugged t l = plugged s l := by
  rw [Bool.eq_iff_iff, plugged_iff, plugged_iff]
  constructor
  · rintro ⟨j, d, hj, hd⟩
    rw [ht] at hj
    rcases set_get hj with ⟨_, e⟩ | ⟨_, e⟩
    · rw [e] at hd; exact absurd hd h2
    · exact ⟨j, d, e, hd⟩
  · rintro ⟨j, d, hj, hd⟩
    have e : j ≠ k := fun z => by
      rw [z, hk] at hj
      cases hj
      exact h1 hd
    exact ⟨j, d, by rw [ht, get_set_ne e]; exact hj, hd⟩
theorem plugged_set_same {s t : State} {k : Nat} {c c' : Stand} (hk : s.cords[k]? = some c) (ht : t.cords = s.cords.set k c') (h : plugs c = plugs c') (l : Nat) : plugged t l = plugged s l := by
  rw [Bool.eq_iff_iff, plugged_iff, plugged_iff]
  constructor
  · rintro ⟨j, d, hj, hd⟩
    rw [ht] at hj
    rcases set_get hj with ⟨_, e⟩ | ⟨_, e⟩
    · rw [e, ← h] at hd; exact ⟨k, c, hk, hd⟩
    · exact ⟨j, d, e, hd⟩
  · rintro ⟨j, d, hj, hd⟩
    by_cases e : j = k
    · rw [e, hk] at hj
      cases hj
      exact ⟨k, c', by rw [ht]; exact get_set_eq hk, by rw [← h]; exact hd⟩
    · exact ⟨j, d, by rw [ht, get_set_ne e]; exact hj, hd⟩

/-! ### the invariant -/
structure WF (s : State) : Prop where
  cons : Cons s
  inr : ∀ (k : Nat) c l, s.cords[k]? = some c → l ∈ plugs c → l < s.lines.length
  nd : ∀ (k : Nat) c, s.cords[k]? = some c → (plugs c).Nodup
  un : ∀ (i j : Nat) c d l, s.cords[i]? = some c → s.cords[j]? = some d → l ∈ plugs c → l ∈ plugs d → i = j
  nl : s.lines.length ≤ 20
  nc : s.cords.length ≤ 6
  nt : s.talks.length ≤ s.now
/-- a step that sets one cord: plugs that are new were not plugged before -/
theorem wf_set {s t : State} {k : Nat} {c c' : Stand} (w : WF s) (hk : s.cords[k]? = some c) (ht : t.cords = s.cords.set k c') (hl : t.lines.length = s.lines.length) (hn : t.talks.length ≤ t.now)
    (h1 : ∀ l ∈ plugs c', l ∈ plugs c ∨ (plugged s l = false ∧ l < s.lines.length)) (h2 : (plugs c').Nodup) : WF (lamps t) := by
  have hc : (lamps t).cords = s.cords.set k c' := ht
  have hll : (lamps t).lines.length = s.lines.length := (lamps_len t).trans hl
  have np : ∀ (j : Nat) d l, s.cords[j]? = some d → j ≠ k → l ∈ plugs d → l ∈ plugs c' → False := fun j d l hj hjk hd hl' => by
    rcases h1 l hl' with z | ⟨z, _⟩
    · exact hjk (w.un j k d c l hj hk hd z)
    · have := (plugged_iff s l).mpr ⟨j, d, hj, hd⟩
      rw [z] at this
      cases this
  refine ⟨lamps_cons t, fun j d l hj hd => ?_, fun j d hj => ?_, fun i j d e l hi hj hd he => ?_, by rw [hll]; exact w.nl, by rw [hc, List.length_set]; exact w.nc, hn⟩
  · rw [hll]
    rw [hc] at hj
    rcases set_get hj with ⟨_, q⟩ | ⟨_, q⟩
    · subst q
      rcases h1 l hd with z | ⟨_, z⟩
      · exact w.inr k c l hk z
      · exact z
    · exact w.inr j d l q hd
  · rw [hc] at hj
    rcases set_get hj with ⟨_, q⟩ | ⟨_, q⟩
    · subst q; exact h2
    · exact w.nd j d q
  · rw [hc] at hi hj
    rcases set_get hi with ⟨a, q⟩ | ⟨a, q⟩ <;> rcases set_get hj with ⟨b, r⟩ | ⟨b, r⟩
    · rw [a, b]
    · subst q; exact (np j e l r b he hd).elim
    · subst r; exact (np i d l q a hd he).elim
    · exact w.un i j d e l q r hd he
/-- one later -/
def later (s : State) : State := { s with now := s.now + 1 }
theorem wf_later {s : State} (w : WF s) : WF (later s) := by
  refine ⟨fun l x e => fix_same (w.cons l x e) rfl, w.inr, w.nd, w.un, w.nl, w.nc, ?_⟩
  show s.talks.length ≤ s.now + 1
  exact Nat.le_succ_of_le w.nt

/-! ### what the operator does -/
theorem pulled_cords (s : State) (k : Nat) (c : Stand) : ∃ c', (pulled s k c).cords = s.cords.set k c' ∧ (∀ l ∈ plugs c', l ∈ plugs c) ∧ (plugs c').Nodup ∧ (pulled s k c).lines = s.lines ∧ (pulled s k c).now = s.now ∧ (pulled s k c).talks.length ≤ s.talks.length + 1 := by
  cases c with
  | talks a b t => exact ⟨.free, rfl, (by intro l h; cases h), List.nodup_nil, rfl, rfl, (by show (s.talks ++ _).length ≤ _; simp)⟩
  | rings a b t =>
    unfold pulled
    by_cases h : isOff s a = true
    · simp only [h, if_true]
      exact ⟨.busy a, rfl, (by intro l h; simp only [plugs, List.mem_singleton] at h; subst h; exact List.mem_cons_self), (by simp [plugs]), rfl, rfl, Nat.le_succ _⟩
    · simp only [h]
      exact ⟨.free, rfl, (by intro l h; cases h), List.nodup_nil, rfl, rfl, Nat.le_succ _⟩
  | free => exact ⟨.free, rfl, (by intro l h; cases h), List.nodup_nil, rfl, rfl, Nat.le_succ _⟩
  | asks a => exact ⟨.free, rfl, (by intro l h; cases h), List.nodup_nil, rfl, rfl, Nat.le_succ _⟩
  | told a b => exact ⟨.free, rfl, (by intro l h; cases h), List.nodup_nil, rfl, rfl, Nat.le_succ _⟩
  | busy a => exact ⟨.free, rfl, (by intro l h; cases h), List.nodup_nil, rfl, rfl, Nat.le_succ _⟩
/-- a pair is pulled: its ends are looked at -/
def pullS (s : State) (k : Nat) (c : Stand) : State := (plugs c).foldl lookS (pulled s k c)
theorem pull_ok {s : State} (w : WF s) {k : Nat} {c : Stand} (hk : s.cords[k]? = some c) : lamps (pulled s k c) = pullS s k c := by
  obtain ⟨c', h1, h2, h3, h4, h5, h6⟩ := pulled_cords s k c
  refine lamps_looks fun l x e hl => ?_
  rw [h4] at e
  exact fix_same (w.cons l x e) (plugged_set hk h1 hl (fun z => hl (h2 l z)))
theorem pull_wf {s : State} (w : WF s) {k : Nat} {c : Stand} (hk : s.cords[k]? = some c) (hn : s.talks.length < s.now) : WF (lamps (pulled s k c)) := by
  obtain ⟨c', h1, h2, h3, h4, h5, h6⟩ := pulled_cords s k c
  refine wf_set w hk h1 (by rw [h4]) (by rw [h5]; omega) (fun l hl => .inl (h2 l hl)) h3
def isTold : Stand → Bool
  | .told _ _ => true
  | _ => false
/-- a pair that was told -/
def connectS (s : State) (k a b : Nat) : State := if plugged s b = true ∨ s.lines.length ≤ b then { setCord s k (.busy a) with busies := s.busies + 1 } else lookS (if isOff s b = true then setCord s k (.talks a b s.now) else setCord s k (.rings a b s.now)) b
def connects (s : State) (k a b : Nat) : State := if plugged s b = true ∨ s.lines.length ≤ b then { setCord s k (.busy a) with busies := s.busies + 1 } else if isOff s b = true then setCord s k (.talks a b s.now) else setCord s k (.rings a b s.now)
theorem connect_ok {s : State} (w : WF s) {k a b : Nat} (hk : s.cords[k]? = some (.told a b)) : lamps (connects s k a b) = connectS s k a b ∧ WF (lamps (connects s k a b)) := by
  unfold connects connectS
  by_cases h : plugged s b = true ∨ s.lines.length ≤ b
  · rw [if_pos h, if_pos h]
    refine ⟨lamps_looks (L := []) fun l x e _ => ?_, ?_⟩
    · exact fix_same (w.cons l x e) (plugged_set_same (c := .told a b) (c' := .busy a) hk rfl rfl l)
    · exact wf_set w (c' := .busy a) hk rfl rfl w.nt (fun l hl => .inl hl) (by simp [plugs])
  · rw [if_neg h, if_neg h]
    have hb : plugged s b = false := by
      cases q : plugged s b with
      | false => rfl
      | true => exact absurd (.inl q) h
    have hlt : b < s.lines.length := by
      rcases Nat.lt_or_ge b s.lines.length with z | z
      · exact z
      · exact absurd (.inr z) h
    have hab : a ≠ b := fun z => by
      have := (plugged_iff s b).mpr ⟨k, _, hk, by rw [z]; exact List.mem_singleton.mpr rfl⟩
      rw [hb] at this
      cases this
    have key : ∀ c', plugs c' = [a, b] → lamps (setCord s k c') = lookS (setCord s k c') b ∧ WF (lamps (setCord s k c')) := fun c' hc' => by
      refine ⟨lamps_looks (L := [b]) fun l x e hl => ?_, wf_set w (c' := c') hk rfl rfl w.nt (fun l hl => ?_) (by rw [hc']; simp [hab])⟩
      · refine fix_same (w.cons l x e) ?_
        have hlb : l ≠ b := fun z => hl (List.mem_singleton.mpr z)
        by_cases hla : l = a
        · rw [hla]
          have p1 : plugged (setCord s k c') a = true := (plugged_iff _ _).mpr ⟨k, c', get_set_eq hk, by rw [hc']; exact List.mem_cons_self⟩
          have p2 : plugged s a = true := (plugged_iff _ _).mpr ⟨k, _, hk, List.mem_singleton.mpr rfl⟩
          rw [p1, p2]
        · exact plugged_set (c := .told a b) (c' := c') hk rfl (by simp [plugs, hla]) (by rw [hc']; simp [hla, hlb])
      · rw [hc'] at hl
        rcases List.mem_cons.mp hl with z | z
        · exact .inl (by rw [z]; exact List.mem_singleton.mpr rfl)
        · rw [List.mem_singleton.mp z]
          exact .inr ⟨hb, hlt⟩
    by_cases ho : isOff s b = true
    · rw [if_pos ho]; exact key _ rfl
    · rw [if_neg ho]; exact key _ rfl
/-! ### the oldest lamp -/
def litN (s : State) (l : Nat) : Option Nat := (s.lines[l]?).bind fun (x : Line) => x.lit
def litLines (s : State) : List Nat := (List.range s.lines.length).filter fun l => (litN s l).isSome
def litI (s : State) (l : Nat) : Int := match litN s l with
  | none => -1
  | some t => (t : Int)
def older (s : State) (k l : Nat) : Nat := if litI s l < litI s k then l else k
def oStep (s : State) (m : Option Nat) (l : Nat) : Option Nat := match litN s l with
  | none => m
  | some t => (match m with
    | none => some l
    | some k => (match litN s k with
      | some u => if t < u then some l else some k
      | none => some l))
theorem oldest_fold (s : State) : oldest s = (List.range s.lines.length).foldl (oStep s) none := rfl
theorem oStep_filter (s : State) : ∀ (L : List Nat) (m : Option Nat), L.foldl (oStep s) m = (L.filter fun l => (litN s l).isSome).foldl (oStep s) m
  | [], _ => rfl
  | a :: L, m => by
    rw [List.foldl_cons, List.filter_cons]
    cases e : litN s a with
    | none =>
      have q : oStep s m a = m := by unfold oStep; rw [e]
      rw [q]
      exact oStep_filter s L m
    | some t =>
      simp only [Option.isSome_some, if_true, List.foldl_cons]
      exact oStep_filter s L _
theorem oStep_some {s : State} {k l t u : Nat} (hk : litN s k = some u) (hl : litN s l = some t) : oStep s (some k) l = some (older s k l) := by
  unfold oStep older litI
  simp only [hl, hk, Int.ofNat_lt]
  split <;> rfl
theorem older_lit {s : State} {k l : Nat} (hk : (litN s k).isSome = true) (hl : (litN s l).isSome = true) : (litN s (older s k l)).isSome = true := by
  unfold older
  split
  · exact hl
  · exact hk
theorem oStep_all {s : State} : ∀ (L : List Nat) (k : Nat), (litN s k).isSome = true → (∀ l ∈ L, (litN s l).isSome = true) → L.foldl (oStep s) (some k) = some (L.foldl (older s) k)
  | [], _, _, _ => rfl
  | a :: L, k, hk, h => by
    have ha := h a List.mem_cons_self
    obtain ⟨u, hu⟩ := Option.isSome_iff_exists.mp hk
    obtain ⟨t, ht⟩ := Option.isSome_iff_exists.mp ha
    rw [List.foldl_cons, List.foldl_cons, oStep_some hu ht]
    exact oStep_all L _ (older_lit hk ha) fun l hl => h l (List.mem_cons_of_mem _ hl)
theorem lit_of_mem {s : State} {l : Nat} (h : l ∈ litLines s) : l < s.lines.length ∧ (litN s l).isSome = true := by
  obtain ⟨h1, h2⟩ := List.mem_filter.mp h
  exact ⟨List.mem_range.mp h1, h2⟩
theorem oldest_none {s : State} (h : litLines s = []) : oldest s = none := by
  rw [oldest_fold, oStep_filter]
  show (litLines s).foldl (oStep s) none = none
  rw [h]
  rfl
theorem older_self (s : State) (k : Nat) : older s k k = k := by
  unfold older
  split <;> rfl
theorem oldest_some {s : State} {l0 : Nat} {L : List Nat} (h : litLines s = l0 :: L) : oldest s = some ((l0 :: L).foldl (older s) l0) := by
  have hm : ∀ l ∈ litLines s, (litN s l).isSome = true := fun l hl => (lit_of_mem hl).2
  rw [oldest_fold, oStep_filter]
  show (litLines s).foldl (oStep s) none = _
  rw [h, List.foldl_cons, List.foldl_cons, older_self]
  rw [h] at hm
  have h0 := hm l0 List.mem_cons_self
  have q : oStep s none l0 = some l0 := by
    unfold oStep
    obtain ⟨t, ht⟩ := Option.isSome_iff_exists.mp h0
    rw [ht]
  rw [q]
  exact oStep_all L l0 h0 fun l hl => hm l (List.mem_cons_of_mem _ hl)
theorem fold_older_mem (s : State) : ∀ (L : List Nat) (k : Nat), L.foldl (older s) k = k ∨ L.foldl (older s) k ∈ L
  | [], _ => .inl rfl
  | a :: L, k => by
    rw [List.foldl_cons]
    rcases fold_older_mem s L (older s k a) with h | h
    · rw [h]
      unfold older
      split
      · exact .inr List.mem_cons_self
      · exact .inl rfl
    · exact .inr (List.mem_cons_of_mem _ h)
theorem oldest_mem {s : State} {l : Nat} (h : oldest s = some l) : l ∈ litLines s := by
  cases e : litLines s with
  | nil => rw [oldest_none e] at h; cases h
  | cons l0 L =>
    rw [oldest_some e] at h
    have h := Option.some.inj h
    rw [← h]
    rcases fold_older_mem s (l0 :: L) l0 with z | z
    · rw [z]; exact List.mem_cons_self
    · exact z
theorem lit_plug {s : State} (w : WF s) {l : Nat} (h : (litN s l).isSome = true) : plugged s l = false ∧ l < s.lines.length := by
  unfold litN at h
  cases e : s.lines[l]? with
  | none => rw [e] at h; cases h
  | some x =>
    rw [e] at h
    exact ⟨((w.cons.iff e).mp h).2, (List.getElem?_eq_some_iff.mp e).1⟩
def plugS (s : State) (k l : Nat) : State := lookS (setCord s k (.asks l)) l
theorem plug_ok {s : State} (w : WF s) {k l : Nat} (hk : s.cords[k]? = some .free) (hl : (litN s l).isSome = true) : lamps (setCord s k (.asks l)) = plugS s k l ∧ WF (lamps (setCord s k (.asks l))) := by
  obtain ⟨h1, h2⟩ := lit_plug w hl
  refine ⟨lamps_looks (L := [l]) fun j x e hj => ?_, wf_set w (c' := .asks l) hk rfl rfl w.nt (fun j hj => ?_) (by simp [plugs])⟩
  · exact fix_same (w.cons j x e) (plugged_set (c := .free) (c' := .asks l) hk rfl (by simp [plugs]) hj)
  · rw [List.mem_singleton.mp hj]
    exact .inr ⟨h1, h2⟩

/-! ### the operator's one thing -/
theorem told_is {cs : List Stand} {o : Option Nat} (h : cs.findIdx? isTold = o) (f : Stand → Bool) (hf : ∀ c, f c = isTold c) : cs.findIdx? f = o := by
  rw [show f = isTold from funext hf]
  exact h
theorem acts_pull {s : State} {k : Nat} {c : Stand} (h : s.cords.findIdx? (toPull s) = some k) (hk : s.cords[k]? = some c) : acts s = pulled s k c := by
  unfold acts
  simp only [h, hk]
theorem acts_told {s : State} {k a b : Nat} (h0 : s.cords.findIdx? (toPull s) = none) (h : s.cords.findIdx? isTold = some k) (hk : s.cords[k]? = some (.told a b)) : acts s = connects s k a b := by
  unfold acts connects
  simp only [h0]
  rw [told_is h _ (by intro c; cases c <;> rfl)]
  simp only [hk]
theorem acts_free {s : State} (h0 : s.cords.findIdx? (toPull s) = none) (h : s.cords.findIdx? isTold = none) : acts s = match oldest s, freeCord s with
      | some l, some k => setCord s k (.asks l)
      | _, _ => s := by
  unfold acts
  simp only [h0]
  rw [told_is h _ (by intro c; cases c <;> rfl)]
  rfl
theorem work_pull {s : State} (w : WF s) (hn : s.talks.length < s.now) {k : Nat} {c : Stand} (h : s.cords.findIdx? (toPull s) = some k) (hk : s.cords[k]? = some c) : lamps (acts s) = pullS s k c ∧ WF (lamps (acts s)) := by
  rw [acts_pull h hk]
  exact ⟨pull_ok w hk, pull_wf w hk hn⟩
theorem work_told {s : State} (w : WF s) {k a b : Nat} (h0 : s.cords.findIdx? (toPull s) = none) (h : s.cords.findIdx? isTold = some k) (hk : s.cords[k]? = some (.told a b)) : lamps (acts s) = connectS s k a b ∧ WF (lamps (acts s)) := by
  rw [acts_told h0 h hk]
  exact connect_ok w hk
theorem isFree_eq {c : Stand} (h : isFree c = true) : c = .free := by
  cases c <;> first | rfl | cases h
theorem find_get {f : Stand → Bool} {cs : List Stand} {k : Nat} (h : cs.findIdx? f = some k) : ∃ c, cs[k]? = some c ∧ f c = true := by
  obtain ⟨hlt, hp, _⟩ := List.findIdx?_eq_some_iff_getElem.mp h
  exact ⟨cs[k], List.getElem?_eq_getElem hlt, hp⟩
theorem work_free {s : State} (w : WF s) {k l0 : Nat} {L : List Nat} (h0 : s.cords.findIdx? (toPull s) = none) (h1 : s.cords.findIdx? isTold = none) (h2 : s.cords.findIdx? isFree = some k) (hl : litLines s = l0 :: L) :
    lamps (acts s) = plugS s k ((l0 :: L).foldl (older s) l0) ∧ WF (lamps (acts s)) := by
  have ho := oldest_some hl
  have hm := (lit_of_mem (oldest_mem ho)).2
  obtain ⟨c, hc, hf⟩ := find_get h2
  rw [isFree_eq hf] at hc
  have e : acts s = setCord s k (.asks ((l0 :: L).foldl (older s) l0)) := by
    rw [acts_free h0 h1, ho]
    show (match some ((l0 :: L).foldl (older s) l0), s.cords.findIdx? isFree with
      | some l, some k => setCord s k (.asks l)
      | _, _ => s) = _
    rw [h2]
  rw [e]
  exact plug_ok w hc hm
theorem work_none {s : State} (w : WF s) (h0 : s.cords.findIdx? (toPull s) = none) (h1 : s.cords.findIdx? isTold = none) (h2 : s.cords.findIdx? isFree = none ∨ litLines s = []) : lamps (acts s) = s := by
  have e : acts s = s := by
    rw [acts_free h0 h1]
    rcases h2 with h | h
    · show (match oldest s, s.cords.findIdx? isFree with
      | some l, some k => setCord s k (.asks l)
      | _, _ => s) = _
      rw [h]
      cases oldest s <;> rfl
    · rw [oldest_none h]
  rw [e]
  exact cons_lamps w.cons
theorem tick_def (s : State) : tick s = lamps (acts (later s)) := rfl
theorem work_wf {s : State} (w : WF s) (hn : s.talks.length < s.now) : WF (lamps (acts s)) := by
  cases h0 : s.cords.findIdx? (toPull s) with
  | some k =>
    obtain ⟨c, hc, _⟩ := find_get h0
    exact (work_pull w hn h0 hc).2
  | none =>
    cases h1 : s.cords.findIdx? isTold with
    | some k =>
      obtain ⟨c, hc, hf⟩ := find_get h1
      cases c with
      | told a b => exact (work_told w h0 h1 hc).2
      | _ => cases hf
    | none =>
      cases h2 : s.cords.findIdx? isFree with
      | none => rw [work_none w h0 h1 (.inl h2)]; exact w
      | some k =>
        cases hl : litLines s with
        | nil => rw [work_none w h0 h1 (.inr hl)]; exact w
        | cons l0 L => exact (work_free w h0 h1 h2 hl).2
theorem tick_wf {s : State} (w : WF s) : WF (tick s) := work_wf (wf_later w) (Nat.lt_succ_of_le w.nt)
theorem acts_now (s : State) : (acts s).now = s.now := by
  cases h0 : s.cords.findIdx? (toPull s) with
  | some k =>
    obtain ⟨c, hc, _⟩ := find_get h0
    rw [acts_pull h0 hc]
    obtain ⟨_, _, _, _, _, h, _⟩ := pulled_cords s k c
    exact h
  | none =>
    cases h1 : s.cords.findIdx? isTold with
    | some k =>
      obtain ⟨c, hc, hf⟩ := find_get h1
      cases c with
      | told a b =>
        rw [acts_told h0 h1 hc]
        unfold connects
        split
        · rfl
        · split <;> rfl
      | _ => cases hf
    | none =>
      rw [acts_free h0 h1]
      split <;> rfl
theorem tick_now (s : State) : (tick s).now = s.now + 1 := acts_now (later s)
theorem ticks_succ : ∀ (n : Nat) (s : State), ticks (n + 1) s = tick (ticks n s)
  | 0, _ => rfl
  | n + 1, s => by
    show ticks (n + 1) (tick s) = tick (ticks n (tick s))
    exact ticks_succ n (tick s)
theorem ticks_wf {s : State} (w : WF s) : ∀ n, WF (ticks n s)
  | 0 => w
  | n + 1 => by rw [ticks_succ]; exact tick_wf (ticks_wf w n)
theorem ticks_now (s : State) : ∀ n, (ticks n s).now = s.now + n
  | 0 => rfl
  | n + 1 => by rw [ticks_succ, tick_now, ticks_now s n]; rfl
theorem acts_len (s : State) : (acts s).lines = s.lines := by
  cases h0 : s.cords.findIdx? (toPull s) with
  | some k =>
    obtain ⟨c, hc, _⟩ := find_get h0
    rw [acts_pull h0 hc]
    obtain ⟨_, _, _, _, h, _⟩ := pulled_cords s k c
    exact h
  | none =>
    cases h1 : s.cords.findIdx? isTold with
    | some k =>
      obtain ⟨c, hc, hf⟩ := find_get h1
      cases c with
      | told a b =>
        rw [acts_told h0 h1 hc]
        unfold connects
        split
        · rfl
        · split <;> rfl
      | _ => cases hf
    | none =>
      rw [acts_free h0 h1]
      split <;> rfl
theorem tick_len (s : State) : (tick s).lines.length = s.lines.length := by
  rw [tick_def, lamps_len, acts_len]
  rfl

/-! ### what is picked out of the pairs -/
def picks {α : Type} (f : Stand → Bool) : List α → List Stand → List α
  | p :: ps, c :: cs => if f c = true then p :: picks f ps cs else picks f ps cs
  | _, _ => []
theorem picks_len {α : Type} (f : Stand → Bool) : ∀ (ps : List α) (cs : List Stand), (picks f ps cs).length ≤ ps.length
  | [], _ => by simp [picks]
  | p :: ps, [] => by simp [picks]
  | p :: ps, c :: cs => by
    have ih := picks_len f ps cs
    unfold picks
    split
    · simp only [List.length_cons]; omega
    · simp only [List.length_cons]; omega
theorem picks_snoc {α : Type} (f : Stand → Bool) {p : α} {c : Stand} : ∀ (ps : List α) (cs : List Stand), ps.length = cs.length → picks f (ps ++ [p]) (cs ++ [c]) = picks f ps cs ++ (if f c = true then [p] else [])
  | [], [], _ => by simp [picks]
  | q :: ps, d :: cs, h => by
    have ih := picks_snoc (p := p) (c := c) f ps cs (Nat.succ.inj h)
    show (if f d = true then q :: picks f (ps ++ [p]) (cs ++ [c]) else picks f (ps ++ [p]) (cs ++ [c])) = (if f d = true then q :: picks f ps cs else picks f ps cs) ++ _
    rw [ih]
    split <;> rfl
  | [], _ :: _, h => by cases h
  | _ :: _, [], h => by cases h
theorem take_snoc {α : Type} : ∀ {l : List α} {i : Nat} {x : α}, l[i]? = some x → l.take (i + 1) = l.take i ++ [x]
  | [], i, x, h => by simp at h
  | a :: l, 0, x, h => by
    have e : a = x := Option.some.inj h
    subst e
    rfl
  | a :: l, i + 1, x, h => by
    have ih := take_snoc (l := l) (i := i) (x := x) h
    show a :: l.take (i + 1) = a :: l.take i ++ [x]
    rw [ih]
    rfl
theorem picks_step {α : Type} (f : Stand → Bool) {ps : List α} {cs : List Stand} (hl : ps.length = cs.length) {i : Nat} {p : α} {c : Stand} (hp : ps[i]? = some p) (hc : cs[i]? = some c) :
    picks f (ps.take (i + 1)) (cs.take (i + 1)) = picks f (ps.take i) (cs.take i) ++ (if f c = true then [p] else []) := by
  rw [take_snoc hp, take_snoc hc]
  exact picks_snoc f _ _ (by rw [List.length_take, List.length_take, hl])
theorem picks_nil {α : Type} (f : Stand → Bool) : ∀ (ps : List α) (cs : List Stand), ps.length = cs.length → picks f ps cs = [] → cs.findIdx? f = none
  | [], [], _, _ => rfl
  | q :: ps, d :: cs, h, e => by
    unfold picks at e
    by_cases hd : f d = true
    · rw [if_pos hd] at e; cases e
    · rw [if_neg hd] at e
      rw [List.findIdx?_cons, if_neg hd, picks_nil f ps cs (Nat.succ.inj h) e]
      rfl
  | [], _ :: _, h, _ => by cases h
  | _ :: _, [], h, _ => by cases h
theorem picks_cons {α : Type} (f : Stand → Bool) : ∀ (ps : List α) (cs : List Stand) (p : α) (r : List α), ps.length = cs.length → picks f ps cs = p :: r → ∃ (k : Nat) (c : Stand), cs.findIdx? f = some k ∧ cs[k]? = some c ∧ f c = true ∧ ps[k]? = some p
  | [], [], _, _, _, e => by cases e
  | q :: ps, d :: cs, p, r, h, e => by
    unfold picks at e
    by_cases hd : f d = true
    · rw [if_pos hd] at e
      cases e
      exact ⟨0, d, by rw [List.findIdx?_cons, if_pos hd], rfl, hd, rfl⟩
    · rw [if_neg hd] at e
      obtain ⟨k, c, h1, h2, h3, h4⟩ := picks_cons f ps cs p r (Nat.succ.inj h) e
      exact ⟨k + 1, c, by rw [List.findIdx?_cons, if_neg hd, h1]; rfl, h2, h3, h4⟩
  | [], _ :: _, _, _, h, _ => by cases h
  | _ :: _, [], _, _, h, _ => by cases h
theorem picks_count {α : Type} (f : Stand → Bool) : ∀ (ps : List α) (cs : List Stand), ps.length = cs.length → (picks f ps cs).length = (cs.filter f).length
  | [], [], _ => rfl
  | q :: ps, d :: cs, h => by
    have ih := picks_count f ps cs (Nat.succ.inj h)
    unfold picks
    rw [List.filter_cons]
    by_cases hd : f d = true
    · rw [if_pos hd, if_pos hd, List.length_cons, List.length_cons, ih]
    · rw [if_neg hd, if_neg hd, ih]
  | [], _ :: _, h => by cases h
  | _ :: _, [], h => by cases h
theorem find_none_any {f : Stand → Bool} {cs : List Stand} (h : cs.findIdx? f = none) : cs.any f = false := by
  rw [List.findIdx?_eq_none_iff] at h
  rw [List.any_eq_false]
  exact fun c hc => by rw [h c hc]; decide
theorem find_some_any {f : Stand → Bool} {cs : List Stand} {k : Nat} (h : cs.findIdx? f = some k) : cs.any f = true := by
  obtain ⟨c, hc, hf⟩ := find_get h
  exact List.any_eq_true.mpr ⟨c, List.mem_of_getElem? hc, hf⟩

/-! ### steps that leave the plugs -/
theorem plugged_plugs {s t : State} (h : t.cords.map plugs = s.cords.map plugs) (l : Nat) : plugged t l = plugged s l := by
  have e : ∀ u : State, plugged u l = (u.cords.map plugs).any fun p => p.contains l := fun u => by
    unfold plugged
    rw [List.any_map]
    rfl
  rw [e, e, h]
theorem map_get {s t : State} (h : t.cords.map plugs = s.cords.map plugs) {k : Nat} {c : Stand} (hk : t.cords[k]? = some c) : ∃ d, s.cords[k]? = some d ∧ plugs d = plugs c := by
  have e := congrArg (fun l => l[k]?) h
  simp only [List.getElem?_map, hk, Option.map_some] at e
  cases q : s.cords[k]? with
  | none => rw [q] at e; cases e
  | some d =>
    rw [q] at e
    exact ⟨d, rfl, (Option.some.inj e).symm⟩
theorem wf_plugs {s t : State} (w : WF s) (h : t.cords.map plugs = s.cords.map plugs) (hl : t.lines.length = s.lines.length) (hn : t.talks.length ≤ t.now) : WF (lamps t) := by
  have hll : (lamps t).lines.length = s.lines.length := (lamps_len t).trans hl
  refine ⟨lamps_cons t, fun k c l hk hc => ?_, fun k c hk => ?_, fun i j c d l hi hj hc hd => ?_, by rw [hll]; exact w.nl, ?_, hn⟩
  · obtain ⟨d, h1, h2⟩ := map_get h hk
    rw [hll]
    exact w.inr k d l h1 (by rw [h2]; exact hc)
  · obtain ⟨d, h1, h2⟩ := map_get h hk
    rw [← h2]
    exact w.nd k d h1
  · obtain ⟨c', h1, h2⟩ := map_get h hi
    obtain ⟨d', h3, h4⟩ := map_get h hj
    exact w.un i j c' d' l h1 h3 (by rw [h2]; exact hc) (by rw [h4]; exact hd)
  · have e := congrArg List.length h
    rw [List.length_map, List.length_map] at e
    show t.cords.length ≤ 6
    rw [e]
    exact w.nc
def liftC (l now : Nat) (c : Stand) : Stand := match c with
    | .rings a b _ => if b = l then .talks a b now else c
    | _ => c
theorem liftC_plugs (l now : Nat) (c : Stand) : plugs (liftC l now c) = plugs c := by
  cases c with
  | rings a b t =>
    unfold liftC
    by_cases h : b = l
    · simp only [h, if_true]; rfl
    · simp only [h, if_false]
  | _ => rfl
def setOff (s : State) (l : Nat) (v : Bool) : State := { s with lines := s.lines.modify l fun x => { x with off := v } }
def liftS (s : State) (l : Nat) : State := lookS { setOff s l true with cords := s.cords.map (liftC l s.now) } l
def hangS (s : State) (l : Nat) : State := lookS (setOff s l false) l
theorem mod_get {s : State} {l j : Nat} {v : Bool} : (setOff s l v).lines[j]? = if l = j then (s.lines[j]?).map (fun x => { x with off := v }) else s.lines[j]? := by
  unfold setOff
  simp only [List.getElem?_modify]
  by_cases h : l = j
  · subst h; simp
  · simp [h]
theorem off_of {s : State} {l : Nat} {x : Line} (e : s.lines[l]? = some x) : isOff s l = x.off := by
  unfold isOff
  rw [e]
  rfl
theorem lift_ok {s : State} (w : WF s) {l : Nat} (ho : isOff s l = false) : Mu29.lift s l = liftS s l ∧ WF (Mu29.lift s l) := by
  have hm : (s.cords.map (liftC l s.now)).map plugs = s.cords.map plugs := by
    rw [List.map_map]
    exact List.map_congr_left fun c _ => liftC_plugs l s.now c
  have e0 : Mu29.lift s l = lamps (setLine { s with cords := s.cords.map (liftC l s.now) } l ⟨true, none⟩) := rfl
  have e1 : setLine { s with cords := s.cords.map (liftC l s.now) } l ⟨true, none⟩ = { setOff s l true with cords := s.cords.map (liftC l s.now) } := by
    refine state_ext rfl ?_ rfl rfl rfl rfl
    refine List.ext_getElem? fun j => ?_
    show (s.lines.set l ⟨true, none⟩)[j]? = (setOff s l true).lines[j]?
    rw [mod_get, List.getElem?_set]
    by_cases h : l = j
    · subst h
      rw [if_pos rfl, if_pos rfl]
      cases e : s.lines[l]? with
      | none =>
        rw [if_neg (by have := List.getElem?_eq_none_iff.mp e; omega)]
        rfl
      | some x =>
        rw [if_pos (List.getElem?_eq_some_iff.mp e).1]
        rw [off_of e] at ho
        have q := w.cons.iff e
        obtain ⟨o, li⟩ := x
        cases li with
        | none => rfl
        | some t =>
          have z := (q.mp rfl).1
          simp only at ho z
          rw [ho] at z
          cases z
    · rw [if_neg h, if_neg h]
  rw [e0, e1]
  refine ⟨lamps_looks (L := [l]) fun j x e hj => ?_, wf_plugs w hm (by simp [setOff]) w.nt⟩
  have e' : (setOff s l true).lines[j]? = some x := e
  rw [mod_get, if_neg (fun z => hj (List.mem_singleton.mpr z.symm))] at e'
  exact fix_same (w.cons j x e') (plugged_plugs hm j)
theorem hang_ok {s : State} (w : WF s) (l : Nat) : Mu29.hang s l = hangS s l ∧ WF (Mu29.hang s l) := by
  have e0 : Mu29.hang s l = lamps (setLine s l ⟨false, none⟩) := rfl
  have e1 : lamps (setLine s l ⟨false, none⟩) = lamps (setOff s l false) := by
    refine state_ext rfl ?_ rfl rfl rfl rfl
    refine List.ext_getElem? fun j => ?_
    rw [lamps_get, lamps_get, mod_get]
    show ((s.lines.set l ⟨false, none⟩)[j]?).map _ = _
    rw [List.getElem?_set]
    by_cases h : l = j
    · subst h
      rw [if_pos rfl, if_pos rfl]
      cases e : s.lines[l]? with
      | none =>
        rw [if_neg (by have := List.getElem?_eq_none_iff.mp e; omega)]
        rfl
      | some x =>
        rw [if_pos (List.getElem?_eq_some_iff.mp e).1]
        simp [fixL]
    · rw [if_neg h, if_neg h]
      cases s.lines[j]? <;> rfl
  rw [e0, e1]
  refine ⟨lamps_looks (L := [l]) fun j x e hj => ?_, wf_plugs w rfl (by simp [setOff]) w.nt⟩
  rw [mod_get, if_neg (fun z => hj (List.mem_singleton.mpr z.symm))] at e
  exact fix_same (w.cons j x e) rfl
theorem ask_wf {s : State} (w : WF s) {k l b : Nat} (hk : s.cords[k]? = some (.asks l)) : WF (setCord s k (.told l b)) := by
  have hp : (setCord s k (.told l b)).cords.map plugs = s.cords.map plugs := by
    refine List.ext_getElem? fun j => ?_
    show ((s.cords.set k (.told l b)).map plugs)[j]? = _
    rw [List.getElem?_map, List.getElem?_map]
    by_cases h : j = k
    · subst h
      rw [get_set_eq hk, hk]
      rfl
    · rw [get_set_ne h]
  have c : Cons (setCord s k (.told l b)) := fun j x e => fix_same (w.cons j x e) (plugged_plugs hp j)
  have := wf_plugs (t := setCord s k (.told l b)) w hp rfl w.nt
  rw [cons_lamps c] at this
  exact this
theorem begun_wf {n k : Nat} (hn : n ≤ 20) (hk : k ≤ 6) : WF (begun n k) := by
  have hc : ∀ (j : Nat) c, (begun n k).cords[j]? = some c → c = .free := fun j c h => by
    have := List.mem_of_getElem? h
    exact (List.mem_replicate.mp this).2
  refine ⟨cons_of fun l x e => ?_, fun j c l h hl => ?_, fun j c h => ?_, fun i j c d l h _ hl => ?_, ?_, ?_, Nat.le_refl _⟩
  · have := (List.mem_replicate.mp (List.mem_of_getElem? e)).2
    subst this
    simp
  · rw [hc j c h] at hl; cases hl
  · rw [hc j c h]; exact List.nodup_nil
  · rw [hc i c h] at hl; cases hl
  · show (List.replicate n _).length ≤ 20
    rw [List.length_replicate]; exact hn
  · show (List.replicate k _).length ≤ 6
    rw [List.length_replicate]; exact hk

/-! ### what is heard -/
def ringsAt (l : Nat) : Stand → Bool
  | .rings _ b _ => b == l
  | _ => false
def has (l : Nat) (c : Stand) : Bool := (plugs c).contains l
def heardC (l : Nat) : Stand → Ans
  | .talks a b _ => [5, ((if a = l then b else a : Nat) : Int)]
  | .asks _ => [2]
  | .told _ _ => [3]
  | .rings _ _ _ => [4]
  | .busy _ => [6]
  | .free => [1]
theorem ringsAt_has {l : Nat} {c : Stand} (h : ringsAt l c = true) : has l c = true := by
  cases c with
  | rings a b t =>
    have e : b = l := by simpa [ringsAt] using h
    subst e
    simp [has, plugs]
  | _ => cases h
/-- a pair rings at the line -/
theorem hears_rings {s : State} (w : WF s) {k l : Nat} (h : s.cords.findIdx? (ringsAt l) = some k) : hears s l = [7] := by
  obtain ⟨c, hc, hr⟩ := find_get h
  have hh := ringsAt_has hr
  cases h2 : s.cords.findIdx? (has l) with
  | none =>
    have := List.findIdx?_eq_none_iff.mp h2 c (List.mem_of_getElem? hc)
    rw [this] at hh
    cases hh
  | some j =>
    obtain ⟨d, hd, hj⟩ := find_get h2
    have e : j = k := w.un j k d c l hd hc (List.contains_iff_mem.mp hj) (List.contains_iff_mem.mp hh)
    subst e
    unfold hears
    rw [show (fun (c : Stand) => (plugs c).contains l) = has l from rfl, h2]
    simp only [hc]
    cases c with
    | rings a b t =>
      have e : b = l := by simpa [ringsAt] using hr
      have n := w.nd j _ hc
      have hab : a ≠ b := by
        intro z
        subst z
        simp [plugs] at n
      subst e
      simp only [hab, if_false]
    | _ => cases hr
theorem hears_on {s : State} {l : Nat} (h : s.cords.findIdx? (ringsAt l) = none) (ho : isOff s l = false) : hears s l = [0] := by
  unfold hears
  rw [show (fun (c : Stand) => (plugs c).contains l) = has l from rfl]
  cases h2 : s.cords.findIdx? (has l) with
  | none => simp [ho]
  | some j =>
    obtain ⟨d, hd, hj⟩ := find_get h2
    simp only [hd, ho]
    cases d with
    | rings a b t =>
      have hn : ringsAt l (.rings a b t) = false := List.findIdx?_eq_none_iff.mp h _ (List.mem_of_getElem? hd)
      have hb : ¬ b = l := by simpa [ringsAt] using hn
      have ha : a = l := by
        have := List.contains_iff_mem.mp hj
        simp [plugs] at this
        rcases this with z | z
        · exact z.symm
        · exact absurd z.symm hb
      simp [ha]
    | _ => rfl
theorem hears_none {s : State} {l : Nat} (ho : isOff s l = true) (h2 : s.cords.findIdx? (has l) = none) : hears s l = [1] := by
  unfold hears
  rw [show (fun (c : Stand) => (plugs c).contains l) = has l from rfl, h2]
  simp [ho]
theorem hears_some {s : State} {l j : Nat} {d : Stand} (h : s.cords.findIdx? (ringsAt l) = none) (ho : isOff s l = true) (h2 : s.cords.findIdx? (has l) = some j) (hd : s.cords[j]? = some d) : hears s l = heardC l d := by
  obtain ⟨d', hd', hj⟩ := find_get h2
  rw [hd] at hd'
  cases hd'
  unfold hears
  rw [show (fun (c : Stand) => (plugs c).contains l) = has l from rfl, h2]
  simp only [hd, ho]
  cases d with
  | rings a b t =>
      have hn : ringsAt l (.rings a b t) = false := List.findIdx?_eq_none_iff.mp h _ (List.mem_of_getElem? hd)
      have hb : ¬ b = l := by simpa [ringsAt] using hn
      have ha : a = l := by
        have := List.contains_iff_mem.mp hj
        simp [plugs] at this
        rcases this with z | z
        · exact z.symm
        · exact absurd z.symm hb
      simp [ha, heardC]
  | free => cases hj
  | _ => rfl

/-! ### waiting -/
/-- alike but for what is noted and counted -/
def Alike (s t : State) : Prop := s.now = t.now ∧ s.lines = t.lines ∧ s.cords = t.cords
theorem alike_lamps {s t : State} (h : Alike s t) : Alike (lamps s) (lamps t) := by
  obtain ⟨n, ls, cs, tk, b, m⟩ := s
  obtain ⟨n', ls', cs', tk', b', m'⟩ := t
  obtain ⟨h1, h2, h3⟩ := h
  simp only at h1 h2 h3
  subst h1 h2 h3
  exact ⟨rfl, rfl, rfl⟩
theorem alike_acts {s t : State} (h : Alike s t) : Alike (acts s) (acts t) := by
  obtain ⟨n, ls, cs, tk, b, m⟩ := s
  obtain ⟨n', ls', cs', tk', b', m'⟩ := t
  obtain ⟨h1, h2, h3⟩ := h
  simp only at h1 h2 h3
  subst h1 h2 h3
  cases h0 : cs.findIdx? (toPull ⟨n, ls, cs, tk, b, m⟩) with
  | some k =>
    obtain ⟨c, hc, _⟩ := find_get h0
    rw [acts_pull (s := ⟨n, ls, cs, tk, b, m⟩) h0 hc, acts_pull (s := ⟨n, ls, cs, tk', b', m'⟩) h0 hc]
    cases c with
    | rings a b0 t =>
      unfold pulled
      show Alike (if isOff ⟨n, ls, cs, tk, b, m⟩ a = true then _ else _) (if isOff ⟨n, ls, cs, tk, b, m⟩ a = true then _ else _)
      split <;> exact ⟨rfl, rfl, rfl⟩
    | _ => exact ⟨rfl, rfl, rfl⟩
  | none =>
    cases h1 : cs.findIdx? isTold with
    | some k =>
      obtain ⟨c, hc, hf⟩ := find_get h1
      cases c with
      | told a b0 =>
        rw [acts_told (s := ⟨n, ls, cs, tk, b, m⟩) h0 h1 hc, acts_told (s := ⟨n, ls, cs, tk', b', m'⟩) h0 h1 hc]
        unfold connects
        show Alike (if plugged ⟨n, ls, cs, tk, b, m⟩ b0 = true ∨ ls.length ≤ b0 then _ else _) (if plugged ⟨n, ls, cs, tk, b, m⟩ b0 = true ∨ ls.length ≤ b0 then _ else _)
        split
        · exact ⟨rfl, rfl, rfl⟩
        · show Alike (if isOff ⟨n, ls, cs, tk, b, m⟩ b0 = true then _ else _) (if isOff ⟨n, ls, cs, tk, b, m⟩ b0 = true then _ else _)
          split <;> exact ⟨rfl, rfl, rfl⟩
      | _ => cases hf
    | none =>
      rw [acts_free (s := ⟨n, ls, cs, tk, b, m⟩) h0 h1, acts_free (s := ⟨n, ls, cs, tk', b', m'⟩) h0 h1]
      rw [show oldest ⟨n, ls, cs, tk', b', m'⟩ = oldest ⟨n, ls, cs, tk, b, m⟩ from rfl, show freeCord ⟨n, ls, cs, tk', b', m'⟩ = freeCord ⟨n, ls, cs, tk, b, m⟩ from rfl]
      cases oldest ⟨n, ls, cs, tk, b, m⟩ <;> cases freeCord ⟨n, ls, cs, tk, b, m⟩ <;> exact ⟨rfl, rfl, rfl⟩
theorem alike_tick {s t : State} (h : Alike s t) : Alike (tick s) (tick t) := by
  rw [tick_def, tick_def]
  refine alike_lamps (alike_acts ?_)
  obtain ⟨h1, h2, h3⟩ := h
  exact ⟨by show s.now + 1 = t.now + 1; rw [h1], h2, h3⟩
theorem alike_ticks {s t : State} (h : Alike s t) : ∀ n, Alike (ticks n s) (ticks n t)
  | 0 => h
  | n + 1 => by rw [ticks_succ, ticks_succ]; exact alike_tick (alike_ticks h n)
theorem alike_plugged {s t : State} (h : Alike s t) (l : Nat) : plugged s l = plugged t l := by
  unfold plugged
  rw [h.2.2]
/-- a board like it, on which nothing is noted -/
def copyS (s : State) : State := { s with talks := [], busies := 0, misses := 0 }
theorem copy_alike (s : State) : Alike (copyS s) s := ⟨rfl, rfl, rfl⟩
theorem copy_wf {s : State} (w : WF s) : WF (copyS s) := by
  refine ⟨fun l x e => fix_same (w.cons l x e) rfl, w.inr, w.nd, w.un, w.nl, w.nc, Nat.zero_le _⟩
theorem answered_go {s : State} {l : Nat} : ∀ (i : Nat), i ≤ 101 → (∀ j, j < i → plugged (ticks j s) l = false) → answered l 101 0 s = answered l (101 - i) i (ticks i s)
  | 0, _, _ => rfl
  | i + 1, hi, h => by
    rw [answered_go i (by omega) fun j hj => h j (by omega)]
    have e : 101 - i = (101 - (i + 1)) + 1 := by omega
    rw [e, ticks_succ]
    show (if plugged (ticks i s) l = true then some i else answered l (101 - (i + 1)) (i + 1) (tick (ticks i s))) = _
    rw [h i (by omega)]
    rfl
theorem answered_some {s : State} {l i : Nat} (hi : i ≤ 100) (h : ∀ j, j < i → plugged (ticks j s) l = false) (hp : plugged (ticks i s) l = true) : answered l 101 0 s = some i := by
  rw [answered_go i (by omega) h]
  have e : 101 - i = (100 - i) + 1 := by omega
  rw [e]
  show (if plugged (ticks i s) l = true then some i else _) = _
  rw [hp]
  rfl
theorem answered_none {s : State} {l : Nat} (h : ∀ j, j < 101 → plugged (ticks j s) l = false) : answered l 101 0 s = none := by
  rw [answered_go 101 (Nat.le_refl _) h]
  rfl
end Cb

namespace Cb
open Mu29
theorem step_begin_no {o : Abs} {n k : Nat} (h : ¬ (2 ≤ n ∧ n ≤ 20 ∧ 1 ≤ k ∧ k ≤ 6)) : step o (.begin_ n k) = (o, [-1]) := by
  show (if n < 2 ∨ (20 < n ∨ (k = 0 ∨ 6 < k)) then (o, [-1]) else (some (begun n k), [0])) = _
  rw [if_pos (by omega)]
theorem step_begin {o : Abs} {n k : Nat} (h : 2 ≤ n ∧ n ≤ 20 ∧ 1 ≤ k ∧ k ≤ 6) : step o (.begin_ n k) = (some (begun n k), [0]) := by
  show (if n < 2 ∨ (20 < n ∨ (k = 0 ∨ 6 < k)) then (o, [-1]) else (some (begun n k), [0])) = _
  rw [if_neg (by omega)]
section
variable {s : State} {l : Nat}
theorem step_lift_far (h : s.lines.length ≤ l) : step (some s) (.lift l) = (some s, [-2]) := by
  show (if s.lines.length ≤ l then (some s, [-2]) else _) = _
  rw [if_pos h]
theorem step_lift_off (h : l < s.lines.length) (ho : isOff s l = true) : step (some s) (.lift l) = (some s, [-4]) := by
  show (if s.lines.length ≤ l then (some s, [-2]) else if isOff s l = true then (some s, [-4]) else _) = _
  rw [if_neg (by omega), if_pos ho]
theorem step_lift (h : l < s.lines.length) (ho : isOff s l = false) : step (some s) (.lift l) = (some (lift s l), hears (lift s l) l) := by
  show (if s.lines.length ≤ l then (some s, [-2]) else if isOff s l = true then (some s, [-4]) else (some (lift s l), hears (lift s l) l)) = _
  rw [if_neg (by omega), if_neg (by rw [ho]; decide)]
theorem step_hang_far (h : s.lines.length ≤ l) : step (some s) (.hang l) = (some s, [-2]) := by
  show (if s.lines.length ≤ l then (some s, [-2]) else _) = _
  rw [if_pos h]
theorem step_hang_on (h : l < s.lines.length) (ho : isOff s l = false) : step (some s) (.hang l) = (some s, [-4]) := by
  show (if s.lines.length ≤ l then (some s, [-2]) else if isOff s l = false then (some s, [-4]) else _) = _
  rw [if_neg (by omega), if_pos ho]
theorem step_hang (h : l < s.lines.length) (ho : isOff s l = true) : step (some s) (.hang l) = (some (hang s l), [0]) := by
  show (if s.lines.length ≤ l then (some s, [-2]) else if isOff s l = false then (some s, [-4]) else (some (hang s l), [0])) = _
  rw [if_neg (by omega), if_neg (by rw [ho]; decide)]
def asksAt (l : Nat) (c : Stand) : Bool := c == .asks l
theorem step_ask_far {b : Nat} (h : s.lines.length ≤ l) : step (some s) (.ask l b) = (some s, [-2]) := by
  show (if s.lines.length ≤ l then (some s, [-2]) else _) = _
  rw [if_pos h]
theorem step_ask_none {b : Nat} (h : l < s.lines.length) (hf : s.cords.findIdx? (asksAt l) = none) : step (some s) (.ask l b) = (some s, [-4]) := by
  show (if s.lines.length ≤ l then (some s, [-2]) else match s.cords.findIdx? (asksAt l) with
    | some k => if isOff s l = false then (some s, [-4]) else (some (setCord s k (.told l b)), [0])
    | none => (some s, [-4])) = _
  rw [if_neg (by omega), hf]
theorem step_ask_on {b k : Nat} (h : l < s.lines.length) (hf : s.cords.findIdx? (asksAt l) = some k) (ho : isOff s l = false) : step (some s) (.ask l b) = (some s, [-4]) := by
  show (if s.lines.length ≤ l then (some s, [-2]) else match s.cords.findIdx? (asksAt l) with
    | some k => if isOff s l = false then (some s, [-4]) else (some (setCord s k (.told l b)), [0])
    | none => (some s, [-4])) = _
  rw [if_neg (by omega), hf]
  show (if isOff s l = false then (some s, [-4]) else _) = _
  rw [if_pos ho]
theorem step_ask {b k : Nat} (h : l < s.lines.length) (hf : s.cords.findIdx? (asksAt l) = some k) (ho : isOff s l = true) : step (some s) (.ask l b) = (some (setCord s k (.told l b)), [0]) := by
  show (if s.lines.length ≤ l then (some s, [-2]) else match s.cords.findIdx? (asksAt l) with
    | some k => if isOff s l = false then (some s, [-4]) else (some (setCord s k (.told l b)), [0])
    | none => (some s, [-4])) = _
  rw [if_neg (by omega), hf]
  show (if isOff s l = false then (some s, [-4]) else (some (setCord s k (.told l b)), [0])) = _
  rw [if_neg (by rw [ho]; decide)]
theorem asksAt_eq {c : Stand} (h : asksAt l c = true) : c = .asks l := by
  cases c with
  | asks a =>
    have e : (a == l) = true := h
    rw [eq_of_beq e]
  | _ => cases h
theorem step_go_no {n : Nat} (h : ¬ (n ≤ 200 ∧ s.now + n ≤ 1000000)) : step (some s) (.go n) = (some s, [-1]) := by
  show (if 200 < n ∨ 1000000 < s.now + n then (some s, [-1]) else _) = _
  rw [if_pos (by omega)]
theorem step_go {n : Nat} (h : n ≤ 200 ∧ s.now + n ≤ 1000000) : step (some s) (.go n) = (some (ticks n s), [((ticks n s).now : Int)]) := by
  show (if 200 < n ∨ 1000000 < s.now + n then (some s, [-1]) else (some (ticks n s), [((ticks n s).now : Int)])) = _
  rw [if_neg (by omega)]
theorem step_line_far (h : s.lines.length ≤ l) : step (some s) (.line l) = (some s, [-2]) := by
  show (some s, if s.lines.length ≤ l then [-2] else _) = _
  rw [if_pos h]
theorem step_line (h : l < s.lines.length) : step (some s) (.line l) = (some s, (if isOff s l = true then 1 else 0) :: hears s l) := by
  show (some s, if s.lines.length ≤ l then [-2] else (if isOff s l = true then 1 else 0) :: hears s l) = _
  rw [if_neg (by omega)]
theorem step_cords : step (some s) .cords = (some s, s.cords.flatMap standNums) := rfl
theorem nums_map (xs : List Nat) : nums xs = xs.map fun (n : Nat) => (n : Int) := rfl
theorem litN_getD {t : Nat} (h : litN s l = some t) : ((litN s l).getD 0 : Int) = litI s l := by
  unfold litI
  rw [h]
  rfl
theorem step_lamps : step (some s) .lamps = (some s, ((litLines s).length : Int) :: (litLines s).flatMap fun (i : Nat) => [(i : Int), litI s i]) := by
  show (some s, nums ((litLines s).length :: (litLines s).flatMap fun (i : Nat) => [i, (litN s i).getD 0])) = _
  rw [nums_map, List.map_cons, List.map_flatMap]
  refine congrArg (fun x => (some s, ((litLines s).length : Int) :: x)) ?_
  have key : ∀ (L : List Nat), (∀ i ∈ L, (litN s i).isSome = true) → (L.flatMap fun (i : Nat) => ([i, (litN s i).getD 0] : List Nat).map fun (n : Nat) => (n : Int)) = L.flatMap fun (i : Nat) => [(i : Int), litI s i] := by
    intro L
    induction L with
    | nil => intro _; rfl
    | cons a L ih =>
      intro h
      rw [List.flatMap_cons, List.flatMap_cons, ih fun i hi => h i (List.mem_cons_of_mem _ hi)]
      obtain ⟨t, ht⟩ := Option.isSome_iff_exists.mp (h a List.mem_cons_self)
      have e : (((litN s a).getD 0 : Nat) : Int) = litI s a := by
        unfold litI
        rw [ht]
        rfl
      show [(a : Int), (((litN s a).getD 0 : Nat) : Int)] ++ _ = _
      rw [e]
  exact key _ fun i hi => (lit_of_mem hi).2
def talkN (t : Talk) : List Int := [(t.a : Int), (t.b : Int), (t.lo : Int), (t.hi : Int)]
theorem step_talks : step (some s) .talks = (some s, (s.talks.length : Int) :: s.talks.flatMap talkN) := rfl
theorem step_wait_far (h : s.lines.length ≤ l) : step (some s) (.wait l) = (some s, [-2]) := by
  show (if s.lines.length ≤ l then (some s, [-2]) else _) = _
  rw [if_pos h]
theorem step_wait_dark (h : l < s.lines.length) (hl : litN s l = none) : step (some s) (.wait l) = (some s, [-4]) := by
  show (if s.lines.length ≤ l then (some s, [-2]) else if (litN s l).isNone = true then (some s, [-4]) else _) = _
  rw [if_neg (by omega), if_pos (by rw [hl]; rfl)]
theorem step_wait (h : l < s.lines.length) (hl : (litN s l).isSome = true) : step (some s) (.wait l) = (some s, match answered l 101 0 s with
    | some n => [(n : Int)]
    | none => [-6]) := by
  show (if s.lines.length ≤ l then (some s, [-2]) else if (litN s l).isNone = true then (some s, [-4]) else _) = _
  rw [if_neg (by omega), if_neg (by cases q : litN s l with | none => rw [q] at hl; cases hl | some t => simp)]
  rfl
theorem step_sums : step (some s) .sums = (some s, [(s.now : Int), (s.talks.length : Int), (s.busies : Int), (s.misses : Int), ((s.cords.filter fun (c : Stand) => isFree c).length : Int)]) := rfl
end
/-- a call's number and its numbers -/
inductive CallIs : Int → List Int → Call → Prop
  | begin_ (n k : Nat) : CallIs 0 [(n : Int), (k : Int)] (.begin_ n k)
  | lift (l : Nat) : CallIs 1 [(l : Int)] (.lift l)
  | hang (l : Nat) : CallIs 2 [(l : Int)] (.hang l)
  | ask (l b : Nat) : CallIs 3 [(l : Int), (b : Int)] (.ask l b)
  | go (n : Nat) : CallIs 4 [(n : Int)] (.go n)
  | line (l : Nat) : CallIs 5 [(l : Int)] (.line l)
  | cords : CallIs 6 [] .cords
  | lamps : CallIs 7 [] .lamps
  | talks : CallIs 8 [] .talks
  | wait (l : Nat) : CallIs 9 [(l : Int)] (.wait l)
  | sums : CallIs 10 [] .sums
theorem step_nobody {p : Int} {as : List Int} {c : Call} (h : CallIs p as c) (hp : p ≠ 0) : step none c = (none, [-9]) := by
  cases h with
  | begin_ n k => exact absurd rfl hp
  | _ => rfl
end Cb

namespace Cb
open Mu29
/-- a list of numbers as calls -/
inductive Parse : List Int → List Call → Prop
  | nil : Parse [] []
  | cons {p : Int} {as t : List Int} {c : Call} {cs : List Call} : CallIs p as c → Parse t cs → Parse (p :: (as ++ t)) (c :: cs)
/-- what is answered, number by number -/
def outs : Abs → List Call → List Int
  | _, [] => []
  | o, c :: cs => ((step o c).2.length : Int) :: ((step o c).2 ++ outs (step o c).1 cs)
theorem whole_id (c : List (List Int)) : PyMu29.whole c = c := by
  unfold PyMu29.whole
  split <;> rfl
theorem whole_map (cs : List (List (List Int))) : cs.map PyMu29.whole = cs := by
  rw [List.map_congr_left fun c _ => whole_id c]
  exact List.map_id' _
theorem fifty_nat {z : Int} (h : Mu29Neutral.fifty z = true) : ∃ n : Nat, z = (n : Int) := by
  unfold Mu29Neutral.fifty NeutralIO.within at h
  simp at h
  exact ⟨z.toNat, by omega⟩
theorem within_nat {z hi : Int} (h : NeutralIO.within z 0 hi = true) : ∃ n : Nat, z = (n : Int) := by
  unfold NeutralIO.within at h
  simp at h
  exact ⟨z.toNat, by omega⟩
/-- one call that is asked: its form -/
theorem asked_form {c : List (List Int)} (h : Mu29Neutral.asked1 c = true) : ∃ (p : Int) (as : List Int) (x : Call), c = [p :: as] ∧ CallIs p as x ∧ ∀ o, Mu29Neutral.step o c = step o x := by
  unfold Mu29Neutral.asked1 at h
  split at h
  · simp only [Bool.and_eq_true] at h
    obtain ⟨n, rfl⟩ := fifty_nat h.1
    obtain ⟨k, rfl⟩ := fifty_nat h.2
    exact ⟨0, _, _, rfl, .begin_ n k, fun o => rfl⟩
  · obtain ⟨l, rfl⟩ := fifty_nat h
    exact ⟨1, _, _, rfl, .lift l, fun o => rfl⟩
  · obtain ⟨l, rfl⟩ := fifty_nat h
    exact ⟨2, _, _, rfl, .hang l, fun o => rfl⟩
  · simp only [Bool.and_eq_true] at h
    obtain ⟨l, rfl⟩ := fifty_nat h.1
    obtain ⟨b, rfl⟩ := fifty_nat h.2
    exact ⟨3, _, _, rfl, .ask l b, fun o => rfl⟩
  · obtain ⟨n, rfl⟩ := within_nat h
    exact ⟨4, _, _, rfl, .go n, fun o => rfl⟩
  · obtain ⟨l, rfl⟩ := fifty_nat h
    exact ⟨5, _, _, rfl, .line l, fun o => rfl⟩
  · exact ⟨6, _, _, rfl, .cords, fun o => rfl⟩
  · exact ⟨7, _, _, rfl, .lamps, fun o => rfl⟩
  · exact ⟨8, _, _, rfl, .talks, fun o => rfl⟩
  · obtain ⟨l, rfl⟩ := fifty_nat h
    exact ⟨9, _, _, rfl, .wait l, fun o => rfl⟩
  · exact ⟨10, _, _, rfl, .sums, fun o => rfl⟩
  · cases h
/-- no call has rows -/
theorem shape_rows {p : Int} {n k : Nat} (h : PyMu29.shape p = some (n, k)) : k = 0 := by
  unfold PyMu29.shape at h
  repeat' split at h
  all_goals first | (cases h; rfl) | cases h
theorem call_form {l : List Int} {c : List (List Int)} {t : List Int} (h : PyFlat.call PyMu29.shape l = some (c, t)) : ∃ p as, l = p :: (as ++ t) ∧ c = [p :: as] := by
  cases l with
  | nil => cases h
  | cons p r =>
    unfold PyFlat.call at h
    simp only at h
    cases hs : PyMu29.shape p with
    | none => rw [hs] at h; cases h
    | some nk =>
      obtain ⟨n, k⟩ := nk
      have hk := shape_rows hs
      subst hk
      rw [hs] at h
      simp only [PyFlat.rows] at h
      split at h
      · cases h
      · cases h
        exact ⟨p, r.take n, by rw [List.take_append_drop], rfl⟩
theorem parse_of : ∀ (f : Nat) (l : List Int) (raw : List (List (List Int))), PyFlat.calls PyMu29.shape f l = some raw → raw.all Mu29Neutral.asked1 = true → ∃ cs, Parse l cs ∧ ∀ o, PyFlat.told (PyFlat.played Mu29Neutral.step o raw) = outs o cs
  | f, [], raw, h, _ => by
    have e : raw = [] := by
      cases f <;> (cases h; rfl)
    subst e
    exact ⟨[], .nil, fun o => rfl⟩
  | 0, p :: r, raw, h, _ => by cases h
  | f + 1, p :: r, raw, h, ha => by
    unfold PyFlat.calls at h
    cases hc : PyFlat.call PyMu29.shape (p :: r) with
    | none => rw [hc] at h; cases h
    | some ct =>
      obtain ⟨c, t⟩ := ct
      rw [hc] at h
      simp only at h
      cases ht : PyFlat.calls PyMu29.shape f t with
      | none => rw [ht] at h; cases h
      | some cs' =>
        rw [ht] at h
        cases h
        rw [List.all_cons, Bool.and_eq_true] at ha
        obtain ⟨p', as, e1, e2⟩ := call_form hc
        obtain ⟨p2, as2, x, e3, hx, hst⟩ := asked_form ha.1
        rw [e2] at e3
        cases e3
        obtain ⟨cs, hP, hO⟩ := parse_of f t cs' ht ha.2
        rw [e1]
        refine ⟨x :: cs, .cons hx hP, fun o => ?_⟩
        show PyFlat.told ((Mu29Neutral.step o c).2 :: PyFlat.played Mu29Neutral.step (Mu29Neutral.step o c).1 cs') = _
        rw [hst o]
        show ((step o x).2.length : Int) :: (step o x).2 ++ PyFlat.told (PyFlat.played Mu29Neutral.step (step o x).1 cs') = _
        rw [hO]
        rfl
theorem asked_parse {l : List Int} (h : PyMu29.answers_asked l = true) : ∃ cs, Parse l cs ∧ PyMu29.answers l = outs none cs ∧ (outs none cs).length ≤ 10000000 := by
  unfold PyMu29.answers_asked at h
  cases hc : PyFlat.calls PyMu29.shape l.length l with
  | none => rw [hc] at h; cases h
  | some raw =>
    rw [hc] at h
    simp only [Bool.and_eq_true] at h
    obtain ⟨⟨⟨⟨_, _⟩, _⟩, h4⟩, h5⟩ := h
    rw [whole_map] at h4
    unfold Mu29Neutral.asked at h4
    simp only [Bool.and_eq_true] at h4
    obtain ⟨cs, hP, hO⟩ := parse_of l.length l raw hc h4.2.2
    have e : PyMu29.answers l = outs none cs := by
      unfold PyMu29.answers PyMu29.calls
      rw [hc]
      show PyFlat.told (PyFlat.played Mu29Neutral.step Mu29Neutral.start (raw.map PyMu29.whole)) = _
      rw [whole_map]
      exact hO none
    refine ⟨cs, hP, e, ?_⟩
    unfold PyFlat.short at h5
    rw [e] at h5
    exact of_decide_eq_true h5
end Cb

/-! ## the text by places -/
namespace Cb
open PySem PySem.Spec PyProof.Rows L2
def top (i : Nat) : Stmt := PySem.Challenge.pw_cordboard_s01_answers.main.body.getD i (.Pass ⟨0, 0, 0, 0⟩)
/-! ## rules of our own: a list against an empty one; calls whose addresses are hidden -/
section
variable {X : Cx}
def rNeNil (K : PySem.W.Frag) : R2 := fun x y H Q => ∃ a b xs, x = .ref a ∧ y = .ref b ∧ SqL K H a xs ∧ SqL K H b [] ∧ Q (.bl (!xs.isEmpty)) H
def rEqNil (K : PySem.W.Frag) : R2 := fun x y H Q => ∃ a b xs, x = .ref a ∧ y = .ref b ∧ SqL K H a xs ∧ SqL K H b [] ∧ Q (.bl xs.isEmpty) H
theorem nil_size {its : List Value} (r : Vals [] its) : its.toArray.size = 0 := by
  have := r.length
  simp at this ⊢
  exact List.length_eq_zero_iff.mp this.symm
theorem op_neNil (hu : X.A.units < cLine) : OpR X (compareOp .NotEq) (rNeNil X.K) := by
  intro pins s σ H x y v u Q I rx ry h
  obtain ⟨a, b, xs, rfl, rfl, ha, hb, q⟩ := h
  obtain rfl : v = Value.ref a := rx
  obtain rfl : u = Value.ref b := ry
  obtain ⟨its, r1, p1, z1⟩ := I.list ha
  obtain ⟨jts, r2, p2, z2⟩ := I.list hb
  have e2 := nil_size r2
  cases xs with
  | nil =>
    have e1 := nil_size r1
    refine SeqAt.RcNeAt.lists (e := fun _ => true) p1.isList p2.isList (by rw [e1, e2]) hu (fun j h1 _ => absurd h1 (by omega)) X.prog X.w X.xe _ ?_
    refine ⟨.bl false, H, I, ?_, q⟩
    rw [e1]
    rfl
  | cons x xs =>
    have e1 : its.toArray.size ≠ 0 := by
      have := r1.length
      simp at this ⊢
      intro z
      rw [z] at this
      cases this
    refine SeqAt.RcNeAt.lists_lengths p1.isList p2.isList (by rw [e2]; exact bne_iff_ne.mpr e1) hu X.prog X.w X.xe _ ?_
    exact ⟨.bl true, H, I, rfl, q⟩
theorem op_eqNil (hu : X.A.units < cLine) : OpR X (compareOp .Eq) (rEqNil X.K) := by
  intro pins s σ H x y v u Q I rx ry h
  obtain ⟨a, b, xs, rfl, rfl, ha, hb, q⟩ := h
  obtain rfl : v = Value.ref a := rx
  obtain rfl : u = Value.ref b := ry
  obtain ⟨its, r1, p1, z1⟩ := I.list ha
  obtain ⟨jts, r2, p2, z2⟩ := I.list hb
  have e2 := nil_size r2
  cases xs with
  | nil =>
    have e1 := nil_size r1
    refine SeqAt.RcAt.lists (e := fun _ => true) p1.isList p2.isList (by rw [e1, e2]) hu (fun j h1 _ => absurd h1 (by omega)) X.prog X.w X.xe _ ?_
    refine ⟨.bl true, H, I, ?_, q⟩
    rw [e1]
    rfl
  | cons x xs =>
    have e1 : its.toArray.size ≠ 0 := by
      have := r1.length
      simp at this ⊢
      intro z
      rw [z] at this
      cases this
    refine SeqAt.RcAt.lists_lengths p1.isList p2.isList (by rw [e2]; exact bne_iff_ne.mpr e1) hu X.prog X.w X.xe _ ?_
    exact ⟨.bl false, H, I, rfl, q⟩
end
/-- a method of the class C that keeps a promise -/
def MOk (P : Program) (w : World) (K : PySem.W.Frag) (mg : Str → Option Value) (base : Heap) (CX : CXT) (C : Addr) (m : Str) (k : Nat) (ps : List Str) (sp : Sp) : Prop :=
  ∃ f fd, Meth K C m f ∧ FnOk P w K mg base CX k f fd ps sp ∧ Binds K fd ps []
/-- a def of the top that keeps a promise -/
def GOk (P : Program) (w : World) (K : PySem.W.Frag) (mg : Str → Option Value) (base : Heap) (CX : CXT) (x : Str) (k : Nat) (ps : List Str) (sp : Sp) : Prop :=
  ∃ f fd, mg x = some (.ref f) ∧ PySem.W.keepIn K (.ref f) = true ∧ FnOk P w K mg base CX k f fd ps sp ∧ Binds K fd ps []
/-- a class that is made, its __init__ keeps a promise -/
def KOk (P : Program) (w : World) (K : PySem.W.Frag) (mg : Str → Option Value) (base : Heap) (CX : CXT) (C : Addr) (x : Str) (k : Nat) (ps : List Str) (sp : Sp) : Prop :=
  ∃ f fd, Mk K C f ∧ mg x = some (.ref C) ∧ FnOk P w K mg base CX k f fd ps sp ∧ Binds K fd ps []
/-- the same of the text alone -/
def MFun (K : PySem.W.Frag) (C : Addr) (m qual : Str) (st : Stmt) (ps : List Str) : Prop := ∃ f fd, Meth K C m f ∧ Fun K m qual st f fd ∧ Binds K fd ps []
def GFun (K : PySem.W.Frag) (mg : Str → Option Value) (x : Str) (st : Stmt) (ps : List Str) : Prop := ∃ f fd, mg x = some (.ref f) ∧ Fun K x x st f fd ∧ Binds K fd ps []
def KFun (K : PySem.W.Frag) (mg : Str → Option Value) (C : Addr) (x qual : Str) (st : Stmt) (ps : List Str) : Prop := ∃ f fd, Mk K C f ∧ mg x = some (.ref C) ∧ Fun K "__init__" qual st f fd ∧ Binds K fd ps []
section
variable {P : Program} {w : World} {K : PySem.W.Frag} {mg : Str → Option Value} {base : Heap} {C : Addr} {m x qual : Str} {st : Stmt} {N ps : List Str} {k : Nat} {sp : Sp}
theorem MFun.ok (F : MFun K C m qual st ps) (S : FnScope N ps (defScope st)) (len : ∀ vs H Q E, sp vs H Q E → vs.length = ps.length)
    (hbody : ∀ (f : Addr) (cdv : Value) (A : Around) (outer : List Env) (s : Shared) (H : Hp) (vs : List V) (Q : VK) (E : XK), Room k (A.deeper (envOfC qual (defScope st) s.heap.objs.size f cdv)) → sp vs H Q E →
      ∃ t, PSs (cxOf CX0 P w K mg base N qual (defScope st) f cdv A outer s H E).nox (defBody st) t ∧ t { nx := fun _ H' => Q .non H', rt := Q } (start N vs) H) : MOk P w K mg base CX0 C m (k + 1) ps sp := by
  obtain ⟨f, fd, hm, F, hb⟩ := F
  exact ⟨f, fd, hm, F.ok S len (hbody f), hb⟩
theorem MFun.okX (F : MFun K C m qual st ps) (S : FnScope N ps (defScope st)) (len : ∀ vs H Q E, sp vs H Q E → vs.length = ps.length)
    (hbody : ∀ (f : Addr) (cdv : Value) (A : Around) (outer : List Env) (s : Shared) (H : Hp) (vs : List V) (Q : VK) (E : XK), Room k (A.deeper (envOfC qual (defScope st) s.heap.objs.size f cdv)) → sp vs H Q E →
      ∃ t, PSs (cxOf (L2.CX P w) P w K mg base N qual (defScope st) f cdv A outer s H E) (defBody st) t ∧ t { nx := fun _ H' => Q .non H', rt := Q } (start N vs) H) : MOk P w K mg base (L2.CX P w) C m (k + 1) ps sp := by
  obtain ⟨f, fd, hm, F, hb⟩ := F
  exact ⟨f, fd, hm, F.okX S len (hbody f), hb⟩
theorem GFun.ok (F : GFun K mg x st ps) (S : FnScope N ps (defScope st)) (len : ∀ vs H Q E, sp vs H Q E → vs.length = ps.length)
    (hbody : ∀ (f : Addr) (cdv : Value) (A : Around) (outer : List Env) (s : Shared) (H : Hp) (vs : List V) (Q : VK) (E : XK), Room k (A.deeper (envOfC x (defScope st) s.heap.objs.size f cdv)) → sp vs H Q E →
      ∃ t, PSs (cxOf CX0 P w K mg base N x (defScope st) f cdv A outer s H E).nox (defBody st) t ∧ t { nx := fun _ H' => Q .non H', rt := Q } (start N vs) H) : GOk P w K mg base CX0 x (k + 1) ps sp := by
  obtain ⟨f, fd, hm, F, hb⟩ := F
  exact ⟨f, fd, hm, F.kp, F.ok S len (hbody f), hb⟩
theorem GFun.okX (F : GFun K mg x st ps) (S : FnScope N ps (defScope st)) (len : ∀ vs H Q E, sp vs H Q E → vs.length = ps.length)
    (hbody : ∀ (f : Addr) (cdv : Value) (A : Around) (outer : List Env) (s : Shared) (H : Hp) (vs : List V) (Q : VK) (E : XK), Room k (A.deeper (envOfC x (defScope st) s.heap.objs.size f cdv)) → sp vs H Q E →
      ∃ t, PSs (cxOf (L2.CX P w) P w K mg base N x (defScope st) f cdv A outer s H E) (defBody st) t ∧ t { nx := fun _ H' => Q .non H', rt := Q } (start N vs) H) : GOk P w K mg base (L2.CX P w) x (k + 1) ps sp := by
  obtain ⟨f, fd, hm, F, hb⟩ := F
  exact ⟨f, fd, hm, F.kp, F.okX S len (hbody f), hb⟩
theorem KFun.ok (F : KFun K mg C x qual st ps) (S : FnScope N ps (defScope st)) (len : ∀ vs H Q E, sp vs H Q E → vs.length = ps.length)
    (hbody : ∀ (f : Addr) (cdv : Value) (A : Around) (outer : List Env) (s : Shared) (H : Hp) (vs : List V) (Q : VK) (E : XK), Room k (A.deeper (envOfC qual (defScope st) s.heap.objs.size f cdv)) → sp vs H Q E →
      ∃ t, PSs (cxOf CX0 P w K mg base N qual (defScope st) f cdv A outer s H E).nox (defBody st) t ∧ t { nx := fun _ H' => Q .non H', rt := Q } (start N vs) H) : KOk P w K mg base CX0 C x (k + 1) ps sp := by
  obtain ⟨f, fd, hm, hg, F, hb⟩ := F
  exact ⟨f, fd, hm, hg, F.ok S len (hbody f), hb⟩
end
section
variable {X : Cx} {CX : CXT} {k : Nat} {C : Addr} {ps : List Str} {sp : Sp} {E : XK} {m x : Str} {p pos apos : Pos} {o e : Expr} {es : List Expr} {ta : TE} {t : TA} {pl : Sem Bool}
theorem pm (he : PE X o ta) (c : Cls X.K C) (M : MOk X.prog X.w X.K X.mg X.base CX C m k ps sp) (hr : Room k X.A) (hx : Passes CX X E) (ha : PA X (e :: es) t)
    (hst : starEach (e :: es) X.env = (false, eval e X.env) :: starEach es X.env := by rfl) (hpl : (backTo pos (starEach es X.env)).any (·.1) = false := by rfl)
    (ht : eval (.Call (.Attribute o m apos) (e :: es) [] pos) X.env = (do
      let ov ← eval o X.env
      standAt apos.atName
      let (f, first) ← holding [ov] (getMethod ov m pl)
      callWith pos f first (backTo pos (starEach (e :: es) X.env)) (backToKw pos (keywordEach [] X.env))) := by rfl) :
    PE X (.Call (.Attribute o m apos) (e :: es) [] pos) (tMeth C m sp [] E ta t) := by
  obtain ⟨f, fd, hm, F, hb⟩ := M
  exact pe_meth (pl := pl) he c hm F hr hb .nil hx ha hst hpl ht
theorem pm0 (he : PE X o ta) (c : Cls X.K C) (M : MOk X.prog X.w X.K X.mg X.base CX C m k ps sp) (hr : Room k X.A) (hx : Passes CX X E)
    (ht : eval (.Call (.Attribute o m apos) [] [] pos) X.env = (do
      let ov ← eval o X.env
      standAt apos.atName
      let (f, first) ← holding [ov] (getMethod ov m pl)
      callWith pos f first (backTo pos (starEach [] X.env)) (backToKw pos (keywordEach [] X.env))) := by rfl) :
    PE X (.Call (.Attribute o m apos) [] [] pos) (tMeth C m sp [] E ta tNil) := by
  obtain ⟨f, fd, hm, F, hb⟩ := M
  exact pe_meth0 (pl := pl) he c hm F hr hb .nil hx ht
theorem pf (M : GOk X.prog X.w X.K X.mg X.base CX x k ps sp) (hr : Room k X.A) (hg : Gl X x) (hx : Passes CX X E)
    (ha : PA X (e :: es) t) (hdb : (x == ("__debug__" : Str)) = false := by decide) (he : starEach (e :: es) X.env = (false, eval e X.env) :: starEach es X.env := by rfl) (hpl : (backTo pos (starEach es X.env)).any (·.1) = false := by rfl) :
    PE X (.Call (.Name x p) (e :: es) [] pos) (tCall sp [] E t) := by
  obtain ⟨f, fd, hm, hk, F, hb⟩ := M
  exact pe_call F hr hg hm hk hb .nil hx ha hdb he hpl
theorem pk (M : KOk X.prog X.w X.K X.mg X.base CX C x k ps sp) (hr : Room (k + 1) X.A) (hg : Gl X x) (hx : Passes CX X E)
    (ha : PA X (e :: es) t) (hdb : (x == ("__debug__" : Str)) = false := by decide) (he : starEach (e :: es) X.env = (false, eval e X.env) :: starEach es X.env := by rfl) (hpl : (backTo pos (starEach es X.env)).any (·.1) = false := by rfl) :
    PE X (.Call (.Name x p) (e :: es) [] pos) (tMake C sp [] E t) := by
  obtain ⟨f, fd, hm, hg', F, hb⟩ := M
  exact pe_make hm F hr hg hg' hb .nil hx ha hdb he hpl
theorem pk0 (M : KOk X.prog X.w X.K X.mg X.base CX C x k ps sp) (hr : Room (k + 1) X.A) (hg : Gl X x) (hx : Passes CX X E)
    (hdb : (x == ("__debug__" : Str)) = false := by decide) : PE X (.Call (.Name x p) [] [] pos) (tMake C sp [] E tNil) := by
  obtain ⟨f, fd, hm, hg', F, hb⟩ := M
  exact pe_make0 hm F hr hg hg' hb .nil hx hdb
end
section
variable {X : Cx}
/-- a module's number -/
theorem pgl {x : Str} {i : Int} {pos : Pos} (h : ∃ t, X.mg x = some (.int i t)) (hg : Gl X x := by rfl) (hd : (x == ("__debug__" : Str)) = false := by decide) : PE X (.Name x pos) (tC (.int i)) := by
  obtain ⟨t, h⟩ := h
  exact pe_glob hg h ⟨_, rfl⟩ hd
end
/-! ## tests that are known -/
theorem ifT {c : Bool} {A B : Prop} (hc : c = true) (h : A) : if c = true then A else B := by
  rw [if_pos hc]
  exact h
theorem ifF {c : Bool} {A B : Prop} (hc : c = false) (h : B) : if c = true then A else B := by
  rw [hc, if_neg Bool.false_ne_true]
  exact h
/-! ## attributes -/
theorem lk_here {k : Str} {v : V} {r : List (Str × V)} : List.lookup k ((k, v) :: r) = some v := by
  have e : (k == k) = true := beq_self_eq_true k
  simp only [List.lookup, e]
theorem lk_past {k g : Str} {v : V} {r : List (Str × V)} (h : (k == g) = false) : List.lookup k ((g, v) :: r) = List.lookup k r := by
  simp only [List.lookup, h]
theorem lk_none {k : Str} : ∀ {fs : List (Str × V)}, ((fs.map (·.1)).all fun g => !(k == g)) = true → fs.lookup k = none
  | [], _ => rfl
  | (g, v) :: r, h => by
    simp only [List.map_cons, List.all_cons, Bool.and_eq_true, Bool.not_eq_true'] at h
    rw [lk_past h.1]
    exact lk_none h.2
theorem put_here {f : Str} {v x : V} {r : List (Str × V)} : putF f v ((f, x) :: r) = (f, v) :: r := if_pos rfl
theorem put_past {f g : Str} {v x : V} {r : List (Str × V)} (h : ¬ g = f) : putF f v ((g, x) :: r) = (g, x) :: putF f v r := if_neg h
theorem pl1 {f : Str} {v : V} {fs : List (Str × V)} {n : Nat} (h : fs.length ≤ n) : (putF f v fs).length ≤ n + 1 := Nat.le_trans (length_putF f v fs) (Nat.succ_le_succ h)
/-! ### a pair's four numbers -/
structure PRow where
  st : Int
  ca : Int
  ot : Int
  si : Int
def pF (r : PRow) : List (Str × V) := [("state", .int r.st), ("caller", .int r.ca), ("other", .int r.ot), ("since", .int r.si)]
theorem pF_state (r : PRow) : (pF r).lookup ("state" : Str) = some (.int r.st) := lk_here
theorem pF_caller (r : PRow) : (pF r).lookup ("caller" : Str) = some (.int r.ca) := (lk_past (by decide +kernel)).trans lk_here
theorem pF_other (r : PRow) : (pF r).lookup ("other" : Str) = some (.int r.ot) := (lk_past (by decide +kernel)).trans ((lk_past (by decide +kernel)).trans lk_here)
theorem pF_since (r : PRow) : (pF r).lookup ("since" : Str) = some (.int r.si) := (lk_past (by decide +kernel)).trans ((lk_past (by decide +kernel)).trans ((lk_past (by decide +kernel)).trans lk_here))
theorem pF_none (r : PRow) {m : Str} (h : ((["state", "caller", "other", "since"] : List Str).all fun g => !(m == g)) = true) : (pF r).lookup m = none := lk_none h
theorem pF_pst (r : PRow) (z : Int) : putF "state" (.int z) (pF r) = pF { r with st := z } := put_here
theorem pF_pca (r : PRow) (z : Int) : putF "caller" (.int z) (pF r) = pF { r with ca := z } := (put_past (by decide +kernel)).trans (congrArg _ put_here)
theorem pF_pot (r : PRow) (z : Int) : putF "other" (.int z) (pF r) = pF { r with ot := z } := (put_past (by decide +kernel)).trans (congrArg _ ((put_past (by decide +kernel)).trans (congrArg _ put_here)))
theorem pF_psi (r : PRow) (z : Int) : putF "since" (.int z) (pF r) = pF { r with si := z } := (put_past (by decide +kernel)).trans (congrArg _ ((put_past (by decide +kernel)).trans (congrArg _ ((put_past (by decide +kernel)).trans (congrArg _ put_here)))))
theorem pF_len (r : PRow) : (pF r).length = 4 := rfl
/-! ### a board's seven attributes -/
structure BRow where
  time : Int
  off : Addr
  lit : Addr
  prs : Addr
  nt : Addr
  busy : Int
  nobody : Int
def bF (r : BRow) : List (Str × V) := [("time", .int r.time), ("off", .ref r.off), ("lit", .ref r.lit), ("pairs", .ref r.prs), ("noted", .ref r.nt), ("busy", .int r.busy), ("nobody", .int r.nobody)]
theorem bF_time (r : BRow) : (bF r).lookup ("time" : Str) = some (.int r.time) := lk_here
theorem bF_off (r : BRow) : (bF r).lookup ("off" : Str) = some (.ref r.off) := (lk_past (by decide +kernel)).trans lk_here
theorem bF_lit (r : BRow) : (bF r).lookup ("lit" : Str) = some (.ref r.lit) := (lk_past (by decide +kernel)).trans ((lk_past (by decide +kernel)).trans lk_here)
theorem bF_pairs (r : BRow) : (bF r).lookup ("pairs" : Str) = some (.ref r.prs) := (lk_past (by decide +kernel)).trans ((lk_past (by decide +kernel)).trans ((lk_past (by decide +kernel)).trans lk_here))
theorem bF_noted (r : BRow) : (bF r).lookup ("noted" : Str) = some (.ref r.nt) := (lk_past (by decide +kernel)).trans ((lk_past (by decide +kernel)).trans ((lk_past (by decide +kernel)).trans ((lk_past (by decide +kernel)).trans lk_here)))
theorem bF_busy (r : BRow) : (bF r).lookup ("busy" : Str) = some (.int r.busy) := (lk_past (by decide +kernel)).trans ((lk_past (by decide +kernel)).trans ((lk_past (by decide +kernel)).trans ((lk_past (by decide +kernel)).trans ((lk_past (by decide +kernel)).trans lk_here))))
theorem bF_nobody (r : BRow) : (bF r).lookup ("nobody" : Str) = some (.int r.nobody) := (lk_past (by decide +kernel)).trans ((lk_past (by decide +kernel)).trans ((lk_past (by decide +kernel)).trans ((lk_past (by decide +kernel)).trans ((lk_past (by decide +kernel)).trans ((lk_past (by decide +kernel)).trans lk_here)))))
theorem bF_none (r : BRow) {m : Str} (h : ((["time", "off", "lit", "pairs", "noted", "busy", "nobody"] : List Str).all fun g => !(m == g)) = true) : (bF r).lookup m = none := lk_none h
theorem bF_ptime (r : BRow) (z : Int) : putF "time" (.int z) (bF r) = bF { r with time := z } := put_here
theorem bF_poff (r : BRow) (z : Addr) : putF "off" (.ref z) (bF r) = bF { r with off := z } := (put_past (by decide +kernel)).trans (congrArg _ put_here)
theorem bF_plit (r : BRow) (z : Addr) : putF "lit" (.ref z) (bF r) = bF { r with lit := z } := (put_past (by decide +kernel)).trans (congrArg _ ((put_past (by decide +kernel)).trans (congrArg _ put_here)))
theorem bF_pprs (r : BRow) (z : Addr) : putF "pairs" (.ref z) (bF r) = bF { r with prs := z } := (put_past (by decide +kernel)).trans (congrArg _ ((put_past (by decide +kernel)).trans (congrArg _ ((put_past (by decide +kernel)).trans (congrArg _ put_here)))))
theorem bF_pbusy (r : BRow) (z : Int) : putF "busy" (.int z) (bF r) = bF { r with busy := z } := (put_past (by decide +kernel)).trans (congrArg _ ((put_past (by decide +kernel)).trans (congrArg _ ((put_past (by decide +kernel)).trans (congrArg _ ((put_past (by decide +kernel)).trans (congrArg _ ((put_past (by decide +kernel)).trans (congrArg _ put_here)))))))))
theorem bF_pnobody (r : BRow) (z : Int) : putF "nobody" (.int z) (bF r) = bF { r with nobody := z } := (put_past (by decide +kernel)).trans (congrArg _ ((put_past (by decide +kernel)).trans (congrArg _ ((put_past (by decide +kernel)).trans (congrArg _ ((put_past (by decide +kernel)).trans (congrArg _ ((put_past (by decide +kernel)).trans (congrArg _ ((put_past (by decide +kernel)).trans (congrArg _ put_here)))))))))))
theorem bF_len (r : BRow) : (bF r).length = 7 := rfl
/-- a pair stands apart from a board, whatever their classes -/
theorem bp_ne {C C' d d' : Addr} {b : BRow} {p : PRow} : HO.ins C d (bF b) ≠ HO.ins C' d' (pF p) := fun h => by
  injection h with _ _ h
  have := congrArg List.length h
  rw [bF_len, pF_len] at this
  cases this
end Cb

namespace Cb
open PySem PySem.Spec PyProof.Rows L2
/-! ## what the top has written -/
structure Txt (K : PySem.W.Frag) (mg : Str → Option Value) (CP CB CD : Addr) : Prop where
  clP : Cls K CP
  clB : Cls K CB
  clD : Cls K CD
  nst : NoAttr K CP "state"
  nca : NoAttr K CP "caller"
  not : NoAttr K CP "other"
  nsi : NoAttr K CP "since"
  nti : NoAttr K CB "time"
  nof : NoAttr K CB "off"
  nli : NoAttr K CB "lit"
  npr : NoAttr K CB "pairs"
  nno : NoAttr K CB "noted"
  nbu : NoAttr K CB "busy"
  nnb : NoAttr K CB "nobody"
  nbo : NoAttr K CD "boards"
  gFREE : ∃ t, mg "FREE" = some (.int 0 t)
  gASKS : ∃ t, mg "ASKS" = some (.int 1 t)
  gTOLD : ∃ t, mg "TOLD" = some (.int 2 t)
  gRINGS : ∃ t, mg "RINGS" = some (.int 3 t)
  gTALK : ∃ t, mg "TALK" = some (.int 4 t)
  gBUSY : ∃ t, mg "BUSY" = some (.int 5 t)
  gDARK : ∃ t, mg "DARK" = some (.int (-1) t)
  gLONG : ∃ t, mg "LONG" = some (.int 20 t)
  gMU : ∃ t, mg "MOST_UNITS" = some (.int 100 t)
  gNEVER : ∃ t, mg "NEVER" = some (.int 0 t)
  gLL : ∃ t, mg "LEAST_LINES" = some (.int 2 t)
  gML : ∃ t, mg "MOST_LINES" = some (.int 20 t)
  gMP : ∃ t, mg "MOST_PAIRS" = some (.int 6 t)
  gMG : ∃ t, mg "MOST_GONE" = some (.int 200 t)
  gLAST : ∃ t, mg "LAST" = some (.int 1000000 t)
  gMANY : ∃ a, mg "MANY" = some (.ref a) ∧ ∀ H, SqT K H a [.int 2, .int 1, .int 1, .int 2, .int 1, .int 1, .int 0, .int 0, .int 0, .int 1, .int 0]
  gOF : ∃ a, mg "OF_LINES" = some (.ref a) ∧ ∀ H, SqT K H a [.int 1, .int 2, .int 3, .int 5, .int 9]
  len : mg "len" = none
  range : mg "range" = none
  int : mg "int" = none
  list : mg "list" = none
/-! ## a pair's methods -/
abbrev sPI : Stmt := inClass (top 7) 0
abbrev sPC : Stmt := inClass (top 7) 1
abbrev sPB : Stmt := inClass (top 7) 2
abbrev sPF : Stmt := inClass (top 7) 3
abbrev sPH : Stmt := inClass (top 7) 4
abbrev sPN : Stmt := inClass (top 7) 5
abbrev sPR : Stmt := inClass (top 7) 6
abbrev sPE : Stmt := inClass (top 7) 7
abbrev sPT : Stmt := inClass (top 7) 8
def has2 (r : PRow) : Bool := decide (r.st = 3) || decide (r.st = 4)
def isInR (r : PRow) (l : Int) : Bool := (!decide (r.st = 0) && decide (r.ca = l)) || (has2 r && decide (r.ot = l))
def ringsR (r : PRow) (l : Int) : Bool := decide (r.st = 3) && decide (r.ot = l)
def toldR (r : PRow) : List Int := if r.st = 0 then [0] else if r.st = 1 ∨ r.st = 5 then [r.st, r.ca] else if r.st = 2 then [2, r.ca, r.ot] else [r.st, r.ca, r.ot, r.si]
def spPI (C : Addr) : Sp := fun vs H Q _ => ∃ (p dx : Addr) (r : PRow), vs = [.ref p, .int r.st, .int r.ca, .int r.ot, .int r.si] ∧ H p = some (.ins C dx []) ∧ Q .non (upd H p (.ins C dx (pF r)))
def spPC (C : Addr) : Sp := fun vs H Q _ => ∃ (p dx : Addr) (r : PRow), vs = [.ref p] ∧ H p = some (.ins C dx (pF r)) ∧ ∀ x d, H x = none → H d = none → d ≠ x → Q (.ref x) (upd (upd H d (.own x)) x (.ins C d (pF r)))
def spPB (C : Addr) : Sp := fun vs H Q _ => ∃ (p dx : Addr) (r : PRow) (z : Int), vs = [.ref p, .int z] ∧ H p = some (.ins C dx (pF r)) ∧ Q .non (upd H p (.ins C dx (pF { r with st := z })))
def spPF (C : Addr) : Sp := fun vs H Q _ => ∃ (p dx : Addr) (r : PRow), vs = [.ref p] ∧ H p = some (.ins C dx (pF r)) ∧ Q .non (upd H p (.ins C dx (pF ⟨0, -1, -1, -1⟩)))
def spPH (C : Addr) : Sp := fun vs H Q _ => ∃ (p dx : Addr) (r : PRow), vs = [.ref p] ∧ H p = some (.ins C dx (pF r)) ∧ Q (.bl (has2 r)) H
def spPN (C : Addr) : Sp := fun vs H Q _ => ∃ (p dx : Addr) (r : PRow) (l : Int), vs = [.ref p, .int l] ∧ H p = some (.ins C dx (pF r)) ∧ Q (.bl (isInR r l)) H
def spPR (C : Addr) : Sp := fun vs H Q _ => ∃ (p dx : Addr) (r : PRow) (l : Int), vs = [.ref p, .int l] ∧ H p = some (.ins C dx (pF r)) ∧ Q (.bl (ringsR r l)) H
def spPE (C : Addr) : Sp := fun vs H Q _ => ∃ (p dx : Addr) (r : PRow) (l : Int), vs = [.ref p, .int l] ∧ H p = some (.ins C dx (pF r)) ∧ Q (.int (if r.ca = l then r.ot else r.ca)) H
def spPT (C : Addr) : Sp := fun vs H Q _ => ∃ (p dx : Addr) (r : PRow), vs = [.ref p] ∧ H p = some (.ins C dx (pF r)) ∧ ∀ q, H q = none → Q (.ref q) (upd H q (.lst ((toldR r).map V.int)))
section
variable {P : Program} {w : World} {K : PySem.W.Frag} {mg : Str → Option Value} {base : Heap} {CP CB CD : Addr}
theorem scPI : FnScope ["self", "state", "caller", "other", "since"] ["self", "state", "caller", "other", "since"] (defScope sPI) := ⟨rfl, rfl, rfl, by decide +kernel, rfl, by decide +kernel, by decide +kernel⟩
theorem ok_PI (F : KFun K mg CP "Pair" "Pair.__init__" sPI ["self", "state", "caller", "other", "since"]) (T : Txt K mg CP CB CD) : KOk P w K mg base CX0 CP "Pair" 1 ["self", "state", "caller", "other", "since"] (spPI CP) := by
  refine F.ok scPI (fun vs H Q E h => ?_) (fun f cdv A outer s H vs Q E hr h => ?_)
  · obtain ⟨p, dx, r, rfl, _⟩ := h
    rfl
  · obtain ⟨p, dx, r, rfl, hp, q⟩ := h
    refine ⟨_, pss_cons (ps_fld (pv 0) (pv 1) rfl) (pss_cons (ps_fld (pv 0) (pv 2) rfl) (pss_cons (ps_fld (pv 0) (pv 3) rfl) (pss_one (ps_fld (pv 0) (pv 4) rfl)))), ?_⟩
    refine ⟨_, rfl, _, rfl, p, CP, dx, [], rfl, hp, T.clP, T.nst, (by show 0 < 1000; decide), ?_⟩
    refine ⟨_, rfl, _, rfl, p, CP, dx, _, rfl, upd_same, T.clP, T.nca, Nat.lt_of_le_of_lt (pl1 (Nat.le_refl 0)) (by decide), ?_⟩
    refine ⟨_, rfl, _, rfl, p, CP, dx, _, rfl, upd_same, T.clP, T.not, Nat.lt_of_le_of_lt (pl1 (pl1 (Nat.le_refl 0))) (by decide), ?_⟩
    refine ⟨_, rfl, _, rfl, p, CP, dx, _, rfl, upd_same, T.clP, T.nsi, Nat.lt_of_le_of_lt (pl1 (pl1 (pl1 (Nat.le_refl 0)))) (by decide), ?_⟩
    show Q .non _
    rw [upd_upd, upd_upd, upd_upd]
    have e : putF "since" (V.int r.si) (putF "other" (V.int r.ot) (putF "caller" (V.int r.ca) (putF "state" (V.int r.st) []))) = pF r := by
      show putF "since" (V.int r.si) (putF "other" (V.int r.ot) (putF "caller" (V.int r.ca) [("state", V.int r.st)])) = pF r
      rw [put_past (by decide +kernel), put_past (by decide +kernel), put_past (by decide +kernel)]
      show _ :: putF "since" (V.int r.si) (putF "other" (V.int r.ot) [("caller", V.int r.ca)]) = _
      rw [put_past (by decide +kernel), put_past (by decide +kernel)]
      show _ :: _ :: putF "since" (V.int r.si) [("other", V.int r.ot)] = _
      rw [put_past (by decide +kernel)]
      rfl
    rw [e]
    exact q
theorem scPC : FnScope ["self"] ["self"] (defScope sPC) := ⟨rfl, rfl, rfl, by decide +kernel, rfl, by decide +kernel, by decide +kernel⟩
theorem ok_PC (F : MFun K CP "copied" "Pair.copied" sPC ["self"]) (T : Txt K mg CP CB CD) (GI : KOk P w K mg base CX0 CP "Pair" 1 ["self", "state", "caller", "other", "since"] (spPI CP)) : MOk P w K mg base CX0 CP "copied" 3 ["self"] (spPC CP) := by
  refine F.ok scPC (fun vs H Q E h => ?_) (fun f cdv A outer s H vs Q E hr h => ?_)
  · obtain ⟨p, dx, r, rfl, _⟩ := h
    rfl
  · obtain ⟨p, dx, r, rfl, hp, q⟩ := h
    refine ⟨_, pss_one (ps_ret (pk GI hr rfl pass0 (pa_cons (pe_fld (pv 0) rfl) (pa_cons (pe_fld (pv 0) rfl) (pa_cons (pe_fld (pv 0) rfl) (pa_cons (pe_fld (pv 0) rfl) pa_nil)))))), ?_⟩
    refine ⟨_, rfl, p, CP, dx, _, _, rfl, hp, T.clP, T.nst, pF_state _, _, rfl, p, CP, dx, _, _, rfl, hp, T.clP, T.nca, pF_caller _, _, rfl, p, CP, dx, _, _, rfl, hp, T.clP, T.not, pF_other _, _, rfl, p, CP, dx, _, _, rfl, hp, T.clP, T.nsi, pF_since _, ?_⟩
    intro x d hx hd hne
    refine ⟨x, d, r, rfl, upd_same, rfl, ?_⟩
    rw [upd_upd]
    exact q x d hx hd hne
theorem scPB : FnScope ["self", "state"] ["self", "state"] (defScope sPB) := ⟨rfl, rfl, rfl, by decide +kernel, rfl, by decide +kernel, by decide +kernel⟩
theorem ok_PB (F : MFun K CP "become" "Pair.become" sPB ["self", "state"]) (T : Txt K mg CP CB CD) : MOk P w K mg base CX0 CP "become" 1 ["self", "state"] (spPB CP) := by
  refine F.ok scPB (fun vs H Q E h => ?_) (fun f cdv A outer s H vs Q E hr h => ?_)
  · obtain ⟨p, dx, r, z, rfl, _⟩ := h
    rfl
  · obtain ⟨p, dx, r, z, rfl, hp, q⟩ := h
    refine ⟨_, pss_one (ps_fld (pv 0) (pv 1) rfl), ?_⟩
    refine ⟨_, rfl, _, rfl, p, CP, dx, _, rfl, hp, T.clP, T.nst, (by show 4 < 1000; decide), ?_⟩
    show Q .non _
    rw [pF_pst]
    exact q
theorem scPF : FnScope ["self"] ["self"] (defScope sPF) := ⟨rfl, rfl, rfl, by decide +kernel, rfl, by decide +kernel, by decide +kernel⟩
theorem ok_PF (F : MFun K CP "free" "Pair.free" sPF ["self"]) (T : Txt K mg CP CB CD) : MOk P w K mg base CX0 CP "free" 1 ["self"] (spPF CP) := by
  refine F.ok scPF (fun vs H Q E h => ?_) (fun f cdv A outer s H vs Q E hr h => ?_)
  · obtain ⟨p, dx, r, rfl, _⟩ := h
    rfl
  · obtain ⟨p, dx, r, rfl, hp, q⟩ := h
    refine ⟨_, pss_cons (ps_fld (pv 0) (pgl T.gFREE) rfl) (pss_cons (ps_fld (pv 0) (pe_un un_neg pe_int) rfl) (pss_cons (ps_fld (pv 0) (pe_un un_neg pe_int) rfl) (pss_one (ps_fld (pv 0) (pe_un un_neg pe_int) rfl)))), ?_⟩
    refine ⟨_, rfl, p, CP, dx, _, rfl, hp, T.clP, T.nst, (by show 4 < 1000; decide), ?_⟩
    refine ⟨_, rfl, _, rfl, p, CP, dx, _, rfl, upd_same, T.clP, T.nca, (by rw [pF_pst]; show 4 < 1000; decide), ?_⟩
    refine ⟨_, rfl, _, rfl, p, CP, dx, _, rfl, upd_same, T.clP, T.not, (by rw [pF_pst, pF_pca]; show 4 < 1000; decide), ?_⟩
    refine ⟨_, rfl, _, rfl, p, CP, dx, _, rfl, upd_same, T.clP, T.nsi, (by rw [pF_pst, pF_pca, pF_pot]; show 4 < 1000; decide), ?_⟩
    show Q .non _
    rw [upd_upd, upd_upd, upd_upd, pF_pst, pF_pca, pF_pot, pF_psi]
    exact q
theorem scPH : FnScope ["self"] ["self"] (defScope sPH) := ⟨rfl, rfl, rfl, by decide +kernel, rfl, by decide +kernel, by decide +kernel⟩
theorem ok_PH (F : MFun K CP "has_second" "Pair.has_second" sPH ["self"]) (T : Txt K mg CP CB CD) : MOk P w K mg base CX0 CP "has_second" 1 ["self"] (spPH CP) := by
  refine F.ok scPH (fun vs H Q E h => ?_) (fun f cdv A outer s H vs Q E hr h => ?_)
  · obtain ⟨p, dx, r, rfl, _⟩ := h
    rfl
  · obtain ⟨p, dx, r, rfl, hp, q⟩ := h
    refine ⟨_, pss_one (ps_ret (pe_or (pe_cmp (pc_eqI (pe_fld (pv 0) rfl) (pgl T.gRINGS))) (pe_one (pe_cmp (pc_eqI (pe_fld (pv 0) rfl) (pgl T.gTALK)))))), ?_⟩
    refine ⟨_, rfl, p, CP, dx, _, _, rfl, hp, T.clP, T.nst, pF_state _, _, _, rfl, rfl, _, rfl, ?_⟩
    unfold has2 at q
    cases c : decide (r.st = 3) with
    | true =>
      rw [c] at q
      exact ifT c q
    | false =>
      rw [c] at q
      exact ifF c ⟨_, rfl, p, CP, dx, _, _, rfl, hp, T.clP, T.nst, pF_state _, _, _, rfl, rfl, q⟩
theorem scPN : FnScope ["self", "line"] ["self", "line"] (defScope sPN) := ⟨rfl, rfl, rfl, by decide +kernel, rfl, by decide +kernel, by decide +kernel⟩
theorem ok_PN (F : MFun K CP "is_in" "Pair.is_in" sPN ["self", "line"]) (T : Txt K mg CP CB CD) (GH : MOk P w K mg base CX0 CP "has_second" 1 ["self"] (spPH CP)) : MOk P w K mg base CX0 CP "is_in" 2 ["self", "line"] (spPN CP) := by
  refine F.ok scPN (fun vs H Q E h => ?_) (fun f cdv A outer s H vs Q E hr h => ?_)
  · obtain ⟨p, dx, r, l, rfl, _⟩ := h
    rfl
  · obtain ⟨p, dx, r, l, rfl, hp, q⟩ := h
    refine ⟨_, pss_one (ps_ret (pe_or (pe_and (pe_cmp (pc_neI (pe_fld (pv 0) rfl) (pgl T.gFREE))) (pe_one (pe_cmp (pc_eqI (pe_fld (pv 0) rfl) (pv 1)))))
      (pe_one (pe_and (pm0 (pv 0) T.clP GH hr pass0) (pe_one (pe_cmp (pc_eqI (pe_fld (pv 0) rfl) (pv 1)))))))), ?_⟩
    have no : (pF r).lookup ("has_second" : Str) = none := pF_none r (by decide +kernel)
    have second : (q' : Q (.bl (has2 r && decide (r.ot = l))) H) → tAndV (tMeth CP "has_second" (spPH CP) [] E0 (tVar 0) tNil) (tEqI (tFld K (tVar 0) "other") (tVar 1)) [some (.ref p), some (.int l)] H Q := fun q' => by
      refine ⟨_, rfl, p, dx, _, rfl, hp, no, p, dx, r, rfl, hp, _, rfl, ?_⟩
      cases c : has2 r with
      | true =>
        rw [c] at q'
        exact iteT ⟨_, rfl, p, CP, dx, _, _, rfl, hp, T.clP, T.not, pF_other _, _, rfl, _, _, rfl, rfl, q'⟩
      | false =>
        rw [c] at q'
        exact iteF q'
    refine ⟨_, rfl, p, CP, dx, _, _, rfl, hp, T.clP, T.nst, pF_state _, _, _, rfl, rfl, _, rfl, ?_⟩
    unfold isInR at q
    cases c : !decide (r.st = 0) with
    | false =>
      rw [c] at q
      exact ifF c ⟨_, rfl, iteF (second q)⟩
    | true =>
      rw [c] at q
      refine ifT c ⟨_, rfl, p, CP, dx, _, _, rfl, hp, T.clP, T.nca, pF_caller _, _, rfl, _, _, rfl, rfl, _, rfl, ?_⟩
      cases c2 : decide (r.ca = l) with
      | true =>
        rw [c2] at q
        exact ifT c2 q
      | false =>
        rw [c2] at q
        exact ifF c2 (second q)
theorem scPR : FnScope ["self", "line"] ["self", "line"] (defScope sPR) := ⟨rfl, rfl, rfl, by decide +kernel, rfl, by decide +kernel, by decide +kernel⟩
theorem ok_PR (F : MFun K CP "rings_at" "Pair.rings_at" sPR ["self", "line"]) (T : Txt K mg CP CB CD) : MOk P w K mg base CX0 CP "rings_at" 1 ["self", "line"] (spPR CP) := by
  refine F.ok scPR (fun vs H Q E h => ?_) (fun f cdv A outer s H vs Q E hr h => ?_)
  · obtain ⟨p, dx, r, l, rfl, _⟩ := h
    rfl
  · obtain ⟨p, dx, r, l, rfl, hp, q⟩ := h
    refine ⟨_, pss_one (ps_ret (pe_and (pe_cmp (pc_eqI (pe_fld (pv 0) rfl) (pgl T.gRINGS))) (pe_one (pe_cmp (pc_eqI (pe_fld (pv 0) rfl) (pv 1)))))), ?_⟩
    refine ⟨_, rfl, p, CP, dx, _, _, rfl, hp, T.clP, T.nst, pF_state _, _, _, rfl, rfl, _, rfl, ?_⟩
    unfold ringsR at q
    cases c : decide (r.st = 3) with
    | false =>
      rw [c] at q
      exact ifF c q
    | true =>
      rw [c] at q
      exact ifT c ⟨_, rfl, p, CP, dx, _, _, rfl, hp, T.clP, T.not, pF_other _, _, rfl, _, _, rfl, rfl, q⟩
theorem scPE : FnScope ["self", "line"] ["self", "line"] (defScope sPE) := ⟨rfl, rfl, rfl, by decide +kernel, rfl, by decide +kernel, by decide +kernel⟩
theorem ok_PE (F : MFun K CP "far_end" "Pair.far_end" sPE ["self", "line"]) (T : Txt K mg CP CB CD) : MOk P w K mg base CX0 CP "far_end" 1 ["self", "line"] (spPE CP) := by
  refine F.ok scPE (fun vs H Q E h => ?_) (fun f cdv A outer s H vs Q E hr h => ?_)
  · obtain ⟨p, dx, r, l, rfl, _⟩ := h
    rfl
  · obtain ⟨p, dx, r, l, rfl, hp, q⟩ := h
    refine ⟨_, pss_cons (ps_if (pt_cmp (pc_eqI (pe_fld (pv 0) rfl) (pv 1))) (pss_one (ps_ret (pe_fld (pv 0) rfl))) pss_nil) (pss_one (ps_ret (pe_fld (pv 0) rfl))), ?_⟩
    refine ⟨_, rfl, p, CP, dx, _, _, rfl, hp, T.clP, T.nca, pF_caller _, _, rfl, _, _, rfl, rfl, _, rfl, ?_⟩
    by_cases c : r.ca = l
    · rw [if_pos c] at q
      exact ifT (decide_eq_true c) ⟨_, rfl, p, CP, dx, _, _, rfl, hp, T.clP, T.not, pF_other _, q⟩
    · rw [if_neg c] at q
      exact ifF (decide_eq_false c) ⟨_, rfl, p, CP, dx, _, _, rfl, hp, T.clP, T.nca, pF_caller _, q⟩
theorem scPT : FnScope ["self"] ["self"] (defScope sPT) := ⟨rfl, rfl, rfl, by decide +kernel, rfl, by decide +kernel, by decide +kernel⟩
theorem ok_PT (F : MFun K CP "told" "Pair.told" sPT ["self"]) (T : Txt K mg CP CB CD) : MOk P w K mg base CX0 CP "told" 1 ["self"] (spPT CP) := by
  refine F.ok scPT (fun vs H Q E h => ?_) (fun f cdv A outer s H vs Q E hr h => ?_)
  · obtain ⟨p, dx, r, rfl, _⟩ := h
    rfl
  · obtain ⟨p, dx, r, rfl, hp, q⟩ := h
    refine ⟨_, pss_cons (ps_if (pt_cmp (pc_eqI (pe_fld (pv 0) rfl) (pgl T.gFREE))) (pss_one (ps_ret (pe_lst (pa_cons (pgl T.gFREE) pa_nil)))) pss_nil)
      (pss_cons (ps_if (PW.pt (pw_or (pt_cmp (pc_eqI (pe_fld (pv 0) rfl) (pgl T.gASKS))) (pw_or1 (pt_cmp (pc_eqI (pe_fld (pv 0) rfl) (pgl T.gBUSY)))))) (pss_one (ps_ret (pe_lst (pa_cons (pe_fld (pv 0) rfl) (pa_cons (pe_fld (pv 0) rfl) pa_nil))))) pss_nil)
      (pss_cons (ps_if (pt_cmp (pc_eqI (pe_fld (pv 0) rfl) (pgl T.gTOLD))) (pss_one (ps_ret (pe_lst (pa_cons (pgl T.gTOLD) (pa_cons (pe_fld (pv 0) rfl) (pa_cons (pe_fld (pv 0) rfl) pa_nil)))))) pss_nil)
      (pss_one (ps_ret (pe_lst (pa_cons (pe_fld (pv 0) rfl) (pa_cons (pe_fld (pv 0) rfl) (pa_cons (pe_fld (pv 0) rfl) (pa_cons (pe_fld (pv 0) rfl) pa_nil))))))))), ?_⟩
    unfold toldR at q
    refine ⟨_, rfl, p, CP, dx, _, _, rfl, hp, T.clP, T.nst, pF_state _, _, _, rfl, rfl, _, rfl, ?_⟩
    by_cases c : r.st = 0
    · rw [if_pos c] at q
      exact ifT (decide_eq_true c) ⟨(by show 1 ≤ sizeLine; decide), q⟩
    rw [if_neg c] at q
    refine ifF (decide_eq_false c) ?_
    have second : (r.st = 1 ∨ r.st = 5) → tRet (tLst (tCons (tFld K (tVar 0) "state") (tCons (tFld K (tVar 0) "caller") tNil))) { nx := fun _ H' => Q .non H', rt := Q } [some (.ref p)] H := fun c2 => by
      rw [if_pos c2] at q
      exact ⟨_, rfl, p, CP, dx, _, _, rfl, hp, T.clP, T.nst, pF_state _, _, rfl, p, CP, dx, _, _, rfl, hp, T.clP, T.nca, pF_caller _, (by show 2 ≤ sizeLine; decide), q⟩
    refine ⟨_, rfl, p, CP, dx, _, _, rfl, hp, T.clP, T.nst, pF_state _, _, _, rfl, rfl, _, rfl, ?_⟩
    by_cases c1 : r.st = 1
    · exact ifT (decide_eq_true c1) (iteT (second (.inl c1)))
    refine ifF (decide_eq_false c1) ?_
    refine ⟨_, rfl, p, CP, dx, _, _, rfl, hp, T.clP, T.nst, pF_state _, _, _, rfl, rfl, _, rfl, ?_⟩
    by_cases c5 : r.st = 5
    · exact ifT (decide_eq_true c5) (second (.inr c5))
    refine ifF (decide_eq_false c5) ?_
    rw [if_neg (fun z => z.elim c1 c5)] at q
    refine ⟨_, rfl, p, CP, dx, _, _, rfl, hp, T.clP, T.nst, pF_state _, _, _, rfl, rfl, _, rfl, ?_⟩
    by_cases c2 : r.st = 2
    · rw [if_pos c2] at q
      exact ifT (decide_eq_true c2) ⟨_, rfl, p, CP, dx, _, _, rfl, hp, T.clP, T.nca, pF_caller _, _, rfl, p, CP, dx, _, _, rfl, hp, T.clP, T.not, pF_other _, (by show 3 ≤ sizeLine; decide), q⟩
    rw [if_neg c2] at q
    refine ifF (decide_eq_false c2) ?_
    exact ⟨_, rfl, p, CP, dx, _, _, rfl, hp, T.clP, T.nst, pF_state _, _, rfl, p, CP, dx, _, _, rfl, hp, T.clP, T.nca, pF_caller _, _, rfl, p, CP, dx, _, _, rfl, hp, T.clP, T.not, pF_other _, _, rfl, p, CP, dx, _, _, rfl, hp, T.clP, T.nsi, pF_since _, (by show 4 ≤ sizeLine; decide), q⟩
end
end Cb

namespace Cb
open PySem PySem.Spec PyProof.Rows L2
/-! ## how a board lies in the heap -/
/-- a pair's numbers tell how it stands with it -/
def Rel : Mu29.Stand → PRow → Prop
  | .free, r => r.st = 0
  | .asks a, r => r.st = 1 ∧ r.ca = (a : Int)
  | .told a b, r => r.st = 2 ∧ r.ca = (a : Int) ∧ r.ot = (b : Int)
  | .rings a b t, r => r.st = 3 ∧ r.ca = (a : Int) ∧ r.ot = (b : Int) ∧ r.si = (t : Int)
  | .talks a b t, r => r.st = 4 ∧ r.ca = (a : Int) ∧ r.ot = (b : Int) ∧ r.si = (t : Int)
  | .busy a, r => r.st = 5 ∧ r.ca = (a : Int)
theorem beq_cast {a l : Nat} : decide ((a : Int) = (l : Int)) = (l == a) := by
  rw [Bool.eq_iff_iff, decide_eq_true_eq, beq_iff_eq]
  omega
theorem dec_cast {a l : Nat} : decide ((a : Int) = (l : Int)) = decide (l = a) := by
  rw [Bool.eq_iff_iff, decide_eq_true_eq, decide_eq_true_eq]
  omega
theorem rel_in {c : Mu29.Stand} {r : PRow} (h : Rel c r) (l : Nat) : isInR r (l : Int) = has l c := by
  cases c with
  | free => simp [isInR, has2, has, Mu29.plugs, show r.st = 0 from h]
  | asks a =>
    obtain ⟨h1, h2⟩ := h
    simp [isInR, has2, has, Mu29.plugs, h1, h2, dec_cast]
  | told a b =>
    obtain ⟨h1, h2, h3⟩ := h
    simp [isInR, has2, has, Mu29.plugs, h1, h2, dec_cast]
  | rings a b t =>
    obtain ⟨h1, h2, h3, h4⟩ := h
    simp only [isInR, has2, has, Mu29.plugs, h1, h2, h3, beq_cast, List.contains_cons, List.contains_nil]
    simp
  | talks a b t =>
    obtain ⟨h1, h2, h3, h4⟩ := h
    simp only [isInR, has2, has, Mu29.plugs, h1, h2, h3, beq_cast, List.contains_cons, List.contains_nil]
    simp
  | busy a =>
    obtain ⟨h1, h2⟩ := h
    simp [isInR, has2, has, Mu29.plugs, h1, h2, dec_cast]
theorem rel_rings {c : Mu29.Stand} {r : PRow} (h : Rel c r) (l : Nat) : ringsR r (l : Int) = ringsAt l c := by
  cases c with
  | free => simp [ringsR, ringsAt, show r.st = 0 from h]
  | asks a => simp [ringsR, ringsAt, h.1]
  | told a b => simp [ringsR, ringsAt, h.1]
  | rings a b t =>
    obtain ⟨h1, h2, h3, h4⟩ := h
    simp only [ringsR, ringsAt, h1, h3]
    rw [Bool.eq_iff_iff]
    simp
    omega
  | talks a b t => simp [ringsR, ringsAt, h.1]
  | busy a => simp [ringsR, ringsAt, h.1]
theorem rel_free {c : Mu29.Stand} {r : PRow} (h : Rel c r) : decide (r.st = 0) = Mu29.isFree c := by
  cases c with
  | free => simp [Mu29.isFree, show r.st = 0 from h]
  | _ => simp [Mu29.isFree, h.1]
theorem rel_told {c : Mu29.Stand} {r : PRow} (h : Rel c r) : decide (r.st = 2) = isTold c := by
  cases c with
  | free => simp [isTold, show r.st = 0 from h]
  | _ => simp [isTold, h.1]
theorem rel_nums {c : Mu29.Stand} {r : PRow} (h : Rel c r) : toldR r = Mu29.standNums c := by
  cases c with
  | free => simp [toldR, Mu29.standNums, show r.st = 0 from h]
  | asks a => simp [toldR, Mu29.standNums, h.1, h.2]
  | told a b => simp [toldR, Mu29.standNums, h.1, h.2.1, h.2.2]
  | rings a b t => simp [toldR, Mu29.standNums, h.1, h.2.1, h.2.2.1, h.2.2.2]
  | talks a b t => simp [toldR, Mu29.standNums, h.1, h.2.1, h.2.2.1, h.2.2.2]
  | busy a => simp [toldR, Mu29.standNums, h.1, h.2]
/-- where a board's parts are -/
structure BR where
  b : Addr
  dx : Addr
  off : Addr
  lit : Addr
  prs : Addr
  nt : Addr
  ps : List Addr
def brow (r : BR) (s : Mu29.State) : BRow := ⟨s.now, r.off, r.lit, r.prs, r.nt, s.busies, s.misses⟩
def litV (x : Mu29.Line) : V := .int (match x.lit with
  | none => -1
  | some t => (t : Int))
def offV (x : Mu29.Line) : V := .bl x.off
def talkV (k : Mu29.Talk) : List V := [.int (k.a : Int), .int (k.b : Int), .int (k.lo : Int), .int (k.hi : Int)]
structure BoardAt (CB CP : Addr) (H : Hp) (r : BR) (s : Mu29.State) : Prop where
  b : H r.b = some (.ins CB r.dx (bF (brow r s)))
  off : H r.off = some (.lst (s.lines.map offV))
  lit : H r.lit = some (.lst (s.lines.map litV))
  prs : H r.prs = some (.lst (r.ps.map V.ref))
  len : r.ps.length = s.cords.length
  pair : ∀ (i : Nat) p c, r.ps[i]? = some p → s.cords[i]? = some c → ∃ dx row, H p = some (.ins CP dx (pF row)) ∧ Rel c row
  nd : r.ps.Nodup
  nt : ∃ ts : List Addr, H r.nt = some (.lst (ts.map V.ref)) ∧ ts.length = s.talks.length ∧ ∀ (i : Nat) t k, ts[i]? = some t → s.talks[i]? = some k → H t = some (.tup (talkV k))
  d1 : r.off ≠ r.lit
  d2 : r.off ≠ r.prs
  d3 : r.off ≠ r.nt
  d4 : r.lit ≠ r.prs
  d5 : r.lit ≠ r.nt
  d6 : r.prs ≠ r.nt
  nl : s.lines.length ≤ 20
  nc : s.cords.length ≤ 6
def foot (r : BR) : List Addr := r.b :: r.off :: r.lit :: r.prs :: r.nt :: r.ps
/-- what stands apart is as it was -/
def Keeps (F : List Addr) (H H' : Hp) : Prop := ∀ a o, H a = some o → a ∉ F → H' a = some o
theorem Keeps.refl (F : List Addr) (H : Hp) : Keeps F H H := fun _ _ h _ => h
theorem Keeps.of {F : List Addr} {H H' : Hp} (s : Same H H') : Keeps F H H' := fun a o h _ => s a o h
theorem Keeps.trans {F : List Addr} {H H1 H2 : Hp} (a : Keeps F H H1) (b : Keeps F H1 H2) : Keeps F H H2 := fun c o h n => b c o (a c o h n) n
theorem Keeps.upd {F : List Addr} {H : Hp} {a : Addr} {o : HO} (h : a ∈ F) : Keeps F H (upd H a o) := fun b u e n => by
  rw [upd_ne (fun z => n (by rw [z]; exact h))]
  exact e
theorem same_new {H : Hp} {a : Addr} {o : HO} (h : H a = none) : Same H (upd H a o) := fun b u e => by
  rw [upd_ne (ne_of_none e h)]
  exact e
theorem foot_off (r : BR) : r.off ∈ foot r := by simp [foot]
theorem foot_lit (r : BR) : r.lit ∈ foot r := by simp [foot]
theorem foot_b (r : BR) : r.b ∈ foot r := by simp [foot]
theorem foot_nt (r : BR) : r.nt ∈ foot r := by simp [foot]
theorem foot_p {r : BR} {k : Nat} {p : Addr} (h : r.ps[k]? = some p) : p ∈ foot r := by
  have := List.mem_of_getElem? h
  simp [foot, this]
section
variable {CB CP : Addr} {H H' : Hp} {r : BR} {s : Mu29.State}
theorem BoardAt.same (B : BoardAt CB CP H r s) (e : Same H H') : BoardAt CB CP H' r s := by
  refine ⟨e _ _ B.b, e _ _ B.off, e _ _ B.lit, e _ _ B.prs, B.len, fun i p c hp hc => ?_, B.nd, ?_, B.d1, B.d2, B.d3, B.d4, B.d5, B.d6, B.nl, B.nc⟩
  · obtain ⟨dx, row, h1, h2⟩ := B.pair i p c hp hc
    exact ⟨dx, row, e _ _ h1, h2⟩
  · obtain ⟨ts, h1, h2, h3⟩ := B.nt
    exact ⟨ts, e _ _ h1, h2, fun i t k a b => e _ _ (h3 i t k a b)⟩
theorem BoardAt.cord (B : BoardAt CB CP H r s) {i : Nat} {p : Addr} (hp : r.ps[i]? = some p) : ∃ c, s.cords[i]? = some c := by
  have h := (List.getElem?_eq_some_iff.mp hp).1
  rw [B.len] at h
  exact ⟨_, List.getElem?_eq_getElem h⟩
theorem BoardAt.slot (B : BoardAt CB CP H r s) {i : Nat} {c : Mu29.Stand} (hc : s.cords[i]? = some c) : ∃ p, r.ps[i]? = some p := by
  have h := (List.getElem?_eq_some_iff.mp hc).1
  rw [← B.len] at h
  exact ⟨_, List.getElem?_eq_getElem h⟩
theorem BoardAt.ins (B : BoardAt CB CP H r s) {p : Addr} (hp : p ∈ r.ps) : ∃ dx row, H p = some (.ins CP dx (pF row)) := by
  obtain ⟨i, hi⟩ := List.mem_iff_getElem?.mp hp
  obtain ⟨c, hc⟩ := B.cord hi
  obtain ⟨dx, row, h, _⟩ := B.pair i p c hi hc
  exact ⟨dx, row, h⟩
/-- a tracked thing of the board -/
theorem BoardAt.there (B : BoardAt CB CP H r s) {a : Addr} (h : a ∈ foot r) : ∃ o, H a = some o := by
  simp only [foot, List.mem_cons] at h
  rcases h with rfl | rfl | rfl | rfl | rfl | h
  · exact ⟨_, B.b⟩
  · exact ⟨_, B.off⟩
  · exact ⟨_, B.lit⟩
  · exact ⟨_, B.prs⟩
  · obtain ⟨ts, h, _⟩ := B.nt
    exact ⟨_, h⟩
  · obtain ⟨dx, row, h⟩ := B.ins h
    exact ⟨_, h⟩
theorem BoardAt.fresh (B : BoardAt CB CP H r s) {a : Addr} (h : H a = none) : a ∉ foot r := fun z => by
  obtain ⟨o, q⟩ := B.there z
  rw [h] at q
  cases q
theorem BoardAt.bne {a : Addr} {xs : List V} (B : BoardAt CB CP H r s) (h : H a = some (.lst xs)) : r.b ≠ a := ne_of B.b h (by intro z; cases z)
theorem BoardAt.pne {a : Addr} {xs : List V} (B : BoardAt CB CP H r s) {p : Addr} (hp : p ∈ r.ps) (h : H a = some (.lst xs)) : p ≠ a := by
  obtain ⟨dx, row, hp⟩ := B.ins hp
  exact ne_of hp h (by intro z; cases z)
theorem BoardAt.pb (B : BoardAt CB CP H r s) {p : Addr} (hp : p ∈ r.ps) : r.b ≠ p := by
  obtain ⟨dx, row, hp⟩ := B.ins hp
  exact ne_of B.b hp bp_ne
theorem tne {a t : Addr} {xs : List V} {o : HO} (ht : H t = some (.tup xs)) (h : H a = some o) (n : ∀ ys, o ≠ .tup ys) : t ≠ a := ne_of ht h (fun z => n xs z.symm)
theorem map_nl {ls ms : List Mu29.Line} {g : Mu29.Line → V} (h : ms.length ≤ 20) (e : ls.map g = ms.map g) : ls.length ≤ 20 := by
  have := congrArg List.length e
  rw [List.length_map, List.length_map] at this
  omega
/-- one list of lamps or receivers is set anew -/
theorem BoardAt.setLit (B : BoardAt CB CP H r s) {ls : List Mu29.Line} (h : ls.map offV = s.lines.map offV) : BoardAt CB CP (upd H r.lit (.lst (ls.map litV))) r { s with lines := ls } := by
  refine ⟨(upd_ne (B.bne B.lit)).trans B.b, (upd_ne B.d1).trans (B.off.trans (by rw [h])), upd_same, (upd_ne (Ne.symm B.d4)).trans B.prs, B.len, fun i p c hp hc => ?_, B.nd, ?_, B.d1, B.d2, B.d3, B.d4, B.d5, B.d6, map_nl B.nl h, B.nc⟩
  · obtain ⟨dx, row, h1, h2⟩ := B.pair i p c hp hc
    exact ⟨dx, row, (upd_ne (B.pne (List.mem_of_getElem? hp) B.lit)).trans h1, h2⟩
  · obtain ⟨ts, h1, h2, h3⟩ := B.nt
    exact ⟨ts, (upd_ne (Ne.symm B.d5)).trans h1, h2, fun i t k a b => (upd_ne (tne (h3 i t k a b) B.lit (fun _ z => by cases z))).trans (h3 i t k a b)⟩
theorem BoardAt.setOff (B : BoardAt CB CP H r s) {ls : List Mu29.Line} (h : ls.map litV = s.lines.map litV) : BoardAt CB CP (upd H r.off (.lst (ls.map offV))) r { s with lines := ls } := by
  refine ⟨(upd_ne (B.bne B.off)).trans B.b, upd_same, (upd_ne (Ne.symm B.d1)).trans (B.lit.trans (by rw [h])), (upd_ne (Ne.symm B.d2)).trans B.prs, B.len, fun i p c hp hc => ?_, B.nd, ?_, B.d1, B.d2, B.d3, B.d4, B.d5, B.d6, map_nl B.nl h, B.nc⟩
  · obtain ⟨dx, row, h1, h2⟩ := B.pair i p c hp hc
    exact ⟨dx, row, (upd_ne (B.pne (List.mem_of_getElem? hp) B.off)).trans h1, h2⟩
  · obtain ⟨ts, h1, h2, h3⟩ := B.nt
    exact ⟨ts, (upd_ne (Ne.symm B.d3)).trans h1, h2, fun i t k a b => (upd_ne (tne (h3 i t k a b) B.off (fun _ z => by cases z))).trans (h3 i t k a b)⟩
/-- the board's own numbers are set -/
theorem BoardAt.setB (B : BoardAt CB CP H r s) (n b m : Nat) : BoardAt CB CP (upd H r.b (.ins CB r.dx (bF (brow r { s with now := n, busies := b, misses := m })))) r { s with now := n, busies := b, misses := m } := by
  refine ⟨upd_same, (upd_ne (Ne.symm (B.bne B.off))).trans B.off, (upd_ne (Ne.symm (B.bne B.lit))).trans B.lit, (upd_ne (Ne.symm (B.bne B.prs))).trans B.prs, B.len, fun i p c hp hc => ?_, B.nd, ?_, B.d1, B.d2, B.d3, B.d4, B.d5, B.d6, B.nl, B.nc⟩
  · obtain ⟨dx, row, h1, h2⟩ := B.pair i p c hp hc
    exact ⟨dx, row, (upd_ne (Ne.symm (B.pb (List.mem_of_getElem? hp)))).trans h1, h2⟩
  · obtain ⟨ts, h1, h2, h3⟩ := B.nt
    exact ⟨ts, (upd_ne (Ne.symm (B.bne h1))).trans h1, h2, fun i t k a b => (upd_ne (tne (h3 i t k a b) B.b (fun _ z => by cases z))).trans (h3 i t k a b)⟩
/-- a pair is set -/
theorem BoardAt.setP (B : BoardAt CB CP H r s) {k : Nat} {p dx : Addr} {c : Mu29.Stand} {row : PRow} (hk : r.ps[k]? = some p) (h : Rel c row) : BoardAt CB CP (upd H p (.ins CP dx (pF row))) r { s with cords := s.cords.set k c } := by
  have hm := List.mem_of_getElem? hk
  refine ⟨(upd_ne (B.pb hm)).trans B.b, (upd_ne (Ne.symm (B.pne hm B.off))).trans B.off, (upd_ne (Ne.symm (B.pne hm B.lit))).trans B.lit, (upd_ne (Ne.symm (B.pne hm B.prs))).trans B.prs, by rw [List.length_set]; exact B.len, fun i p' c' hp hc => ?_, B.nd, ?_, B.d1, B.d2, B.d3, B.d4, B.d5, B.d6, B.nl, by rw [List.length_set]; exact B.nc⟩
  · rcases set_get hc with ⟨e, q⟩ | ⟨e, q⟩
    · subst e
      rw [hk] at hp
      cases hp
      subst q
      exact ⟨dx, row, upd_same, h⟩
    · obtain ⟨dx', row', h1, h2⟩ := B.pair i p' c' hp q
      refine ⟨dx', row', (upd_ne fun z => ?_).trans h1, h2⟩
      rw [z] at hp
      exact e (nd_ix B.nd hp hk)
  · obtain ⟨ts, h1, h2, h3⟩ := B.nt
    refine ⟨ts, (upd_ne (Ne.symm (B.pne hm h1))).trans h1, h2, fun i t k a b => ?_⟩
    obtain ⟨d', row', hp⟩ := B.ins hm
    exact (upd_ne (tne (h3 i t k a b) hp (fun _ z => by cases z))).trans (h3 i t k a b)
/-- a talk is noted -/
theorem BoardAt.note (B : BoardAt CB CP H r s) {ts : List Addr} {t : Addr} (k : Mu29.Talk) (h1 : H r.nt = some (.lst (ts.map V.ref))) (h2 : ts.length = s.talks.length) (h3 : ∀ (i : Nat) t k, ts[i]? = some t → s.talks[i]? = some k → H t = some (.tup (talkV k))) (ht : H t = none) :
    BoardAt CB CP (upd (upd H t (.tup (talkV k))) r.nt (.lst (ts.map V.ref ++ [.ref t]))) r { s with talks := s.talks ++ [k] } := by
  have B1 := B.same (same_new (o := .tup (talkV k)) ht)
  have hnt : upd H t (.tup (talkV k)) r.nt = some (.lst (ts.map V.ref)) := same_new ht _ _ h1
  refine ⟨(upd_ne (B1.bne hnt)).trans B1.b, (upd_ne B.d3).trans B1.off, (upd_ne B.d5).trans B1.lit, (upd_ne B.d6).trans B1.prs, B.len, fun i p c hp hc => ?_, B.nd, ⟨ts ++ [t], ?_, ?_, fun i t' k' a b => ?_⟩, B.d1, B.d2, B.d3, B.d4, B.d5, B.d6, B.nl, B.nc⟩
  · obtain ⟨dx, row, q1, q2⟩ := B1.pair i p c hp hc
    exact ⟨dx, row, (upd_ne (B1.pne (List.mem_of_getElem? hp) hnt)).trans q1, q2⟩
  · rw [List.map_append]
    exact upd_same
  · rw [List.length_append, List.length_append, h2]
    rfl
  · have b : (s.talks ++ [k])[i]? = Option.some k' := b
    have key : upd H t (.tup (talkV k)) t' = some (.tup (talkV k')) := by
      by_cases e : i < ts.length
      · rw [List.getElem?_append_left e] at a
        rw [List.getElem?_append_left (by omega)] at b
        exact same_new ht _ _ (h3 i t' k' a b)
      · rw [List.getElem?_append_right (by omega)] at a
        rw [List.getElem?_append_right (by omega)] at b
        have z : i - ts.length = 0 := by
          have := (List.getElem?_eq_some_iff.mp a).1
          simp at this
          omega
        have z' : i - s.talks.length = 0 := by omega
        rw [z] at a
        rw [z'] at b
        cases a
        cases b
        exact upd_same
    exact (upd_ne (tne key hnt (fun _ z => by cases z))).trans key
/-! ## pairs picked by a comprehension -/
theorem wipe_one (σ : L2.St) (i : Nat) (x : Option V) : wipe ((wipe σ [i]).set i x) [i] = wipe σ [i] := by
  show ((σ.set i none).set i x).set i none = σ.set i none
  rw [List.set_set, List.set_set]
theorem lc_pick {K : PySem.W.Frag} (B : BoardAt CB CP H r s) {σ : L2.St} {i : Nat} {f : Mu29.Stand → Bool} {tt : TT} {Q : Addr → Hp → Prop} (hi : i < σ.length)
    (test : ∀ (k : Nat) p c H' (Q' : Bool → Hp → Prop), Same H H' → r.ps[k]? = some p → s.cords[k]? = some c → Q' (f c) H' → tt ((wipe σ [i]).set i (some (.ref p))) H' Q')
    (q : ∀ D, H D = none → Q D (upd H D (.lst ((picks f r.ps s.cords).map V.ref)))) (D : Addr) (hD : H D = none) :
    ∃ W : Nat → Nat → Hp → Prop, (∃ m, W 0 m (upd H D (.lst []))) ∧ ∀ j m H', W j m H' →
      ((Itl K r.prs).stop j H' ∧ Q D H') ∨ ((Itl K r.prs).go j H' ∧ ∃ Nx : Hp → Prop, (∀ H', Nx H' → ∃ m', m' < m ∧ W (j + 1) m' H') ∧ ∀ x H'', (Itl K r.prs).yld j H' x H'' → gName i x (wipe σ [i]) H'' fun σ2 H2 => wipe σ2 [i] = wipe σ [i] ∧ tt σ2 H2 fun b H3 =>
        if b = true then tVar i σ2 H3 fun y H4 => ∃ acc, H4 D = some (.lst acc) ∧ acc.length < sizeLine ∧ Nx (upd H4 D (.lst (acc ++ [y]))) else Nx H3) := by
  have hS : ∀ o, Same H (upd H D o) := fun o => same_new hD
  refine lc_list (K := K) (a := r.prs) (xs := r.ps.map V.ref) (Qd := fun H' => Q D H') (fun j H' => H' = upd H D (.lst ((picks f (r.ps.take j) (s.cords.take j)).map V.ref))) rfl (fun j H' _ e => ?_) (fun j x H' hx e => ?_) (fun H' e => ?_)
  · rw [e]
    exact SqL.of (hS _ _ _ B.prs)
  · rw [List.getElem?_map] at hx
    cases hp : r.ps[j]? with
    | none => rw [hp] at hx; cases hx
    | some p =>
      rw [hp] at hx
      cases hx
      obtain ⟨c, hc⟩ := B.cord hp
      refine ⟨wipe_one σ i _, test j p c H' _ (by rw [e]; exact hS _) hp hc ?_⟩
      have st := picks_step f B.len hp hc
      cases hf : f c with
      | true =>
        rw [hf, if_pos rfl] at st
        refine iteT ⟨.ref p, ?_, (picks f (r.ps.take j) (s.cords.take j)).map V.ref, by rw [e]; exact upd_same, ?_, ?_⟩
        · rw [List.getElem?_set_self]
          rw [wipe_length]
          exact hi
        · have h1 := picks_len f (r.ps.take j) (s.cords.take j)
          have h2 := (List.getElem?_eq_some_iff.mp hp).1
          have h3 := B.len
          have h4 := B.nc
          rw [List.length_take] at h1
          rw [List.length_map, sizeLine_eq]
          omega
        · show upd H' D _ = _
          rw [e, upd_upd, st, List.map_append]
          rfl
      | false =>
        rw [hf, if_neg (by decide), List.append_nil] at st
        refine iteF ?_
        show H' = _
        rw [e, st]
  · rw [e, List.length_map]
    have e1 : r.ps.take r.ps.length = r.ps := List.take_length
    have e2 : s.cords.take r.ps.length = s.cords := by rw [B.len]; exact List.take_length
    rw [e1, e2]
    exact q D hD
end
end Cb

namespace Cb
open PySem PySem.Spec PyProof.Rows L2
abbrev sBI : Stmt := inClass (top 10) 0
abbrev sBC : Stmt := inClass (top 10) 1
abbrev sBL : Stmt := inClass (top 10) 2
abbrev sBP : Stmt := inClass (top 10) 3
abbrev sBQ : Stmt := inClass (top 10) 4
abbrev sBK : Stmt := inClass (top 10) 5
abbrev sBR : Stmt := inClass (top 10) 6
abbrev sBU : Stmt := inClass (top 10) 7
abbrev sBH : Stmt := inClass (top 10) 8
abbrev sBT : Stmt := inClass (top 10) 9
abbrev sBM : Stmt := inClass (top 10) 10
abbrev sBE : Stmt := inClass (top 10) 11
def spBL (CB CP : Addr) : Sp := fun vs H Q _ => ∃ (r : BR) (s : Mu29.State), vs = [.ref r.b] ∧ BoardAt CB CP H r s ∧ Q (.int (s.lines.length : Int)) H
def spBP (CB CP : Addr) : Sp := fun vs H Q _ => ∃ (r : BR) (s : Mu29.State) (l : Nat), vs = [.ref r.b, .int (l : Int)] ∧ BoardAt CB CP H r s ∧ ∀ p, H p = none → Q (.ref p) (upd H p (.lst ((picks (has l) r.ps s.cords).map V.ref)))
def spBR (CB CP : Addr) : Sp := fun vs H Q _ => ∃ (r : BR) (s : Mu29.State) (l : Nat), vs = [.ref r.b, .int (l : Int)] ∧ BoardAt CB CP H r s ∧ ∀ p, H p = none → Q (.ref p) (upd H p (.lst ((picks (ringsAt l) r.ps s.cords).map V.ref)))
def spBQ (CB CP : Addr) : Sp := fun vs H Q _ => ∃ (r : BR) (s : Mu29.State) (l : Nat), vs = [.ref r.b, .int (l : Int)] ∧ BoardAt CB CP H r s ∧ ∀ H', Same H H' → Q (.bl (Mu29.plugged s l)) H'
def spBK (CB CP : Addr) : Sp := fun vs H Q _ => ∃ (r : BR) (s : Mu29.State) (l : Nat), vs = [.ref r.b, .int (l : Int)] ∧ BoardAt CB CP H r s ∧ l < s.lines.length ∧ ∀ H', BoardAt CB CP H' r (lookS s l) → Keeps (foot r) H H' → Q .non H'
def spBT (CB CP : Addr) : Sp := fun vs H Q _ => ∃ (r : BR) (s : Mu29.State), vs = [.ref r.b] ∧ BoardAt CB CP H r s ∧ ∀ p, H p = none → Q (.ref p) (upd H p (.lst ((litLines s).map fun (l : Nat) => V.int (l : Int))))
def spBM (CB CP : Addr) : Sp := fun vs H Q _ => ∃ (r : BR) (s : Mu29.State), vs = [.ref r.b] ∧ BoardAt CB CP H r s ∧ ∀ H', Same H H' → Q (.int ((s.cords.filter fun c => Mu29.isFree c).length : Int)) H'
/-! ### lines by their places -/
theorem off_at {s : Mu29.State} {l : Nat} {x : Mu29.Line} (h : s.lines[l]? = some x) : (s.lines.map offV)[l]? = some (.bl x.off) := by
  rw [List.getElem?_map, h]
  rfl
theorem lit_at {s : Mu29.State} {l : Nat} {x : Mu29.Line} (h : s.lines[l]? = some x) : (s.lines.map litV)[l]? = some (litV x) := by
  rw [List.getElem?_map, h]
  rfl
theorem line_at {s : Mu29.State} {l : Nat} (h : l < s.lines.length) : ∃ x, s.lines[l]? = some x := ⟨_, List.getElem?_eq_getElem h⟩
theorem ixN_nat {n l : Nat} (h : l < n) : ixN n (l : Int) = some l := by
  unfold ixN
  rw [if_pos (by omega), if_pos (by omega)]
  rfl
theorem modify_set {ls : List Mu29.Line} {l : Nat} {x : Mu29.Line} (g : Mu29.Line → Mu29.Line) (h : ls[l]? = some x) : ls.modify l g = ls.set l (g x) := by
  refine List.ext_getElem? fun j => ?_
  rw [List.getElem?_modify, List.getElem?_set]
  by_cases e : l = j
  · subst e
    rw [if_pos rfl, if_pos (List.getElem?_eq_some_iff.mp h).1, h]
    simp
  · rw [if_neg e]
    simp [e]
theorem set_same {α : Type} {xs : List α} {l : Nat} {x : α} (h : xs[l]? = some x) : xs.set l x = xs := by
  refine List.ext_getElem? fun j => ?_
  rw [List.getElem?_set]
  by_cases e : l = j
  · subst e
    rw [if_pos rfl, if_pos (List.getElem?_eq_some_iff.mp h).1, h]
  · rw [if_neg e]
theorem look_lines {s : Mu29.State} {l : Nat} {x : Mu29.Line} (h : s.lines[l]? = some x) : (lookS s l).lines = s.lines.set l (fixL s l x) := modify_set _ h
theorem look_off {s : Mu29.State} {l : Nat} {x : Mu29.Line} (h : s.lines[l]? = some x) : (lookS s l).lines.map offV = s.lines.map offV := by
  rw [look_lines h, List.map_set, show offV (fixL s l x) = offV x from congrArg V.bl (fix_off s l x)]
  exact set_same (off_at h)
section
variable {CB CP : Addr} {H H' : Hp} {r : BR} {s : Mu29.State}
theorem BoardAt.looked (B : BoardAt CB CP H r s) {l : Nat} {x : Mu29.Line} {v : V} (h : s.lines[l]? = some x) (hv : v = litV (fixL s l x)) : BoardAt CB CP (upd H r.lit (.lst ((s.lines.map litV).set l v))) r (lookS s l) := by
  have e : (s.lines.map litV).set l v = (lookS s l).lines.map litV := by rw [look_lines h, List.map_set, hv]
  rw [e]
  exact B.setLit (look_off h)
end
theorem plugged_picks {ps : List Addr} {s : Mu29.State} {l : Nat} (h : ps.length = s.cords.length) : Mu29.plugged s l = !(picks (has l) ps s.cords).isEmpty := by
  have e : Mu29.plugged s l = s.cords.any (has l) := rfl
  rw [e]
  cases q : picks (has l) ps s.cords with
  | nil => exact find_none_any (picks_nil _ _ _ h q)
  | cons p t =>
    obtain ⟨k, c, h1, _⟩ := picks_cons _ _ _ _ _ h q
    exact find_some_any h1
theorem isEmpty_map {xs : List Addr} : (xs.map V.ref).isEmpty = xs.isEmpty := by
  cases xs <;> rfl
section
variable {P : Program} {w : World} {K : PySem.W.Frag} {mg : Str → Option Value} {base : Heap} {CP CB CD : Addr}
theorem scBL : FnScope ["self"] ["self"] (defScope sBL) := ⟨rfl, rfl, rfl, by decide +kernel, rfl, by decide +kernel, by decide +kernel⟩
theorem ok_BL (F : MFun K CB "lines" "Board.lines" sBL ["self"]) (T : Txt K mg CP CB CD) : MOk P w K mg base CX0 CB "lines" 1 ["self"] (spBL CB CP) := by
  refine F.ok scBL (fun vs H Q E h => ?_) (fun f cdv A outer s H vs Q E hr h => ?_)
  · obtain ⟨r, s, rfl, _⟩ := h
    rfl
  · obtain ⟨r, s, rfl, B, q⟩ := h
    refine ⟨_, pss_one (ps_ret (pe_callB call_len_seq (by rfl) T.len PySem.boot_len (pa_cons (pe_fld (pv 0) rfl) pa_nil))), ?_⟩
    refine ⟨_, rfl, r.b, CB, r.dx, _, _, rfl, B.b, T.clB, T.nof, bF_off _, r.off, _, rfl, .inl (SqL.of B.off), ?_⟩
    rw [List.length_map]
    exact q
theorem scBP : FnScope ["self", "line", "pair"] ["self", "line"] (defScope sBP) := ⟨rfl, rfl, rfl, by decide +kernel, rfl, by decide +kernel, by decide +kernel⟩
theorem ok_BP (F : MFun K CB "pairs_in" "Board.pairs_in" sBP ["self", "line"]) (T : Txt K mg CP CB CD) (GN : MOk P w K mg base CX0 CP "is_in" 2 ["self", "line"] (spPN CP)) : MOk P w K mg base CX0 CB "pairs_in" 3 ["self", "line"] (spBP CB CP) := by
  refine F.ok scBP (fun vs H Q E h => ?_) (fun f cdv A outer s H vs Q E hr h => ?_)
  · obtain ⟨r, s, l, rfl, _⟩ := h
    rfl
  · obtain ⟨r, s, l, rfl, B, q⟩ := h
    refine ⟨_, pss_one (ps_ret (pe_lc (own := [("pair", 2)]) (g := gName 2) rfl scBP.nd (pi_list (pe_fld (pv 0) rfl)) (blkOk_by (own := [("pair", 2)]) (N := ["self", "line", "pair"]) (sc := defScope sBP) (by decide +kernel))
      (fun _ _ _ _ _ => pg_name (i := 2) scBP.nd rfl (Or.inl rfl)) (fun _ _ _ _ _ => pts_one (pt_val (pm (pv 2) T.clP GN hr pass0 (pa_cons (pv 1) pa_nil)))) (fun _ _ _ _ _ => pv 2))), ?_⟩
    refine ⟨_, rfl, r.b, CB, r.dx, _, _, rfl, B.b, T.clB, T.npr, bF_pairs _, r.prs, rfl, ⟨_, SqL.of B.prs⟩, lc_pick (f := has l) B (by show 2 < 3; decide) (fun k p c H' Q' sm hp hc q' => ?_) q⟩
    obtain ⟨dx, row, h1, h2⟩ := B.pair k p c hp hc
    refine ⟨_, rfl, p, dx, _, rfl, sm _ _ h1, pF_none _ (by decide +kernel), _, rfl, p, dx, row, (l : Int), rfl, sm _ _ h1, _, rfl, ?_⟩
    rw [rel_in h2]
    exact q'
theorem scBR : FnScope ["self", "line", "pair"] ["self", "line"] (defScope sBR) := ⟨rfl, rfl, rfl, by decide +kernel, rfl, by decide +kernel, by decide +kernel⟩
theorem ok_BR (F : MFun K CB "ringing_at" "Board.ringing_at" sBR ["self", "line"]) (T : Txt K mg CP CB CD) (GR : MOk P w K mg base CX0 CP "rings_at" 1 ["self", "line"] (spPR CP)) : MOk P w K mg base CX0 CB "ringing_at" 2 ["self", "line"] (spBR CB CP) := by
  refine F.ok scBR (fun vs H Q E h => ?_) (fun f cdv A outer s H vs Q E hr h => ?_)
  · obtain ⟨r, s, l, rfl, _⟩ := h
    rfl
  · obtain ⟨r, s, l, rfl, B, q⟩ := h
    refine ⟨_, pss_one (ps_ret (pe_lc (own := [("pair", 2)]) (g := gName 2) rfl scBR.nd (pi_list (pe_fld (pv 0) rfl)) (blkOk_by (own := [("pair", 2)]) (N := ["self", "line", "pair"]) (sc := defScope sBR) (by decide +kernel))
      (fun _ _ _ _ _ => pg_name (i := 2) scBR.nd rfl (Or.inl rfl)) (fun _ _ _ _ _ => pts_one (pt_val (pm (pv 2) T.clP GR hr pass0 (pa_cons (pv 1) pa_nil)))) (fun _ _ _ _ _ => pv 2))), ?_⟩
    refine ⟨_, rfl, r.b, CB, r.dx, _, _, rfl, B.b, T.clB, T.npr, bF_pairs _, r.prs, rfl, ⟨_, SqL.of B.prs⟩, lc_pick (f := ringsAt l) B (by show 2 < 3; decide) (fun k p c H' Q' sm hp hc q' => ?_) q⟩
    obtain ⟨dx, row, h1, h2⟩ := B.pair k p c hp hc
    refine ⟨_, rfl, p, dx, _, rfl, sm _ _ h1, pF_none _ (by decide +kernel), _, rfl, p, dx, row, (l : Int), rfl, sm _ _ h1, _, rfl, ?_⟩
    rw [rel_rings h2]
    exact q'
theorem scBQ : FnScope ["self", "line"] ["self", "line"] (defScope sBQ) := ⟨rfl, rfl, rfl, by decide +kernel, rfl, by decide +kernel, by decide +kernel⟩
theorem ok_BQ (F : MFun K CB "is_plugged" "Board.is_plugged" sBQ ["self", "line"]) (T : Txt K mg CP CB CD) (GP : MOk P w K mg base CX0 CB "pairs_in" 3 ["self", "line"] (spBP CB CP)) : MOk P w K mg base CX0 CB "is_plugged" 4 ["self", "line"] (spBQ CB CP) := by
  refine F.ok scBQ (fun vs H Q E h => ?_) (fun f cdv A outer s H vs Q E hr h => ?_)
  · obtain ⟨r, s, l, rfl, _⟩ := h
    rfl
  · obtain ⟨r, s, l, rfl, B, q⟩ := h
    refine ⟨_, pss_one (ps_ret (pe_cmpR (op_neNil hr.units0) (pm (pv 0) T.clB GP hr pass0 (pa_cons (pv 1) pa_nil)) (pe_lst pa_nil) (nomark _))), ?_⟩
    refine ⟨_, rfl, r.b, r.dx, _, rfl, B.b, bF_none _ (by decide +kernel), _, rfl, r, s, l, rfl, B, fun p hp => ⟨Nat.zero_le _, fun e he => ?_⟩⟩
    have ne : p ≠ e := ne_of_none upd_same he
    refine ⟨p, e, _, rfl, rfl, SqL.of ((upd_ne ne).trans upd_same), SqL.of upd_same, ?_⟩
    rw [isEmpty_map, ← plugged_picks B.len]
    exact q _ ((same_new hp).trans (same_new he))
theorem scBK : FnScope ["self", "line"] ["self", "line"] (defScope sBK) := ⟨rfl, rfl, rfl, by decide +kernel, rfl, by decide +kernel, by decide +kernel⟩
theorem ok_BK (F : MFun K CB "look" "Board.look" sBK ["self", "line"]) (T : Txt K mg CP CB CD) (GQ : MOk P w K mg base CX0 CB "is_plugged" 4 ["self", "line"] (spBQ CB CP)) : MOk P w K mg base CX0 CB "look" 5 ["self", "line"] (spBK CB CP) := by
  refine F.ok scBK (fun vs H Q E h => ?_) (fun f cdv A outer s H vs Q E hr h => ?_)
  · obtain ⟨r, s, l, rfl, _⟩ := h
    rfl
  · obtain ⟨r, s, l, rfl, B, hl, q⟩ := h
    obtain ⟨x, hx⟩ := line_at hl
    refine ⟨_, pss_one (ps_if (PW.pt (pw_or (pt_not (pt_val (pe_ix ix_list (pe_fld (pv 0) rfl) (pv 1) (fun _ _ => rfl)))) (pw_or1 (pt_val (pm (pv 0) T.clB GQ hr pass0 (pa_cons (pv 1) pa_nil))))))
      (pss_one (ps_asg (pgl T.gDARK) (pg_sub (pe_fld (pv 0) rfl) (pv 1) set_list)))
      (pss_one (ps_if (pt_cmp (pc_eqI (pe_ix ix_list (pe_fld (pv 0) rfl) (pv 1) (fun _ _ => rfl)) (pgl T.gDARK))) (pss_one (ps_asg (pe_fld (pv 0) rfl) (pg_sub (pe_fld (pv 0) rfl) (pv 1) set_list))) pss_nil))), ?_⟩
    have hll : l < (s.lines.map litV).length := by rw [List.length_map]; exact hl
    -- the lamp is set dark
    have dark : ∀ H1, Same H H1 → ¬ (x.off = true ∧ Mu29.plugged s l = false) → tAsg (tC (.int (-1))) (gSub (tFld K (tVar 0) "lit") (tVar 1) rSetL) { nx := fun _ H' => Q .non H', rt := Q } [some (.ref r.b), some (.int (l : Int))] H1 := fun H1 sm hn => by
      have B1 := B.same sm
      refine ⟨_, rfl, r.b, CB, r.dx, _, _, rfl, B1.b, T.clB, T.nli, bF_lit _, _, rfl, r.lit, _, _, l, rfl, rfl, B1.lit, ixN_nat hll, ?_⟩
      refine q _ (B1.looked hx ?_) ((Keeps.of sm).trans (Keeps.upd (foot_lit r)))
      unfold fixL
      rw [if_neg hn]
      rfl
    refine ⟨_, rfl, r.b, CB, r.dx, _, _, rfl, B.b, T.clB, T.nof, bF_off _, _, rfl, r.off, _, _, _, rfl, rfl, SqL.of B.off, atI_nat (off_at hx), _, rfl, ?_⟩
    cases ho : x.off with
    | false => exact iteT (iteT (dark H (Same.refl H) (fun z => by rw [ho] at z; cases z.1)))
    | true =>
      refine iteF ?_
      refine ⟨_, rfl, r.b, r.dx, _, rfl, B.b, bF_none _ (by decide +kernel), _, rfl, r, s, l, rfl, B, fun H1 sm => ⟨_, rfl, ?_⟩⟩
      cases hp : Mu29.plugged s l with
      | true => exact iteT (dark H1 sm (fun z => by rw [hp] at z; cases z.2))
      | false =>
        refine iteF ?_
        have B1 := B.same sm
        have hc : x.off = true ∧ Mu29.plugged s l = false := ⟨ho, hp⟩
        refine ⟨_, rfl, r.b, CB, r.dx, _, _, rfl, B1.b, T.clB, T.nli, bF_lit _, _, rfl, r.lit, _, _, _, rfl, rfl, SqL.of B1.lit, atI_nat (lit_at hx), _, _, rfl, rfl, _, rfl, ?_⟩
        cases hlit : x.lit with
        | none =>
          refine iteT ⟨_, rfl, r.b, CB, r.dx, _, _, rfl, B1.b, T.clB, T.nti, bF_time _, _, rfl, r.b, CB, r.dx, _, _, rfl, B1.b, T.clB, T.nli, bF_lit _, _, rfl, r.lit, _, _, l, rfl, rfl, B1.lit, ixN_nat hll, ?_⟩
          refine q _ (B1.looked hx ?_) ((Keeps.of sm).trans (Keeps.upd (foot_lit r)))
          unfold fixL
          rw [if_pos hc]
          show V.int (s.now : Int) = V.int (match some (x.lit.getD s.now) with | none => -1 | some t => (t : Int))
          rw [hlit]
          rfl
        | some t =>
          have hd : decide (((t : Nat) : Int) = -1) = false := decide_eq_false (by omega)
          refine ifF hd ?_
          refine q H1 ?_ (Keeps.of sm)
          have e : lookS s l = s := by
            refine state_ext rfl ?_ rfl rfl rfl rfl
            rw [look_lines hx]
            have z : fixL s l x = x := by
              unfold fixL
              rw [if_pos hc]
              obtain ⟨o, li⟩ := x
              simp only at hlit
              subst hlit
              rfl
            rw [z]
            exact set_same hx
          rw [e]
          exact B1
theorem scBT : FnScope ["self", "line"] ["self"] (defScope sBT) := ⟨rfl, rfl, rfl, by decide +kernel, rfl, by decide +kernel, by decide +kernel⟩
theorem ok_BT (F : MFun K CB "lit_lines" "Board.lit_lines" sBT ["self"]) (T : Txt K mg CP CB CD) (GL : MOk P w K mg base CX0 CB "lines" 1 ["self"] (spBL CB CP)) : MOk P w K mg base CX0 CB "lit_lines" 2 ["self"] (spBT CB CP) := by
  refine F.ok scBT (fun vs H Q E h => ?_) (fun f cdv A outer s H vs Q E hr h => ?_)
  · obtain ⟨r, s, rfl, _⟩ := h
    rfl
  · obtain ⟨r, s, rfl, B, q⟩ := h
    refine ⟨_, pss_one (ps_ret (pe_lc (own := [("line", 1)]) (g := gName 1) (tt := tB (tNeI (tOp (rIxL K) (tFld K (tVar 0) "lit") (tVar 1)) (tC (.int (-1))))) rfl scBT.nd (pi_range1 (by rfl) T.range (pa_cons (pm0 (pv 0) T.clB GL hr pass0) pa_nil)) (blkOk_by (own := [("line", 1)]) (N := ["self", "line"]) (sc := defScope sBT) (by decide +kernel))
      (fun _ _ _ _ _ => pg_name (i := 1) scBT.nd rfl (Or.inl rfl)) (fun _ _ _ _ _ => pts_one (by exact pt_cmp (pc_neI (pe_ix ix_list (pe_fld (pv 0) rfl) (pv 1) (fun _ _ => rfl)) (pgl T.gDARK)))) (fun _ _ _ _ _ => pv 1))), ?_⟩
    have hn := B.nl
    refine ⟨_, rfl, r.b, r.dx, _, rfl, B.b, bF_none _ (by decide +kernel), r, s, rfl, B, _, rfl, by omega, by omega, fun D hD => ?_⟩
    have hS : ∀ o, Same H (upd H D o) := fun o => same_new hD
    refine lc_range (lo := 0) (n := ((s.lines.length : Nat) : Int).toNat) (Qd := fun H' => Q (.ref D) H') (fun j H' => H' = upd H D (.lst (((List.range j).filter fun l => (litN s l).isSome).map fun (l : Nat) => V.int (l : Int)))) rfl (fun j H' hj e => ?_) (fun H' e => ?_)
    · have hj : j < s.lines.length := by omega
      obtain ⟨x, hx⟩ := line_at hj
      have hll : litN s j = x.lit := by unfold litN; rw [hx]; rfl
      have ej : (0 : Int) + (j : Int) = (j : Int) := by omega
      rw [ej]
      refine ⟨rfl, ?_⟩
      have B1 : BoardAt CB CP H' r s := by rw [e]; exact B.same (hS _)
      refine ⟨_, rfl, r.b, CB, r.dx, _, _, rfl, B1.b, T.clB, T.nli, bF_lit _, _, rfl, r.lit, _, _, _, rfl, rfl, SqL.of B1.lit, atI_nat (lit_at hx), _, _, rfl, rfl, _, rfl, ?_⟩
      have er : (List.range (j + 1)).filter (fun l => (litN s l).isSome) = (List.range j).filter (fun l => (litN s l).isSome) ++ (if (litN s j).isSome = true then [j] else []) := by
        rw [List.range_succ, List.filter_append, List.filter_cons]
        rfl
      cases hlit : x.lit with
      | none =>
        refine iteF ?_
        rw [hll, hlit] at er
        rw [er, e]
        simp
      | some t =>
        have hd : (!decide (((t : Nat) : Int) = -1)) = true := by
          rw [decide_eq_false (by omega)]
          rfl
        refine ifT hd ⟨_, rfl, _, by rw [e]; exact upd_same, ?_, ?_⟩
        · rw [List.length_map, sizeLine_eq]
          have := List.length_filter_le (fun l => (litN s l).isSome) (List.range j)
          rw [List.length_range] at this
          omega
        · rw [hll, hlit] at er
          rw [er, e, upd_upd]
          simp
    · rw [e]
      have en : ((s.lines.length : Nat) : Int).toNat = s.lines.length := by omega
      rw [en]
      exact q D hD
theorem scBM : FnScope ["self", "pair"] ["self"] (defScope sBM) := ⟨rfl, rfl, rfl, by decide +kernel, rfl, by decide +kernel, by decide +kernel⟩
theorem ok_BM (F : MFun K CB "many_free" "Board.many_free" sBM ["self"]) (T : Txt K mg CP CB CD) : MOk P w K mg base CX0 CB "many_free" 1 ["self"] (spBM CB CP) := by
  refine F.ok scBM (fun vs H Q E h => ?_) (fun f cdv A outer s H vs Q E hr h => ?_)
  · obtain ⟨r, s, rfl, _⟩ := h
    rfl
  · obtain ⟨r, s, rfl, B, q⟩ := h
    refine ⟨_, pss_one (ps_ret (pe_callB call_len_seq (by rfl) T.len PySem.boot_len (pa_cons (pe_lc (own := [("pair", 1)]) (g := gName 1) (tt := tB (tEqI (tFld K (tVar 1) "state") (tC (.int 0)))) rfl scBM.nd (pi_list (pe_fld (pv 0) rfl)) (blkOk_by (own := [("pair", 1)]) (N := ["self", "pair"]) (sc := defScope sBM) (by decide +kernel))
      (fun _ _ _ _ _ => pg_name (i := 1) scBM.nd rfl (Or.inl rfl)) (fun _ _ _ _ _ => pts_one (by exact pt_cmp (pc_eqI (pe_fld (pv 1) rfl) (pgl T.gFREE)))) (fun _ _ _ _ _ => pv 1)) pa_nil))), ?_⟩
    refine ⟨_, rfl, r.b, CB, r.dx, _, _, rfl, B.b, T.clB, T.npr, bF_pairs _, r.prs, rfl, ⟨_, SqL.of B.prs⟩, ?_⟩
    refine lc_pick (f := Mu29.isFree) B (by show 1 < 2; decide) (fun k p c H' Q' sm hp hc q' => ?_) (fun D hD => ?_)
    · obtain ⟨dx, row, h1, h2⟩ := B.pair k p c hp hc
      refine ⟨_, rfl, p, CP, dx, _, _, rfl, sm _ _ h1, T.clP, T.nst, pF_state _, _, _, rfl, rfl, _, rfl, ?_⟩
      show Q' (decide (row.st = 0)) H'
      rw [rel_free h2]
      exact q'
    · refine ⟨D, _, rfl, .inl (SqL.of upd_same), ?_⟩
      rw [List.length_map, picks_count _ _ _ B.len]
      exact q _ (same_new hD)
end
end Cb

namespace Cb
open PySem PySem.Spec PyProof.Rows L2
def spBU (CB CP : Addr) : Sp := fun vs H Q _ => ∃ (r : BR) (s : Mu29.State) (l : Nat), vs = [.ref r.b, .int (l : Int)] ∧ BoardAt CB CP H r s ∧ WF s ∧ l < s.lines.length ∧ ∀ H', BoardAt CB CP H' r (liftS s l) → Keeps (foot r) H H' → Q .non H'
def spBH (CB CP : Addr) : Sp := fun vs H Q _ => ∃ (r : BR) (s : Mu29.State) (l : Nat), vs = [.ref r.b, .int (l : Int)] ∧ BoardAt CB CP H r s ∧ l < s.lines.length ∧ ∀ H', BoardAt CB CP H' r (hangS s l) → Keeps (foot r) H H' → Q .non H'
def spBE (CB CP : Addr) : Sp := fun vs H Q _ => ∃ (r : BR) (s : Mu29.State) (l : Nat), vs = [.ref r.b, .int (l : Int)] ∧ BoardAt CB CP H r s ∧ WF s ∧ l < s.lines.length ∧ ∀ H' p, Same H H' → H' p = some (.lst ((Mu29.hears s l).map V.int)) → H p = none → Q (.ref p) H'
theorem setOff_lit (s : Mu29.State) (l : Nat) (v : Bool) : (setOff s l v).lines.map litV = s.lines.map litV := by
  refine List.ext_getElem? fun j => ?_
  rw [List.getElem?_map, List.getElem?_map, mod_get]
  by_cases h : l = j
  · rw [if_pos h]
    cases s.lines[j]? <;> rfl
  · rw [if_neg h]
theorem setOff_off {s : Mu29.State} {l : Nat} {x : Mu29.Line} (h : s.lines[l]? = some x) (v : Bool) : (setOff s l v).lines.map offV = (s.lines.map offV).set l (.bl v) := by
  have e : (setOff s l v).lines = s.lines.set l { x with off := v } := modify_set _ h
  rw [e, List.map_set]
  rfl
theorem setOff_len (s : Mu29.State) (l : Nat) (v : Bool) : (setOff s l v).lines.length = s.lines.length := by
  simp [setOff]
/-- at most one pair rings at a line -/
theorem rings_one {s : Mu29.State} (w : WF s) {l : Nat} {ps : List Addr} (hl : ps.length = s.cords.length) {p : Addr} {t : List Addr} (h : picks (ringsAt l) ps s.cords = p :: t) : t = [] ∧ ∃ k a b u, ps[k]? = some p ∧ s.cords[k]? = some (.rings a b u) ∧ b = l ∧ s.cords.map (liftC l s.now) = s.cords.set k (.talks a b s.now) := by
  obtain ⟨k, c, h1, h2, h3, h4⟩ := picks_cons _ _ _ _ _ hl h
  have only : ∀ (j : Nat) d, s.cords[j]? = some d → ringsAt l d = true → j = k := fun j d hj hd => w.un j k d c l hj h2 (List.contains_iff_mem.mp (ringsAt_has hd)) (List.contains_iff_mem.mp (ringsAt_has h3))
  cases c with
  | rings a b u =>
    have hb : b = l := by simpa [ringsAt] using h3
    refine ⟨?_, k, a, b, u, h4, h2, hb, ?_⟩
    · have hlen : (picks (ringsAt l) ps s.cords).length = (s.cords.filter (ringsAt l)).length := picks_count _ _ _ hl
      have hf : (s.cords.filter (ringsAt l)).length ≤ 1 := by
        rcases Nat.lt_or_ge 1 (s.cords.filter (ringsAt l)).length with z | z
        · exfalso
          -- two different places
          have key : ∀ (cs : List Mu29.Stand), 1 < (cs.filter (ringsAt l)).length → ∃ (i j : Nat) (d e : Mu29.Stand), i < j ∧ cs[i]? = some d ∧ cs[j]? = some e ∧ ringsAt l d = true ∧ ringsAt l e = true := by
            intro cs
            induction cs with
            | nil => intro z; simp at z
            | cons c cs ih =>
              intro z
              rw [List.filter_cons] at z
              by_cases hc : ringsAt l c = true
              · rw [if_pos hc, List.length_cons] at z
                have hpos : 0 < (cs.filter (ringsAt l)).length := by omega
                obtain ⟨e, he⟩ := List.exists_mem_of_length_pos hpos
                obtain ⟨he1, he2⟩ := List.mem_filter.mp he
                obtain ⟨j, hj⟩ := List.mem_iff_getElem?.mp he1
                exact ⟨0, j + 1, c, e, by omega, rfl, hj, hc, he2⟩
              · rw [if_neg hc] at z
                obtain ⟨i, j, d, e, q1, q2, q3, q4, q5⟩ := ih z
                exact ⟨i + 1, j + 1, d, e, by omega, q2, q3, q4, q5⟩
          obtain ⟨i, j, d, e, q1, q2, q3, q4, q5⟩ := key _ z
          have := only i d q2 q4
          have := only j e q3 q5
          omega
        · exact z
      rw [h] at hlen
      simp only [List.length_cons] at hlen
      exact List.length_eq_zero_iff.mp (by omega)
    · refine List.ext_getElem? fun j => ?_
      rw [List.getElem?_map]
      by_cases e : j = k
      · subst e
        rw [get_set_eq h2, h2]
        show some (liftC l s.now (.rings a b u)) = _
        unfold liftC
        simp only [hb, if_true]
      · rw [get_set_ne e]
        cases q : s.cords[j]? with
        | none => rfl
        | some d =>
          show some (liftC l s.now d) = some d
          cases d with
          | rings a' b' u' =>
            unfold liftC
            by_cases z : b' = l
            · exact absurd (only j _ q (by simp [ringsAt, z])) e
            · simp only [z, if_false]
          | _ => rfl
  | _ => cases h3
theorem rings_none {s : Mu29.State} {l : Nat} {ps : List Addr} (hl : ps.length = s.cords.length) (h : picks (ringsAt l) ps s.cords = []) : s.cords.map (liftC l s.now) = s.cords := by
  have hn := List.findIdx?_eq_none_iff.mp (picks_nil _ _ _ hl h)
  have e : ∀ c ∈ s.cords, liftC l s.now c = c := fun c hc => by
    cases c with
    | rings a b u =>
      have z : ringsAt l (.rings a b u) = false := hn _ hc
      have z' : ¬ b = l := by simpa [ringsAt] using z
      unfold liftC
      simp only [z', if_false]
    | _ => rfl
  rw [List.map_congr_left e]
  exact List.map_id' _
section
variable {P : Program} {w : World} {K : PySem.W.Frag} {mg : Str → Option Value} {base : Heap} {CP CB CD : Addr}
theorem scBU : FnScope ["self", "line", "pair"] ["self", "line"] (defScope sBU) := ⟨rfl, rfl, rfl, by decide +kernel, rfl, by decide +kernel, by decide +kernel⟩
theorem ok_BU (F : MFun K CB "lift" "Board.lift" sBU ["self", "line"]) (T : Txt K mg CP CB CD) (GR : MOk P w K mg base CX0 CB "ringing_at" 2 ["self", "line"] (spBR CB CP)) (GB : MOk P w K mg base CX0 CP "become" 1 ["self", "state"] (spPB CP))
    (GK : MOk P w K mg base CX0 CB "look" 5 ["self", "line"] (spBK CB CP)) : MOk P w K mg base CX0 CB "lift" 6 ["self", "line"] (spBU CB CP) := by
  refine F.ok scBU (fun vs H Q E h => ?_) (fun f cdv A outer s H vs Q E hr h => ?_)
  · obtain ⟨r, s, l, rfl, _⟩ := h
    rfl
  · obtain ⟨r, s, l, rfl, B, wf, hl, q⟩ := h
    obtain ⟨x, hx⟩ := line_at hl
    have hr1 : Room 1 _ := hr.mono (by decide)
    have hr2 : Room 2 _ := hr.mono (by decide)
    refine ⟨_, pss_cons (ps_asg pe_bl (pg_sub (pe_fld (pv 0) rfl) (pv 1) set_list))
      (pss_cons (ps_for PassesOwn.never rfl (pi_list (pm (pv 0) T.clB GR hr2 pass0 (pa_cons (pv 1) pa_nil))) (pg_name (i := 2) scBU.nd rfl (Or.inl rfl))
        (pss_cons (ps_expr (pm (pv 2) T.clP GB hr1 pass0 (pa_cons (pgl T.gTALK) pa_nil))) (pss_one (ps_fld (pv 2) (pe_fld (pv 0) rfl) rfl))))
      (pss_one (ps_expr (pm (pv 0) T.clB GK hr pass0 (pa_cons (pv 1) pa_nil))))), ?_⟩
    have hlo : l < (s.lines.map offV).length := by rw [List.length_map]; exact hl
    refine ⟨_, rfl, r.b, CB, r.dx, _, _, rfl, B.b, T.clB, T.nof, bF_off _, _, rfl, r.off, _, _, l, rfl, rfl, B.off, ixN_nat hlo, ?_⟩
    have B1 : BoardAt CB CP (upd H r.off (.lst ((s.lines.map offV).set l (.bl true)))) r (setOff s l true) := by
      rw [← setOff_off hx true]
      exact B.setOff (setOff_lit s l true)
    have K1 : Keeps (foot r) H (upd H r.off (.lst ((s.lines.map offV).set l (.bl true)))) := Keeps.upd (foot_off r)
    generalize upd H r.off (.lst ((s.lines.map offV).set l (.bl true))) = H1 at B1 K1
    refine ⟨_, rfl, r.b, r.dx, _, rfl, B1.b, bF_none _ (by decide +kernel), _, rfl, r, setOff s l true, l, rfl, B1, fun D hD => ?_⟩
    have B2 := B1.same (same_new (o := .lst ((picks (ringsAt l) r.ps (setOff s l true).cords).map V.ref)) hD)
    have K2 : Keeps (foot r) H (upd H1 D (.lst ((picks (ringsAt l) r.ps (setOff s l true).cords).map V.ref))) := K1.trans (Keeps.of (same_new hD))
    have nD := B1.fresh hD
    refine ⟨D, rfl, ⟨_, SqL.of upd_same⟩, ?_⟩
    refine for_list (K := K) (a := D) (xs := (picks (ringsAt l) r.ps s.cords).map V.ref) (fun j σ' H' => (∃ v, σ' = [some (.ref r.b), some (.int (l : Int)), v]) ∧ BoardAt CB CP H' r { setOff s l true with cords := if j = 0 then s.cords else s.cords.map (liftC l s.now) } ∧ Keeps (foot r) H H' ∧ H' D = some (.lst ((picks (ringsAt l) r.ps s.cords).map V.ref)))
      ⟨⟨none, rfl⟩, B2, K2, upd_same⟩ (fun j σ' H' _ p => SqL.of p.2.2.2) ?_ ?_
    · rintro j y σ' H' hj ⟨⟨v, rfl⟩, B3, K3, hD3⟩
      cases hL : picks (ringsAt l) r.ps s.cords with
      | nil => rw [hL] at hj; cases hj
      | cons p t =>
        obtain ⟨ht, k, a, b, u, hp, hc, hb, hm⟩ := rings_one wf B.len hL
        subst ht
        rw [hL] at hj hD3
        have hj0 : j = 0 := by
          have := (List.getElem?_eq_some_iff.mp hj).1
          simp at this
          exact this
        subst hj0
        cases hj
        have hc3 : ({ setOff s l true with cords := if (0 : Nat) = 0 then s.cords else s.cords.map (liftC l s.now) } : Mu29.State).cords[k]? = some (.rings a b u) := hc
        obtain ⟨dx, row, h1, h2⟩ := B3.pair k p _ hp hc3
        have nbp := B3.pb (List.mem_of_getElem? hp)
        refine ⟨_, rfl, p, dx, _, rfl, h1, pF_none _ (by decide +kernel), p, dx, row, 4, rfl, h1, ?_⟩
        refine ⟨_, rfl, r.b, CB, r.dx, _, _, rfl, (upd_ne nbp).trans B3.b, T.clB, T.nti, bF_time _, _, rfl, p, CP, dx, _, rfl, upd_same, T.clP, T.nsi, (by show 4 < 1000; decide), ?_⟩
        rw [upd_upd, pF_psi]
        refine ⟨⟨_, rfl⟩, ?_, K3.trans (Keeps.upd (foot_p hp)), (upd_ne fun z => nD (by rw [z]; exact foot_p hp)).trans hD3⟩
        show BoardAt CB CP _ r { setOff s l true with cords := s.cords.map (liftC l s.now) }
        rw [hm]
        exact B3.setP (c := .talks a b s.now) hp ⟨rfl, h2.2.1, h2.2.2.1, rfl⟩
    · rintro σ' H' ⟨⟨v, rfl⟩, B3, K3, hD3⟩
      have e : (if ((picks (ringsAt l) r.ps s.cords).map V.ref).length = 0 then s.cords else s.cords.map (liftC l s.now)) = s.cords.map (liftC l s.now) := by
        cases hL : picks (ringsAt l) r.ps s.cords with
        | nil => rw [rings_none B.len hL]; split <;> rfl
        | cons p t => rw [if_neg (by simp)]
      rw [e] at B3
      refine ⟨_, rfl, r.b, r.dx, _, rfl, B3.b, bF_none _ (by decide +kernel), _, rfl, r, _, l, rfl, B3, (by show l < (setOff s l true).lines.length; rw [setOff_len]; exact hl), fun H4 B4 K4 => ?_⟩
      exact q H4 B4 (K3.trans K4)
theorem scBH : FnScope ["self", "line"] ["self", "line"] (defScope sBH) := ⟨rfl, rfl, rfl, by decide +kernel, rfl, by decide +kernel, by decide +kernel⟩
theorem ok_BH (F : MFun K CB "hang" "Board.hang" sBH ["self", "line"]) (T : Txt K mg CP CB CD) (GK : MOk P w K mg base CX0 CB "look" 5 ["self", "line"] (spBK CB CP)) : MOk P w K mg base CX0 CB "hang" 6 ["self", "line"] (spBH CB CP) := by
  refine F.ok scBH (fun vs H Q E h => ?_) (fun f cdv A outer s H vs Q E hr h => ?_)
  · obtain ⟨r, s, l, rfl, _⟩ := h
    rfl
  · obtain ⟨r, s, l, rfl, B, hl, q⟩ := h
    obtain ⟨x, hx⟩ := line_at hl
    refine ⟨_, pss_cons (ps_asg pe_bl (pg_sub (pe_fld (pv 0) rfl) (pv 1) set_list)) (pss_one (ps_expr (pm (pv 0) T.clB GK hr pass0 (pa_cons (pv 1) pa_nil)))), ?_⟩
    have hlo : l < (s.lines.map offV).length := by rw [List.length_map]; exact hl
    refine ⟨_, rfl, r.b, CB, r.dx, _, _, rfl, B.b, T.clB, T.nof, bF_off _, _, rfl, r.off, _, _, l, rfl, rfl, B.off, ixN_nat hlo, ?_⟩
    have B1 : BoardAt CB CP (upd H r.off (.lst ((s.lines.map offV).set l (.bl false)))) r (setOff s l false) := by
      rw [← setOff_off hx false]
      exact B.setOff (setOff_lit s l false)
    have K1 : Keeps (foot r) H (upd H r.off (.lst ((s.lines.map offV).set l (.bl false)))) := Keeps.upd (foot_off r)
    refine ⟨_, rfl, r.b, r.dx, _, rfl, B1.b, bF_none _ (by decide +kernel), _, rfl, r, _, l, rfl, B1, (by rw [setOff_len]; exact hl), fun H4 B4 K4 => ?_⟩
    exact q H4 B4 (K1.trans K4)
theorem scBE : FnScope ["self", "line", "found", "pair"] ["self", "line"] (defScope sBE) := ⟨rfl, rfl, rfl, by decide +kernel, rfl, by decide +kernel, by decide +kernel⟩
theorem ok_BE (F : MFun K CB "heard" "Board.heard" sBE ["self", "line"]) (T : Txt K mg CP CB CD) (GR : MOk P w K mg base CX0 CB "ringing_at" 2 ["self", "line"] (spBR CB CP)) (GP : MOk P w K mg base CX0 CB "pairs_in" 3 ["self", "line"] (spBP CB CP))
    (GE : MOk P w K mg base CX0 CP "far_end" 1 ["self", "line"] (spPE CP)) : MOk P w K mg base CX0 CB "heard" 4 ["self", "line"] (spBE CB CP) := by
  refine F.ok scBE (fun vs H Q E h => ?_) (fun f cdv A outer s H vs Q E hr h => ?_)
  · obtain ⟨r, s, l, rfl, _⟩ := h
    rfl
  · obtain ⟨r, s, l, rfl, B, wf, hl, q⟩ := h
    obtain ⟨x, hx⟩ := line_at hl
    have hr1 : Room 1 _ := hr.mono (by decide)
    have hr2 : Room 2 _ := hr.mono (by decide)
    refine ⟨_, pss_cons (ps_if (pt_cmpR (op_neNil hr.units0) (pm (pv 0) T.clB GR hr2 pass0 (pa_cons (pv 1) pa_nil)) (pe_lst pa_nil) (nomark _)) (pss_one (ps_ret (pe_lst (pa_cons pe_int pa_nil)))) pss_nil)
      (pss_cons (ps_if (pt_not (pt_val (pe_ix ix_list (pe_fld (pv 0) rfl) (pv 1) (fun _ _ => rfl)))) (pss_one (ps_ret (pe_lst (pa_cons pe_int pa_nil)))) pss_nil)
      (pss_cons (ps_set (i := 2) scBE.nd rfl (Or.inl rfl) (pm (pv 0) T.clB GP hr pass0 (pa_cons (pv 1) pa_nil)))
      (pss_cons (ps_if (pt_cmpR (op_eqNil hr.units0) (pv 2) (pe_lst pa_nil) (nomark _)) (pss_one (ps_ret (pe_lst (pa_cons pe_int pa_nil)))) pss_nil)
      (pss_cons (ps_set (i := 3) scBE.nd rfl (Or.inl rfl) (pe_ix ix_list (pv 2) pe_int (fun _ _ => rfl)))
      (pss_cons (ps_if (pt_cmp (pc_eqI (pe_fld (pv 3) rfl) (pgl T.gTALK))) (pss_one (ps_ret (pe_lst (pa_cons pe_int (pa_cons (pm (pv 3) T.clP GE hr1 pass0 (pa_cons (pv 1) pa_nil)) pa_nil))))) pss_nil)
      (pss_cons (ps_if (pt_cmp (pc_lt (pe_fld (pv 3) rfl) (pgl T.gRINGS))) (pss_one (ps_ret (pe_lst (pa_cons (pe_op op_add pe_int (pe_fld (pv 3) rfl)) pa_nil)))) pss_nil)
      (pss_cons (ps_if (pt_cmp (pc_eqI (pe_fld (pv 3) rfl) (pgl T.gRINGS))) (pss_one (ps_ret (pe_lst (pa_cons pe_int pa_nil)))) pss_nil)
      (pss_one (ps_ret (pe_lst (pa_cons pe_int pa_nil)))))))))))  , ?_⟩
    refine ⟨_, rfl, r.b, r.dx, _, rfl, B.b, bF_none _ (by decide +kernel), _, rfl, r, s, l, rfl, B, fun D hD => ⟨Nat.zero_le _, fun e he => ?_⟩⟩
    have ne : D ≠ e := ne_of_none upd_same he
    have S1 := (same_new (o := .lst ((picks (ringsAt l) r.ps s.cords).map V.ref)) hD).trans (same_new (o := .lst []) he)
    have hD1 : upd (upd H D (.lst ((picks (ringsAt l) r.ps s.cords).map V.ref))) e (.lst []) D = some (.lst ((picks (ringsAt l) r.ps s.cords).map V.ref)) := (upd_ne ne).trans upd_same
    refine ⟨D, e, _, rfl, rfl, SqL.of hD1, SqL.of upd_same, _, rfl, ?_⟩
    generalize upd (upd H D (.lst ((picks (ringsAt l) r.ps s.cords).map V.ref))) e (.lst []) = H1 at S1
    rw [isEmpty_map]
    cases hL : picks (ringsAt l) r.ps s.cords with
    | cons p t =>
      obtain ⟨k, c, h1, _⟩ := picks_cons _ _ _ _ _ B.len hL
      refine iteT ⟨(by show 1 ≤ sizeLine; decide), fun o ho => q _ o (S1.trans (same_new ho)) ?_ (S1.free ho)⟩
      rw [hears_rings wf h1]
      exact upd_same
    | nil =>
      refine iteF ?_
      have hn := picks_nil _ _ _ B.len hL
      have B1 := B.same S1
      refine ⟨_, rfl, r.b, CB, r.dx, _, _, rfl, B1.b, T.clB, T.nof, bF_off _, _, rfl, r.off, _, _, _, rfl, rfl, SqL.of B1.off, atI_nat (off_at hx), _, rfl, ?_⟩
      have hoff := off_of hx
      cases ho : x.off with
      | false =>
        refine iteT ⟨(by show 1 ≤ sizeLine; decide), fun o ho' => q _ o (S1.trans (same_new ho')) ?_ (S1.free ho')⟩
        rw [hears_on hn (hoff.trans ho)]
        exact upd_same
      | true =>
        rw [ho] at hoff
        refine iteF ?_
        refine ⟨_, rfl, r.b, r.dx, _, rfl, B1.b, bF_none _ (by decide +kernel), _, rfl, r, s, l, rfl, B1, fun D2 hD2 => ?_⟩
        refine ⟨_, rfl, Nat.zero_le _, fun e2 he2 => ?_⟩
        have ne2 : D2 ≠ e2 := ne_of_none upd_same he2
        have S2 := S1.trans ((same_new (o := .lst ((picks (has l) r.ps s.cords).map V.ref)) hD2).trans (same_new (o := .lst []) he2))
        have hD3 : upd (upd H1 D2 (.lst ((picks (has l) r.ps s.cords).map V.ref))) e2 (.lst []) D2 = some (.lst ((picks (has l) r.ps s.cords).map V.ref)) := (upd_ne ne2).trans upd_same
        refine ⟨D2, e2, _, rfl, rfl, SqL.of hD3, SqL.of upd_same, _, rfl, ?_⟩
        generalize upd (upd H1 D2 (.lst ((picks (has l) r.ps s.cords).map V.ref))) e2 (.lst []) = H2 at S2 hD3
        rw [isEmpty_map]
        cases hM : picks (has l) r.ps s.cords with
        | nil =>
          refine iteT ⟨(by show 1 ≤ sizeLine; decide), fun o ho' => q _ o (S2.trans (same_new ho')) ?_ (S2.free ho')⟩
          rw [hears_none hoff (picks_nil _ _ _ B.len hM)]
          exact upd_same
        | cons p t =>
          refine iteF ?_
          obtain ⟨k, c, h1, h2, h3, h4⟩ := picks_cons _ _ _ _ _ B.len hM
          have B2 := B.same S2
          obtain ⟨dx, row, hp, hrel⟩ := B2.pair k p c h4 h2
          have hh := hears_some hn hoff h1 h2
          rw [hM] at hD3
          refine ⟨_, rfl, D2, _, 0, .ref p, rfl, rfl, SqL.of hD3, atI_nat (j := 0) rfl, ?_⟩
          refine ⟨_, rfl, p, CP, dx, _, _, rfl, hp, T.clP, T.nst, pF_state _, _, _, rfl, rfl, _, rfl, ?_⟩
          have fin : ∀ (o : Addr) (v : Int), Mu29.hears s l = [v] → H2 o = none → Q (.ref o) (upd H2 o (.lst [.int v])) := fun o v hv ho' => q _ o (S2.trans (same_new ho')) (by rw [hv]; exact upd_same) (S2.free ho')
          cases c with
          | talks a b u =>
            obtain ⟨e1, e2', e3, e4⟩ := hrel
            refine ifT (decide_eq_true e1) ?_
            refine ⟨_, rfl, p, dx, _, rfl, hp, pF_none _ (by decide +kernel), _, rfl, p, dx, row, (l : Int), rfl, hp, (by show 2 ≤ sizeLine; decide), fun o ho' => ?_⟩
            refine q _ o (S2.trans (same_new ho')) ?_ (S2.free ho')
            rw [hh, e2', e3]
            have ec : (if (a : Int) = (l : Int) then (b : Int) else (a : Int)) = ((if a = l then b else a : Nat) : Int) := by
              by_cases z : a = l
              · rw [if_pos z, if_pos (by omega)]
              · rw [if_neg z, if_neg (by omega)]
            rw [ec]
            exact upd_same
          | free => cases h3
          | asks a =>
            obtain ⟨e1, e2'⟩ := hrel
            refine ifF (decide_eq_false (by omega)) ?_
            refine ⟨_, rfl, p, CP, dx, _, _, rfl, hp, T.clP, T.nst, pF_state _, _, _, rfl, rfl, _, rfl, ?_⟩
            refine ifT (decide_eq_true (show row.st < 3 by omega)) ?_
            refine ⟨_, rfl, p, CP, dx, _, _, rfl, hp, T.clP, T.nst, pF_state _, _, _, rfl, rfl, (by show 1 ≤ sizeLine; decide), fun o ho' => ?_⟩
            exact fin o (1 + row.st) (by rw [hh, e1]; rfl) ho'
          | told a b =>
            obtain ⟨e1, e2', e3⟩ := hrel
            refine ifF (decide_eq_false (by omega)) ?_
            refine ⟨_, rfl, p, CP, dx, _, _, rfl, hp, T.clP, T.nst, pF_state _, _, _, rfl, rfl, _, rfl, ?_⟩
            refine ifT (decide_eq_true (show row.st < 3 by omega)) ?_
            refine ⟨_, rfl, p, CP, dx, _, _, rfl, hp, T.clP, T.nst, pF_state _, _, _, rfl, rfl, (by show 1 ≤ sizeLine; decide), fun o ho' => ?_⟩
            exact fin o (1 + row.st) (by rw [hh, e1]; rfl) ho'
          | rings a b u =>
            obtain ⟨e1, e2', e3, e4⟩ := hrel
            refine ifF (decide_eq_false (by omega)) ?_
            refine ⟨_, rfl, p, CP, dx, _, _, rfl, hp, T.clP, T.nst, pF_state _, _, _, rfl, rfl, _, rfl, ?_⟩
            refine ifF (decide_eq_false (show ¬ row.st < 3 by omega)) ?_
            refine ⟨_, rfl, p, CP, dx, _, _, rfl, hp, T.clP, T.nst, pF_state _, _, _, rfl, rfl, _, rfl, ?_⟩
            refine ifT (decide_eq_true e1) ⟨(by show 1 ≤ sizeLine; decide), fun o ho' => ?_⟩
            exact fin o 4 (by rw [hh]; rfl) ho'
          | busy a =>
            obtain ⟨e1, e2'⟩ := hrel
            refine ifF (decide_eq_false (by omega)) ?_
            refine ⟨_, rfl, p, CP, dx, _, _, rfl, hp, T.clP, T.nst, pF_state _, _, _, rfl, rfl, _, rfl, ?_⟩
            refine ifF (decide_eq_false (show ¬ row.st < 3 by omega)) ?_
            refine ⟨_, rfl, p, CP, dx, _, _, rfl, hp, T.clP, T.nst, pF_state _, _, _, rfl, rfl, _, rfl, ?_⟩
            refine ifF (decide_eq_false (show ¬ row.st = 3 by omega)) ⟨(by show 1 ≤ sizeLine; decide), fun o ho' => ?_⟩
            exact fin o 6 (by rw [hh]; rfl) ho'
end
end Cb

namespace Cb
open PySem PySem.Spec PyProof.Rows L2
/-- all but one thing stands -/
def But (b : Addr) (H H' : Hp) : Prop := ∀ a o, H a = some o → a ≠ b → H' a = some o
theorem But.same {b : Addr} {H H1 H2 : Hp} (k : But b H H1) (s : Same H1 H2) : But b H H2 := fun a o h n => s a o (k a o h n)
theorem But.upd {b : Addr} {H H1 : Hp} {o : HO} (k : But b H H1) : But b H (upd H1 b o) := fun a u h n => (upd_ne n).trans (k a u h n)
theorem But.new {b p : Addr} {H H1 : Hp} {u : HO} (k : But b H H1) (hb : H1 b = some u) (hp : H1 p = none) : H p = none ∧ p ≠ b := by
  have n : p ≠ b := fun z => by rw [z, hb] at hp; cases hp
  refine ⟨?_, n⟩
  cases q : H p with
  | none => rfl
  | some o => rw [k p o q n] at hp; cases hp
def spBI (CB CP : Addr) : Sp := fun vs H Q _ => ∃ (b dx : Addr) (n k : Nat), vs = [.ref b, .int (n : Int), .int (k : Int)] ∧ H b = some (.ins CB dx []) ∧ n ≤ 20 ∧ k ≤ 6 ∧
  ∀ H' r, r.b = b → BoardAt CB CP H' r (Mu29.begun n k) → But b H H' → (∀ a ∈ foot r, a = b ∨ H a = none) → Q .non H'
def spBC (CB CP : Addr) : Sp := fun vs H Q _ => ∃ (r : BR) (s : Mu29.State), vs = [.ref r.b] ∧ BoardAt CB CP H r s ∧
  ∀ H' r', BoardAt CB CP H' r' (copyS s) → Same H H' → (∀ a ∈ foot r', H a = none) → Q (.ref r'.b) H'
theorem flat_rep (x : V) : ∀ n : Nat, (List.replicate n [x]).flatten = List.replicate n x
  | 0 => rfl
  | n + 1 => by
    rw [List.replicate_succ, List.flatten_cons, flat_rep x n, List.replicate_succ]
    rfl
theorem f_chain (t bu no : Int) (off lit prs nt : Addr) : putF "nobody" (.int no) (putF "busy" (.int bu) (putF "noted" (.ref nt) (putF "pairs" (.ref prs) (putF "lit" (.ref lit) (putF "off" (.ref off) (putF "time" (.int t) [])))))) = bF ⟨t, off, lit, prs, nt, bu, no⟩ := by
  have e1 : putF "off" (.ref off) (putF "time" (.int t) []) = ([("time", .int t), ("off", .ref off)] : List (Str × V)) := put_past (by decide +kernel)
  have e2 : putF "lit" (.ref lit) ([("time", .int t), ("off", .ref off)] : List (Str × V)) = ([("time", .int t), ("off", .ref off), ("lit", .ref lit)] : List (Str × V)) := (put_past (by decide +kernel)).trans (congrArg _ (put_past (by decide +kernel)))
  have e3 : putF "pairs" (.ref prs) ([("time", .int t), ("off", .ref off), ("lit", .ref lit)] : List (Str × V)) = ([("time", .int t), ("off", .ref off), ("lit", .ref lit), ("pairs", .ref prs)] : List (Str × V)) := (put_past (by decide +kernel)).trans (congrArg _ ((put_past (by decide +kernel)).trans (congrArg _ (put_past (by decide +kernel)))))
  have e4 : putF "noted" (.ref nt) ([("time", .int t), ("off", .ref off), ("lit", .ref lit), ("pairs", .ref prs)] : List (Str × V)) = ([("time", .int t), ("off", .ref off), ("lit", .ref lit), ("pairs", .ref prs), ("noted", .ref nt)] : List (Str × V)) :=
    (put_past (by decide +kernel)).trans (congrArg _ ((put_past (by decide +kernel)).trans (congrArg _ ((put_past (by decide +kernel)).trans (congrArg _ (put_past (by decide +kernel)))))))
  have e5 : putF "busy" (.int bu) ([("time", .int t), ("off", .ref off), ("lit", .ref lit), ("pairs", .ref prs), ("noted", .ref nt)] : List (Str × V)) = ([("time", .int t), ("off", .ref off), ("lit", .ref lit), ("pairs", .ref prs), ("noted", .ref nt), ("busy", .int bu)] : List (Str × V)) :=
    (put_past (by decide +kernel)).trans (congrArg _ ((put_past (by decide +kernel)).trans (congrArg _ ((put_past (by decide +kernel)).trans (congrArg _ ((put_past (by decide +kernel)).trans (congrArg _ (put_past (by decide +kernel)))))))))
  have e6 : putF "nobody" (.int no) ([("time", .int t), ("off", .ref off), ("lit", .ref lit), ("pairs", .ref prs), ("noted", .ref nt), ("busy", .int bu)] : List (Str × V)) = bF ⟨t, off, lit, prs, nt, bu, no⟩ :=
    (put_past (by decide +kernel)).trans (congrArg _ ((put_past (by decide +kernel)).trans (congrArg _ ((put_past (by decide +kernel)).trans (congrArg _ ((put_past (by decide +kernel)).trans (congrArg _ ((put_past (by decide +kernel)).trans (congrArg _ (put_past (by decide +kernel)))))))))))
  rw [e1, e2, e3, e4, e5, e6]
theorem nodup_snoc {xs : List Addr} {x : Addr} (h : xs.Nodup) (n : x ∉ xs) : (xs ++ [x]).Nodup := by
  rw [List.nodup_append]
  refine ⟨h, by simp, fun a ha b hb => ?_⟩
  rw [List.mem_singleton.mp hb]
  intro z
  rw [z] at ha
  exact n ha
/-- pairs made so far: ps, at the list D, by rows -/
structure MadeP (CP : Addr) (H0 H' : Hp) (D : Addr) (ps : List Addr) (rows : Nat → PRow) : Prop where
  lst : H' D = some (.lst (ps.map V.ref))
  at_ : ∀ (i : Nat) p, ps[i]? = some p → ∃ d, H' p = some (.ins CP d (pF (rows i)))
  new : ∀ p ∈ ps, H0 p = none ∧ p ≠ D
  nd : ps.Nodup
  same : Same H0 H'
theorem MadeP.more {CP : Addr} {H0 H' : Hp} {D x d : Addr} {ps : List Addr} {rows : Nat → PRow} (M : MadeP CP H0 H' D ps rows) (hx : H' x = none) (hd : H' d = none) (hD : H0 D = none) :
    (upd (upd H' d (.own x)) x (.ins CP d (pF (rows ps.length)))) D = some (.lst (ps.map V.ref)) ∧ MadeP CP H0 (upd (upd (upd H' d (.own x)) x (.ins CP d (pF (rows ps.length)))) D (.lst (ps.map V.ref ++ [.ref x]))) D (ps ++ [x]) rows := by
  have nDx : D ≠ x := ne_of_none M.lst hx
  have nDd : D ≠ d := ne_of_none M.lst hd
  refine ⟨(upd_ne nDx).trans ((upd_ne nDd).trans M.lst), by rw [List.map_append]; exact upd_same, fun i p hp => ?_, fun p hp => ?_, nodup_snoc M.nd fun z => ?_, fun a o h => ?_⟩
  · by_cases e : i < ps.length
    · rw [List.getElem?_append_left e] at hp
      obtain ⟨d', h'⟩ := M.at_ i p hp
      have m := (M.new p (List.mem_of_getElem? hp)).2
      exact ⟨d', (upd_ne m).trans ((upd_ne (ne_of_none h' hx)).trans ((upd_ne (ne_of_none h' hd)).trans h'))⟩
    · rw [List.getElem?_append_right (by omega)] at hp
      have z : i - ps.length = 0 := by
        have := (List.getElem?_eq_some_iff.mp hp).1
        simp at this
        omega
      rw [z] at hp
      cases hp
      have : i = ps.length := by omega
      subst this
      exact ⟨d, (upd_ne (Ne.symm nDx)).trans upd_same⟩
  · rcases List.mem_append.mp hp with h | h
    · exact M.new p h
    · rw [List.mem_singleton.mp h]
      exact ⟨M.same.free hx, Ne.symm nDx⟩
  · obtain ⟨i, hi⟩ := List.mem_iff_getElem?.mp z
    obtain ⟨d', h'⟩ := M.at_ i x hi
    rw [hx] at h'
    cases h'
  · have h' := M.same a o h
    exact (upd_ne (ne_of_none h hD)).trans ((upd_ne (ne_of_none h' hx)).trans ((upd_ne (ne_of_none h' hd)).trans h'))
section
variable {P : Program} {w : World} {K : PySem.W.Frag} {mg : Str → Option Value} {base : Heap} {CP CB CD : Addr}
theorem scBI : FnScope ["self", "lines", "pairs", "at"] ["self", "lines", "pairs"] (defScope sBI) := ⟨rfl, rfl, rfl, by decide +kernel, rfl, by decide +kernel, by decide +kernel⟩
theorem ok_BI (F : KFun K mg CB "Board" "Board.__init__" sBI ["self", "lines", "pairs"]) (T : Txt K mg CP CB CD) (GI : KOk P w K mg base CX0 CP "Pair" 1 ["self", "state", "caller", "other", "since"] (spPI CP)) : KOk P w K mg base CX0 CB "Board" 3 ["self", "lines", "pairs"] (spBI CB CP) := by
  refine F.ok scBI (fun vs H Q E h => ?_) (fun f cdv A outer s H vs Q E hr h => ?_)
  · obtain ⟨b, dx, n, k, rfl, _⟩ := h
    rfl
  · obtain ⟨b, dx, n, k, rfl, hb, hn, hk, q⟩ := h
    refine ⟨_, pss_cons (ps_fld (pv 0) pe_int rfl)
      (pss_cons (ps_fld (pv 0) (pe_op op_rep (pe_lst (pa_cons pe_bl pa_nil)) (pv 1)) rfl)
      (pss_cons (ps_fld (pv 0) (pe_op op_rep (pe_lst (pa_cons (pgl T.gDARK) pa_nil)) (pv 1)) rfl)
      (pss_cons (ps_fld (pv 0) (pe_lc (own := [("at", 3)]) (g := gName 3) (tt := tYes) (te := tMake CP (spPI CP) [] E0 (tCons (tC (.int 0)) (tCons (tUn (rU fun i => .int (-i)) (tC (.int 1))) (tCons (tUn (rU fun i => .int (-i)) (tC (.int 1))) (tCons (tUn (rU fun i => .int (-i)) (tC (.int 1))) tNil))))) rfl scBI.nd (pi_range1 (by rfl) T.range (pa_cons (pv 2) pa_nil)) (blkOk_by (own := [("at", 3)]) (N := ["self", "lines", "pairs", "at"]) (sc := defScope sBI) (by decide +kernel))
          (fun _ _ _ _ _ => pg_name (i := 3) scBI.nd rfl (Or.inl rfl)) (fun _ _ _ _ _ => pts_nil) (fun _ _ _ _ _ => pk GI hr rfl pass0 (by exact pa_cons (pgl T.gFREE) (pa_cons (pe_un un_neg pe_int) (pa_cons (pe_un un_neg pe_int) (pa_cons (pe_un un_neg pe_int) pa_nil)))))) rfl)
      (pss_cons (ps_fld (pv 0) (pe_lst pa_nil) rfl)
      (pss_cons (ps_fld (pv 0) pe_int rfl)
      (pss_one (ps_fld (pv 0) pe_int rfl))))))), ?_⟩
    -- self.time = 0
    refine ⟨_, rfl, b, CB, dx, [], rfl, hb, T.clB, T.nti, (by show 0 < 1000; decide), ?_⟩
    have kA : But b H (upd H b (.ins CB dx (putF "time" (.int 0) []))) := But.upd (fun a o h _ => h)
    have bA : upd H b (.ins CB dx (putF "time" (.int 0) [])) b = some (.ins CB dx (putF "time" (.int 0) [])) := upd_same
    generalize upd H b (.ins CB dx (putF "time" (.int 0) [])) = HA at kA bA
    -- self.off = [False] * lines
    refine ⟨(by show 1 ≤ sizeLine; decide), fun l1 hl1 => ⟨_, rfl, l1, (n : Int), _, rfl, rfl, upd_same, by omega, by omega, (by rw [sizeLine_eq]; show 1 * _ ≤ _; omega), fun po hpo => ?_⟩⟩
    have s1 := (same_new (o := .lst [.bl false]) hl1).trans (same_new (o := .lst (List.replicate (n : Int).toNat [V.bl false]).flatten) hpo)
    have ob1 : upd (upd HA l1 (.lst [.bl false])) po (.lst (List.replicate (n : Int).toNat [V.bl false]).flatten) po = some (.lst (List.replicate n (V.bl false))) := by
      rw [upd_same, flat_rep]
      rfl
    have fpo := (kA.same (same_new (o := .lst [.bl false]) hl1)).new (same_new hl1 _ _ bA) hpo
    have kB := kA.same s1
    have bB := s1 _ _ bA
    generalize upd (upd HA l1 (.lst [.bl false])) po (.lst (List.replicate (n : Int).toNat [V.bl false]).flatten) = HB at ob1 kB bB
    refine ⟨_, rfl, b, CB, dx, _, rfl, bB, T.clB, T.nof, Nat.lt_of_le_of_lt (pl1 (Nat.le_refl 0)) (by decide), ?_⟩
    have kC := kB.upd (o := .ins CB dx (putF "off" (.ref po) (putF "time" (.int 0) [])))
    have obC : upd HB b (.ins CB dx (putF "off" (.ref po) (putF "time" (.int 0) []))) po = some (.lst (List.replicate n (V.bl false))) := (upd_ne fpo.2).trans ob1
    have bC : upd HB b (.ins CB dx (putF "off" (.ref po) (putF "time" (.int 0) []))) b = some (.ins CB dx (putF "off" (.ref po) (putF "time" (.int 0) []))) := upd_same
    generalize upd HB b (.ins CB dx (putF "off" (.ref po) (putF "time" (.int 0) []))) = HC at kC obC bC
    -- self.lit = [DARK] * lines
    refine ⟨(by show 1 ≤ sizeLine; decide), fun l2 hl2 => ⟨_, rfl, l2, (n : Int), _, rfl, rfl, upd_same, by omega, by omega, (by rw [sizeLine_eq]; show 1 * _ ≤ _; omega), fun pl hpl => ?_⟩⟩
    have s2 := (same_new (o := .lst [.int (-1)]) hl2).trans (same_new (o := .lst (List.replicate (n : Int).toNat [V.int (-1)]).flatten) hpl)
    have li1 : upd (upd HC l2 (.lst [.int (-1)])) pl (.lst (List.replicate (n : Int).toNat [V.int (-1)]).flatten) pl = some (.lst (List.replicate n (V.int (-1)))) := by
      rw [upd_same, flat_rep]
      rfl
    have fpl := (kC.same (same_new (o := .lst [.int (-1)]) hl2)).new (same_new hl2 _ _ bC) hpl
    have n1 : po ≠ pl := ne_of_none (same_new hl2 _ _ obC) hpl
    have kD := kC.same s2
    have bD := s2 _ _ bC
    have obD := s2 _ _ obC
    generalize upd (upd HC l2 (.lst [.int (-1)])) pl (.lst (List.replicate (n : Int).toNat [V.int (-1)]).flatten) = HD at li1 kD bD obD
    refine ⟨_, rfl, b, CB, dx, _, rfl, bD, T.clB, T.nli, Nat.lt_of_le_of_lt (pl1 (pl1 (Nat.le_refl 0))) (by decide), ?_⟩
    have kE := kD.upd (o := .ins CB dx (putF "lit" (.ref pl) (putF "off" (.ref po) (putF "time" (.int 0) []))))
    have obE : upd HD b (.ins CB dx (putF "lit" (.ref pl) (putF "off" (.ref po) (putF "time" (.int 0) [])))) po = some (.lst (List.replicate n (V.bl false))) := (upd_ne fpo.2).trans obD
    have liE : upd HD b (.ins CB dx (putF "lit" (.ref pl) (putF "off" (.ref po) (putF "time" (.int 0) [])))) pl = some (.lst (List.replicate n (V.int (-1)))) := (upd_ne fpl.2).trans li1
    have bE : upd HD b (.ins CB dx (putF "lit" (.ref pl) (putF "off" (.ref po) (putF "time" (.int 0) [])))) b = some (.ins CB dx (putF "lit" (.ref pl) (putF "off" (.ref po) (putF "time" (.int 0) [])))) := upd_same
    generalize upd HD b (.ins CB dx (putF "lit" (.ref pl) (putF "off" (.ref po) (putF "time" (.int 0) [])))) = HE at kE obE liE bE
    -- self.pairs = [Pair(FREE, -1, -1, -1) for at in range(pairs)]
    refine ⟨_, rfl, _, rfl, by omega, by omega, fun D hD => ?_⟩
    refine lc_range (lo := 0) (n := ((k : Nat) : Int).toNat) (fun j H' => ∃ ps : List Addr, ps.length = j ∧ MadeP CP HE H' D ps (fun _ => ⟨0, -1, -1, -1⟩)) ⟨[], rfl, upd_same, (fun i p z => by cases z), (fun p z => by cases z), List.nodup_nil, same_new hD⟩ (fun j H' hj e => ?_) (fun H' e => ?_)
    · obtain ⟨ps, rfl, M⟩ := e
      refine ⟨rfl, _, rfl, _, rfl, _, rfl, fun x d hx hd hne => ⟨x, d, ⟨0, -1, -1, -1⟩, rfl, upd_same, rfl, ?_⟩⟩
      obtain ⟨m1, m2⟩ := M.more hx hd hD
      rw [upd_upd]
      refine ⟨_, m1, ?_, ps ++ [x], by rw [List.length_append]; rfl, m2⟩
      rw [List.length_map, sizeLine_eq]
      omega
    · obtain ⟨ps, hlen, M⟩ := e
      have hlen : ps.length = k := by omega
      have kF := kE.same M.same
      have bF' := M.same _ _ bE
      have obF := M.same _ _ obE
      have liF := M.same _ _ liE
      have prF := M.lst
      have fD := kE.new bE hD
      have n2 : po ≠ D := ne_of_none obE hD
      have n4 : pl ≠ D := ne_of_none liE hD
      refine ⟨_, rfl, b, CB, dx, _, rfl, bF', T.clB, T.npr, Nat.lt_of_le_of_lt (pl1 (pl1 (pl1 (Nat.le_refl 0)))) (by decide), ?_⟩
      -- self.noted = []
      refine ⟨Nat.zero_le _, fun nt hnt => ?_⟩
      have nbnt : b ≠ nt := ne_of_none upd_same hnt
      have hnt' : H' nt = none := (upd_ne (Ne.symm nbnt)).symm.trans hnt
      have fnt := kF.new bF' hnt'
      have n3 : po ≠ nt := ne_of_none obF hnt'
      have n5 : pl ≠ nt := ne_of_none liF hnt'
      have n6 : D ≠ nt := ne_of_none prF hnt'
      refine ⟨_, rfl, b, CB, dx, _, rfl, (upd_ne nbnt).trans upd_same, T.clB, T.nno, Nat.lt_of_le_of_lt (pl1 (pl1 (pl1 (pl1 (Nat.le_refl 0))))) (by decide), ?_⟩
      refine ⟨_, rfl, b, CB, dx, _, rfl, upd_same, T.clB, T.nbu, Nat.lt_of_le_of_lt (pl1 (pl1 (pl1 (pl1 (pl1 (Nat.le_refl 0)))))) (by decide), ?_⟩
      refine ⟨_, rfl, b, CB, dx, _, rfl, upd_same, T.clB, T.nnb, Nat.lt_of_le_of_lt (pl1 (pl1 (pl1 (pl1 (pl1 (pl1 (Nat.le_refl 0))))))) (by decide), ?_⟩
      show Q .non _
      rw [f_chain, upd_upd, upd_upd]
      have oth : ∀ a o, H' a = some o → a ≠ b → upd (upd (upd H' b (.ins CB dx (putF "pairs" (.ref D) (putF "lit" (.ref pl) (putF "off" (.ref po) (putF "time" (.int 0) [])))))) nt (.lst [])) b (.ins CB dx (bF ⟨0, po, pl, D, nt, 0, 0⟩)) a = some o := fun a o h z =>
        (upd_ne z).trans ((upd_ne (ne_of_none h hnt')).trans ((upd_ne z).trans h))
      have pn : ∀ p ∈ ps, p ≠ b := fun p hp z => by
        have := (M.new p hp).1
        rw [z, bE] at this
        cases this
      refine q _ ⟨b, dx, po, pl, D, nt, ps⟩ rfl ⟨upd_same, ?_, ?_, oth _ _ prF fD.2, ?_, fun i p c hp hc => ?_, M.nd, ⟨[], (upd_ne (Ne.symm nbnt)).trans upd_same, rfl, fun i t k z => by cases z⟩, n1, n2, n3, n4, n5, n6, ?_, ?_⟩ (fun a o h z => oth a o (kF a o h z) z) (fun a ha => ?_)
      · show _ = some (HO.lst ((List.replicate n (⟨false, none⟩ : Mu29.Line)).map offV))
        rw [List.map_replicate]
        exact oth _ _ obF fpo.2
      · show _ = some (HO.lst ((List.replicate n (⟨false, none⟩ : Mu29.Line)).map litV))
        rw [List.map_replicate]
        exact oth _ _ liF fpl.2
      · show ps.length = (List.replicate k Mu29.Stand.free).length
        rw [List.length_replicate]
        exact hlen
      · obtain ⟨d, h'⟩ := M.at_ i p hp
        have : c = .free := (List.mem_replicate.mp (List.mem_of_getElem? hc)).2
        subst this
        exact ⟨d, _, oth _ _ h' (pn p (List.mem_of_getElem? hp)), rfl⟩
      · show (List.replicate n _).length ≤ 20
        rw [List.length_replicate]; exact hn
      · show (List.replicate k _).length ≤ 6
        rw [List.length_replicate]; exact hk
      · simp only [foot, List.mem_cons] at ha
        rcases ha with rfl | rfl | rfl | rfl | rfl | ha
        · exact .inl rfl
        · exact .inr fpo.1
        · exact .inr fpl.1
        · exact .inr fD.1
        · exact .inr fnt.1
        · refine .inr ?_
          have h0 := (M.new a ha).1
          exact (kE.new bE h0).1
end
end Cb

namespace Cb
open PySem PySem.Spec PyProof.Rows L2
theorem rows_ex {CB CP : Addr} {H : Hp} {r : BR} {s : Mu29.State} (B : BoardAt CB CP H r s) : ∃ rows : Nat → PRow, ∀ (i : Nat) p, r.ps[i]? = some p → ∃ dx c, s.cords[i]? = some c ∧ H p = some (.ins CP dx (pF (rows i))) ∧ Rel c (rows i) := by
  classical
  have ex : ∀ (i : Nat), ∃ row : PRow, ∀ p, r.ps[i]? = some p → ∃ dx c, s.cords[i]? = some c ∧ H p = some (.ins CP dx (pF row)) ∧ Rel c row := fun i => by
    cases hp : r.ps[i]? with
    | none => exact ⟨⟨0, 0, 0, 0⟩, fun p z => by cases z⟩
    | some p =>
      obtain ⟨c, hc⟩ := B.cord hp
      obtain ⟨dx, row, h1, h2⟩ := B.pair i p c hp hc
      exact ⟨row, fun p' z => by cases z; exact ⟨dx, c, hc, h1, h2⟩⟩
  exact ⟨fun i => Classical.choose (ex i), fun i => Classical.choose_spec (ex i)⟩
section
variable {P : Program} {w : World} {K : PySem.W.Frag} {mg : Str → Option Value} {base : Heap} {CP CB CD : Addr}
theorem scBC : FnScope ["self", "found", "pair"] ["self"] (defScope sBC) := ⟨rfl, rfl, rfl, by decide +kernel, rfl, by decide +kernel, by decide +kernel⟩
theorem ok_BC (F : MFun K CB "copied" "Board.copied" sBC ["self"]) (T : Txt K mg CP CB CD) (GI : KOk P w K mg base CX0 CB "Board" 3 ["self", "lines", "pairs"] (spBI CB CP)) (GC : MOk P w K mg base CX0 CP "copied" 3 ["self"] (spPC CP)) : MOk P w K mg base CX0 CB "copied" 5 ["self"] (spBC CB CP) := by
  refine F.ok scBC (fun vs H Q E h => ?_) (fun f cdv A outer s H vs Q E hr h => ?_)
  · obtain ⟨r, s, rfl, _⟩ := h
    rfl
  · obtain ⟨r, s, rfl, B, q⟩ := h
    have hr3 : Room 3 _ := hr.mono (by decide)
    refine ⟨_, pss_cons (ps_set (i := 1) scBC.nd rfl (Or.inl rfl) (pk GI hr rfl pass0 (pa_cons (pe_callB call_len_seq (by rfl) T.len PySem.boot_len (pa_cons (pe_fld (pv 0) rfl) pa_nil)) (pa_cons pe_int pa_nil))))
      (pss_cons (ps_fld (pv 1) (pe_fld (pv 0) rfl) rfl)
      (pss_cons (ps_fld (pv 1) (pe_callTy call_list_of (by rfl) T.list (by decide +kernel) (pa_cons (pe_fld (pv 0) rfl) pa_nil)) rfl)
      (pss_cons (ps_fld (pv 1) (pe_callTy call_list_of (by rfl) T.list (by decide +kernel) (pa_cons (pe_fld (pv 0) rfl) pa_nil)) rfl)
      (pss_cons (ps_fld (pv 1) (pe_lc (own := [("pair", 2)]) (g := gName 2) (tt := tYes) (te := tMeth CP "copied" (spPC CP) [] E0 (tVar 2) tNil) rfl scBC.nd (pi_list (pe_fld (pv 0) rfl)) (blkOk_by (own := [("pair", 2)]) (N := ["self", "found", "pair"]) (sc := defScope sBC) (by decide +kernel))
          (fun _ _ _ _ _ => pg_name (i := 2) scBC.nd rfl (Or.inl rfl)) (fun _ _ _ _ _ => pts_nil) (fun _ _ _ _ _ => pm0 (pv 2) T.clP GC hr3 pass0)) rfl)
      (pss_one (ps_ret (pv 1))))))), ?_⟩
    refine ⟨_, rfl, r.b, CB, r.dx, _, _, rfl, B.b, T.clB, T.nof, bF_off _, r.off, _, rfl, .inl (SqL.of B.off), fun x dx hx hdx hne => ?_⟩
    refine ⟨x, dx, (s.lines.map offV).length, 0, rfl, upd_same, (by rw [List.length_map]; exact B.nl), (by decide), fun H1 r0 e B0 kB hf => ⟨rfl, ?_⟩⟩
    subst e
    have S1 : Same H H1 := Same.made hx hdx kB
    have f0 : ∀ a ∈ foot r0, H a = none := fun a ha => by
      rcases hf a ha with z | z
      · rw [z]; exact hx
      · cases y : H a with
        | none => rfl
        | some o =>
          rw [upd_ne (ne_of_none y hx), upd_ne (ne_of_none y hdx), y] at z
          cases z
    have nt0 : H1 r0.nt = some (.lst []) := by
      obtain ⟨ts, h1, h2, _⟩ := B0.nt
      have : ts = [] := List.length_eq_zero_iff.mp h2
      rw [this] at h1
      exact h1
    have b0 := B0.b
    have fx : H r0.b = none := hx
    have fnt : H r0.nt = none := f0 _ (foot_nt r0)
    have nbnt : r0.b ≠ r0.nt := B0.bne nt0
    clear kB hf B0
    -- found.time = self.time
    have B1 := B.same S1
    refine ⟨_, rfl, r.b, CB, r.dx, _, _, rfl, B1.b, T.clB, T.nti, bF_time _, _, rfl, r0.b, CB, r0.dx, _, rfl, b0, T.clB, T.nti, (by show 7 < 1000; decide), ?_⟩
    rw [bF_ptime]
    have bA : upd H1 r0.b (.ins CB r0.dx (bF { brow r0 (Mu29.begun (s.lines.map offV).length 0) with time := (brow r s).time })) r0.b = some (.ins CB r0.dx (bF ⟨(s.now : Int), r0.off, r0.lit, r0.prs, r0.nt, 0, 0⟩)) := upd_same
    have SA : Same H (upd H1 r0.b (.ins CB r0.dx (bF { brow r0 (Mu29.begun (s.lines.map offV).length 0) with time := (brow r s).time }))) := fun a o h => (upd_ne (ne_of_none h fx)).trans (S1 a o h)
    have ntA : upd H1 r0.b (.ins CB r0.dx (bF { brow r0 (Mu29.begun (s.lines.map offV).length 0) with time := (brow r s).time })) r0.nt = some (.lst []) := (upd_ne (Ne.symm nbnt)).trans nt0
    generalize upd H1 r0.b (.ins CB r0.dx (bF { brow r0 (Mu29.begun (s.lines.map offV).length 0) with time := (brow r s).time })) = HA at bA SA ntA
    -- found.off = list(self.off)
    have B2 := B.same SA
    refine ⟨_, rfl, r.b, CB, r.dx, _, _, rfl, B2.b, T.clB, T.nof, bF_off _, r.off, _, rfl, .inl (SqL.of B2.off), fun po hpo => ?_⟩
    have fpo : H po = none := SA.free hpo
    have nb1 : r0.b ≠ po := ne_of_none bA hpo
    have n3 : po ≠ r0.nt := Ne.symm (ne_of_none ntA hpo)
    refine ⟨_, rfl, r0.b, CB, r0.dx, _, rfl, (upd_ne nb1).trans bA, T.clB, T.nof, (by show 7 < 1000; decide), ?_⟩
    rw [bF_poff]
    have bB : upd (upd HA po (.lst (s.lines.map offV))) r0.b (.ins CB r0.dx (bF ⟨(s.now : Int), po, r0.lit, r0.prs, r0.nt, 0, 0⟩)) r0.b = some (.ins CB r0.dx (bF ⟨(s.now : Int), po, r0.lit, r0.prs, r0.nt, 0, 0⟩)) := upd_same
    have SB : Same H (upd (upd HA po (.lst (s.lines.map offV))) r0.b (.ins CB r0.dx (bF ⟨(s.now : Int), po, r0.lit, r0.prs, r0.nt, 0, 0⟩))) := fun a o h => (upd_ne (ne_of_none h fx)).trans (same_new hpo _ _ (SA a o h))
    have ntB : upd (upd HA po (.lst (s.lines.map offV))) r0.b (.ins CB r0.dx (bF ⟨(s.now : Int), po, r0.lit, r0.prs, r0.nt, 0, 0⟩)) r0.nt = some (.lst []) := (upd_ne (Ne.symm nbnt)).trans (same_new hpo _ _ ntA)
    have ofB : upd (upd HA po (.lst (s.lines.map offV))) r0.b (.ins CB r0.dx (bF ⟨(s.now : Int), po, r0.lit, r0.prs, r0.nt, 0, 0⟩)) po = some (.lst (s.lines.map offV)) := (upd_ne (Ne.symm nb1)).trans upd_same
    show tSeq _ _ _ _ (upd (upd HA po (.lst (s.lines.map offV))) r0.b (.ins CB r0.dx (bF ⟨(s.now : Int), po, r0.lit, r0.prs, r0.nt, 0, 0⟩)))
    generalize upd (upd HA po (.lst (s.lines.map offV))) r0.b (.ins CB r0.dx (bF ⟨(s.now : Int), po, r0.lit, r0.prs, r0.nt, 0, 0⟩)) = HB at bB SB ntB ofB
    -- found.lit = list(self.lit)
    have B3 := B.same SB
    refine ⟨_, rfl, r.b, CB, r.dx, _, _, rfl, B3.b, T.clB, T.nli, bF_lit _, r.lit, _, rfl, .inl (SqL.of B3.lit), fun pl hpl => ?_⟩
    have fpl : H pl = none := SB.free hpl
    have nb2 : r0.b ≠ pl := ne_of_none bB hpl
    have n5 : pl ≠ r0.nt := Ne.symm (ne_of_none ntB hpl)
    have n1 : po ≠ pl := ne_of_none ofB hpl
    refine ⟨_, rfl, r0.b, CB, r0.dx, _, rfl, (upd_ne nb2).trans bB, T.clB, T.nli, (by show 7 < 1000; decide), ?_⟩
    rw [bF_plit]
    have bC : upd (upd HB pl (.lst (s.lines.map litV))) r0.b (.ins CB r0.dx (bF ⟨(s.now : Int), po, pl, r0.prs, r0.nt, 0, 0⟩)) r0.b = some (.ins CB r0.dx (bF ⟨(s.now : Int), po, pl, r0.prs, r0.nt, 0, 0⟩)) := upd_same
    have SC : Same H (upd (upd HB pl (.lst (s.lines.map litV))) r0.b (.ins CB r0.dx (bF ⟨(s.now : Int), po, pl, r0.prs, r0.nt, 0, 0⟩))) := fun a o h => (upd_ne (ne_of_none h fx)).trans (same_new hpl _ _ (SB a o h))
    have ntC : upd (upd HB pl (.lst (s.lines.map litV))) r0.b (.ins CB r0.dx (bF ⟨(s.now : Int), po, pl, r0.prs, r0.nt, 0, 0⟩)) r0.nt = some (.lst []) := (upd_ne (Ne.symm nbnt)).trans (same_new hpl _ _ ntB)
    have ofC : upd (upd HB pl (.lst (s.lines.map litV))) r0.b (.ins CB r0.dx (bF ⟨(s.now : Int), po, pl, r0.prs, r0.nt, 0, 0⟩)) po = some (.lst (s.lines.map offV)) := (upd_ne (Ne.symm nb1)).trans (same_new hpl _ _ ofB)
    have liC : upd (upd HB pl (.lst (s.lines.map litV))) r0.b (.ins CB r0.dx (bF ⟨(s.now : Int), po, pl, r0.prs, r0.nt, 0, 0⟩)) pl = some (.lst (s.lines.map litV)) := (upd_ne (Ne.symm nb2)).trans upd_same
    show tSeq _ _ _ _ (upd (upd HB pl (.lst (s.lines.map litV))) r0.b (.ins CB r0.dx (bF ⟨(s.now : Int), po, pl, r0.prs, r0.nt, 0, 0⟩)))
    generalize upd (upd HB pl (.lst (s.lines.map litV))) r0.b (.ins CB r0.dx (bF ⟨(s.now : Int), po, pl, r0.prs, r0.nt, 0, 0⟩)) = HC at bC SC ntC ofC liC
    -- found.pairs = [pair.copied() for pair in self.pairs]
    have B4 := B.same SC
    obtain ⟨rows, hrows⟩ := rows_ex B4
    refine ⟨_, rfl, r.b, CB, r.dx, _, _, rfl, B4.b, T.clB, T.npr, bF_pairs _, r.prs, rfl, ⟨_, SqL.of B4.prs⟩, fun D hD => ?_⟩
    refine lc_list (K := K) (a := r.prs) (xs := r.ps.map V.ref) (fun j H' => ∃ ps : List Addr, ps.length = j ∧ MadeP CP HC H' D ps rows) ⟨[], rfl, upd_same, (fun i p z => by cases z), (fun p z => by cases z), List.nodup_nil, same_new hD⟩ (fun j H' _ e => ?_) (fun j y H' hy e => ?_) (fun H' e => ?_)
    · obtain ⟨ps, _, M⟩ := e
      exact SqL.of (M.same _ _ B4.prs)
    · obtain ⟨ps, rfl, M⟩ := e
      rw [List.getElem?_map] at hy
      cases hp : r.ps[ps.length]? with
      | none => rw [hp] at hy; cases hy
      | some p =>
        rw [hp] at hy
        cases hy
        obtain ⟨d0, c, hc, h1, h2⟩ := hrows _ p hp
        have h1' := M.same _ _ h1
        refine ⟨rfl, _, rfl, p, d0, _, rfl, h1', pF_none _ (by decide +kernel), p, d0, rows ps.length, rfl, h1', fun x d hx' hd' hne' => ?_⟩
        obtain ⟨m1, m2⟩ := M.more hx' hd' hD
        refine ⟨_, m1, ?_, ps ++ [x], by rw [List.length_append]; rfl, m2⟩
        have := (List.getElem?_eq_some_iff.mp hp).1
        have h3 := B.len
        have h4 := B.nc
        rw [List.length_map, sizeLine_eq]
        omega
    · obtain ⟨ps, hlen, M⟩ := e
      rw [List.length_map] at hlen
      have bD := M.same _ _ bC
      have ntD := M.same _ _ ntC
      have ofD := M.same _ _ ofC
      have liD := M.same _ _ liC
      have prD := M.lst
      have fD : H D = none := SC.free hD
      have nb3 : r0.b ≠ D := ne_of_none bC hD
      have n2 : po ≠ D := ne_of_none ofC hD
      have n4 : pl ≠ D := ne_of_none liC hD
      have n6 : D ≠ r0.nt := Ne.symm (ne_of_none ntC hD)
      refine ⟨_, rfl, r0.b, CB, r0.dx, _, rfl, bD, T.clB, T.npr, (by show 7 < 1000; decide), ?_⟩
      rw [bF_pprs]
      refine ⟨_, rfl, ?_⟩
      have oth : ∀ a o, H' a = some o → a ≠ r0.b → upd H' r0.b (.ins CB r0.dx (bF ⟨(s.now : Int), po, pl, D, r0.nt, 0, 0⟩)) a = some o := fun a o h z => (upd_ne z).trans h
      have pn : ∀ p ∈ ps, p ≠ r0.b := fun p hp z => by
        have := (M.new p hp).1
        rw [z, bC] at this
        cases this
      refine q _ ⟨r0.b, r0.dx, po, pl, D, r0.nt, ps⟩ ⟨upd_same, oth _ _ ofD (Ne.symm nb1), oth _ _ liD (Ne.symm nb2), oth _ _ prD (Ne.symm nb3), hlen.trans B.len, fun i p c hp hc => ?_, M.nd, ⟨[], oth _ _ ntD (Ne.symm nbnt), rfl, fun i t k z => by cases z⟩, n1, n2, n3, n4, n5, n6, B.nl, B.nc⟩ (fun a o h => oth a o (M.same _ _ (SC a o h)) (ne_of_none h fx)) (fun a ha => ?_)
      · obtain ⟨d, h'⟩ := M.at_ i p hp
        have hi := (List.getElem?_eq_some_iff.mp hp).1
        rw [hlen] at hi
        obtain ⟨d0, c', hc', _, h2⟩ := hrows i _ (List.getElem?_eq_getElem hi)
        have : c' = c := Option.some.inj (hc'.symm.trans hc)
        subst this
        exact ⟨d, rows i, oth _ _ h' (pn p (List.mem_of_getElem? hp)), h2⟩
      · simp only [foot, List.mem_cons] at ha
        rcases ha with rfl | rfl | rfl | rfl | rfl | ha
        · exact fx
        · exact fpo
        · exact fpl
        · exact fD
        · exact fnt
        · exact SC.free (M.new a ha).1
end
end Cb

namespace Cb
open PySem PySem.Spec PyProof.Rows L2
abbrev sOL : Stmt := top 13
abbrev sOI : Stmt := top 14
abbrev sOP : Stmt := top 15
abbrev sOC : Stmt := top 16
abbrev sOB : Stmt := top 17
abbrev sOG : Stmt := top 18
abbrev sOW : Stmt := top 19
abbrev sOU : Stmt := top 20
def spOL (CB CP : Addr) : Sp := fun vs H Q _ => ∃ (r : BR) (s : Mu29.State) (p dx : Addr) (row : PRow), vs = [.ref r.b, .ref p] ∧ BoardAt CB CP H r s ∧ H p = some (.ins CP dx (pF row)) ∧ Q (.bl (decide (row.st = 3) && decide (20 ≤ (s.now : Int) - row.si))) H
def spOI (CB CP : Addr) : Sp := fun vs H Q _ => ∃ (r : BR) (s : Mu29.State) (p : Addr) (k : Nat) (c : Mu29.Stand), vs = [.ref r.b, .ref p] ∧ BoardAt CB CP H r s ∧ r.ps[k]? = some p ∧ s.cords[k]? = some c ∧ (∀ l ∈ Mu29.plugs c, l < s.lines.length) ∧ Q (.bl (Mu29.toPull s c)) H
def spOP (CB CP : Addr) : Sp := fun vs H Q _ => ∃ (r : BR) (s : Mu29.State) (p : Addr) (k : Nat) (c : Mu29.Stand), vs = [.ref r.b, .ref p] ∧ BoardAt CB CP H r s ∧ r.ps[k]? = some p ∧ s.cords[k]? = some c ∧ (∀ l ∈ Mu29.plugs c, l < s.lines.length) ∧ c ≠ .free ∧ s.talks.length < 16000000 ∧
  ∀ H', BoardAt CB CP H' r (pullS s k c) → Keeps (foot r) H H' → Q .non H'
def spOC (CB CP : Addr) : Sp := fun vs H Q _ => ∃ (r : BR) (s : Mu29.State) (p : Addr) (k a b : Nat), vs = [.ref r.b, .ref p] ∧ BoardAt CB CP H r s ∧ r.ps[k]? = some p ∧ s.cords[k]? = some (.told a b) ∧
  ∀ H', BoardAt CB CP H' r (connectS s k a b) → Keeps (foot r) H H' → Q .non H'
def spOB (CB CP : Addr) : Sp := fun vs H Q _ => ∃ (r : BR) (s : Mu29.State) (l0 : Nat) (L : List Nat), vs = [.ref r.b] ∧ BoardAt CB CP H r s ∧ litLines s = l0 :: L ∧ ∀ H', Same H H' → Q (.int (((l0 :: L).foldl (older s) l0 : Nat) : Int)) H'
def spOG (CB CP : Addr) : Sp := fun vs H Q _ => ∃ (r : BR) (s : Mu29.State) (p : Addr) (k l0 : Nat) (L : List Nat), vs = [.ref r.b, .ref p] ∧ BoardAt CB CP H r s ∧ r.ps[k]? = some p ∧ s.cords[k]? = some .free ∧ litLines s = l0 :: L ∧
  ∀ H', BoardAt CB CP H' r (plugS s k ((l0 :: L).foldl (older s) l0)) → Keeps (foot r) H H' → Q .non H'
theorem off_get {s : Mu29.State} {l : Nat} (h : l < s.lines.length) : (s.lines.map offV)[l]? = some (.bl (Mu29.isOff s l)) := by
  obtain ⟨x, hx⟩ := line_at h
  rw [off_at hx, off_of hx]
theorem not_mem_not {b : Bool} (h : b = true) : (!b) = false := by rw [h]; rfl
section
variable {P : Program} {w : World} {K : PySem.W.Frag} {mg : Str → Option Value} {base : Heap} {CP CB CD : Addr}
theorem scOL : FnScope ["board", "pair"] ["board", "pair"] (defScope sOL) := ⟨rfl, rfl, rfl, by decide +kernel, rfl, by decide +kernel, by decide +kernel⟩
theorem ok_OL (F : GFun K mg "rang_long" sOL ["board", "pair"]) (T : Txt K mg CP CB CD) : GOk P w K mg base CX0 "rang_long" 1 ["board", "pair"] (spOL CB CP) := by
  refine F.ok scOL (fun vs H Q E h => ?_) (fun f cdv A outer s H vs Q E hr h => ?_)
  · obtain ⟨r, s, p, dx, row, rfl, _⟩ := h
    rfl
  · obtain ⟨r, s, p, dx, row, rfl, B, hp, q⟩ := h
    refine ⟨_, pss_one (ps_ret (pe_and (pe_cmp (pc_eqI (pe_fld (pv 1) rfl) (pgl T.gRINGS))) (pe_one (pe_cmp (pc_ge (pe_op op_sub (pe_fld (pv 0) rfl) (pe_fld (pv 1) rfl)) (pgl T.gLONG)))))), ?_⟩
    refine ⟨_, rfl, p, CP, dx, _, _, rfl, hp, T.clP, T.nst, pF_state _, _, _, rfl, rfl, _, rfl, ?_⟩
    cases c : decide (row.st = 3) with
    | false =>
      rw [c] at q
      exact ifF c q
    | true =>
      rw [c] at q
      exact ifT c ⟨_, rfl, r.b, CB, r.dx, _, _, rfl, B.b, T.clB, T.nti, bF_time _, _, rfl, p, CP, dx, _, _, rfl, hp, T.clP, T.nsi, pF_since _, _, _, rfl, rfl, _, _, rfl, rfl, q⟩
theorem scOI : FnScope ["board", "pair"] ["board", "pair"] (defScope sOI) := ⟨rfl, rfl, rfl, by decide +kernel, rfl, by decide +kernel, by decide +kernel⟩
theorem ok_OI (F : GFun K mg "is_to_be_pulled" sOI ["board", "pair"]) (T : Txt K mg CP CB CD) (GL : GOk P w K mg base CX0 "rang_long" 1 ["board", "pair"] (spOL CB CP)) : GOk P w K mg base CX0 "is_to_be_pulled" 2 ["board", "pair"] (spOI CB CP) := by
  refine F.ok scOI (fun vs H Q E h => ?_) (fun f cdv A outer s H vs Q E hr h => ?_)
  · obtain ⟨r, s, p, k, c, rfl, _⟩ := h
    rfl
  · obtain ⟨r, s, p, k, c, rfl, B, hk, hc, hin, q⟩ := h
    obtain ⟨dx, row, hp, hrel⟩ := B.pair k p c hk hc
    refine ⟨_, pss_cons (ps_if (pt_cmp (pc_eqI (pe_fld (pv 1) rfl) (pgl T.gFREE))) (pss_one (ps_ret pe_bl)) pss_nil)
      (pss_cons (ps_if (pt_cmp (pc_eqI (pe_fld (pv 1) rfl) (pgl T.gTALK))) (pss_one (ps_ret (pe_and (pe_not (pe_ix ix_list (pe_fld (pv 0) rfl) (pe_fld (pv 1) rfl) (fun _ _ => rfl))) (pe_one (pe_not (pe_ix ix_list (pe_fld (pv 0) rfl) (pe_fld (pv 1) rfl) (fun _ _ => rfl))))))) pss_nil)
      (pss_one (ps_ret (pe_or (pe_not (pe_ix ix_list (pe_fld (pv 0) rfl) (pe_fld (pv 1) rfl) (fun _ _ => rfl))) (pe_one (pf GL hr rfl pass0 (pa_cons (pv 0) (pa_cons (pv 1) pa_nil)))))))), ?_⟩
    refine ⟨_, rfl, p, CP, dx, _, _, rfl, hp, T.clP, T.nst, pF_state _, _, _, rfl, rfl, _, rfl, ?_⟩
    have kind : (c = .free) ∨ (∃ a b t, c = .talks a b t) ∨ (∃ a, row.st ≠ 0 ∧ row.st ≠ 4 ∧ row.ca = ((a : Nat) : Int) ∧ a < s.lines.length ∧ Mu29.toPull s c = (!(Mu29.isOff s a) || (decide (row.st = 3) && decide (20 ≤ (s.now : Int) - row.si)))) := by
      cases c with
      | free => exact .inl rfl
      | talks a b t => exact .inr (.inl ⟨a, b, t, rfl⟩)
      | asks a => exact .inr (.inr ⟨a, by rw [hrel.1]; decide, by rw [hrel.1]; decide, hrel.2, hin a (by simp [Mu29.plugs]), by simp [Mu29.toPull, hrel.1]⟩)
      | told a b => exact .inr (.inr ⟨a, by rw [hrel.1]; decide, by rw [hrel.1]; decide, hrel.2.1, hin a (by simp [Mu29.plugs]), by simp [Mu29.toPull, hrel.1]⟩)
      | busy a => exact .inr (.inr ⟨a, by rw [hrel.1]; decide, by rw [hrel.1]; decide, hrel.2, hin a (by simp [Mu29.plugs]), by simp [Mu29.toPull, hrel.1]⟩)
      | rings a b t =>
        obtain ⟨e1, e2, e3, e4⟩ := hrel
        refine .inr (.inr ⟨a, by rw [e1]; decide, by rw [e1]; decide, e2, hin a (by simp [Mu29.plugs]), ?_⟩)
        have ed : decide (t + Mu29.LONG ≤ s.now) = decide (20 ≤ (s.now : Int) - (t : Int)) := by
          rw [Bool.eq_iff_iff, decide_eq_true_eq, decide_eq_true_eq]
          show t + 20 ≤ s.now ↔ _
          omega
        rw [e1, e4]
        show (!(Mu29.isOff s a) || decide (t + Mu29.LONG ≤ s.now)) = _
        rw [ed]
        rfl
    rcases kind with rfl | ⟨a, b, t, rfl⟩ | ⟨a, e0, e4, eca, hlt, etp⟩
    · have e : row.st = 0 := hrel
      exact ifT (decide_eq_true e) q
    · obtain ⟨e1, e2, e3, e4⟩ := hrel
      refine ifF (decide_eq_false (by omega)) ?_
      refine ⟨_, rfl, p, CP, dx, _, _, rfl, hp, T.clP, T.nst, pF_state _, _, _, rfl, rfl, _, rfl, ifT (decide_eq_true e1) ?_⟩
      have ha : a < s.lines.length := hin a (by simp [Mu29.plugs])
      have hb : b < s.lines.length := hin b (by simp [Mu29.plugs])
      refine ⟨_, rfl, r.b, CB, r.dx, _, _, rfl, B.b, T.clB, T.nof, bF_off _, _, rfl, p, CP, dx, _, _, rfl, hp, T.clP, T.nca, pF_caller _, r.off, _, _, _, rfl, rfl, SqL.of B.off, (by rw [e2]; exact atI_nat (off_get ha)), _, rfl, _, rfl, ?_⟩
      have q : Q (.bl (!(Mu29.isOff s a) && !(Mu29.isOff s b))) H := q
      cases c : !(Mu29.isOff s a) with
      | false =>
        rw [c] at q
        exact iteF q
      | true =>
        rw [c] at q
        exact iteT ⟨_, rfl, r.b, CB, r.dx, _, _, rfl, B.b, T.clB, T.nof, bF_off _, _, rfl, p, CP, dx, _, _, rfl, hp, T.clP, T.not, pF_other _, r.off, _, _, _, rfl, rfl, SqL.of B.off, (by rw [e3]; exact atI_nat (off_get hb)), _, rfl, q⟩
    · refine ifF (decide_eq_false e0) ?_
      refine ⟨_, rfl, p, CP, dx, _, _, rfl, hp, T.clP, T.nst, pF_state _, _, _, rfl, rfl, _, rfl, ifF (decide_eq_false e4) ?_⟩
      refine ⟨_, rfl, r.b, CB, r.dx, _, _, rfl, B.b, T.clB, T.nof, bF_off _, _, rfl, p, CP, dx, _, _, rfl, hp, T.clP, T.nca, pF_caller _, r.off, _, _, _, rfl, rfl, SqL.of B.off, (by rw [eca]; exact atI_nat (off_get hlt)), _, rfl, _, rfl, ?_⟩
      rw [etp] at q
      cases c : !(Mu29.isOff s a) with
      | true =>
        rw [c] at q
        exact iteT q
      | false =>
        rw [c] at q
        exact iteF ⟨_, rfl, _, rfl, r, s, p, dx, row, rfl, B, hp, q⟩
/-- for line in ends: board.look(line) -/
theorem loop_look {H : Hp} {r : BR} {s : Mu29.State} {e : Addr} {vp v : Option V} {Ls : List Nat} {D : Ends} (B : BoardAt CB CP H r s) (he : H e = some (.lst (Ls.map fun (l : Nat) => V.int (l : Int)))) (hin : ∀ l ∈ Ls, l < s.lines.length) (n : e ∉ foot r)
    (q : ∀ σ' H', BoardAt CB CP H' r (Ls.foldl lookS s) → Keeps (foot r) H H' → D.nx σ' H') : tFor (iList K (tVar 2)) (gName 3) (tDrop (tMeth CB "look" (spBK CB CP) [] E0 (tVar 0) (tCons (tVar 3) tNil))) D [some (.ref r.b), vp, some (.ref e), v] H := by
  refine ⟨_, rfl, e, rfl, ⟨_, SqL.of he⟩, for_list (K := K) (a := e) (xs := Ls.map fun (l : Nat) => V.int (l : Int)) (fun j σ' H' => (∃ v', σ' = [some (.ref r.b), vp, some (.ref e), v']) ∧ BoardAt CB CP H' r ((Ls.take j).foldl lookS s) ∧ Keeps (foot r) H H') ⟨⟨_, rfl⟩, B, Keeps.refl _ _⟩ (fun j σ' H' _ p => SqL.of (p.2.2 _ _ he n)) ?_ ?_⟩
  · rintro j y σ' H' hj ⟨⟨v', rfl⟩, B1, K1⟩
    rw [List.getElem?_map] at hj
    cases hl : Ls[j]? with
    | none => rw [hl] at hj; cases hj
    | some l =>
      rw [hl] at hj
      cases hj
      have hlt := hin l (List.mem_of_getElem? hl)
      refine ⟨_, rfl, r.b, r.dx, _, rfl, B1.b, bF_none _ (by decide +kernel), _, rfl, r, _, l, rfl, B1, (by rw [(looks_keep _ _).2.2.2.2.2]; exact hlt), fun H2 B2 K2 => ?_⟩
      refine ⟨⟨_, rfl⟩, ?_, K1.trans K2⟩
      rw [take_snoc hl, List.foldl_append]
      exact B2
  · rintro σ' H' ⟨_, B1, K1⟩
    rw [List.length_map, List.take_length] at B1
    exact q σ' H' B1 K1
theorem scOP : FnScope ["board", "pair", "ends", "line"] ["board", "pair"] (defScope sOP) := ⟨rfl, rfl, rfl, by decide +kernel, rfl, by decide +kernel, by decide +kernel⟩
theorem ok_OP (F : GFun K mg "pull" sOP ["board", "pair"]) (T : Txt K mg CP CB CD) (GH : MOk P w K mg base CX0 CP "has_second" 1 ["self"] (spPH CP)) (GB : MOk P w K mg base CX0 CP "become" 1 ["self", "state"] (spPB CP)) (GF : MOk P w K mg base CX0 CP "free" 1 ["self"] (spPF CP))
    (GK : MOk P w K mg base CX0 CB "look" 5 ["self", "line"] (spBK CB CP)) : GOk P w K mg base CX0 "pull" 6 ["board", "pair"] (spOP CB CP) := by
  refine F.ok scOP (fun vs H Q E h => ?_) (fun f cdv A outer s H vs Q E hr h => ?_)
  · obtain ⟨r, s, p, k, c, rfl, _⟩ := h
    rfl
  · obtain ⟨r, s, p, k, c, rfl, B, hk, hc, hin, hnf, hnt, q⟩ := h
    obtain ⟨dx, row, hp, hrel⟩ := B.pair k p c hk hc
    have hr1 : Room 1 _ := hr.mono (by decide)
    refine ⟨_, pss_cons (ps_set (i := 2) scOP.nd rfl (Or.inl rfl) (pe_lst (pa_cons (pe_fld (pv 1) rfl) pa_nil)))
      (pss_cons (ps_if (pt_val (pm0 (pv 1) T.clP GH hr1 pass0)) (pss_one (ps_expr (pe_bm PySem.F.plainAttrs_list PySem.F.slot_list_append PySem.F.type_list_append mt_append (pv 2) (pa_cons (pe_fld (pv 1) rfl) pa_nil)))) pss_nil)
      (pss_cons (ps_if (PW.pt (pw_and (pt_cmp (pc_eqI (pe_fld (pv 1) rfl) (pgl T.gRINGS))) (pw_and1 (pt_val (pe_ix ix_list (pe_fld (pv 0) rfl) (pe_fld (pv 1) rfl) (fun _ _ => rfl))))))
        (pss_cons (ps_expr (pm (pv 1) T.clP GB hr1 pass0 (pa_cons (pgl T.gBUSY) pa_nil))) (pss_one (ps_fldaug (pv 0) pe_int in_add)))
        (pss_cons (ps_if (pt_cmp (pc_eqI (pe_fld (pv 1) rfl) (pgl T.gTALK))) (pss_one (ps_expr (pe_bm PySem.F.plainAttrs_list PySem.F.slot_list_append PySem.F.type_list_append mt_append (pe_fld (pv 0) rfl) (pa_cons (pe_tup (pa_cons (pe_fld (pv 1) rfl) (pa_cons (pe_fld (pv 1) rfl) (pa_cons (pe_fld (pv 1) rfl) (pa_cons (pe_fld (pv 0) rfl) pa_nil))))) pa_nil)))) pss_nil)
          (pss_one (ps_expr (pm0 (pv 1) T.clP GF hr1 pass0)))))
      (pss_one (ps_for PassesOwn.never rfl (pi_list (pv 2)) (pg_name (i := 3) scOP.nd rfl (Or.inl rfl)) (pss_one (ps_expr (pm (pv 0) T.clB GK hr pass0 (pa_cons (pv 3) pa_nil)))))))), ?_⟩
    have nbp := B.pb (List.mem_of_getElem? hk)
    refine ⟨_, rfl, p, CP, dx, _, _, rfl, hp, T.clP, T.nca, pF_caller _, (by show 1 ≤ sizeLine; decide), fun e he => ?_⟩
    have ne := B.fresh he
    have npe : p ≠ e := ne_of_none hp he
    have S1 : Same H (upd H e (.lst [.int row.ca])) := same_new he
    have he1 : upd H e (.lst [.int row.ca]) e = some (.lst [.int row.ca]) := upd_same
    generalize upd H e (.lst [.int row.ca]) = H1 at S1 he1
    have B1 := B.same S1
    have hp1 := S1 _ _ hp
    refine ⟨_, rfl, p, dx, _, rfl, hp1, pF_none _ (by decide +kernel), p, dx, row, rfl, hp1, _, rfl, ?_⟩
    have kind : (∃ a, Mu29.plugs c = [a] ∧ row.st ≠ 3 ∧ row.st ≠ 4 ∧ row.ca = ((a : Nat) : Int) ∧ Mu29.pulled s k c = Mu29.setCord s k .free) ∨ (∃ a b t, c = .talks a b t) ∨ (∃ a b t, c = .rings a b t) := by
      cases c with
      | free => exact absurd rfl hnf
      | talks a b t => exact .inr (.inl ⟨a, b, t, rfl⟩)
      | rings a b t => exact .inr (.inr ⟨a, b, t, rfl⟩)
      | asks a => exact .inl ⟨a, rfl, by rw [hrel.1]; decide, by rw [hrel.1]; decide, hrel.2, rfl⟩
      | told a b => exact .inl ⟨a, rfl, by rw [hrel.1]; decide, by rw [hrel.1]; decide, hrel.2.1, rfl⟩
      | busy a => exact .inl ⟨a, rfl, by rw [hrel.1]; decide, by rw [hrel.1]; decide, hrel.2, rfl⟩
    rcases kind with ⟨a, epl, e3, e4, eca, epd⟩ | ⟨a, b, t, rfl⟩ | ⟨a, b, t, rfl⟩
    · have hh : has2 row = false := by simp [has2, e3, e4]
      refine ifF hh ?_
      refine ⟨_, rfl, p, CP, dx, _, _, rfl, hp1, T.clP, T.nst, pF_state _, _, _, rfl, rfl, _, rfl, ifF (decide_eq_false e3) (iteF ?_)⟩
      refine ⟨_, rfl, p, CP, dx, _, _, rfl, hp1, T.clP, T.nst, pF_state _, _, _, rfl, rfl, _, rfl, ifF (decide_eq_false e4) ?_⟩
      refine ⟨_, rfl, p, dx, _, rfl, hp1, pF_none _ (by decide +kernel), p, dx, row, rfl, hp1, ?_⟩
      have B2 : BoardAt CB CP (upd H1 p (.ins CP dx (pF ⟨0, -1, -1, -1⟩))) r (Mu29.setCord s k .free) := B1.setP (c := .free) hk rfl
      rw [eca] at he1
      refine loop_look (Ls := [a]) B2 ((upd_ne (Ne.symm npe)).trans he1) (fun l hl => hin l (by rw [epl]; exact hl)) ne (fun σ' H' B3 K3 => ?_)
      refine q H' ?_ (((Keeps.of S1).trans (Keeps.upd (foot_p hk))).trans K3)
      unfold pullS
      rw [epl, epd]
      exact B3
    · obtain ⟨e1, e2, e3, e4⟩ := hrel
      have hh : has2 row = true := by simp [has2, e1]
      refine ifT hh ?_
      refine ⟨_, rfl, .inl ⟨rfl, _, SqL.of he1⟩, _, rfl, p, CP, dx, _, _, rfl, hp1, T.clP, T.not, pF_other _, e, _, _, rfl, rfl, he1, (by show 1 < sizeLine; decide), ?_⟩
      have S2 : Same H (upd H1 e (.lst ([.int row.ca] ++ [.int row.ot]))) := fun x o h => (upd_ne (ne_of_none h he)).trans (S1 x o h)
      have he2 : upd H1 e (.lst ([.int row.ca] ++ [.int row.ot])) e = some (.lst ([a, b].map fun (l : Nat) => V.int (l : Int))) := by
        rw [upd_same, e2, e3]
        rfl
      generalize upd H1 e (.lst ([.int row.ca] ++ [.int row.ot])) = H2 at S2 he2
      have B2 := B.same S2
      have hp2 := S2 _ _ hp
      refine ⟨_, rfl, p, CP, dx, _, _, rfl, hp2, T.clP, T.nst, pF_state _, _, _, rfl, rfl, _, rfl, ifF (decide_eq_false (by omega)) (iteF ?_)⟩
      refine ⟨_, rfl, p, CP, dx, _, _, rfl, hp2, T.clP, T.nst, pF_state _, _, _, rfl, rfl, _, rfl, ifT (decide_eq_true e1) ?_⟩
      obtain ⟨ts, h1, h2, h3⟩ := B2.nt
      refine ⟨_, rfl, r.b, CB, r.dx, _, _, rfl, B2.b, T.clB, T.nno, bF_noted _, .inl ⟨rfl, _, SqL.of h1⟩, _, rfl, p, CP, dx, _, _, rfl, hp2, T.clP, T.nca, pF_caller _, _, rfl, p, CP, dx, _, _, rfl, hp2, T.clP, T.not, pF_other _, _, rfl, p, CP, dx, _, _, rfl, hp2, T.clP, T.nsi, pF_since _, _, rfl, r.b, CB, r.dx, _, _, rfl, B2.b, T.clB, T.nti, bF_time _, (by show 4 ≤ sizeLine; decide), fun u hu => ?_⟩
      have ev : [V.int row.ca, V.int row.ot, V.int row.si, V.int (brow r s).time] = talkV ⟨a, b, t, s.now⟩ := by
        rw [e2, e3, e4]
        rfl
      rw [ev]
      have B3 := B2.note ⟨a, b, t, s.now⟩ h1 h2 h3 hu
      have neu : e ≠ u := ne_of_none he2 hu
      have npu : p ≠ u := ne_of_none hp2 hu
      have nen : e ≠ r.nt := fun z => ne (by rw [z]; exact foot_nt r)
      have npn : p ≠ r.nt := B2.pne (List.mem_of_getElem? hk) h1
      refine ⟨r.nt, _, _, rfl, rfl, same_new hu _ _ h1, (by rw [List.length_map, h2, sizeLine_eq]; omega), ?_⟩
      have he3 : upd (upd H2 u (.tup (talkV ⟨a, b, t, s.now⟩))) r.nt (.lst (ts.map V.ref ++ [.ref u])) e = _ := (upd_ne nen).trans ((upd_ne neu).trans he2)
      have hp3 : upd (upd H2 u (.tup (talkV ⟨a, b, t, s.now⟩))) r.nt (.lst (ts.map V.ref ++ [.ref u])) p = _ := (upd_ne npn).trans ((upd_ne npu).trans hp2)
      have K3 : Keeps (foot r) H (upd (upd H2 u (.tup (talkV ⟨a, b, t, s.now⟩))) r.nt (.lst (ts.map V.ref ++ [.ref u]))) := (Keeps.of (S2.trans (same_new hu))).trans (Keeps.upd (foot_nt r))
      generalize upd (upd H2 u (.tup (talkV ⟨a, b, t, s.now⟩))) r.nt (.lst (ts.map V.ref ++ [.ref u])) = H3 at B3 he3 hp3 K3
      refine ⟨_, rfl, p, dx, _, rfl, hp3, pF_none _ (by decide +kernel), p, dx, row, rfl, hp3, ?_⟩
      have B4 : BoardAt CB CP (upd H3 p (.ins CP dx (pF ⟨0, -1, -1, -1⟩))) r (Mu29.pulled s k (.talks a b t)) := B3.setP (c := .free) hk rfl
      refine loop_look (Ls := [a, b]) B4 ((upd_ne (Ne.symm npe)).trans he3) (fun l hl => hin l hl) ne (fun σ' H' B5 K5 => ?_)
      exact q H' B5 ((K3.trans (Keeps.upd (foot_p hk))).trans K5)
    · obtain ⟨e1, e2, e3, e4⟩ := hrel
      have hh : has2 row = true := by simp [has2, e1]
      have ha : a < s.lines.length := hin a (by simp [Mu29.plugs])
      refine ifT hh ?_
      refine ⟨_, rfl, .inl ⟨rfl, _, SqL.of he1⟩, _, rfl, p, CP, dx, _, _, rfl, hp1, T.clP, T.not, pF_other _, e, _, _, rfl, rfl, he1, (by show 1 < sizeLine; decide), ?_⟩
      have S2 : Same H (upd H1 e (.lst ([.int row.ca] ++ [.int row.ot]))) := fun x o h => (upd_ne (ne_of_none h he)).trans (S1 x o h)
      have he2 : upd H1 e (.lst ([.int row.ca] ++ [.int row.ot])) e = some (.lst ([a, b].map fun (l : Nat) => V.int (l : Int))) := by
        rw [upd_same, e2, e3]
        rfl
      generalize upd H1 e (.lst ([.int row.ca] ++ [.int row.ot])) = H2 at S2 he2
      have B2 := B.same S2
      have hp2 := S2 _ _ hp
      refine ⟨_, rfl, p, CP, dx, _, _, rfl, hp2, T.clP, T.nst, pF_state _, _, _, rfl, rfl, _, rfl, ifT (decide_eq_true e1) ?_⟩
      refine ⟨_, rfl, r.b, CB, r.dx, _, _, rfl, B2.b, T.clB, T.nof, bF_off _, _, rfl, p, CP, dx, _, _, rfl, hp2, T.clP, T.nca, pF_caller _, r.off, _, _, _, rfl, rfl, SqL.of B2.off, (by rw [e2]; exact atI_nat (off_get ha)), _, rfl, ?_⟩
      cases ho : Mu29.isOff s a with
      | true =>
        refine iteT ?_
        refine ⟨_, rfl, p, dx, _, rfl, hp2, pF_none _ (by decide +kernel), p, dx, row, 5, rfl, hp2, ?_⟩
        have B3 : BoardAt CB CP (upd H2 p (.ins CP dx (pF { row with st := 5 }))) r (Mu29.setCord s k (.busy a)) := B2.setP (c := .busy a) hk ⟨rfl, e2⟩
        have he3 : upd H2 p (.ins CP dx (pF { row with st := 5 })) e = _ := (upd_ne (Ne.symm npe)).trans he2
        have K3 : Keeps (foot r) H (upd H2 p (.ins CP dx (pF { row with st := 5 }))) := (Keeps.of S2).trans (Keeps.upd (foot_p hk))
        generalize upd H2 p (.ins CP dx (pF { row with st := 5 })) = H3 at B3 he3 K3
        refine ⟨_, rfl, r.b, CB, r.dx, _, _, rfl, B3.b, T.clB, T.nnb, bF_nobody _, _, _, rfl, rfl, _, _, B3.b, (by show 7 < 1000; decide), ?_⟩
        rw [bF_pnobody]
        have B4 : BoardAt CB CP (upd H3 r.b (.ins CB r.dx (bF { brow r (Mu29.setCord s k (.busy a)) with nobody := (s.misses : Int) + 1 }))) r (Mu29.pulled s k (.rings a b t)) := by
          have e : Mu29.pulled s k (.rings a b t) = { Mu29.setCord s k (.busy a) with misses := s.misses + 1 } := if_pos ho
          rw [e]
          exact B3.setB s.now s.busies (s.misses + 1)
        refine loop_look (Ls := [a, b]) B4 ((upd_ne (fun z => ne (by rw [z]; exact foot_b r))).trans he3) (fun l hl => ?_) ne (fun σ' H' B5 K5 => ?_)
        · obtain ⟨_, _, _, _, hll, _⟩ := pulled_cords s k (.rings a b t)
          rw [hll]
          exact hin l hl
        · exact q H' B5 ((K3.trans (Keeps.upd (foot_b r))).trans K5)
      | false =>
        refine iteF ?_
        refine ⟨_, rfl, p, CP, dx, _, _, rfl, hp2, T.clP, T.nst, pF_state _, _, _, rfl, rfl, _, rfl, ifF (decide_eq_false (by omega)) ?_⟩
        refine ⟨_, rfl, p, dx, _, rfl, hp2, pF_none _ (by decide +kernel), p, dx, row, rfl, hp2, ?_⟩
        have B4 : BoardAt CB CP (upd H2 p (.ins CP dx (pF ⟨0, -1, -1, -1⟩))) r (Mu29.pulled s k (.rings a b t)) := by
          have e : Mu29.pulled s k (.rings a b t) = Mu29.setCord s k .free := if_neg (by rw [ho]; decide)
          rw [e]
          exact B2.setP (c := .free) hk rfl
        refine loop_look (Ls := [a, b]) B4 ((upd_ne (Ne.symm npe)).trans he2) (fun l hl => ?_) ne (fun σ' H' B5 K5 => ?_)
        · obtain ⟨_, _, _, _, hll, _⟩ := pulled_cords s k (.rings a b t)
          rw [hll]
          exact hin l hl
        · exact q H' B5 (((Keeps.of S2).trans (Keeps.upd (foot_p hk))).trans K5)
end
end Cb

namespace Cb
open PySem PySem.Spec PyProof.Rows L2
abbrev sWU : Stmt := top 24
def spOW (CB CP : Addr) : Sp := fun vs H Q _ => ∃ (r : BR) (s : Mu29.State), vs = [.ref r.b] ∧ BoardAt CB CP H r s ∧ WF s ∧ s.talks.length < s.now ∧ s.now < 16000000 ∧
  ∀ H', BoardAt CB CP H' r (Mu29.lamps (Mu29.acts s)) → Keeps (foot r) H H' → Q .non H'
def spOU (CB CP : Addr) : Sp := fun vs H Q _ => ∃ (r : BR) (s : Mu29.State), vs = [.ref r.b] ∧ BoardAt CB CP H r s ∧ WF s ∧ s.now < 15000000 ∧
  ∀ H', BoardAt CB CP H' r (Mu29.tick s) → Keeps (foot r) H H' → Q .non H'
def spWU (CB CP : Addr) : Sp := fun vs H Q _ => ∃ (r : BR) (s : Mu29.State) (l : Nat), vs = [.ref r.b, .int (l : Int)] ∧ BoardAt CB CP H r s ∧ WF s ∧ s.now ≤ 1000000 ∧ Mu29.plugged s l = false ∧
  ∀ H', Same H H' → Q (.int (match Mu29.answered l 101 0 s with | some n => (n : Int) | none => 0)) H'
theorem lit_get {s : Mu29.State} {l : Nat} (h : l < s.lines.length) : (s.lines.map litV)[l]? = some (.int (litI s l)) := by
  obtain ⟨x, hx⟩ := line_at h
  rw [lit_at hx]
  unfold litI litN litV
  rw [hx]
  rfl
section
variable {P : Program} {w : World} {K : PySem.W.Frag} {mg : Str → Option Value} {base : Heap} {CP CB CD : Addr}
theorem scOC : FnScope ["board", "pair"] ["board", "pair"] (defScope sOC) := ⟨rfl, rfl, rfl, by decide +kernel, rfl, by decide +kernel, by decide +kernel⟩
theorem ok_OC (F : GFun K mg "connect" sOC ["board", "pair"]) (T : Txt K mg CP CB CD) (GL : MOk P w K mg base CX0 CB "lines" 1 ["self"] (spBL CB CP)) (GQ : MOk P w K mg base CX0 CB "is_plugged" 4 ["self", "line"] (spBQ CB CP)) (GB : MOk P w K mg base CX0 CP "become" 1 ["self", "state"] (spPB CP))
    (GK : MOk P w K mg base CX0 CB "look" 5 ["self", "line"] (spBK CB CP)) : GOk P w K mg base CX0 "connect" 6 ["board", "pair"] (spOC CB CP) := by
  refine F.ok scOC (fun vs H Q E h => ?_) (fun f cdv A outer s H vs Q E hr h => ?_)
  · obtain ⟨r, s, p, k, a, b, rfl, _⟩ := h
    rfl
  · obtain ⟨r, s, p, k, a, b, rfl, B, hk, hc, q⟩ := h
    obtain ⟨dx, row, hp, e1, e2, e3⟩ := B.pair k p _ hk hc
    have hr1 : Room 1 _ := hr.mono (by decide)
    have hr4 : Room 4 _ := hr.mono (by decide)
    refine ⟨_, pss_cons (ps_if (PW.pt (pw_or (pt_cmp (pc_ge (pe_fld (pv 1) rfl) (pm0 (pv 0) T.clB GL hr1 pass0))) (pw_or1 (pt_val (pm (pv 0) T.clB GQ hr4 pass0 (pa_cons (pe_fld (pv 1) rfl) pa_nil))))))
        (pss_cons (ps_expr (pm (pv 1) T.clP GB hr1 pass0 (pa_cons (pgl T.gBUSY) pa_nil))) (pss_cons (ps_fldaug (pv 0) pe_int in_add) (pss_one ps_retN))) pss_nil)
      (pss_cons (ps_expr (pm (pv 1) T.clP GB hr1 pass0 (pa_cons (pe_ix ix_list (pe_lst (pa_cons (pgl T.gRINGS) (pa_cons (pgl T.gTALK) pa_nil))) (pe_callTy call_int1 (by rfl) T.int (by decide +kernel) (pa_cons (pe_ix ix_list (pe_fld (pv 0) rfl) (pe_fld (pv 1) rfl) (fun _ _ => rfl)) pa_nil)) (fun _ _ => rfl)) pa_nil)))
      (pss_cons (ps_fld (pv 1) (pe_fld (pv 0) rfl) rfl)
      (pss_one (ps_expr (pm (pv 0) T.clB GK hr pass0 (pa_cons (pe_fld (pv 1) rfl) pa_nil)))))), ?_⟩
    have nbp := B.pb (List.mem_of_getElem? hk)
    -- busy
    have busy : ∀ H1, Same H H1 → (Mu29.plugged s b = true ∨ s.lines.length ≤ b) → tSeq (tDrop (tMeth CP "become" (spPB CP) [] E0 (tVar 1) (tCons (tC (.int 5)) tNil))) (tSeq (sFldAug K (tVar 0) (tC (.int 1)) L2.rAdd "busy") tRetN) { nx := fun _ _ => False, rt := Q } [some (.ref r.b), some (.ref p)] H1 := fun H1 S1 hb => by
      have B1 := B.same S1
      have hp1 := S1 _ _ hp
      refine ⟨_, rfl, p, dx, _, rfl, hp1, pF_none _ (by decide +kernel), p, dx, row, 5, rfl, hp1, ?_⟩
      have B2 : BoardAt CB CP (upd H1 p (.ins CP dx (pF { row with st := 5 }))) r (Mu29.setCord s k (.busy a)) := B1.setP (c := .busy a) hk ⟨rfl, e2⟩
      refine ⟨_, rfl, r.b, CB, r.dx, _, _, rfl, B2.b, T.clB, T.nbu, bF_busy _, _, _, rfl, rfl, _, _, B2.b, (by show 7 < 1000; decide), ?_⟩
      show Q .non _
      rw [bF_pbusy]
      refine q _ ?_ (((Keeps.of S1).trans (Keeps.upd (foot_p hk))).trans (Keeps.upd (foot_b r)))
      unfold connectS
      rw [if_pos hb]
      exact B2.setB s.now (s.busies + 1) s.misses
    refine ⟨_, rfl, p, CP, dx, _, _, rfl, hp, T.clP, T.not, pF_other _, _, rfl, r.b, r.dx, _, rfl, B.b, bF_none _ (by decide +kernel), r, s, rfl, B, _, _, rfl, rfl, _, rfl, ?_⟩
    by_cases hlen : s.lines.length ≤ b
    · have := busy H (Same.refl H) (.inr hlen)
      exact ifT (decide_eq_true (by rw [e3]; omega)) (iteT this)
    · refine ifF (decide_eq_false (by rw [e3]; omega)) ?_
      refine ⟨_, rfl, r.b, r.dx, _, rfl, B.b, bF_none _ (by decide +kernel), _, rfl, p, CP, dx, _, _, rfl, hp, T.clP, T.not, pF_other _, r, s, b, (by rw [e3]; rfl), B, fun H1 S1 => ⟨_, rfl, ?_⟩⟩
      cases hpl : Mu29.plugged s b with
      | true => exact iteT (busy H1 S1 (.inl hpl))
      | false =>
        refine iteF ?_
        have hb : b < s.lines.length := by omega
        have B1 := B.same S1
        have hp1 := S1 _ _ hp
        have hneg : ¬ (Mu29.plugged s b = true ∨ s.lines.length ≤ b) := fun z => z.elim (fun y => by rw [hpl] at y; cases y) hlen
        refine ⟨_, rfl, p, dx, _, rfl, hp1, pF_none _ (by decide +kernel), (by show 2 ≤ sizeLine; decide), fun g hg => ?_⟩
        have S2 := S1.trans (same_new (o := .lst [.int 3, .int 4]) hg)
        have hg2 : upd H1 g (.lst [.int 3, .int 4]) g = some (.lst [.int 3, .int 4]) := upd_same
        generalize upd H1 g (.lst [.int 3, .int 4]) = H2 at S2 hg2
        have B2 := B.same S2
        have hp2 := S2 _ _ hp
        refine ⟨_, rfl, r.b, CB, r.dx, _, _, rfl, B2.b, T.clB, T.nof, bF_off _, _, rfl, p, CP, dx, _, _, rfl, hp2, T.clP, T.not, pF_other _, r.off, _, _, _, rfl, rfl, SqL.of B2.off, (by rw [e3]; exact atI_nat (off_get hb)), .inr ⟨_, rfl, ?_⟩⟩
        -- which state
        have key : ∀ (z : Int) (c' : Mu29.Stand), Rel c' ⟨z, (a : Int), (b : Int), (s.now : Int)⟩ → connectS s k a b = lookS (Mu29.setCord s k c') b →
            tSeq (tDrop fun σ' H' Q' => spPB CP [.ref p, .int z] H' Q' E0) (tSeq (sFld K (tVar 1) (tFld K (tVar 0) "time") "since") (tDrop (tMeth CB "look" (spBK CB CP) [] E0 (tVar 0) (tCons (tFld K (tVar 1) "other") tNil)))) { nx := fun _ H' => Q .non H', rt := Q } [some (.ref r.b), some (.ref p)] H2 := fun z c' hrel hcon => by
          refine ⟨p, dx, row, z, rfl, hp2, ?_⟩
          refine ⟨_, rfl, r.b, CB, r.dx, _, _, rfl, (upd_ne nbp).trans B2.b, T.clB, T.nti, bF_time _, _, rfl, p, CP, dx, _, rfl, upd_same, T.clP, T.nsi, (by show 4 < 1000; decide), ?_⟩
          rw [upd_upd, pF_psi]
          have B3 : BoardAt CB CP (upd H2 p (.ins CP dx (pF { row with st := z, si := (brow r s).time }))) r (Mu29.setCord s k c') := by
            refine B2.setP (c := c') hk ?_
            have er : ({ row with st := z, si := (brow r s).time } : PRow) = ⟨z, (a : Int), (b : Int), (s.now : Int)⟩ := by
              obtain ⟨x1, x2, x3, x4⟩ := row
              simp only at e2 e3
              subst e2 e3
              rfl
            rw [er]
            exact hrel
          refine ⟨_, rfl, r.b, r.dx, _, rfl, B3.b, bF_none _ (by decide +kernel), _, rfl, p, CP, dx, _, _, rfl, upd_same, T.clP, T.not, pF_other _, r, _, b, (by show [V.ref r.b, V.int row.ot] = _; rw [e3]), B3, hb, fun H4 B4 K4 => ?_⟩
          refine q H4 ?_ (((Keeps.of S2).trans (Keeps.upd (foot_p hk))).trans K4)
          rw [hcon]
          exact B4
        cases ho : Mu29.isOff s b with
        | true =>
          refine ⟨g, _, 1, .int 4, rfl, rfl, SqL.of hg2, rfl, ?_⟩
          refine key 4 (.talks a b s.now) ⟨rfl, rfl, rfl, rfl⟩ ?_
          unfold connectS
          rw [if_neg hneg, if_pos ho]
        | false =>
          refine ⟨g, _, 0, .int 3, rfl, rfl, SqL.of hg2, rfl, ?_⟩
          refine key 3 (.rings a b s.now) ⟨rfl, rfl, rfl, rfl⟩ ?_
          unfold connectS
          rw [if_neg hneg, if_neg (by rw [ho]; decide)]
theorem scOB : FnScope ["board", "some", "found", "line"] ["board"] (defScope sOB) := ⟨rfl, rfl, rfl, by decide +kernel, rfl, by decide +kernel, by decide +kernel⟩
theorem ok_OB (F : GFun K mg "longest_lit" sOB ["board"]) (T : Txt K mg CP CB CD) (GT : MOk P w K mg base CX0 CB "lit_lines" 2 ["self"] (spBT CB CP)) : GOk P w K mg base CX0 "longest_lit" 3 ["board"] (spOB CB CP) := by
  refine F.ok scOB (fun vs H Q E h => ?_) (fun f cdv A outer s H vs Q E hr h => ?_)
  · obtain ⟨r, s, l0, L, rfl, _⟩ := h
    rfl
  · obtain ⟨r, s, l0, L, rfl, B, hL, q⟩ := h
    refine ⟨_, pss_cons (ps_set (i := 1) scOB.nd rfl (Or.inl rfl) (pm0 (pv 0) T.clB GT hr pass0))
      (pss_cons (ps_set (i := 2) scOB.nd rfl (Or.inl rfl) (pe_ix ix_list (pv 1) pe_int (fun _ _ => rfl)))
      (pss_cons (ps_for PassesOwn.never rfl (pi_list (pv 1)) (pg_name (i := 3) scOB.nd rfl (Or.inl rfl))
        (pss_one (ps_if (pt_cmp (pc_lt (pe_ix ix_list (pe_fld (pv 0) rfl) (pv 3) (fun _ _ => rfl)) (pe_ix ix_list (pe_fld (pv 0) rfl) (pv 2) (fun _ _ => rfl)))) (pss_one (ps_set (i := 2) scOB.nd rfl (Or.inl rfl) (pv 3))) pss_nil)))
      (pss_one (ps_ret (pv 2))))), ?_⟩
    refine ⟨_, rfl, r.b, r.dx, _, rfl, B.b, bF_none _ (by decide +kernel), r, s, rfl, B, fun p hp => ?_⟩
    have S1 : Same H (upd H p (.lst ((litLines s).map fun (l : Nat) => V.int (l : Int)))) := same_new hp
    have hp1 : upd H p (.lst ((litLines s).map fun (l : Nat) => V.int (l : Int))) p = some (.lst ((l0 :: L).map fun (l : Nat) => V.int (l : Int))) := by
      rw [upd_same, hL]
    generalize upd H p (.lst ((litLines s).map fun (l : Nat) => V.int (l : Int))) = H1 at S1 hp1
    have B1 := B.same S1
    have hmem : ∀ l, l ∈ l0 :: L → l < s.lines.length := fun l hl => (lit_of_mem (by rw [hL]; exact hl)).1
    refine ⟨_, rfl, p, _, 0, .int (l0 : Int), rfl, rfl, SqL.of hp1, atI_nat (j := 0) rfl, ?_⟩
    refine ⟨_, rfl, p, rfl, ⟨_, SqL.of hp1⟩, for_list (K := K) (a := p) (xs := (l0 :: L).map fun (l : Nat) => V.int (l : Int)) (fun j σ' H' => (∃ v', σ' = [some (.ref r.b), some (.ref p), some (.int ((((l0 :: L).take j).foldl (older s) l0 : Nat) : Int)), v']) ∧ H' = H1) ⟨⟨_, rfl⟩, rfl⟩ (fun j σ' H' _ e => by rw [e.2]; exact SqL.of hp1) ?_ ?_⟩
    · rintro j y σ' H' hj ⟨⟨v', rfl⟩, rfl⟩
      rw [List.getElem?_map] at hj
      cases hl : (l0 :: L)[j]? with
      | none => rw [hl] at hj; cases hj
      | some l =>
        rw [hl] at hj
        cases hj
        have hlt := hmem l (List.mem_of_getElem? hl)
        have hft : ((l0 :: L).take j).foldl (older s) l0 < s.lines.length := by
          rcases fold_older_mem s ((l0 :: L).take j) l0 with z | z
          · rw [z]; exact hmem l0 List.mem_cons_self
          · exact hmem _ (List.mem_of_mem_take z)
        have est : ((l0 :: L).take (j + 1)).foldl (older s) l0 = older s (((l0 :: L).take j).foldl (older s) l0) l := by
          rw [take_snoc hl, List.foldl_append]
          rfl
        refine ⟨_, rfl, r.b, CB, r.dx, _, _, rfl, B1.b, T.clB, T.nli, bF_lit _, _, rfl, r.lit, _, _, _, rfl, rfl, SqL.of B1.lit, atI_nat (lit_get hlt), _, rfl, r.b, CB, r.dx, _, _, rfl, B1.b, T.clB, T.nli, bF_lit _, _, rfl, r.lit, _, _, _, rfl, rfl, SqL.of B1.lit, atI_nat (lit_get hft), _, _, rfl, rfl, _, rfl, ?_⟩
        by_cases c : litI s l < litI s (((l0 :: L).take j).foldl (older s) l0)
        · refine ifT (decide_eq_true c) ⟨_, rfl, ⟨some (.int (l : Int)), ?_⟩, rfl⟩
          rw [est, show older s (((l0 :: L).take j).foldl (older s) l0) l = l from if_pos c]
          rfl
        · refine ifF (decide_eq_false c) ⟨⟨some (.int (l : Int)), ?_⟩, rfl⟩
          rw [est, show older s (((l0 :: L).take j).foldl (older s) l0) l = ((l0 :: L).take j).foldl (older s) l0 from if_neg c]
          rfl
    · rintro σ' H' ⟨⟨v', rfl⟩, rfl⟩
      rw [List.length_map, List.take_length]
      exact ⟨_, rfl, q _ S1⟩
theorem scOG : FnScope ["board", "pair", "line"] ["board", "pair"] (defScope sOG) := ⟨rfl, rfl, rfl, by decide +kernel, rfl, by decide +kernel, by decide +kernel⟩
theorem ok_OG (F : GFun K mg "plug_in" sOG ["board", "pair"]) (T : Txt K mg CP CB CD) (GB : GOk P w K mg base CX0 "longest_lit" 3 ["board"] (spOB CB CP)) (GP : MOk P w K mg base CX0 CP "become" 1 ["self", "state"] (spPB CP))
    (GK : MOk P w K mg base CX0 CB "look" 5 ["self", "line"] (spBK CB CP)) : GOk P w K mg base CX0 "plug_in" 6 ["board", "pair"] (spOG CB CP) := by
  refine F.ok scOG (fun vs H Q E h => ?_) (fun f cdv A outer s H vs Q E hr h => ?_)
  · obtain ⟨r, s, p, k, l0, L, rfl, _⟩ := h
    rfl
  · obtain ⟨r, s, p, k, l0, L, rfl, B, hk, hc, hL, q⟩ := h
    obtain ⟨dx, row, hp, hrel⟩ := B.pair k p _ hk hc
    have hr1 : Room 1 _ := hr.mono (by decide)
    have hr3 : Room 3 _ := hr.mono (by decide)
    refine ⟨_, pss_cons (ps_set (i := 2) scOG.nd rfl (Or.inl rfl) (pf GB hr3 rfl pass0 (pa_cons (pv 0) pa_nil)))
      (pss_cons (ps_expr (pm (pv 1) T.clP GP hr1 pass0 (pa_cons (pgl T.gASKS) pa_nil)))
      (pss_cons (ps_fld (pv 1) (pv 2) rfl)
      (pss_one (ps_expr (pm (pv 0) T.clB GK hr pass0 (pa_cons (pv 2) pa_nil)))))), ?_⟩
    refine ⟨_, rfl, r, s, l0, L, rfl, B, hL, fun H1 S1 => ?_⟩
    have B1 := B.same S1
    have hp1 := S1 _ _ hp
    have hm : (l0 :: L).foldl (older s) l0 < s.lines.length := (lit_of_mem (oldest_mem (oldest_some hL))).1
    generalize (l0 :: L).foldl (older s) l0 = l at q hm
    refine ⟨_, rfl, p, dx, _, rfl, hp1, pF_none _ (by decide +kernel), p, dx, row, 1, rfl, hp1, ?_⟩
    refine ⟨_, rfl, _, rfl, p, CP, dx, _, rfl, upd_same, T.clP, T.nca, (by show 4 < 1000; decide), ?_⟩
    rw [upd_upd, pF_pca]
    have B2 : BoardAt CB CP (upd H1 p (.ins CP dx (pF { row with st := 1, ca := (l : Int) }))) r (Mu29.setCord s k (.asks l)) := B1.setP (c := .asks l) hk ⟨rfl, rfl⟩
    refine ⟨_, rfl, r.b, r.dx, _, rfl, B2.b, bF_none _ (by decide +kernel), _, rfl, r, _, l, rfl, B2, hm, fun H3 B3 K3 => ?_⟩
    exact q H3 B3 (((Keeps.of S1).trans (Keeps.upd (foot_p hk))).trans K3)
theorem scOW : FnScope ["board", "pulled", "told", "free", "pair"] ["board"] (defScope sOW) := ⟨rfl, rfl, rfl, by decide +kernel, rfl, by decide +kernel, by decide +kernel⟩
theorem ok_OW (F : GFun K mg "work" sOW ["board"]) (T : Txt K mg CP CB CD) (GI : GOk P w K mg base CX0 "is_to_be_pulled" 2 ["board", "pair"] (spOI CB CP)) (GP : GOk P w K mg base CX0 "pull" 6 ["board", "pair"] (spOP CB CP)) (GC : GOk P w K mg base CX0 "connect" 6 ["board", "pair"] (spOC CB CP))
    (GT : MOk P w K mg base CX0 CB "lit_lines" 2 ["self"] (spBT CB CP)) (GG : GOk P w K mg base CX0 "plug_in" 6 ["board", "pair"] (spOG CB CP)) : GOk P w K mg base CX0 "work" 7 ["board"] (spOW CB CP) := by
  refine F.ok scOW (fun vs H Q E h => ?_) (fun f cdv A outer s H vs Q E hr h => ?_)
  · obtain ⟨r, s, rfl, _⟩ := h
    rfl
  · obtain ⟨r, s, rfl, B, wf, hnt, hnow, q⟩ := h
    have hr2 : Room 2 _ := hr.mono (by decide)
    refine ⟨_, pss_cons (ps_setLc (i := 1) (own := [("pair", 4)]) (g := gName 4) (tt := tB (tCall (spOI CB CP) [] E0 (tCons (tVar 0) (tCons (tVar 4) tNil)))) (te := tVar 4) rfl scOW.nd rfl rfl (sw_true rfl rfl rfl (by decide +kernel)) (pi_list (pe_fld (pv 0) rfl)) (blkOk_by (own := [("pair", 4)]) (N := ["board", "pulled", "told", "free", "pair"]) (sc := defScope sOW) (by decide +kernel))
          (fun _ _ _ _ _ => pg_name (i := 4) scOW.nd rfl (Or.inl rfl)) (fun _ _ _ _ _ => pts_one (pt_val (pf GI hr2 rfl pass0 (by exact pa_cons (pv 0) (pa_cons (pv 4) pa_nil))))) (fun _ _ _ _ _ => pv 4))
      (pss_cons (ps_setLc (i := 2) (own := [("pair", 4)]) (g := gName 4) (tt := tB (tEqI (tFld K (tVar 4) "state") (tC (.int 2)))) (te := tVar 4) rfl scOW.nd rfl rfl (sw_true rfl rfl rfl (by decide +kernel)) (pi_list (pe_fld (pv 0) rfl)) (blkOk_by (own := [("pair", 4)]) (N := ["board", "pulled", "told", "free", "pair"]) (sc := defScope sOW) (by decide +kernel))
          (fun _ _ _ _ _ => pg_name (i := 4) scOW.nd rfl (Or.inl rfl)) (fun _ _ _ _ _ => pts_one (by exact pt_cmp (pc_eqI (pe_fld (pv 4) rfl) (pgl T.gTOLD)))) (fun _ _ _ _ _ => pv 4))
      (pss_cons (ps_setLc (i := 3) (own := [("pair", 4)]) (g := gName 4) (tt := tB (tEqI (tFld K (tVar 4) "state") (tC (.int 0)))) (te := tVar 4) rfl scOW.nd rfl rfl (sw_true rfl rfl rfl (by decide +kernel)) (pi_list (pe_fld (pv 0) rfl)) (blkOk_by (own := [("pair", 4)]) (N := ["board", "pulled", "told", "free", "pair"]) (sc := defScope sOW) (by decide +kernel))
          (fun _ _ _ _ _ => pg_name (i := 4) scOW.nd rfl (Or.inl rfl)) (fun _ _ _ _ _ => pts_one (by exact pt_cmp (pc_eqI (pe_fld (pv 4) rfl) (pgl T.gFREE)))) (fun _ _ _ _ _ => pv 4))
      (pss_one (ps_if (pt_cmpR (op_neNil hr.units0) (pv 1) (pe_lst pa_nil) (nomark _)) (pss_one (ps_expr (pf GP hr rfl pass0 (pa_cons (pv 0) (pa_cons (pe_ix ix_list (pv 1) pe_int (fun _ _ => rfl)) pa_nil)))))
        (pss_one (ps_if (pt_cmpR (op_neNil hr.units0) (pv 2) (pe_lst pa_nil) (nomark _)) (pss_one (ps_expr (pf GC hr rfl pass0 (pa_cons (pv 0) (pa_cons (pe_ix ix_list (pv 2) pe_int (fun _ _ => rfl)) pa_nil)))))
        (pss_one (ps_if (PW.pt (pw_and (pt_cmpR (op_neNil hr.units0) (pv 3) (pe_lst pa_nil) (nomark _)) (pw_and1 (pt_cmpR (op_neNil hr.units0) (pm0 (pv 0) T.clB GT hr2 pass0) (pe_lst pa_nil) (nomark _))))) (pss_one (ps_expr (pf GG hr rfl pass0 (pa_cons (pv 0) (pa_cons (pe_ix ix_list (pv 3) pe_int (fun _ _ => rfl)) pa_nil))))) pss_nil)))))))), ?_⟩
    -- pulled
    refine ⟨_, rfl, r.b, CB, r.dx, _, _, rfl, B.b, T.clB, T.npr, bF_pairs _, r.prs, rfl, ⟨_, SqL.of B.prs⟩, ?_⟩
    refine lc_pick (f := Mu29.toPull s) B (by show 4 < 5; decide) (fun k p c H' Q' sm hp hc q' => ?_) (fun D1 hD1 => ?_)
    · exact ⟨_, rfl, _, rfl, r, s, p, k, c, rfl, B.same sm, hp, hc, fun l hl => wf.inr k c l hc hl, _, rfl, q'⟩
    have S1 : Same H (upd H D1 (.lst ((picks (Mu29.toPull s) r.ps s.cords).map V.ref))) := same_new hD1
    have h1 : upd H D1 (.lst ((picks (Mu29.toPull s) r.ps s.cords).map V.ref)) D1 = some (.lst ((picks (Mu29.toPull s) r.ps s.cords).map V.ref)) := upd_same
    show tSeq _ _ _ _ (upd H D1 (.lst ((picks (Mu29.toPull s) r.ps s.cords).map V.ref)))
    generalize upd H D1 (.lst ((picks (Mu29.toPull s) r.ps s.cords).map V.ref)) = H1 at S1 h1
    have B1 := B.same S1
    -- told
    refine ⟨_, rfl, r.b, CB, r.dx, _, _, rfl, B1.b, T.clB, T.npr, bF_pairs _, r.prs, rfl, ⟨_, SqL.of B1.prs⟩, ?_⟩
    refine lc_pick (f := isTold) B1 (by show 4 < 5; decide) (fun k p c H' Q' sm hp hc q' => ?_) (fun D2 hD2 => ?_)
    · obtain ⟨dx, row, h1, h2⟩ := B1.pair k p c hp hc
      refine ⟨_, rfl, p, CP, dx, _, _, rfl, sm _ _ h1, T.clP, T.nst, pF_state _, _, _, rfl, rfl, _, rfl, ?_⟩
      show Q' (decide (row.st = 2)) H'
      rw [rel_told h2]
      exact q'
    have S2 : Same H (upd H1 D2 (.lst ((picks isTold r.ps s.cords).map V.ref))) := S1.trans (same_new hD2)
    have h2 : upd H1 D2 (.lst ((picks isTold r.ps s.cords).map V.ref)) D2 = some (.lst ((picks isTold r.ps s.cords).map V.ref)) := upd_same
    have h1 := same_new (o := .lst ((picks isTold r.ps s.cords).map V.ref)) hD2 _ _ h1
    show tSeq _ _ _ _ (upd H1 D2 (.lst ((picks isTold r.ps s.cords).map V.ref)))
    generalize upd H1 D2 (.lst ((picks isTold r.ps s.cords).map V.ref)) = H2 at S2 h1 h2
    have B2 := B.same S2
    -- free
    refine ⟨_, rfl, r.b, CB, r.dx, _, _, rfl, B2.b, T.clB, T.npr, bF_pairs _, r.prs, rfl, ⟨_, SqL.of B2.prs⟩, ?_⟩
    refine lc_pick (f := Mu29.isFree) B2 (by show 4 < 5; decide) (fun k p c H' Q' sm hp hc q' => ?_) (fun D3 hD3 => ?_)
    · obtain ⟨dx, row, h1, h2⟩ := B2.pair k p c hp hc
      refine ⟨_, rfl, p, CP, dx, _, _, rfl, sm _ _ h1, T.clP, T.nst, pF_state _, _, _, rfl, rfl, _, rfl, ?_⟩
      show Q' (decide (row.st = 0)) H'
      rw [rel_free h2]
      exact q'
    have S3 : Same H (upd H2 D3 (.lst ((picks Mu29.isFree r.ps s.cords).map V.ref))) := S2.trans (same_new hD3)
    have h3 : upd H2 D3 (.lst ((picks Mu29.isFree r.ps s.cords).map V.ref)) D3 = some (.lst ((picks Mu29.isFree r.ps s.cords).map V.ref)) := upd_same
    have h1 := same_new (o := .lst ((picks Mu29.isFree r.ps s.cords).map V.ref)) hD3 _ _ h1
    have h2 := same_new (o := .lst ((picks Mu29.isFree r.ps s.cords).map V.ref)) hD3 _ _ h2
    generalize upd H2 D3 (.lst ((picks Mu29.isFree r.ps s.cords).map V.ref)) = H3 at S3 h1 h2 h3
    -- if pulled != []
    refine ⟨_, rfl, Nat.zero_le _, fun e1 he1 => ?_⟩
    have S4 := S3.trans (same_new (o := .lst []) he1)
    have h1 := same_new (o := .lst []) he1 _ _ h1
    have h2 := same_new (o := .lst []) he1 _ _ h2
    have h3 := same_new (o := .lst []) he1 _ _ h3
    have hz : upd H3 e1 (.lst []) e1 = some (.lst []) := upd_same
    generalize upd H3 e1 (.lst []) = H4 at S4 h1 h2 h3 hz
    refine ⟨D1, e1, _, rfl, rfl, SqL.of h1, SqL.of hz, _, rfl, ?_⟩
    rw [isEmpty_map]
    cases p1 : picks (Mu29.toPull s) r.ps s.cords with
    | cons p t =>
      obtain ⟨k, c, f1, f2, f3, f4⟩ := picks_cons _ _ _ _ _ B.len p1
      rw [p1] at h1
      obtain ⟨ew, _⟩ := work_pull wf hnt f1 f2
      refine iteT ⟨_, rfl, _, rfl, D1, _, 0, .ref p, rfl, rfl, SqL.of h1, atI_nat (j := 0) rfl, r, s, p, k, c, rfl, B.same S4, f4, f2, fun l hl => wf.inr k c l f2 hl, (fun z => by rw [z] at f3; cases f3), by omega, fun H' B' K' => ?_⟩
      refine q H' ?_ ((Keeps.of S4).trans K')
      rw [ew]
      exact B'
    | nil =>
      have g1 := picks_nil _ _ _ B.len p1
      refine iteF ?_
      refine ⟨_, rfl, Nat.zero_le _, fun e2 he2 => ?_⟩
      have S5 := S4.trans (same_new (o := .lst []) he2)
      have h2 := same_new (o := .lst []) he2 _ _ h2
      have h3 := same_new (o := .lst []) he2 _ _ h3
      have hz : upd H4 e2 (.lst []) e2 = some (.lst []) := upd_same
      generalize upd H4 e2 (.lst []) = H5 at S5 h2 h3 hz
      refine ⟨D2, e2, _, rfl, rfl, SqL.of h2, SqL.of hz, _, rfl, ?_⟩
      rw [isEmpty_map]
      cases p2 : picks isTold r.ps s.cords with
      | cons p t =>
        obtain ⟨k, c, f1, f2, f3, f4⟩ := picks_cons _ _ _ _ _ B.len p2
        rw [p2] at h2
        cases c with
        | told a b =>
          obtain ⟨ew, _⟩ := work_told wf g1 f1 f2
          refine iteT ⟨_, rfl, _, rfl, D2, _, 0, .ref p, rfl, rfl, SqL.of h2, atI_nat (j := 0) rfl, r, s, p, k, a, b, rfl, B.same S5, f4, f2, fun H' B' K' => ?_⟩
          refine q H' ?_ ((Keeps.of S5).trans K')
          rw [ew]
          exact B'
        | _ => cases f3
      | nil =>
        have g2 := picks_nil _ _ _ B.len p2
        refine iteF ?_
        refine ⟨_, rfl, Nat.zero_le _, fun e3 he3 => ?_⟩
        have S6 := S5.trans (same_new (o := .lst []) he3)
        have h3 := same_new (o := .lst []) he3 _ _ h3
        have hz : upd H5 e3 (.lst []) e3 = some (.lst []) := upd_same
        generalize upd H5 e3 (.lst []) = H6 at S6 h3 hz
        refine ⟨D3, e3, _, rfl, rfl, SqL.of h3, SqL.of hz, _, rfl, ?_⟩
        rw [isEmpty_map]
        cases p3 : picks Mu29.isFree r.ps s.cords with
        | nil =>
          have g3 := picks_nil _ _ _ B.len p3
          refine iteF (iteF (q H6 ?_ (Keeps.of S6)))
          rw [work_none wf g1 g2 (.inl g3)]
          exact B.same S6
        | cons p t =>
          obtain ⟨k, c, f1, f2, f3, f4⟩ := picks_cons _ _ _ _ _ B.len p3
          rw [p3] at h3
          have hfree := isFree_eq f3
          subst hfree
          refine iteT ?_
          have B6 := B.same S6
          refine ⟨_, rfl, r.b, r.dx, _, rfl, B6.b, bF_none _ (by decide +kernel), r, s, rfl, B6, fun D4 hD4 => ⟨Nat.zero_le _, fun e4 he4 => ?_⟩⟩
          have S7 := S6.trans ((same_new (o := .lst ((litLines s).map fun (l : Nat) => V.int (l : Int))) hD4).trans (same_new (o := .lst []) he4))
          have h4 : upd (upd H6 D4 (.lst ((litLines s).map fun (l : Nat) => V.int (l : Int)))) e4 (.lst []) D4 = some (.lst ((litLines s).map fun (l : Nat) => V.int (l : Int))) := (upd_ne (ne_of_none upd_same he4)).trans upd_same
          have h3 := same_new (o := .lst []) he4 _ _ (same_new (o := .lst ((litLines s).map fun (l : Nat) => V.int (l : Int))) hD4 _ _ h3)
          have hz : upd (upd H6 D4 (.lst ((litLines s).map fun (l : Nat) => V.int (l : Int)))) e4 (.lst []) e4 = some (.lst []) := upd_same
          generalize upd (upd H6 D4 (.lst ((litLines s).map fun (l : Nat) => V.int (l : Int)))) e4 (.lst []) = H7 at S7 h3 h4 hz
          refine ⟨D4, e4, _, rfl, rfl, SqL.of h4, SqL.of hz, _, rfl, ?_⟩
          cases hL : litLines s with
          | nil =>
            refine iteF (q H7 ?_ (Keeps.of S7))
            rw [work_none wf g1 g2 (.inr hL)]
            exact B.same S7
          | cons l0 L =>
            obtain ⟨ew, _⟩ := work_free wf g1 g2 f1 hL
            refine iteT ⟨_, rfl, _, rfl, D3, _, 0, .ref p, rfl, rfl, SqL.of h3, atI_nat (j := 0) rfl, r, s, p, k, l0, L, rfl, B.same S7, f4, f2, hL, fun H' B' K' => ?_⟩
            refine q H' ?_ ((Keeps.of S7).trans K')
            rw [ew]
            exact B'
theorem scOU : FnScope ["board"] ["board"] (defScope sOU) := ⟨rfl, rfl, rfl, by decide +kernel, rfl, by decide +kernel, by decide +kernel⟩
theorem ok_OU (F : GFun K mg "unit" sOU ["board"]) (T : Txt K mg CP CB CD) (GW : GOk P w K mg base CX0 "work" 7 ["board"] (spOW CB CP)) : GOk P w K mg base CX0 "unit" 8 ["board"] (spOU CB CP) := by
  refine F.ok scOU (fun vs H Q E h => ?_) (fun f cdv A outer s H vs Q E hr h => ?_)
  · obtain ⟨r, s, rfl, _⟩ := h
    rfl
  · obtain ⟨r, s, rfl, B, wf, hnow, q⟩ := h
    refine ⟨_, pss_cons (ps_fldaug (pv 0) pe_int in_add) (pss_one (ps_expr (pf GW hr rfl pass0 (pa_cons (pv 0) pa_nil)))), ?_⟩
    refine ⟨_, rfl, r.b, CB, r.dx, _, _, rfl, B.b, T.clB, T.nti, bF_time _, _, _, rfl, rfl, _, _, B.b, (by show 7 < 1000; decide), ?_⟩
    rw [bF_ptime]
    have B1 : BoardAt CB CP (upd H r.b (.ins CB r.dx (bF { brow r s with time := (s.now : Int) + 1 }))) r (later s) := B.setB (s.now + 1) s.busies s.misses
    have wl := wf_later wf
    have hn1 : (later s).now = s.now + 1 := rfl
    refine ⟨_, rfl, r, later s, rfl, B1, wl, Nat.lt_succ_of_le wf.nt, (by rw [hn1]; omega), fun H' B' K' => ?_⟩
    exact q H' B' ((Keeps.upd (foot_b r)).trans K')
end
end Cb

namespace Cb
open PySem PySem.Spec PyProof.Rows L2
abbrev sRI : Stmt := inClass (top 33) 0
abbrev sMU : Stmt := top 34
/-! ## the refusal -/
structure RefTxt (K : PySem.W.Frag) (mg : Str → Option Value) (CR : Addr) : Prop where
  oex : OexC K CR
  xf : XfC K CR
  nN : PySem.W.findIn K (.ref CR) "number" = some none
  gR : mg "Refused" = some (.ref CR)
  te : PySem.W.exmOne K (.ref CR) (.ref CR) = some true
  init : ∃ f fd, PySem.W.findIn K (.ref CR) "__init__" = some (some (.ref f)) ∧ PySem.W.typeIn K (.ref f) = some (.type "function") ∧ Fun K "__init__" "Refused.__init__" sRI f fd ∧ Binds K fd ["self", "number"] []
def xN (n : Int) : HO := .xd [("number", .int n)]
def spRI (CR : Addr) : Sp := fun vs H Q _ => ∃ (a : Addr) (n : Int), vs = [.ref a, .int n] ∧ H a = some (exo a CR none) ∧ ∀ dx, H dx = none → dx ≠ a → Q .non (upd (upd H dx (exd dx [("number", .int n)])) a (exo a CR (some dx)))
def spMU (CR : Addr) : Sp := fun vs H Q E => ∃ (so : Bool) (n : Int), vs = [.bl so, .int n] ∧ (so = true → Q .non H) ∧ (so = false → ∀ d, H d = none → E (.ref CR) (some d) (upd H d (xN n)))
section
variable {P : Program} {w : World} {K : PySem.W.Frag} {mg : Str → Option Value} {base : Heap} {CP CB CD CR : Addr}
theorem scRI : FnScope ["self", "number"] ["self", "number"] (defScope sRI) := ⟨rfl, rfl, rfl, by decide +kernel, rfl, by decide +kernel, by decide +kernel⟩
theorem ok_RI {f : Addr} {fd : FuncData} (F : Fun K "__init__" "Refused.__init__" sRI f fd) (R : RefTxt K mg CR) : FnOk P w K mg base CX0 1 f fd ["self", "number"] (spRI CR) := by
  refine F.ok scRI (fun vs H Q E h => ?_) (fun cdv A outer s H vs Q E hr h => ?_)
  · obtain ⟨a, n, rfl, _⟩ := h
    rfl
  · obtain ⟨a, n, rfl, ha, q⟩ := h
    refine ⟨_, pss_one (ps_ost (pv 0) (pv 1)), ?_⟩
    exact ⟨_, rfl, _, rfl, a, CR, rfl, R.oex, R.nN, .inl ⟨ha, fun dx hd ne => q dx hd ne⟩⟩
theorem scMU : FnScope ["so", "number"] ["so", "number"] (defScope sMU) := ⟨rfl, rfl, rfl, by decide +kernel, rfl, by decide +kernel, by decide +kernel⟩
theorem ok_MU (F : GFun K mg "must" sMU ["so", "number"]) (R : RefTxt K mg CR) : GOk P w K mg base (L2.CX P w) "must" 3 ["so", "number"] (spMU CR) := by
  obtain ⟨f1, fd1, iC, tI, F1, b1⟩ := R.init
  have G1 : FnOk P w K mg base CX0 1 f1 fd1 ["self", "number"] (spRI CR) := ok_RI F1 R
  refine F.okX scMU (fun vs H Q E h => ?_) (fun f cdv A outer s H vs Q E hr h => ?_)
  · obtain ⟨so, n, rfl, _⟩ := h
    rfl
  · obtain ⟨so, n, rfl, qT, qF⟩ := h
    refine ⟨_, pss_one (ps_if (pt_not (pt_val (pv 0))) (pss_one (ps_raise rfl (takes_of rfl rfl rfl rfl) (pmk_oex R.oex iC tI G1 hr b1 .nil pass0 rfl R.gR (by exact pa_cons (pv 1) pa_nil)))) pss_nil), ?_⟩
    refine ⟨_, rfl, _, rfl, ?_⟩
    cases so with
    | true => exact iteF (qT rfl)
    | false =>
      refine iteT ?_
      refine ⟨_, rfl, (by show 1 ≤ 1000; decide), fun a ha => ⟨a, n, rfl, upd_same, fun dx hdx ne => ⟨rfl, dx, _, upd_same, (upd_ne ne).trans upd_same, (upd_ne ne).symm.trans hdx, ?_⟩⟩⟩
      have hd0 : H dx = none := (upd_ne ne).symm.trans hdx
      have e : upd (del (upd (upd (upd H a (exo a CR none)) dx (exd dx [("number", .int n)])) a (exo a CR (some dx))) a) dx (.xd [("number", .int n)]) = upd H dx (xN n) := by
        funext b
        by_cases hb : b = dx
        · rw [hb, upd_same, upd_same]
          rfl
        · rw [upd_ne hb, upd_ne hb]
          by_cases ha' : b = a
          · rw [ha', del_same, ha]
          · rw [del_ne ha', upd_ne ha', upd_ne hb, upd_ne ha']
      show E (.ref CR) (some dx) _
      rw [e]
      exact qF rfl dx hd0
/-! ## how long a line waits -/
theorem scWU : FnScope ["board", "line", "other", "units"] ["board", "line"] (defScope sWU) := ⟨rfl, rfl, rfl, by decide +kernel, rfl, by decide +kernel, by decide +kernel⟩
theorem ok_WU (F : GFun K mg "units_till" sWU ["board", "line"]) (T : Txt K mg CP CB CD) (GC : MOk P w K mg base CX0 CB "copied" 5 ["self"] (spBC CB CP)) (GU : GOk P w K mg base CX0 "unit" 8 ["board"] (spOU CB CP)) (GQ : MOk P w K mg base CX0 CB "is_plugged" 4 ["self", "line"] (spBQ CB CP)) :
    GOk P w K mg base CX0 "units_till" 9 ["board", "line"] (spWU CB CP) := by
  refine F.ok scWU (fun vs H Q E h => ?_) (fun f cdv A outer s H vs Q E hr h => ?_)
  · obtain ⟨r, s, l, rfl, _⟩ := h
    rfl
  · obtain ⟨r, s, l, rfl, B, wf, hnow, hpl, q⟩ := h
    have hr5 : Room 5 _ := hr.mono (by decide)
    have hr4 : Room 4 _ := hr.mono (by decide)
    refine ⟨_, pss_cons (ps_set (i := 2) scWU.nd rfl (Or.inl rfl) (pm0 (pv 0) T.clB GC hr5 pass0))
      (pss_cons (ps_for PassesOwn.never rfl (pi_range2 (by rfl) T.range (pa_cons pe_int (pa_cons (pe_op op_add (pgl T.gMU) pe_int) pa_nil))) (pg_name (i := 3) scWU.nd rfl (Or.inl rfl))
        (pss_cons (ps_expr (pf GU hr rfl pass0 (pa_cons (pv 2) pa_nil)))
        (pss_one (ps_if (pt_val (pm (pv 2) T.clB GQ hr4 pass0 (pa_cons (pv 1) pa_nil))) (pss_one (ps_ret (pv 3))) pss_nil))))
      (pss_one (ps_ret (pgl T.gNEVER)))), ?_⟩
    refine ⟨_, rfl, r.b, r.dx, _, rfl, B.b, bF_none _ (by decide +kernel), r, s, rfl, B, fun H1 r' B1 S1 hf => ?_⟩
    have back : ∀ H2, Keeps (foot r') H1 H2 → Same H H2 := fun H2 k a o h => k a o (S1 a o h) fun z => by
      rw [hf a z] at h
      cases h
    refine ⟨_, _, rfl, rfl, _, _, rfl, (by decide), for_range (lo := 1) (n := ((100 : Int) + 1 - 1).toNat) (fun i σ' H' => (∃ v, σ' = [some (.ref r.b), some (.int (l : Int)), some (.ref r'.b), v]) ∧ BoardAt CB CP H' r' (Mu29.ticks i (copyS s)) ∧ Keeps (foot r') H1 H' ∧ ∀ j, j ≤ i → Mu29.plugged (Mu29.ticks j s) l = false)
      ⟨⟨none, rfl⟩, B1, Keeps.refl _ _, fun j hj => by rw [Nat.le_zero.mp hj]; exact hpl⟩ ?_ ?_⟩
    · rintro i σ' H' hi ⟨⟨v, rfl⟩, B2, K2, hp⟩
      have hi : i < 100 := hi
      have wt := ticks_wf (copy_wf wf) i
      have nt := ticks_now (copyS s) i
      have nc : (copyS s).now = s.now := rfl
      refine ⟨_, rfl, r', _, rfl, B2, wt, (by rw [nt, nc]; omega), fun H3 B3 K3 => ?_⟩
      rw [← ticks_succ] at B3
      refine ⟨_, rfl, r'.b, r'.dx, _, rfl, B3.b, bF_none _ (by decide +kernel), _, rfl, r', _, l, rfl, B3, fun H4 S4 => ⟨_, rfl, ?_⟩⟩
      have ea : Mu29.plugged (Mu29.ticks (i + 1) (copyS s)) l = Mu29.plugged (Mu29.ticks (i + 1) s) l := alike_plugged (alike_ticks (copy_alike s) (i + 1)) l
      rw [ea]
      cases hpp : Mu29.plugged (Mu29.ticks (i + 1) s) l with
      | true =>
        refine iteT ⟨_, rfl, ?_⟩
        have := q H4 ((back H3 (K2.trans K3)).trans S4)
        rw [answered_some (i := i + 1) (by omega) (fun j hj => hp j (by omega)) hpp] at this
        have e : (1 : Int) + (i : Int) = ((i + 1 : Nat) : Int) := by omega
        show Q (.int ((1 : Int) + (i : Int))) H4
        rw [e]
        exact this
      | false =>
        refine iteF ⟨⟨_, rfl⟩, B3.same S4, (K2.trans K3).trans (Keeps.of S4), fun j hj => ?_⟩
        by_cases e : j = i + 1
        · rw [e]; exact hpp
        · exact hp j (by omega)
    · rintro σ' H' ⟨⟨v, rfl⟩, B2, K2, hp⟩
      have := q H' (back H' K2)
      rw [answered_none (fun j hj => hp j (by show j ≤ 100; omega))] at this
      exact this
end
end Cb

namespace Cb
open PySem PySem.Spec PyProof.Rows L2
abbrev sDI : Stmt := inClass (top 35) 0
abbrev sDB : Stmt := inClass (top 35) 1
abbrev sDN : Stmt := inClass (top 35) 2
abbrev sDU : Stmt := inClass (top 35) 3
abbrev sDH : Stmt := inClass (top 35) 4
abbrev sDA : Stmt := inClass (top 35) 5
abbrev sDG : Stmt := inClass (top 35) 6
abbrev sDL : Stmt := inClass (top 35) 7
abbrev sDC : Stmt := inClass (top 35) 8
abbrev sDM : Stmt := inClass (top 35) 9
abbrev sDT : Stmt := inClass (top 35) 10
abbrev sDW : Stmt := inClass (top 35) 11
abbrev sDS : Stmt := inClass (top 35) 12
abbrev sDO : Stmt := inClass (top 35) 13
abbrev sDD : Stmt := inClass (top 35) 14
abbrev sDX : Stmt := inClass (top 35) 15
/-! ## the desk in the heap, over what stood before -/
def dF (bl : Addr) : List (Str × V) := [("boards", .ref bl)]
theorem dF_boards (bl : Addr) : (dF bl).lookup ("boards" : Str) = some (.ref bl) := lk_here
theorem dF_none (bl : Addr) {m : Str} (h : ((["boards"] : List Str).all fun g => !(m == g)) = true) : (dF bl).lookup m = none := lk_none h
theorem dF_put (bl b' : Addr) : putF "boards" (.ref b') (dF bl) = dF b' := put_here
structure DeskS (CD CB CP : Addr) (H0 H : Hp) (d dx bl : Addr) (r : BR) (s : Mu29.State) : Prop where
  same : Same H0 H
  nd : H0 d = none
  nbl : H0 bl = none
  nf : ∀ a ∈ foot r, H0 a = none
  desk : H d = some (.ins CD dx (dF bl))
  lst : H bl = some (.lst [.ref r.b])
  board : BoardAt CB CP H r s
  fd : d ∉ foot r
  fbl : bl ∉ foot r
  wf : WF s
  now : s.now ≤ 1000000
structure DeskN (CD : Addr) (H0 H : Hp) (d dx bl : Addr) : Prop where
  same : Same H0 H
  nd : H0 d = none
  nbl : H0 bl = none
  desk : H d = some (.ins CD dx (dF bl))
  lst : H bl = some (.lst [])
def DeskAt (CD CB CP : Addr) (H0 H : Hp) (d : Addr) : Option Mu29.State → Prop
  | none => ∃ dx bl, DeskN CD H0 H d dx bl
  | some s => ∃ dx bl r, DeskS CD CB CP H0 H d dx bl r s
section
variable {CD CB CP : Addr} {H0 H H' : Hp} {d dx bl : Addr} {r : BR} {s s' : Mu29.State}
theorem DeskS.grow (D : DeskS CD CB CP H0 H d dx bl r s) (S : Same H H') : DeskS CD CB CP H0 H' d dx bl r s :=
  ⟨D.same.trans S, D.nd, D.nbl, D.nf, S _ _ D.desk, S _ _ D.lst, D.board.same S, D.fd, D.fbl, D.wf, D.now⟩
theorem DeskS.moved (D : DeskS CD CB CP H0 H d dx bl r s) (B : BoardAt CB CP H' r s') (k : Keeps (foot r) H H') (w : WF s') (n : s'.now ≤ 1000000) : DeskS CD CB CP H0 H' d dx bl r s' :=
  ⟨fun a o h => k a o (D.same a o h) (fun z => by rw [D.nf a z] at h; cases h), D.nd, D.nbl, D.nf, k _ _ D.desk D.fd, k _ _ D.lst D.fbl, B, D.fd, D.fbl, w, n⟩
theorem DeskN.grow (D : DeskN CD H0 H d dx bl) (S : Same H H') : DeskN CD H0 H' d dx bl :=
  ⟨D.same.trans S, D.nd, D.nbl, S _ _ D.desk, S _ _ D.lst⟩
theorem DeskAt.grow {o : Option Mu29.State} (D : DeskAt CD CB CP H0 H d o) (S : Same H H') : DeskAt CD CB CP H0 H' d o := by
  cases o with
  | none =>
    obtain ⟨dx, bl, D⟩ := D
    exact ⟨dx, bl, D.grow S⟩
  | some s =>
    obtain ⟨dx, bl, r, D⟩ := D
    exact ⟨dx, bl, r, D.grow S⟩
end
/-- an answer, or a refusal -/
def Ans (CD CB CP CR : Addr) (H0 : Hp) (d : Addr) (o : Option Mu29.State) (c : Mu29.Call) (Q : VK) (E : XK) : Prop :=
  (∀ o' ans H' p, Mu29.step o c = (o', ans) → DeskAt CD CB CP H0 H' d o' → H' p = some (.lst (ans.map V.int)) → H0 p = none → Q (.ref p) H') ∧
  (∀ n dd H', Mu29.step o c = (o, [n]) → DeskAt CD CB CP H0 H' d o → H' dd = some (xN n) → E (.ref CR) (some dd) H')
def spDI (CD : Addr) : Sp := fun vs H Q _ => ∃ (d dx : Addr), vs = [.ref d] ∧ H d = some (.ins CD dx []) ∧ ∀ l, H l = none → Q .non (upd (upd H l (.lst [])) d (.ins CD dx (dF l)))
def spDB (CD : Addr) : Sp := fun vs H Q _ => ∃ (d dx bl b : Addr), vs = [.ref d] ∧ H d = some (.ins CD dx (dF bl)) ∧ H bl = some (.lst [.ref b]) ∧ Q (.ref b) H
def spDN (CD CB CP CR : Addr) : Sp := fun vs H Q E => ∃ (H0 : Hp) (d : Addr) (o : Option Mu29.State) (n k : Nat), vs = [.ref d, .int (n : Int), .int (k : Int)] ∧ DeskAt CD CB CP H0 H d o ∧ Ans CD CB CP CR H0 d o (.begin_ n k) Q E
/-- a method of one line's -/
def spD1 (CD CB CP CR : Addr) (c : Nat → Mu29.Call) : Sp := fun vs H Q E => ∃ (H0 : Hp) (d : Addr) (s : Mu29.State) (l : Nat), vs = [.ref d, .int (l : Int)] ∧ DeskAt CD CB CP H0 H d (some s) ∧ l < s.lines.length ∧ Ans CD CB CP CR H0 d (some s) (c l) Q E
def spDA (CD CB CP CR : Addr) : Sp := fun vs H Q E => ∃ (H0 : Hp) (d : Addr) (s : Mu29.State) (l b : Nat), vs = [.ref d, .int (l : Int), .int (b : Int)] ∧ DeskAt CD CB CP H0 H d (some s) ∧ l < s.lines.length ∧ Ans CD CB CP CR H0 d (some s) (.ask l b) Q E
def spDG (CD CB CP CR : Addr) : Sp := fun vs H Q E => ∃ (H0 : Hp) (d : Addr) (s : Mu29.State) (n : Nat), vs = [.ref d, .int (n : Int)] ∧ DeskAt CD CB CP H0 H d (some s) ∧ Ans CD CB CP CR H0 d (some s) (.go n) Q E
def spD0 (CD CB CP CR : Addr) (c : Mu29.Call) : Sp := fun vs H Q E => ∃ (H0 : Hp) (d : Addr) (s : Mu29.State), vs = [.ref d] ∧ DeskAt CD CB CP H0 H d (some s) ∧ Ans CD CB CP CR H0 d (some s) c Q E
section
variable {P : Program} {w : World} {K : PySem.W.Frag} {mg : Str → Option Value} {base : Heap} {CP CB CD CR : Addr}
theorem scDI : FnScope ["self"] ["self"] (defScope sDI) := ⟨rfl, rfl, rfl, by decide +kernel, rfl, by decide +kernel, by decide +kernel⟩
theorem ok_DI (F : KFun K mg CD "Desk" "Desk.__init__" sDI ["self"]) (T : Txt K mg CP CB CD) : KOk P w K mg base CX0 CD "Desk" 1 ["self"] (spDI CD) := by
  refine F.ok scDI (fun vs H Q E h => ?_) (fun f cdv A outer s H vs Q E hr h => ?_)
  · obtain ⟨d, dx, rfl, _⟩ := h
    rfl
  · obtain ⟨d, dx, rfl, hd, q⟩ := h
    refine ⟨_, pss_one (ps_fld (pv 0) (pe_lst pa_nil) rfl), ?_⟩
    exact ⟨Nat.zero_le _, fun l hl => ⟨_, rfl, d, CD, dx, [], rfl, (upd_ne (ne_of_none hd hl)).trans hd, T.clD, T.nbo, (by show 0 < 1000; decide), q l hl⟩⟩
theorem scDB : FnScope ["self"] ["self"] (defScope sDB) := ⟨rfl, rfl, rfl, by decide +kernel, rfl, by decide +kernel, by decide +kernel⟩
theorem ok_DB (F : MFun K CD "board" "Desk.board" sDB ["self"]) (T : Txt K mg CP CB CD) : MOk P w K mg base CX0 CD "board" 1 ["self"] (spDB CD) := by
  refine F.ok scDB (fun vs H Q E h => ?_) (fun f cdv A outer s H vs Q E hr h => ?_)
  · obtain ⟨d, dx, bl, b, rfl, _⟩ := h
    rfl
  · obtain ⟨d, dx, bl, b, rfl, hd, hl, q⟩ := h
    refine ⟨_, pss_one (ps_ret (pe_ix ix_list (pe_fld (pv 0) rfl) pe_int (fun _ _ => rfl))), ?_⟩
    exact ⟨_, rfl, d, CD, dx, _, _, rfl, hd, T.clD, T.nbo, dF_boards _, bl, _, 0, .ref b, rfl, rfl, SqL.of hl, atI_nat (j := 0) rfl, q⟩
theorem scDN : FnScope ["self", "lines", "pairs"] ["self", "lines", "pairs"] (defScope sDN) := ⟨rfl, rfl, rfl, by decide +kernel, rfl, by decide +kernel, by decide +kernel⟩
theorem ok_DN (F : MFun K CD "begin" "Desk.begin" sDN ["self", "lines", "pairs"]) (T : Txt K mg CP CB CD) (GM : GOk P w K mg base (L2.CX P w) "must" 3 ["so", "number"] (spMU CR)) (GI : KOk P w K mg base CX0 CB "Board" 3 ["self", "lines", "pairs"] (spBI CB CP)) : MOk P w K mg base (L2.CX P w) CD "begin" 5 ["self", "lines", "pairs"] (spDN CD CB CP CR) := by
  refine F.okX scDN (fun vs H Q E h => ?_) (fun f cdv A outer s H vs Q E hr h => ?_)
  · obtain ⟨H0, d, o, n, k, rfl, _⟩ := h
    rfl
  · obtain ⟨H0, d, o, n, k, rfl, D, aQ, aE⟩ := h
    have hr3 : Room 3 _ := hr.mono (by decide)
    refine ⟨_, pss_cons (ps_expr (pf GM hr3 rfl (passes_call (takes_of rfl rfl rfl rfl) (fun _ _ _ _ h => h)) (by exact pa_cons (pe_and (pe_cmp (pc_ge (pv 1) (pgl T.gLL))) (pe_and (pe_cmp (pc_le (pv 1) (pgl T.gML))) (pe_and (pe_cmp (pc_ge (pv 2) pe_int)) (pe_one (pe_cmp (pc_le (pv 2) (pgl T.gMP))))))) (pa_cons (pe_un un_neg pe_int) pa_nil))))
      (pss_cons (ps_fld (pv 0) (pe_lst (pa_cons (pk GI hr rfl pass0 (pa_cons (pv 1) (pa_cons (pv 2) pa_nil))) pa_nil)) rfl)
      (pss_one (ps_ret (pe_lst (pa_cons pe_int pa_nil))))), ?_⟩
    have no : ¬ (2 ≤ n ∧ n ≤ 20 ∧ 1 ≤ k ∧ k ≤ 6) → ∀ dd, H dd = none → E (.ref CR) (some dd) (upd H dd (xN (-1))) := fun h dd hdd => aE (-1) dd _ (step_begin_no h) (D.grow (same_new hdd)) upd_same
    refine ⟨_, rfl, _, _, rfl, rfl, _, rfl, ?_⟩
    by_cases c1 : ¬ ((2 : Int) ≤ (n : Int))
    · exact ifF (decide_eq_false c1) ⟨_, rfl, false, -1, rfl, (fun z => by cases z), fun _ => no (by omega)⟩
    have c1 := Decidable.not_not.mp c1
    refine ifT (decide_eq_true c1) ⟨_, rfl, _, _, rfl, rfl, _, rfl, ?_⟩
    by_cases c2 : ¬ ((n : Int) ≤ 20)
    · exact ifF (decide_eq_false c2) ⟨_, rfl, false, -1, rfl, (fun z => by cases z), fun _ => no (by omega)⟩
    have c2 := Decidable.not_not.mp c2
    refine ifT (decide_eq_true c2) ⟨_, rfl, _, _, rfl, rfl, _, rfl, ?_⟩
    by_cases c3 : ¬ ((1 : Int) ≤ (k : Int))
    · exact ifF (decide_eq_false c3) ⟨_, rfl, false, -1, rfl, (fun z => by cases z), fun _ => no (by omega)⟩
    have c3 := Decidable.not_not.mp c3
    refine ifT (decide_eq_true c3) ⟨_, rfl, _, _, rfl, rfl, _, rfl, ?_⟩
    refine ⟨decide ((k : Int) ≤ 6), -1, rfl, fun c4 => ?_, fun c4 => no (fun z => by
      have := of_decide_eq_false c4
      omega)⟩
    have c4 := of_decide_eq_true c4
    have ok : 2 ≤ n ∧ n ≤ 20 ∧ 1 ≤ k ∧ k ≤ 6 := by omega
    refine ⟨_, rfl, _, rfl, fun x dx hx hdx hne => ⟨x, dx, n, k, rfl, upd_same, ok.2.1, ok.2.2.2, fun H1 r e B kB hf => ⟨rfl, ?_⟩⟩⟩
    subst e
    have S1 : Same H H1 := Same.made hx hdx kB
    have f0 : ∀ a ∈ foot r, H a = none := fun a ha => by
      rcases hf a ha with z | z
      · rw [z]; exact hx
      · cases y : H a with
        | none => rfl
        | some o =>
          rw [upd_ne (ne_of_none y hx), upd_ne (ne_of_none y hdx), y] at z
          cases z
    -- the desk's own place, whatever it held
    have place : ∃ dd0 bl0, Same H0 H ∧ H0 d = none ∧ H d = some (.ins CD dd0 (dF bl0)) := by
      cases o with
      | none =>
        obtain ⟨a, b, D⟩ := D
        exact ⟨a, b, D.same, D.nd, D.desk⟩
      | some s =>
        obtain ⟨a, b, r, D⟩ := D
        exact ⟨a, b, D.same, D.nd, D.desk⟩
    obtain ⟨dd0, bl0, sm, ndd, hd⟩ := place
    refine ⟨(by show 1 ≤ sizeLine; decide), fun g hg => ?_⟩
    have hd1 := S1 _ _ hd
    have ndg : d ≠ g := ne_of_none hd1 hg
    refine ⟨_, rfl, d, CD, dd0, _, rfl, (upd_ne ndg).trans hd1, T.clD, T.nbo, (by show 1 < 1000; decide), ?_⟩
    rw [dF_put]
    have fdd : d ∉ foot r := fun z => by rw [f0 d z] at hd; cases hd
    have fgg : g ∉ foot r := B.fresh hg
    have DS : DeskS CD CB CP H0 (upd (upd H1 g (.lst [.ref r.b])) d (.ins CD dd0 (dF g))) d dd0 g r (Mu29.begun n k) := by
      refine ⟨fun a o h => ?_, ndd, sm.free (S1.free hg), fun a ha => sm.free (f0 a ha), upd_same, (upd_ne (Ne.symm ndg)).trans upd_same, ?_, fdd, fgg, begun_wf ok.2.1 ok.2.2.2, Nat.zero_le _⟩
      · exact (upd_ne (ne_of_none h ndd)).trans (same_new hg _ _ (S1 _ _ (sm a o h)))
      · have B2 := B.same (same_new (o := .lst [.ref r.b]) hg)
        refine ⟨(upd_ne fun z => fdd (by rw [← z]; exact foot_b r)).trans B2.b, (upd_ne fun z => fdd (by rw [← z]; exact foot_off r)).trans B2.off, (upd_ne fun z => fdd (by rw [← z]; exact foot_lit r)).trans B2.lit, (upd_ne fun z => fdd (by rw [← z]; simp [foot])).trans B2.prs, B2.len, fun i p c hp hc => ?_, B2.nd, ?_, B2.d1, B2.d2, B2.d3, B2.d4, B2.d5, B2.d6, B2.nl, B2.nc⟩
        · obtain ⟨dx', row, h1, h2⟩ := B2.pair i p c hp hc
          exact ⟨dx', row, (upd_ne fun z => fdd (by rw [← z]; exact foot_p hp)).trans h1, h2⟩
        · obtain ⟨ts, h1, h2, h3⟩ := B2.nt
          have : ts = [] := List.length_eq_zero_iff.mp h2
          subst this
          exact ⟨[], (upd_ne fun z => fdd (by rw [← z]; exact foot_nt r)).trans h1, h2, fun i t k z => by cases z⟩
    generalize upd (upd H1 g (.lst [.ref r.b])) d (.ins CD dd0 (dF g)) = H2 at DS
    exact ⟨(by show 1 ≤ sizeLine; decide), fun e he => aQ (some (Mu29.begun n k)) [0] _ e (step_begin ok) ⟨dd0, g, r, DS.grow (same_new he)⟩ upd_same (DS.same.free he)⟩
theorem scDU : FnScope ["self", "line"] ["self", "line"] (defScope sDU) := ⟨rfl, rfl, rfl, by decide +kernel, rfl, by decide +kernel, by decide +kernel⟩
theorem ok_DU (F : MFun K CD "lift" "Desk.lift" sDU ["self", "line"]) (T : Txt K mg CP CB CD) (GM : GOk P w K mg base (L2.CX P w) "must" 3 ["so", "number"] (spMU CR)) (GB : MOk P w K mg base CX0 CD "board" 1 ["self"] (spDB CD))
    (GU : MOk P w K mg base CX0 CB "lift" 6 ["self", "line"] (spBU CB CP)) (GE : MOk P w K mg base CX0 CB "heard" 4 ["self", "line"] (spBE CB CP)) : MOk P w K mg base (L2.CX P w) CD "lift" 7 ["self", "line"] (spD1 CD CB CP CR .lift) := by
  refine F.okX scDU (fun vs H Q E h => ?_) (fun f cdv A outer s H vs Q E hr h => ?_)
  · obtain ⟨H0, d, s, l, rfl, _⟩ := h
    rfl
  · obtain ⟨H0, d, s, l, rfl, ⟨dx, bl, r, D⟩, hl, aQ, aE⟩ := h
    have hr1 : Room 1 _ := hr.mono (by decide)
    have hr3 : Room 3 _ := hr.mono (by decide)
    have hr4 : Room 4 _ := hr.mono (by decide)
    have nb : (dF bl).lookup ("board" : Str) = none := dF_none _ (by decide +kernel)
    refine ⟨_, pss_cons (ps_expr (pf GM hr3 rfl (passes_call (takes_of rfl rfl rfl rfl) (fun _ _ _ _ h => h)) (by exact pa_cons (pe_not (pe_ix ix_list (pe_fld (pm0 (pv 0) T.clD GB hr1 pass0) rfl) (pv 1) (fun _ _ => rfl))) (pa_cons (pe_un un_neg pe_int) pa_nil))))
      (pss_cons (ps_expr (pm (pm0 (pv 0) T.clD GB hr1 pass0) T.clB GU hr pass0 (pa_cons (pv 1) pa_nil)))
      (pss_one (ps_ret (pm (pm0 (pv 0) T.clD GB hr1 pass0) T.clB GE hr4 pass0 (pa_cons (pv 1) pa_nil))))), ?_⟩
    have B := D.board
    refine ⟨_, rfl, d, dx, _, rfl, D.desk, nb, d, dx, bl, r.b, rfl, D.desk, D.lst, r.b, CB, r.dx, _, _, rfl, B.b, T.clB, T.nof, bF_off _, _, rfl, r.off, _, _, _, rfl, rfl, SqL.of B.off, atI_nat (off_get hl), _, rfl, _, rfl, !(Mu29.isOff s l), -4, rfl, fun c => ?_, fun c dd hdd => ?_⟩
    · have ho : Mu29.isOff s l = false := by
        cases z : Mu29.isOff s l with
        | false => rfl
        | true => rw [z] at c; cases c
      obtain ⟨e1, w1⟩ := lift_ok D.wf ho
      refine ⟨_, rfl, d, dx, _, rfl, D.desk, nb, d, dx, bl, r.b, rfl, D.desk, D.lst, r.b, r.dx, _, rfl, B.b, bF_none _ (by decide +kernel), _, rfl, r, s, l, rfl, B, D.wf, hl, fun H1 B1 K1 => ?_⟩
      rw [← e1] at B1
      have D1 := D.moved B1 K1 w1 D.now
      have hl1 : l < (Mu29.lift s l).lines.length := by
        have := lamps_len (Mu29.setLine { s with cords := s.cords.map (liftC l s.now) } l ⟨true, none⟩)
        show l < (Mu29.lamps (Mu29.setLine { s with cords := s.cords.map (liftC l s.now) } l ⟨true, none⟩)).lines.length
        rw [this]
        show l < (s.lines.set l _).length
        rw [List.length_set]
        exact hl
      refine ⟨_, rfl, d, dx, _, rfl, D1.desk, nb, d, dx, bl, r.b, rfl, D1.desk, D1.lst, r.b, r.dx, _, rfl, B1.b, bF_none _ (by decide +kernel), _, rfl, r, _, l, rfl, B1, w1, hl1, fun H2 p S2 hp fp => ?_⟩
      exact aQ _ _ H2 p (step_lift hl ho) ⟨dx, bl, r, D1.grow S2⟩ hp (D1.same.free fp)
    · have ho : Mu29.isOff s l = true := by
        cases z : Mu29.isOff s l with
        | true => rfl
        | false => rw [z] at c; cases c
      exact aE (-4) dd _ (step_lift_off hl ho) ⟨dx, bl, r, D.grow (same_new hdd)⟩ upd_same
theorem scDH : FnScope ["self", "line"] ["self", "line"] (defScope sDH) := ⟨rfl, rfl, rfl, by decide +kernel, rfl, by decide +kernel, by decide +kernel⟩
theorem ok_DH (F : MFun K CD "hang" "Desk.hang" sDH ["self", "line"]) (T : Txt K mg CP CB CD) (GM : GOk P w K mg base (L2.CX P w) "must" 3 ["so", "number"] (spMU CR)) (GB : MOk P w K mg base CX0 CD "board" 1 ["self"] (spDB CD))
    (GH : MOk P w K mg base CX0 CB "hang" 6 ["self", "line"] (spBH CB CP)) : MOk P w K mg base (L2.CX P w) CD "hang" 7 ["self", "line"] (spD1 CD CB CP CR .hang) := by
  refine F.okX scDH (fun vs H Q E h => ?_) (fun f cdv A outer s H vs Q E hr h => ?_)
  · obtain ⟨H0, d, s, l, rfl, _⟩ := h
    rfl
  · obtain ⟨H0, d, s, l, rfl, ⟨dx, bl, r, D⟩, hl, aQ, aE⟩ := h
    have hr1 : Room 1 _ := hr.mono (by decide)
    have hr3 : Room 3 _ := hr.mono (by decide)
    have nb : (dF bl).lookup ("board" : Str) = none := dF_none _ (by decide +kernel)
    refine ⟨_, pss_cons (ps_expr (pf GM hr3 rfl (passes_call (takes_of rfl rfl rfl rfl) (fun _ _ _ _ h => h)) (by exact pa_cons (pe_ix ix_list (pe_fld (pm0 (pv 0) T.clD GB hr1 pass0) rfl) (pv 1) (fun _ _ => rfl)) (pa_cons (pe_un un_neg pe_int) pa_nil))))
      (pss_cons (ps_expr (pm (pm0 (pv 0) T.clD GB hr1 pass0) T.clB GH hr pass0 (pa_cons (pv 1) pa_nil)))
      (pss_one (ps_ret (pe_lst (pa_cons pe_int pa_nil))))), ?_⟩
    have B := D.board
    refine ⟨_, rfl, d, dx, _, rfl, D.desk, nb, d, dx, bl, r.b, rfl, D.desk, D.lst, r.b, CB, r.dx, _, _, rfl, B.b, T.clB, T.nof, bF_off _, _, rfl, r.off, _, _, _, rfl, rfl, SqL.of B.off, atI_nat (off_get hl), _, rfl, Mu29.isOff s l, -4, rfl, fun ho => ?_, fun ho dd hdd => ?_⟩
    · obtain ⟨e1, w1⟩ := hang_ok D.wf l
      refine ⟨_, rfl, d, dx, _, rfl, D.desk, nb, d, dx, bl, r.b, rfl, D.desk, D.lst, r.b, r.dx, _, rfl, B.b, bF_none _ (by decide +kernel), _, rfl, r, s, l, rfl, B, hl, fun H1 B1 K1 => ?_⟩
      rw [← e1] at B1
      have D1 := D.moved B1 K1 w1 D.now
      exact ⟨(by show 1 ≤ sizeLine; decide), fun e he => aQ _ [0] _ e (step_hang hl ho) ⟨dx, bl, r, D1.grow (same_new he)⟩ upd_same (D1.same.free he)⟩
    · exact aE (-4) dd _ (step_hang_on hl ho) ⟨dx, bl, r, D.grow (same_new hdd)⟩ upd_same
end
end Cb

namespace Cb
open PySem PySem.Spec PyProof.Rows L2
theorem rel_asks {c : Mu29.Stand} {r : PRow} (h : Rel c r) (l : Nat) : (decide (r.st = 1) && decide (r.ca = (l : Int))) = asksAt l c := by
  cases c with
  | asks a =>
    obtain ⟨h1, h2⟩ := h
    have e : asksAt l (.asks a) = (a == l) := rfl
    rw [e, h1, h2]
    rw [Bool.eq_iff_iff]
    simp
    omega
  | free => simp [show r.st = 0 from h]; rfl
  | told a b => simp [h.1]; rfl
  | rings a b t => simp [h.1]; rfl
  | talks a b t => simp [h.1]; rfl
  | busy a => simp [h.1]; rfl
theorem map_app {xs ys : List Int} : (xs ++ ys).map V.int = xs.map V.int ++ ys.map V.int := List.map_append
section
variable {P : Program} {w : World} {K : PySem.W.Frag} {mg : Str → Option Value} {base : Heap} {CP CB CD CR : Addr}
theorem scDA : FnScope ["self", "line", "number", "pair", "asking"] ["self", "line", "number"] (defScope sDA) := ⟨rfl, rfl, rfl, by decide +kernel, rfl, by decide +kernel, by decide +kernel⟩
theorem ok_DA (F : MFun K CD "ask" "Desk.ask" sDA ["self", "line", "number"]) (T : Txt K mg CP CB CD) (GM : GOk P w K mg base (L2.CX P w) "must" 3 ["so", "number"] (spMU CR)) (GB : MOk P w K mg base CX0 CD "board" 1 ["self"] (spDB CD))
    (GP : MOk P w K mg base CX0 CP "become" 1 ["self", "state"] (spPB CP)) : MOk P w K mg base (L2.CX P w) CD "ask" 4 ["self", "line", "number"] (spDA CD CB CP CR) := by
  refine F.okX scDA (fun vs H Q E h => ?_) (fun f cdv A outer s H vs Q E hr h => ?_)
  · obtain ⟨H0, d, s, l, b, rfl, _⟩ := h
    rfl
  · obtain ⟨H0, d, s, l, b, rfl, ⟨dx, bl, r, D⟩, hl, aQ, aE⟩ := h
    have hr1 : Room 1 _ := hr.mono (by decide)
    have nb : (dF bl).lookup ("board" : Str) = none := dF_none _ (by decide +kernel)
    refine ⟨_, pss_cons (ps_setLc (i := 4) (own := [("pair", 3)]) (g := gName 3) (tt := tAnd (tB (tEqI (tFld K (tVar 3) "state") (tC (.int 1)))) (tB (tEqI (tFld K (tVar 3) "caller") (tVar 1)))) (te := tVar 3) rfl scDA.nd rfl rfl (sw_true rfl rfl rfl (by decide +kernel)) (pi_list (pe_fld (pm0 (pv 0) T.clD GB hr1 pass0) rfl)) (blkOk_by (own := [("pair", 3)]) (N := ["self", "line", "number", "pair", "asking"]) (sc := defScope sDA) (by decide +kernel))
          (fun _ _ _ _ _ => pg_name (i := 3) scDA.nd rfl (Or.inl rfl)) (fun _ _ _ _ _ => pts_one (by exact PW.pt (pw_and (pt_cmp (pc_eqI (pe_fld (pv 3) rfl) (pgl T.gASKS))) (pw_and1 (pt_cmp (pc_eqI (pe_fld (pv 3) rfl) (pv 1))))))) (fun _ _ _ _ _ => pv 3))
      (pss_cons (ps_expr (pf GM hr rfl (passes_call (takes_of rfl rfl rfl rfl) (fun _ _ _ _ h => h)) (by exact pa_cons (pe_and (pe_cmpR (op_neNil hr.units0) (pv 4) (pe_lst pa_nil) (nomark _)) (pe_one (pe_ix ix_list (pe_fld (pm0 (pv 0) T.clD GB hr1 pass0) rfl) (pv 1) (fun _ _ => rfl)))) (pa_cons (pe_un un_neg pe_int) pa_nil))))
      (pss_cons (ps_set (i := 3) scDA.nd rfl (Or.inl rfl) (pe_ix ix_list (pv 4) pe_int (fun _ _ => rfl)))
      (pss_cons (ps_expr (pm (pv 3) T.clP GP hr1 pass0 (pa_cons (pgl T.gTOLD) pa_nil)))
      (pss_cons (ps_fld (pv 3) (pv 2) rfl)
      (pss_one (ps_ret (pe_lst (pa_cons pe_int pa_nil)))))))), ?_⟩
    have B := D.board
    refine ⟨_, rfl, d, dx, _, rfl, D.desk, nb, d, dx, bl, r.b, rfl, D.desk, D.lst, r.b, CB, r.dx, _, _, rfl, B.b, T.clB, T.npr, bF_pairs _, r.prs, rfl, ⟨_, SqL.of B.prs⟩, ?_⟩
    refine lc_pick (f := asksAt l) B (by show 3 < 5; decide) (fun k p c H' Q' sm hp hc q' => ?_) (fun D1 hD1 => ?_)
    · obtain ⟨dx', row, h1, h2⟩ := B.pair k p c hp hc
      rw [← rel_asks h2] at q'
      refine ⟨_, rfl, p, CP, dx', _, _, rfl, sm _ _ h1, T.clP, T.nst, pF_state _, _, _, rfl, rfl, _, rfl, ?_⟩
      cases z : decide (row.st = 1) with
      | false =>
        rw [z] at q'
        exact ifF z q'
      | true =>
        rw [z] at q'
        exact ifT z ⟨_, rfl, p, CP, dx', _, _, rfl, sm _ _ h1, T.clP, T.nca, pF_caller _, _, rfl, _, _, rfl, rfl, _, rfl, q'⟩
    have S1 : Same H (upd H D1 (.lst ((picks (asksAt l) r.ps s.cords).map V.ref))) := same_new hD1
    have h1 : upd H D1 (.lst ((picks (asksAt l) r.ps s.cords).map V.ref)) D1 = some (.lst ((picks (asksAt l) r.ps s.cords).map V.ref)) := upd_same
    generalize upd H D1 (.lst ((picks (asksAt l) r.ps s.cords).map V.ref)) = H1 at S1 h1
    refine ⟨_, rfl, Nat.zero_le _, fun e1 he1 => ?_⟩
    have S2 := S1.trans (same_new (o := .lst []) he1)
    have h1 := same_new (o := .lst []) he1 _ _ h1
    have hz : upd H1 e1 (.lst []) e1 = some (.lst []) := upd_same
    generalize upd H1 e1 (.lst []) = H2 at S2 h1 hz
    have D2 := D.grow S2
    have B2 := D2.board
    refine ⟨D1, e1, _, rfl, rfl, SqL.of h1, SqL.of hz, _, rfl, ?_⟩
    rw [isEmpty_map]
    cases hL : picks (asksAt l) r.ps s.cords with
    | nil =>
      refine iteF ⟨_, rfl, false, -4, rfl, (fun z => by cases z), fun _ dd hdd => ?_⟩
      exact aE (-4) dd _ (step_ask_none hl (picks_nil _ _ _ B.len hL)) ⟨dx, bl, r, D2.grow (same_new hdd)⟩ upd_same
    | cons p t =>
      obtain ⟨k, c, f1, f2, f3, f4⟩ := picks_cons _ _ _ _ _ B.len hL
      have hc := asksAt_eq f3
      subst hc
      rw [hL] at h1
      refine iteT ⟨_, rfl, d, dx, _, rfl, D2.desk, nb, d, dx, bl, r.b, rfl, D2.desk, D2.lst, r.b, CB, r.dx, _, _, rfl, B2.b, T.clB, T.nof, bF_off _, _, rfl, r.off, _, _, _, rfl, rfl, SqL.of B2.off, atI_nat (off_get hl), _, rfl, Mu29.isOff s l, -4, rfl, fun ho => ?_, fun ho dd hdd => ?_⟩
      · obtain ⟨dp, row, hp, e1', e2'⟩ := B2.pair k p _ f4 f2
        refine ⟨_, rfl, D1, _, 0, .ref p, rfl, rfl, SqL.of h1, atI_nat (j := 0) rfl, ?_⟩
        refine ⟨_, rfl, p, dp, _, rfl, hp, pF_none _ (by decide +kernel), p, dp, row, 2, rfl, hp, ?_⟩
        refine ⟨_, rfl, _, rfl, p, CP, dp, _, rfl, upd_same, T.clP, T.not, (by show 4 < 1000; decide), ?_⟩
        rw [upd_upd, pF_pot]
        have B3 : BoardAt CB CP (upd H2 p (.ins CP dp (pF { row with st := 2, ot := (b : Int) }))) r (Mu29.setCord s k (.told l b)) := B2.setP (c := .told l b) f4 ⟨rfl, e2', rfl⟩
        have D3 := D2.moved B3 (Keeps.upd (foot_p f4)) (ask_wf D.wf f2) D.now
        exact ⟨(by show 1 ≤ sizeLine; decide), fun e he => aQ _ [0] _ e (step_ask hl f1 ho) ⟨dx, bl, r, D3.grow (same_new he)⟩ upd_same (D3.same.free he)⟩
      · exact aE (-4) dd _ (step_ask_on hl f1 ho) ⟨dx, bl, r, D2.grow (same_new hdd)⟩ upd_same
theorem scDG : FnScope ["self", "many", "turn"] ["self", "many"] (defScope sDG) := ⟨rfl, rfl, rfl, by decide +kernel, rfl, by decide +kernel, by decide +kernel⟩
theorem ok_DG (F : MFun K CD "go" "Desk.go" sDG ["self", "many"]) (T : Txt K mg CP CB CD) (GM : GOk P w K mg base (L2.CX P w) "must" 3 ["so", "number"] (spMU CR)) (GB : MOk P w K mg base CX0 CD "board" 1 ["self"] (spDB CD))
    (GU : GOk P w K mg base CX0 "unit" 8 ["board"] (spOU CB CP)) : MOk P w K mg base (L2.CX P w) CD "go" 9 ["self", "many"] (spDG CD CB CP CR) := by
  refine F.okX scDG (fun vs H Q E h => ?_) (fun f cdv A outer s H vs Q E hr h => ?_)
  · obtain ⟨H0, d, s, n, rfl, _⟩ := h
    rfl
  · obtain ⟨H0, d, s, n, rfl, ⟨dx, bl, r, D⟩, aQ, aE⟩ := h
    have hr1 : Room 1 _ := hr.mono (by decide)
    have hr3 : Room 3 _ := hr.mono (by decide)
    have nb : (dF bl).lookup ("board" : Str) = none := dF_none _ (by decide +kernel)
    refine ⟨_, pss_cons (ps_expr (pf GM hr3 rfl (passes_call (takes_of rfl rfl rfl rfl) (fun _ _ _ _ h => h)) (by exact pa_cons (pe_and (pe_cmp (pc_le (pv 1) (pgl T.gMG))) (pe_one (pe_cmp (pc_le (pe_op op_add (pe_fld (pm0 (pv 0) T.clD GB hr1 pass0) rfl) (pv 1)) (pgl T.gLAST))))) (pa_cons (pe_un un_neg pe_int) pa_nil))))
      (pss_cons (ps_for (passes_of rfl) rfl (pi_range1 (by rfl) T.range (pa_cons (pv 1) pa_nil)) (pg_name (i := 2) scDG.nd rfl (Or.inl rfl)) (pss_one (ps_expr (pf GU hr rfl pass0 (pa_cons (pm0 (pv 0) T.clD GB hr1 pass0) pa_nil)))))
      (pss_one (ps_ret (pe_lst (pa_cons (pe_fld (pm0 (pv 0) T.clD GB hr1 pass0) rfl) pa_nil))))), ?_⟩
    have B := D.board
    have no : ¬ (n ≤ 200 ∧ s.now + n ≤ 1000000) → ∀ dd, H dd = none → E (.ref CR) (some dd) (upd H dd (xN (-1))) := fun h dd hdd => aE (-1) dd _ (step_go_no h) ⟨dx, bl, r, D.grow (same_new hdd)⟩ upd_same
    refine ⟨_, rfl, _, _, rfl, rfl, _, rfl, ?_⟩
    by_cases c1 : ¬ ((n : Int) ≤ 200)
    · exact ifF (decide_eq_false c1) ⟨_, rfl, false, -1, rfl, (fun z => by cases z), fun _ => no (by omega)⟩
    have c1 := Decidable.not_not.mp c1
    refine ifT (decide_eq_true c1) ⟨_, rfl, d, dx, _, rfl, D.desk, nb, d, dx, bl, r.b, rfl, D.desk, D.lst, r.b, CB, r.dx, _, _, rfl, B.b, T.clB, T.nti, bF_time _, _, rfl, _, _, rfl, rfl, _, _, rfl, rfl, _, rfl, decide ((s.now : Int) + (n : Int) ≤ 1000000), -1, rfl, fun c2 => ?_, fun c2 => no (fun z => by
      have := of_decide_eq_false c2
      omega)⟩
    have c2 := of_decide_eq_true c2
    have ok : n ≤ 200 ∧ s.now + n ≤ 1000000 := by omega
    refine ⟨_, rfl, _, rfl, by omega, by omega, for_range (lo := 0) (n := ((n : Nat) : Int).toNat) (fun i σ' H' => (∃ v, σ' = [some (.ref d), some (.int (n : Int)), v]) ∧ DeskS CD CB CP H0 H' d dx bl r (Mu29.ticks i s)) ⟨⟨none, rfl⟩, D⟩ ?_ ?_⟩
    · rintro i σ' H' hi ⟨⟨v, rfl⟩, D1⟩
      have hi : i < n := by omega
      have nt := ticks_now s i
      refine ⟨_, rfl, d, dx, _, rfl, D1.desk, nb, d, dx, bl, r.b, rfl, D1.desk, D1.lst, r, _, rfl, D1.board, D1.wf, (by rw [nt]; omega), fun H2 B2 K2 => ?_⟩
      rw [← ticks_succ] at B2
      exact ⟨⟨_, rfl⟩, D1.moved B2 K2 (ticks_wf D.wf _) (by rw [ticks_now]; omega)⟩
    · rintro σ' H' ⟨⟨v, rfl⟩, D1⟩
      have en : ((n : Nat) : Int).toNat = n := by omega
      rw [en] at D1
      refine ⟨_, rfl, d, dx, _, rfl, D1.desk, nb, d, dx, bl, r.b, rfl, D1.desk, D1.lst, r.b, CB, r.dx, _, _, rfl, D1.board.b, T.clB, T.nti, bF_time _, (by show 1 ≤ sizeLine; decide), fun e he => ?_⟩
      exact aQ _ _ _ e (step_go ok) ⟨dx, bl, r, D1.grow (same_new he)⟩ upd_same (D1.same.free he)
theorem scDL : FnScope ["self", "line"] ["self", "line"] (defScope sDL) := ⟨rfl, rfl, rfl, by decide +kernel, rfl, by decide +kernel, by decide +kernel⟩
theorem ok_DL (F : MFun K CD "line" "Desk.line" sDL ["self", "line"]) (T : Txt K mg CP CB CD) (GB : MOk P w K mg base CX0 CD "board" 1 ["self"] (spDB CD)) (GE : MOk P w K mg base CX0 CB "heard" 4 ["self", "line"] (spBE CB CP)) : MOk P w K mg base CX0 CD "line" 5 ["self", "line"] (spD1 CD CB CP CR .line) := by
  refine F.ok scDL (fun vs H Q E h => ?_) (fun f cdv A outer s H vs Q E hr h => ?_)
  · obtain ⟨H0, d, s, l, rfl, _⟩ := h
    rfl
  · obtain ⟨H0, d, s, l, rfl, ⟨dx, bl, r, D⟩, hl, aQ, aE⟩ := h
    have hr1 : Room 1 _ := hr.mono (by decide)
    have nb : (dF bl).lookup ("board" : Str) = none := dF_none _ (by decide +kernel)
    refine ⟨_, pss_one (ps_ret (pe_op op_cat (pe_lst (pa_cons (pe_callTy call_int1 (by rfl) T.int (by decide +kernel) (pa_cons (pe_ix ix_list (pe_fld (pm0 (pv 0) T.clD GB hr1 pass0) rfl) (pv 1) (fun _ _ => rfl)) pa_nil)) pa_nil)) (pm (pm0 (pv 0) T.clD GB hr1 pass0) T.clB GE hr pass0 (pa_cons (pv 1) pa_nil)))), ?_⟩
    have B := D.board
    refine ⟨_, rfl, d, dx, _, rfl, D.desk, nb, d, dx, bl, r.b, rfl, D.desk, D.lst, r.b, CB, r.dx, _, _, rfl, B.b, T.clB, T.nof, bF_off _, _, rfl, r.off, _, _, _, rfl, rfl, SqL.of B.off, atI_nat (off_get hl), .inr ⟨_, rfl, (by show 1 ≤ sizeLine; decide), fun g hg => ?_⟩⟩
    have S1 := same_new (o := .lst [.int (if Mu29.isOff s l = true then 1 else 0)]) hg
    have h1 : upd H g (.lst [.int (if Mu29.isOff s l = true then 1 else 0)]) g = some (.lst [.int (if Mu29.isOff s l = true then 1 else 0)]) := upd_same
    generalize upd H g (.lst [.int (if Mu29.isOff s l = true then 1 else 0)]) = H1 at S1 h1
    have D1 := D.grow S1
    refine ⟨_, rfl, d, dx, _, rfl, D1.desk, nb, d, dx, bl, r.b, rfl, D1.desk, D1.lst, r.b, r.dx, _, rfl, D1.board.b, bF_none _ (by decide +kernel), _, rfl, r, s, l, rfl, D1.board, D1.wf, hl, fun H2 p S2 hp _ => ?_⟩
    refine ⟨g, p, _, _, rfl, rfl, S2 _ _ h1, hp, ?_, fun e he => ?_⟩
    · rw [List.length_map, sizeLine_eq]
      have hh : (Mu29.hears s l).length ≤ 2 := by
        unfold Mu29.hears
        repeat' split
        all_goals simp
      show 1 + _ ≤ _
      omega
    · exact aQ _ _ _ e (step_line hl) ⟨dx, bl, r, (D1.grow S2).grow (same_new he)⟩ upd_same ((D1.grow S2).same.free he)
theorem scDC : FnScope ["self", "told", "pair"] ["self"] (defScope sDC) := ⟨rfl, rfl, rfl, by decide +kernel, rfl, by decide +kernel, by decide +kernel⟩
theorem stand_len (c : Mu29.Stand) : (Mu29.standNums c).length ≤ 4 := by
  cases c <;> simp [Mu29.standNums]
theorem flat_len {α : Type} (g : α → List Int) (m : Nat) (h : ∀ x, (g x).length ≤ m) : ∀ xs : List α, (xs.flatMap g).length ≤ m * xs.length
  | [] => by simp
  | x :: xs => by
    have ih := flat_len g m h xs
    have hx := h x
    rw [List.flatMap_cons, List.length_append, List.length_cons, Nat.mul_succ]
    omega
theorem flat_snoc {α : Type} (g : α → List Int) {xs : List α} {j : Nat} {x : α} (h : xs[j]? = some x) : (xs.take (j + 1)).flatMap g = (xs.take j).flatMap g ++ g x := by
  rw [take_snoc h, List.flatMap_append]
  simp
theorem ok_DC (F : MFun K CD "cords" "Desk.cords" sDC ["self"]) (T : Txt K mg CP CB CD) (GB : MOk P w K mg base CX0 CD "board" 1 ["self"] (spDB CD)) (GT : MOk P w K mg base CX0 CP "told" 1 ["self"] (spPT CP)) : MOk P w K mg base CX0 CD "cords" 2 ["self"] (spD0 CD CB CP CR .cords) := by
  refine F.ok scDC (fun vs H Q E h => ?_) (fun f cdv A outer s H vs Q E hr h => ?_)
  · obtain ⟨H0, d, s, rfl, _⟩ := h
    rfl
  · obtain ⟨H0, d, s, rfl, ⟨dx, bl, r, D⟩, aQ, aE⟩ := h
    have nb : (dF bl).lookup ("board" : Str) = none := dF_none _ (by decide +kernel)
    refine ⟨_, pss_cons (ps_set (i := 1) scDC.nd rfl (Or.inl rfl) (pe_lst pa_nil))
      (pss_cons (ps_for PassesOwn.never rfl (pi_list (pe_fld (pm0 (pv 0) T.clD GB hr pass0) rfl)) (pg_name (i := 2) scDC.nd rfl (Or.inl rfl))
        (pss_one (ps_expr (pe_bm PySem.F.plainAttrs_list PySem.F.slot_list_extend PySem.F.type_list_extend mt_extend (pv 1) (pa_cons (pm0 (pv 2) T.clP GT hr pass0) pa_nil)))))
      (pss_one (ps_ret (pv 1)))), ?_⟩
    refine ⟨Nat.zero_le _, fun t ht => ?_⟩
    have S1 := same_new (o := .lst []) ht
    have D1 := D.grow S1
    have h1 : upd H t (.lst []) t = some (.lst []) := upd_same
    generalize upd H t (.lst []) = H1 at S1 h1 D1
    refine ⟨_, rfl, d, dx, _, rfl, D1.desk, nb, d, dx, bl, r.b, rfl, D1.desk, D1.lst, r.b, CB, r.dx, _, _, rfl, D1.board.b, T.clB, T.npr, bF_pairs _, r.prs, rfl, ⟨_, SqL.of D1.board.prs⟩, ?_⟩
    refine for_list (K := K) (a := r.prs) (xs := r.ps.map V.ref) (fun j σ' H' => (∃ v, σ' = [some (.ref d), some (.ref t), v]) ∧ Same H H' ∧ H' t = some (.lst (((s.cords.take j).flatMap Mu29.standNums).map V.int))) ⟨⟨none, rfl⟩, S1, h1⟩ (fun j σ' H' _ p => SqL.of (D.grow p.2.1).board.prs) ?_ ?_
    · rintro j y σ' H' hj ⟨⟨v, rfl⟩, S2, h2⟩
      rw [List.getElem?_map] at hj
      cases hp : r.ps[j]? with
      | none => rw [hp] at hj; cases hj
      | some p =>
        rw [hp] at hj
        cases hj
        have B2 := (D.grow S2).board
        obtain ⟨c, hc⟩ := B2.cord hp
        obtain ⟨dp, row, h3, h4⟩ := B2.pair j p c hp hc
        refine ⟨_, rfl, .inl ⟨rfl, _, SqL.of h2⟩, _, rfl, p, dp, _, rfl, h3, pF_none _ (by decide +kernel), p, dp, row, rfl, h3, fun q hq => ?_⟩
        have ntq : t ≠ q := ne_of_none h2 hq
        rw [rel_nums h4]
        refine ⟨t, q, _, _, rfl, rfl, (upd_ne ntq).trans h2, upd_same, ?_, ⟨_, rfl⟩, fun a o h => ?_, ?_⟩
        · rw [List.length_map, List.length_map, sizeLine_eq]
          have l1 := flat_len Mu29.standNums 4 stand_len (s.cords.take j)
          have l2 := stand_len c
          have l3 : (s.cords.take j).length ≤ 6 := by
            rw [List.length_take]
            have := B2.nc
            omega
          omega
        · exact (upd_ne (ne_of_none h ht)).trans (same_new hq _ _ (S2 a o h))
        · rw [flat_snoc _ hc, List.map_append]
          exact upd_same
    · rintro σ' H' ⟨⟨v, rfl⟩, S2, h2⟩
      rw [List.length_map, D.board.len, List.take_length] at h2
      exact ⟨_, rfl, aQ _ _ H' t step_cords ⟨dx, bl, r, D.grow S2⟩ h2 (D.same.free ht)⟩
theorem scDM : FnScope ["self", "some", "told", "line"] ["self"] (defScope sDM) := ⟨rfl, rfl, rfl, by decide +kernel, rfl, by decide +kernel, by decide +kernel⟩
theorem litLines_len (s : Mu29.State) : (litLines s).length ≤ s.lines.length := by
  have := List.length_filter_le (fun l => (litN s l).isSome) (List.range s.lines.length)
  rw [List.length_range] at this
  exact this
theorem ok_DM (F : MFun K CD "lamps" "Desk.lamps" sDM ["self"]) (T : Txt K mg CP CB CD) (GB : MOk P w K mg base CX0 CD "board" 1 ["self"] (spDB CD)) (GT : MOk P w K mg base CX0 CB "lit_lines" 2 ["self"] (spBT CB CP)) : MOk P w K mg base CX0 CD "lamps" 3 ["self"] (spD0 CD CB CP CR .lamps) := by
  refine F.ok scDM (fun vs H Q E h => ?_) (fun f cdv A outer s H vs Q E hr h => ?_)
  · obtain ⟨H0, d, s, rfl, _⟩ := h
    rfl
  · obtain ⟨H0, d, s, rfl, ⟨dx, bl, r, D⟩, aQ, aE⟩ := h
    have hr1 : Room 1 _ := hr.mono (by decide)
    have nb : (dF bl).lookup ("board" : Str) = none := dF_none _ (by decide +kernel)
    refine ⟨_, pss_cons (ps_set (i := 1) scDM.nd rfl (Or.inl rfl) (pm0 (pm0 (pv 0) T.clD GB hr1 pass0) T.clB GT hr pass0))
      (pss_cons (ps_set (i := 2) scDM.nd rfl (Or.inl rfl) (pe_lst (pa_cons (pe_callB call_len_seq (by rfl) T.len PySem.boot_len (pa_cons (pv 1) pa_nil)) pa_nil)))
      (pss_cons (ps_for PassesOwn.never rfl (pi_list (pv 1)) (pg_name (i := 3) scDM.nd rfl (Or.inl rfl))
        (pss_one (ps_expr (pe_bm PySem.F.plainAttrs_list PySem.F.slot_list_extend PySem.F.type_list_extend mt_extend (pv 2) (pa_cons (pe_lst (pa_cons (pv 3) (pa_cons (pe_ix ix_list (pe_fld (pm0 (pv 0) T.clD GB hr1 pass0) rfl) (pv 3) (fun _ _ => rfl)) pa_nil))) pa_nil)))))
      (pss_one (ps_ret (pv 2))))), ?_⟩
    refine ⟨_, rfl, d, dx, _, rfl, D.desk, nb, d, dx, bl, r.b, rfl, D.desk, D.lst, r.b, r.dx, _, rfl, D.board.b, bF_none _ (by decide +kernel), r, s, rfl, D.board, fun g hg => ?_⟩
    have S1 := same_new (o := .lst ((litLines s).map fun (l : Nat) => V.int (l : Int))) hg
    have h1 : upd H g (.lst ((litLines s).map fun (l : Nat) => V.int (l : Int))) g = some (.lst ((litLines s).map fun (l : Nat) => V.int (l : Int))) := upd_same
    generalize upd H g (.lst ((litLines s).map fun (l : Nat) => V.int (l : Int))) = H1 at S1 h1
    refine ⟨_, rfl, g, _, rfl, .inl (SqL.of h1), (by show 1 ≤ sizeLine; decide), fun t ht => ?_⟩
    have S2 := S1.trans (same_new (o := .lst [.int (((litLines s).map fun (l : Nat) => V.int (l : Int)).length : Int)]) ht)
    have ft : H t = none := S1.free ht
    have ngt : g ≠ t := ne_of_none h1 ht
    have g2 : upd H1 t (.lst [.int (((litLines s).map fun (l : Nat) => V.int (l : Int)).length : Int)]) g = some (.lst ((litLines s).map fun (l : Nat) => V.int (l : Int))) := (upd_ne ngt).trans h1
    have h2 : upd H1 t (.lst [.int (((litLines s).map fun (l : Nat) => V.int (l : Int)).length : Int)]) t = some (.lst [.int ((litLines s).length : Int)]) := by
      rw [upd_same, List.length_map]
    generalize upd H1 t (.lst [.int (((litLines s).map fun (l : Nat) => V.int (l : Int)).length : Int)]) = H2 at S2 g2 h2
    refine ⟨_, rfl, g, rfl, ⟨_, SqL.of g2⟩, for_list (K := K) (a := g) (xs := (litLines s).map fun (l : Nat) => V.int (l : Int)) (fun j σ' H' => (∃ v, σ' = [some (.ref d), some (.ref g), some (.ref t), v]) ∧ Same H H' ∧ H' g = some (.lst ((litLines s).map fun (l : Nat) => V.int (l : Int))) ∧ H' t = some (.lst (((((litLines s).length : Int) :: ((litLines s).take j).flatMap fun (i : Nat) => [(i : Int), litI s i])).map V.int))) ⟨⟨none, rfl⟩, S2, g2, h2⟩ (fun j σ' H' _ p => SqL.of p.2.2.1) ?_ ?_⟩
    · rintro j y σ' H' hj ⟨⟨v, rfl⟩, S3, g3, h3⟩
      rw [List.getElem?_map] at hj
      cases hp : (litLines s)[j]? with
      | none => rw [hp] at hj; cases hj
      | some l =>
        rw [hp] at hj
        cases hj
        have hlt := (lit_of_mem (List.mem_of_getElem? hp)).1
        have D3 := D.grow S3
        refine ⟨_, rfl, .inl ⟨rfl, _, SqL.of h3⟩, _, rfl, _, rfl, d, dx, _, rfl, D3.desk, nb, d, dx, bl, r.b, rfl, D3.desk, D3.lst, r.b, CB, r.dx, _, _, rfl, D3.board.b, T.clB, T.nli, bF_lit _, _, rfl, r.lit, _, _, _, rfl, rfl, SqL.of D3.board.lit, atI_nat (lit_get hlt), (by show 2 ≤ sizeLine; decide), fun q hq => ?_⟩
        have ntq : t ≠ q := ne_of_none h3 hq
        refine ⟨t, q, _, _, rfl, rfl, (upd_ne ntq).trans h3, upd_same, ?_, ⟨_, rfl⟩, fun a o h => ?_, (upd_ne ngt).trans (same_new hq _ _ g3), ?_⟩
        · rw [List.length_map, List.length_cons, sizeLine_eq]
          have l1 := flat_len (fun (i : Nat) => [(i : Int), litI s i]) 2 (fun _ => Nat.le_refl _) ((litLines s).take j)
          have l2 := litLines_len s
          have l3 := D.board.nl
          have l4 : ((litLines s).take j).length ≤ 20 := by
            rw [List.length_take]
            omega
          show _ + 2 ≤ _
          omega
        · exact (upd_ne (ne_of_none h ft)).trans (same_new hq _ _ (S3 a o h))
        · rw [flat_snoc _ hp, ← List.cons_append, List.map_append]
          exact upd_same
    · rintro σ' H' ⟨⟨v, rfl⟩, S3, g3, h3⟩
      rw [List.length_map, List.take_length] at h3
      exact ⟨_, rfl, aQ _ _ H' t step_lamps ⟨dx, bl, r, D.grow S3⟩ h3 (D.same.free ft)⟩
end
end Cb

namespace Cb
open PySem PySem.Spec PyProof.Rows L2
/-- a call of one line's, by its number and its numbers -/
def OfL (p : Int) : Prop := p = 1 ∨ p = 2 ∨ p = 3 ∨ p = 5 ∨ p = 9
def spDO (K : PySem.W.Frag) (CD CB CP CR : Addr) : Sp := fun vs H Q E => ∃ (H0 : Hp) (d a : Addr) (s : Mu29.State) (p : Int) (as : List Int) (c : Mu29.Call), vs = [.ref d, .int p, .ref a] ∧ SqL K H a (as.map V.int) ∧ CallIs p as c ∧ OfL p ∧ DeskAt CD CB CP H0 H d (some s) ∧ Ans CD CB CP CR H0 d (some s) c Q E
def spDD (K : PySem.W.Frag) (CD CB CP CR : Addr) : Sp := fun vs H Q E => ∃ (H0 : Hp) (d a : Addr) (o : Option Mu29.State) (p : Int) (as : List Int) (c : Mu29.Call), vs = [.ref d, .int p, .ref a] ∧ SqL K H a (as.map V.int) ∧ CallIs p as c ∧ DeskAt CD CB CP H0 H d o ∧ Ans CD CB CP CR H0 d o c Q E
def spDX (K : PySem.W.Frag) (CD CB CP : Addr) : Sp := fun vs H Q _ => ∃ (H0 : Hp) (d a : Addr) (o : Option Mu29.State) (p : Int) (as : List Int) (c : Mu29.Call), vs = [.ref d, .int p, .ref a] ∧ SqL K H a (as.map V.int) ∧ CallIs p as c ∧ DeskAt CD CB CP H0 H d o ∧
  ∀ o' ans H' p', Mu29.step o c = (o', ans) → DeskAt CD CB CP H0 H' d o' → H' p' = some (.lst (ans.map V.int)) → H0 p' = none → Q (.ref p') H'
theorem pass0E {X : Cx} {E : XK} : Passes CX0 X E := fun _ _ _ _ _ _ _ h => False.elim h
theorem talkN_V (k : Mu29.Talk) : (talkN k).map V.int = talkV k := rfl
section
variable {P : Program} {w : World} {K : PySem.W.Frag} {mg : Str → Option Value} {base : Heap} {CP CB CD CR : Addr}
theorem scDT : FnScope ["self", "told", "caller", "other", "since", "till"] ["self"] (defScope sDT) := ⟨rfl, rfl, rfl, by decide +kernel, rfl, by decide +kernel, by decide +kernel⟩
theorem ok_DT (F : MFun K CD "talks" "Desk.talks" sDT ["self"]) (T : Txt K mg CP CB CD) (GB : MOk P w K mg base CX0 CD "board" 1 ["self"] (spDB CD)) : MOk P w K mg base CX0 CD "talks" 2 ["self"] (spD0 CD CB CP CR .talks) := by
  refine F.ok scDT (fun vs H Q E h => ?_) (fun f cdv A outer s H vs Q E hr h => ?_)
  · obtain ⟨H0, d, s, rfl, _⟩ := h
    rfl
  · obtain ⟨H0, d, s, rfl, ⟨dx, bl, r, D⟩, aQ, aE⟩ := h
    have nb : (dF bl).lookup ("board" : Str) = none := dF_none _ (by decide +kernel)
    refine ⟨_, pss_cons (ps_set (i := 1) scDT.nd rfl (Or.inl rfl) (pe_lst (pa_cons (pe_callB call_len_seq (by rfl) T.len PySem.boot_len (pa_cons (pe_fld (pm0 (pv 0) T.clD GB hr pass0) rfl) pa_nil)) pa_nil)))
      (pss_cons (ps_for PassesOwn.never rfl (pi_list (pe_fld (pm0 (pv 0) T.clD GB hr pass0) rfl)) (pg_tup rfl (pgs_cons (pg_name (i := 2) scDT.nd rfl (Or.inl rfl)) (pgs_cons (pg_name (i := 3) scDT.nd rfl (Or.inl rfl)) (pgs_cons (pg_name (i := 4) scDT.nd rfl (Or.inl rfl)) (pgs_cons (pg_name (i := 5) scDT.nd rfl (Or.inl rfl)) pgs_nil)))))
        (pss_one (ps_expr (pe_bm PySem.F.plainAttrs_list PySem.F.slot_list_extend PySem.F.type_list_extend mt_extend (pv 1) (pa_cons (pe_lst (pa_cons (pv 2) (pa_cons (pv 3) (pa_cons (pv 4) (pa_cons (pv 5) pa_nil))))) pa_nil)))))
      (pss_one (ps_ret (pv 1)))), ?_⟩
    obtain ⟨ts, n1, n2, n3⟩ := D.board.nt
    have hnt := D.wf.nt
    have hnow := D.now
    refine ⟨_, rfl, d, dx, _, rfl, D.desk, nb, d, dx, bl, r.b, rfl, D.desk, D.lst, r.b, CB, r.dx, _, _, rfl, D.board.b, T.clB, T.nno, bF_noted _, r.nt, _, rfl, .inl (SqL.of n1), (by show 1 ≤ sizeLine; decide), fun t ht => ?_⟩
    have S1 := same_new (o := .lst [.int ((ts.map V.ref).length : Int)]) ht
    have h1 : upd H t (.lst [.int ((ts.map V.ref).length : Int)]) t = some (.lst [.int (s.talks.length : Int)]) := by
      rw [upd_same, List.length_map, n2]
    generalize upd H t (.lst [.int ((ts.map V.ref).length : Int)]) = H1 at S1 h1
    have D1 := D.grow S1
    refine ⟨_, rfl, d, dx, _, rfl, D1.desk, nb, d, dx, bl, r.b, rfl, D1.desk, D1.lst, r.b, CB, r.dx, _, _, rfl, D1.board.b, T.clB, T.nno, bF_noted _, r.nt, rfl, ⟨_, SqL.of (S1 _ _ n1)⟩, ?_⟩
    refine for_list (K := K) (a := r.nt) (xs := ts.map V.ref) (fun j σ' H' => (∃ v2 v3 v4 v5, σ' = [some (.ref d), some (.ref t), v2, v3, v4, v5]) ∧ Same H H' ∧ H' t = some (.lst (((s.talks.length : Int) :: (s.talks.take j).flatMap talkN).map V.int))) ⟨⟨none, none, none, none, rfl⟩, S1, h1⟩ (fun j σ' H' _ p => SqL.of (p.2.1 _ _ n1)) ?_ ?_
    · rintro j y σ' H' hj ⟨⟨v2, v3, v4, v5, rfl⟩, S2, h2⟩
      rw [List.getElem?_map] at hj
      cases hp : ts[j]? with
      | none => rw [hp] at hj; cases hj
      | some u =>
        rw [hp] at hj
        cases hj
        have hlt := (List.getElem?_eq_some_iff.mp hp).1
        rw [n2] at hlt
        have hk : s.talks[j]? = some s.talks[j] := List.getElem?_eq_getElem hlt
        have hu := S2 _ _ (n3 j u _ hp hk)
        refine ⟨u, _, rfl, SqT.of hu, rfl, _, _, rfl, _, _, rfl, _, _, rfl, _, _, rfl, rfl, ?_⟩
        refine ⟨_, rfl, .inl ⟨rfl, _, SqL.of h2⟩, _, rfl, _, rfl, _, rfl, _, rfl, (by show 4 ≤ sizeLine; decide), fun q hq => ?_⟩
        have ntq : t ≠ q := ne_of_none h2 hq
        refine ⟨t, q, _, _, rfl, rfl, (upd_ne ntq).trans h2, upd_same, ?_, ⟨_, _, _, _, rfl⟩, fun a o h => ?_, ?_⟩
        · rw [List.length_map, List.length_cons, sizeLine_eq]
          have l1 := flat_len talkN 4 (fun _ => Nat.le_refl _) (s.talks.take j)
          have l4 : (s.talks.take j).length ≤ 1000000 := by
            rw [List.length_take]
            omega
          show _ + 4 ≤ _
          omega
        · exact (upd_ne (ne_of_none h ht)).trans (same_new hq _ _ (S2 a o h))
        · rw [flat_snoc _ hk, ← List.cons_append, List.map_append]
          exact upd_same
    · rintro σ' H' ⟨⟨v2, v3, v4, v5, rfl⟩, S2, h2⟩
      rw [List.length_map, n2, List.take_length] at h2
      exact ⟨_, rfl, aQ _ _ H' t step_talks ⟨dx, bl, r, D.grow S2⟩ h2 (D.same.free ht)⟩
theorem inV_ints (l : Nat) (L : List Nat) : inV (.int (l : Int)) (L.map fun (i : Nat) => V.int (i : Int)) = decide (l ∈ L) := by
  induction L with
  | nil => rfl
  | cons a L ih =>
    show (eqV (.int (a : Int)) (.int (l : Int)) || inV (.int (l : Int)) (L.map fun (i : Nat) => V.int (i : Int))) = _
    rw [ih]
    have e : eqV (.int (a : Int)) (.int (l : Int)) = decide ((a : Int) = (l : Int)) := by
      unfold eqV
      rw [Bool.eq_iff_iff]
      simp
    rw [e, Bool.eq_iff_iff]
    simp only [Bool.or_eq_true, decide_eq_true_eq, List.mem_cons]
    constructor
    · rintro (z | z)
      · exact .inl (by omega)
      · exact .inr z
    · rintro (z | z)
      · exact .inl (by omega)
      · exact .inr z
theorem scDW : FnScope ["self", "line", "found"] ["self", "line"] (defScope sDW) := ⟨rfl, rfl, rfl, by decide +kernel, rfl, by decide +kernel, by decide +kernel⟩
theorem ok_DW (F : MFun K CD "wait" "Desk.wait" sDW ["self", "line"]) (T : Txt K mg CP CB CD) (GM : GOk P w K mg base (L2.CX P w) "must" 3 ["so", "number"] (spMU CR)) (GB : MOk P w K mg base CX0 CD "board" 1 ["self"] (spDB CD)) (GT : MOk P w K mg base CX0 CB "lit_lines" 2 ["self"] (spBT CB CP))
    (GU : GOk P w K mg base CX0 "units_till" 9 ["board", "line"] (spWU CB CP)) : MOk P w K mg base (L2.CX P w) CD "wait" 10 ["self", "line"] (spD1 CD CB CP CR .wait) := by
  refine F.okX scDW (fun vs H Q E h => ?_) (fun f cdv A outer s H vs Q E hr h => ?_)
  · obtain ⟨H0, d, s, l, rfl, _⟩ := h
    rfl
  · obtain ⟨H0, d, s, l, rfl, ⟨dx, bl, r, D⟩, hl, aQ, aE⟩ := h
    have hr1 : Room 1 _ := hr.mono (by decide)
    have hr2 : Room 2 _ := hr.mono (by decide)
    have hr3 : Room 3 _ := hr.mono (by decide)
    have nb : (dF bl).lookup ("board" : Str) = none := dF_none _ (by decide +kernel)
    refine ⟨_, pss_cons (ps_expr (pf GM hr3 rfl (passes_call (takes_of rfl rfl rfl rfl) (fun _ _ _ _ h => h)) (by exact pa_cons (pe_cmpR op_in_seq (pv 1) (pm0 (pm0 (pv 0) T.clD GB hr1 pass0) T.clB GT hr2 pass0) rfl) (pa_cons (pe_un un_neg pe_int) pa_nil))))
      (pss_cons (ps_set (i := 2) scDW.nd rfl (Or.inl rfl) (pf GU hr rfl pass0 (pa_cons (pm0 (pv 0) T.clD GB hr1 pass0) (pa_cons (pv 1) pa_nil))))
      (pss_cons (ps_expr (pf GM hr3 rfl (passes_call (takes_of rfl rfl rfl rfl) (fun _ _ _ _ h => h)) (by exact pa_cons (pe_cmp (pc_neI (pv 2) (pgl T.gNEVER))) (pa_cons (pe_un un_neg pe_int) pa_nil))))
      (pss_one (ps_ret (pe_lst (pa_cons (pv 2) pa_nil)))))), ?_⟩
    refine ⟨_, rfl, _, rfl, d, dx, _, rfl, D.desk, nb, d, dx, bl, r.b, rfl, D.desk, D.lst, r.b, r.dx, _, rfl, D.board.b, bF_none _ (by decide +kernel), r, s, rfl, D.board, fun g hg => ?_⟩
    have S1 := same_new (o := .lst ((litLines s).map fun (l : Nat) => V.int (l : Int))) hg
    have h1 : upd H g (.lst ((litLines s).map fun (l : Nat) => V.int (l : Int))) g = some (.lst ((litLines s).map fun (l : Nat) => V.int (l : Int))) := upd_same
    generalize upd H g (.lst ((litLines s).map fun (l : Nat) => V.int (l : Int))) = H1 at S1 h1
    have D1 := D.grow S1
    refine ⟨g, _, rfl, .inl (SqL.of h1), rfl, ?_, _, rfl, decide (l ∈ litLines s), -4, ?_, fun c => ?_, fun c dd hdd => ?_⟩
    · rw [List.all_map]
      exact List.all_eq_true.mpr fun _ _ => rfl
    · show [V.bl (inV (.int (l : Int)) ((litLines s).map fun (l : Nat) => V.int (l : Int))), V.int (-1 * 4)] = _
      rw [inV_ints]
      rfl
    · have hm := of_decide_eq_true c
      have hlit := (lit_of_mem hm).2
      have hpl := (lit_plug D.wf hlit).1
      refine ⟨_, rfl, d, dx, _, rfl, D1.desk, nb, d, dx, bl, r.b, rfl, D1.desk, D1.lst, _, rfl, r, s, l, rfl, D1.board, D1.wf, D1.now, hpl, fun H2 S2 => ?_⟩
      have D2 := D1.grow S2
      have hst := step_wait hl hlit
      cases ha : Mu29.answered l 101 0 s with
      | some n =>
        rw [ha] at hst
        have npos : n ≠ 0 := fun z => by
          rw [z] at ha
          have : Mu29.answered l 101 0 s = Mu29.answered l 100 1 (Mu29.ticks 1 s) := answered_go 1 (by decide) (fun j hj => by
            have : j = 0 := by omega
            rw [this]; exact hpl)
          rw [this] at ha
          have mono : ∀ (f n : Nat) (u : Mu29.State) (m : Nat), Mu29.answered l f n u = some m → n ≤ m := by
            intro f
            induction f with
            | zero => intro n u m z; cases z
            | succ f ih =>
              intro n u m z
              have z : (if Mu29.plugged u l = true then some n else Mu29.answered l f (n + 1) (Mu29.tick u)) = some m := z
              by_cases hp : Mu29.plugged u l = true
              · rw [if_pos hp] at z
                cases z
                exact Nat.le_refl _
              · rw [if_neg hp] at z
                exact Nat.le_trans (Nat.le_succ _) (ih _ _ _ z)
          have := mono _ _ _ _ ha
          omega
        refine ⟨_, rfl, _, _, rfl, rfl, _, rfl, true, -6, ?_, fun _ => ?_, fun z => by cases z⟩
        · show [V.bl (!decide (((n : Nat) : Int) = 0)), V.int (-6)] = _
          rw [decide_eq_false (by omega)]
          rfl
        · exact ⟨_, rfl, (by show 1 ≤ sizeLine; decide), fun e he => aQ _ _ _ e hst ⟨dx, bl, r, D2.grow (same_new he)⟩ upd_same (D2.same.free he)⟩
      | none =>
        rw [ha] at hst
        refine ⟨_, rfl, _, _, rfl, rfl, _, rfl, false, -6, rfl, (fun z => by cases z), fun _ dd hdd => ?_⟩
        exact aE (-6) dd _ hst ⟨dx, bl, r, D2.grow (same_new hdd)⟩ upd_same
    · have hm := of_decide_eq_false c
      have hlit : litN s l = none := by
        cases z : litN s l with
        | none => rfl
        | some t => exact absurd (List.mem_filter.mpr ⟨List.mem_range.mpr hl, by rw [z]; rfl⟩) hm
      exact aE (-4) dd _ (step_wait_dark hl hlit) ⟨dx, bl, r, D1.grow (same_new hdd)⟩ upd_same
theorem scDS : FnScope ["self", "board"] ["self"] (defScope sDS) := ⟨rfl, rfl, rfl, by decide +kernel, rfl, by decide +kernel, by decide +kernel⟩
theorem ok_DS (F : MFun K CD "sums" "Desk.sums" sDS ["self"]) (T : Txt K mg CP CB CD) (GB : MOk P w K mg base CX0 CD "board" 1 ["self"] (spDB CD)) (GM : MOk P w K mg base CX0 CB "many_free" 1 ["self"] (spBM CB CP)) : MOk P w K mg base CX0 CD "sums" 2 ["self"] (spD0 CD CB CP CR .sums) := by
  refine F.ok scDS (fun vs H Q E h => ?_) (fun f cdv A outer s H vs Q E hr h => ?_)
  · obtain ⟨H0, d, s, rfl, _⟩ := h
    rfl
  · obtain ⟨H0, d, s, rfl, ⟨dx, bl, r, D⟩, aQ, aE⟩ := h
    have nb : (dF bl).lookup ("board" : Str) = none := dF_none _ (by decide +kernel)
    refine ⟨_, pss_cons (ps_set (i := 1) scDS.nd rfl (Or.inl rfl) (pm0 (pv 0) T.clD GB hr pass0))
      (pss_one (ps_ret (pe_lst (pa_cons (pe_fld (pv 1) rfl) (pa_cons (pe_callB call_len_seq (by rfl) T.len PySem.boot_len (pa_cons (pe_fld (pv 1) rfl) pa_nil)) (pa_cons (pe_fld (pv 1) rfl) (pa_cons (pe_fld (pv 1) rfl) (pa_cons (pm0 (pv 1) T.clB GM hr pass0) pa_nil)))))))), ?_⟩
    have B := D.board
    obtain ⟨ts, n1, n2, n3⟩ := B.nt
    refine ⟨_, rfl, d, dx, _, rfl, D.desk, nb, d, dx, bl, r.b, rfl, D.desk, D.lst, ?_⟩
    refine ⟨_, rfl, r.b, CB, r.dx, _, _, rfl, B.b, T.clB, T.nti, bF_time _, _, rfl, r.b, CB, r.dx, _, _, rfl, B.b, T.clB, T.nno, bF_noted _, r.nt, _, rfl, .inl (SqL.of n1), _, rfl, r.b, CB, r.dx, _, _, rfl, B.b, T.clB, T.nbu, bF_busy _, _, rfl, r.b, CB, r.dx, _, _, rfl, B.b, T.clB, T.nnb, bF_nobody _, _, rfl, r.b, r.dx, _, rfl, B.b, bF_none _ (by decide +kernel), r, s, rfl, B, fun H1 S1 => ⟨(by show 5 ≤ sizeLine; decide), fun e he => ?_⟩⟩
    refine aQ _ _ _ e step_sums ⟨dx, bl, r, (D.grow S1).grow (same_new he)⟩ ?_ ((D.grow S1).same.free he)
    rw [List.length_map, n2]
    exact upd_same
theorem scDO : FnScope ["self", "place", "numbers"] ["self", "place", "numbers"] (defScope sDO) := ⟨rfl, rfl, rfl, by decide +kernel, rfl, by decide +kernel, by decide +kernel⟩
theorem ok_DO (F : MFun K CD "of_line" "Desk.of_line" sDO ["self", "place", "numbers"]) (T : Txt K mg CP CB CD) (GM : GOk P w K mg base (L2.CX P w) "must" 3 ["so", "number"] (spMU CR)) (GB : MOk P w K mg base CX0 CD "board" 1 ["self"] (spDB CD)) (GL : MOk P w K mg base CX0 CB "lines" 1 ["self"] (spBL CB CP))
    (G1 : MOk P w K mg base (L2.CX P w) CD "lift" 7 ["self", "line"] (spD1 CD CB CP CR .lift)) (G2 : MOk P w K mg base (L2.CX P w) CD "hang" 7 ["self", "line"] (spD1 CD CB CP CR .hang)) (G3 : MOk P w K mg base (L2.CX P w) CD "ask" 4 ["self", "line", "number"] (spDA CD CB CP CR))
    (G5 : MOk P w K mg base CX0 CD "line" 5 ["self", "line"] (spD1 CD CB CP CR .line)) (G9 : MOk P w K mg base (L2.CX P w) CD "wait" 10 ["self", "line"] (spD1 CD CB CP CR .wait)) : MOk P w K mg base (L2.CX P w) CD "of_line" 11 ["self", "place", "numbers"] (spDO K CD CB CP CR) := by
  refine F.okX scDO (fun vs H Q E h => ?_) (fun f cdv A outer s H vs Q E hr h => ?_)
  · obtain ⟨H0, d, a, s, p, as, c, rfl, _⟩ := h
    rfl
  · obtain ⟨H0, d, a, s, p, as, c, rfl, hS, hC, hp, ⟨dx, bl, r, D⟩, aQ, aE⟩ := h
    have hr1 : Room 1 _ := hr.mono (by decide)
    have hr3 : Room 3 _ := hr.mono (by decide)
    have hr4 : Room 4 _ := hr.mono (by decide)
    have hr5 : Room 5 _ := hr.mono (by decide)
    have hr7 : Room 7 _ := hr.mono (by decide)
    have nb : ∀ {m : Str}, ((["boards"] : List Str).all fun g => !(m == g)) = true → (dF bl).lookup m = none := fun h => dF_none _ h
    refine ⟨_, pss_cons (ps_expr (pf GM hr3 rfl (passes_call (takes_of rfl rfl rfl rfl) (fun _ _ _ _ h => h)) (by exact pa_cons (pe_cmp (pc_lt (pe_ix ix_list (pv 2) pe_int (fun _ _ => rfl)) (pm0 (pm0 (pv 0) T.clD GB hr1 pass0) T.clB GL hr1 pass0))) (pa_cons (pe_un un_neg pe_int) pa_nil))))
      (pss_cons (ps_if (pt_cmp (pc_eqI (pv 1) pe_int)) (pss_one (ps_ret (pm (pv 0) T.clD G1 hr7 (passes_call (takes_of rfl rfl rfl rfl) (fun _ _ _ _ h => h)) (by exact pa_cons (pe_ix ix_list (pv 2) pe_int (fun _ _ => rfl)) pa_nil)))) pss_nil)
      (pss_cons (ps_if (pt_cmp (pc_eqI (pv 1) pe_int)) (pss_one (ps_ret (pm (pv 0) T.clD G2 hr7 (passes_call (takes_of rfl rfl rfl rfl) (fun _ _ _ _ h => h)) (by exact pa_cons (pe_ix ix_list (pv 2) pe_int (fun _ _ => rfl)) pa_nil)))) pss_nil)
      (pss_cons (ps_if (pt_cmp (pc_eqI (pv 1) pe_int)) (pss_one (ps_ret (pm (pv 0) T.clD G3 hr4 (passes_call (takes_of rfl rfl rfl rfl) (fun _ _ _ _ h => h)) (by exact pa_cons (pe_ix ix_list (pv 2) pe_int (fun _ _ => rfl)) (pa_cons (pe_ix ix_list (pv 2) pe_int (fun _ _ => rfl)) pa_nil))))) pss_nil)
      (pss_cons (ps_if (pt_cmp (pc_eqI (pv 1) pe_int)) (pss_one (ps_ret (pm (E := E) (pv 0) T.clD G5 hr5 pass0E (by exact pa_cons (pe_ix ix_list (pv 2) pe_int (fun _ _ => rfl)) pa_nil)))) pss_nil)
      (pss_one (ps_ret (pm (pv 0) T.clD G9 hr (passes_call (takes_of rfl rfl rfl rfl) (fun _ _ _ _ h => h)) (by exact pa_cons (pe_ix ix_list (pv 2) pe_int (fun _ _ => rfl)) pa_nil)))))))), ?_⟩
    have B := D.board
    have DA : DeskAt CD CB CP H0 H d (some s) := ⟨dx, bl, r, D⟩
    -- the line's number
    have first : ∃ (l : Nat), (as.map V.int)[0]? = some (.int (l : Int)) ∧ (s.lines.length ≤ l → Mu29.step (some s) c = (some s, [-2])) := by
      cases hC with
      | lift l => exact ⟨l, rfl, step_lift_far⟩
      | hang l => exact ⟨l, rfl, step_hang_far⟩
      | ask l b => exact ⟨l, rfl, step_ask_far⟩
      | line l => exact ⟨l, rfl, step_line_far⟩
      | wait l => exact ⟨l, rfl, step_wait_far⟩
      | begin_ n k => rcases hp with z | z | z | z | z <;> cases z
      | go n => rcases hp with z | z | z | z | z <;> cases z
      | cords => rcases hp with z | z | z | z | z <;> cases z
      | lamps => rcases hp with z | z | z | z | z <;> cases z
      | talks => rcases hp with z | z | z | z | z <;> cases z
      | sums => rcases hp with z | z | z | z | z <;> cases z
    obtain ⟨l, h0, hfar⟩ := first
    refine ⟨_, rfl, a, _, 0, .int (l : Int), rfl, rfl, hS, atI_nat (j := 0) h0, _, rfl, d, dx, _, rfl, D.desk, nb (by decide +kernel), d, dx, bl, r.b, rfl, D.desk, D.lst, r.b, r.dx, _, rfl, B.b, bF_none _ (by decide +kernel), r, s, rfl, B, _, _, rfl, rfl, _, rfl, decide ((l : Int) < (s.lines.length : Int)), -2, rfl, fun c1 => ?_, fun c1 dd hdd => ?_⟩
    · have hl : l < s.lines.length := by
        have := of_decide_eq_true c1
        omega
      cases hC with
      | lift l' =>
        have : l' = l := by
          have : V.int (l' : Int) = V.int (l : Int) := Option.some.inj h0
          injection this with z
          omega
        subst this
        refine ⟨_, rfl, _, _, rfl, rfl, _, rfl, ifT rfl ?_⟩
        exact ⟨_, rfl, d, dx, _, rfl, D.desk, nb (by decide +kernel), _, rfl, a, _, 0, .int (l' : Int), rfl, rfl, hS, atI_nat (j := 0) rfl, H0, d, s, l', rfl, DA, hl, aQ, aE⟩
      | hang l' =>
        have : l' = l := by
          have : V.int (l' : Int) = V.int (l : Int) := Option.some.inj h0
          injection this with z
          omega
        subst this
        refine ⟨_, rfl, _, _, rfl, rfl, _, rfl, ifF rfl ?_⟩
        refine ⟨_, rfl, _, _, rfl, rfl, _, rfl, ifT rfl ?_⟩
        exact ⟨_, rfl, d, dx, _, rfl, D.desk, nb (by decide +kernel), _, rfl, a, _, 0, .int (l' : Int), rfl, rfl, hS, atI_nat (j := 0) rfl, H0, d, s, l', rfl, DA, hl, aQ, aE⟩
      | ask l' b =>
        have : l' = l := by
          have : V.int (l' : Int) = V.int (l : Int) := Option.some.inj h0
          injection this with z
          omega
        subst this
        refine ⟨_, rfl, _, _, rfl, rfl, _, rfl, ifF rfl ?_⟩
        refine ⟨_, rfl, _, _, rfl, rfl, _, rfl, ifF rfl ?_⟩
        refine ⟨_, rfl, _, _, rfl, rfl, _, rfl, ifT rfl ?_⟩
        exact ⟨_, rfl, d, dx, _, rfl, D.desk, nb (by decide +kernel), _, rfl, a, _, 0, .int (l' : Int), rfl, rfl, hS, atI_nat (j := 0) rfl, _, rfl, a, _, 1, .int (b : Int), rfl, rfl, hS, atI_nat (j := 1) rfl, H0, d, s, l', b, rfl, DA, hl, aQ, aE⟩
      | line l' =>
        have : l' = l := by
          have : V.int (l' : Int) = V.int (l : Int) := Option.some.inj h0
          injection this with z
          omega
        subst this
        refine ⟨_, rfl, _, _, rfl, rfl, _, rfl, ifF rfl ?_⟩
        refine ⟨_, rfl, _, _, rfl, rfl, _, rfl, ifF rfl ?_⟩
        refine ⟨_, rfl, _, _, rfl, rfl, _, rfl, ifF rfl ?_⟩
        refine ⟨_, rfl, _, _, rfl, rfl, _, rfl, ifT rfl ?_⟩
        exact ⟨_, rfl, d, dx, _, rfl, D.desk, nb (by decide +kernel), _, rfl, a, _, 0, .int (l' : Int), rfl, rfl, hS, atI_nat (j := 0) rfl, H0, d, s, l', rfl, DA, hl, aQ, aE⟩
      | wait l' =>
        have : l' = l := by
          have : V.int (l' : Int) = V.int (l : Int) := Option.some.inj h0
          injection this with z
          omega
        subst this
        refine ⟨_, rfl, _, _, rfl, rfl, _, rfl, ifF rfl ?_⟩
        refine ⟨_, rfl, _, _, rfl, rfl, _, rfl, ifF rfl ?_⟩
        refine ⟨_, rfl, _, _, rfl, rfl, _, rfl, ifF rfl ?_⟩
        refine ⟨_, rfl, _, _, rfl, rfl, _, rfl, ifF rfl ?_⟩
        exact ⟨_, rfl, d, dx, _, rfl, D.desk, nb (by decide +kernel), _, rfl, a, _, 0, .int (l' : Int), rfl, rfl, hS, atI_nat (j := 0) rfl, H0, d, s, l', rfl, DA, hl, aQ, aE⟩
      | begin_ n k => rcases hp with z | z | z | z | z <;> cases z
      | go n => rcases hp with z | z | z | z | z <;> cases z
      | cords => rcases hp with z | z | z | z | z <;> cases z
      | lamps => rcases hp with z | z | z | z | z <;> cases z
      | talks => rcases hp with z | z | z | z | z <;> cases z
      | sums => rcases hp with z | z | z | z | z <;> cases z
    · have hl : s.lines.length ≤ l := by
        have := of_decide_eq_false c1
        omega
      exact aE (-2) dd _ (hfar hl) (DA.grow (same_new hdd)) upd_same
end
end Cb

namespace Cb
open PySem PySem.Spec PyProof.Rows L2
abbrev sAN : Stmt := top 36
/-! ## a method's call within a try -/
def tMeS (C : Addr) (m : Str) (sp : Sp) (E : L2.St → XK) (ta : TE) (t : TA) : TE := fun σ H Q => ta σ H fun x H1 => ∃ a dx fs, x = .ref a ∧ H1 a = some (.ins C dx fs) ∧ fs.lookup m = none ∧ t σ H1 fun vs H2 => sp (x :: vs) H2 Q (E σ)
theorem pmS {X : Cx} {CX : CXT} {k : Nat} {C : Addr} {ps : List Str} {sp : Sp} {E : L2.St → XK} {m : Str} {pos apos : Pos} {e o : Expr} {es : List Expr} {ta : TE} {t : TA} {pl : Sem Bool} (he : PE X o ta) (c : Cls X.K C)
    (M : MOk X.prog X.w X.K X.mg X.base CX C m k ps sp) (hr : Room k X.A) (hx : ∀ σ, PassesAt CX X σ (E σ)) (ha : PA X (e :: es) t)
    (hst : starEach (e :: es) X.env = (false, eval e X.env) :: starEach es X.env := by rfl) (hpl : (backTo pos (starEach es X.env)).any (·.1) = false := by rfl)
    (ht : eval (.Call (.Attribute o m apos) (e :: es) [] pos) X.env = (do
      let ov ← eval o X.env
      standAt apos.atName
      let (f, first) ← holding [ov] (getMethod ov m pl)
      callWith pos f first (backTo pos (starEach (e :: es) X.env)) (backToKw pos (keywordEach [] X.env))) := by rfl) :
    PE X (.Call (.Attribute o m apos) (e :: es) [] pos) (tMeS C m sp E ta t) := by
  obtain ⟨f, fd, hm, F, hb⟩ := M
  refine ⟨fun pins s σ H Q I h => PySem.W.methodCall_KW (pl := pl) (thn (he.run pins s σ H _ I h) fun u s1 hh => ?_) ht⟩
  obtain ⟨x, H1, I1, rx, a, dx, fs, ex, ea, l, q⟩ := hh
  subst ex
  obtain rfl : u = Value.ref a := rx
  refine getmeth_ok I1 ea c hm l (PySem.W.callWith_K (first := [.ref a]) (h₀ := X.base) I.ok.mod.kin hm.kp (thn (ha.run pos pins s1 σ H1 _ I1 q) fun us s2 hh => ?_) hst hpl)
  obtain ⟨vs, H2, I2, r, q2⟩ := hh
  exact ⟨I2.kIn, run_fnS (us := .ref a :: us) (vs := .ref a :: vs) F hr hb (hx σ) I2 (.cons rfl r) q2⟩
section
variable {P : Program} {w : World} {K : PySem.W.Frag} {mg : Str → Option Value} {base : Heap} {CP CB CD CR : Addr}
theorem scDD : FnScope ["self", "place", "numbers"] ["self", "place", "numbers"] (defScope sDD) := ⟨rfl, rfl, rfl, by decide +kernel, rfl, by decide +kernel, by decide +kernel⟩
theorem ok_DD (F : MFun K CD "answered" "Desk.answered" sDD ["self", "place", "numbers"]) (T : Txt K mg CP CB CD) (GM : GOk P w K mg base (L2.CX P w) "must" 3 ["so", "number"] (spMU CR)) (GN : MOk P w K mg base (L2.CX P w) CD "begin" 5 ["self", "lines", "pairs"] (spDN CD CB CP CR))
    (GO : MOk P w K mg base (L2.CX P w) CD "of_line" 11 ["self", "place", "numbers"] (spDO K CD CB CP CR)) (GG : MOk P w K mg base (L2.CX P w) CD "go" 9 ["self", "many"] (spDG CD CB CP CR)) (GC : MOk P w K mg base CX0 CD "cords" 2 ["self"] (spD0 CD CB CP CR .cords))
    (GL : MOk P w K mg base CX0 CD "lamps" 3 ["self"] (spD0 CD CB CP CR .lamps)) (GT : MOk P w K mg base CX0 CD "talks" 2 ["self"] (spD0 CD CB CP CR .talks)) (GS : MOk P w K mg base CX0 CD "sums" 2 ["self"] (spD0 CD CB CP CR .sums)) : MOk P w K mg base (L2.CX P w) CD "answered" 12 ["self", "place", "numbers"] (spDD K CD CB CP CR) := by
  obtain ⟨aO, gO, sO⟩ := T.gOF
  refine F.okX scDD (fun vs H Q E h => ?_) (fun f cdv A outer s H vs Q E hr h => ?_)
  · obtain ⟨H0, d, a, o, p, as, c, rfl, _⟩ := h
    rfl
  · obtain ⟨H0, d, a, o, p, as, c, rfl, hS, hC, D, aQ, aE⟩ := h
    have hr2 : Room 2 _ := hr.mono (by decide)
    have hr3 : Room 3 _ := hr.mono (by decide)
    have hr5 : Room 5 _ := hr.mono (by decide)
    have hr9 : Room 9 _ := hr.mono (by decide)
    refine ⟨_, pss_cons (ps_if (pt_cmp (pc_eqI (pv 1) pe_int)) (pss_one (ps_ret (pm (pv 0) T.clD GN hr5 (passes_call (takes_of rfl rfl rfl rfl) (fun _ _ _ _ h => h)) (by exact pa_cons (pe_ix ix_list (pv 2) pe_int (fun _ _ => rfl)) (pa_cons (pe_ix ix_list (pv 2) pe_int (fun _ _ => rfl)) pa_nil))))) pss_nil)
      (pss_cons (ps_expr (pf GM hr3 rfl (passes_call (takes_of rfl rfl rfl rfl) (fun _ _ _ _ h => h)) (by exact pa_cons (pe_cmpR (op_neNil hr.units0) (pe_fld (pv 0) rfl) (pe_lst pa_nil) (nomark _)) (pa_cons (pe_un un_neg pe_int) pa_nil))))
      (pss_cons (ps_if (pt_cmpR op_in_seq (pv 1) (pe_glob (v := .ref aO) (by rfl) gO rfl) rfl) (pss_one (ps_ret (pm (pv 0) T.clD GO hr (passes_call (takes_of rfl rfl rfl rfl) (fun _ _ _ _ h => h)) (by exact pa_cons (pv 1) (pa_cons (pv 2) pa_nil))))) pss_nil)
      (pss_cons (ps_if (pt_cmp (pc_eqI (pv 1) pe_int)) (pss_one (ps_ret (pm (pv 0) T.clD GG hr9 (passes_call (takes_of rfl rfl rfl rfl) (fun _ _ _ _ h => h)) (by exact pa_cons (pe_ix ix_list (pv 2) pe_int (fun _ _ => rfl)) pa_nil)))) pss_nil)
      (pss_cons (ps_if (pt_cmp (pc_eqI (pv 1) pe_int)) (pss_one (ps_ret (pm0 (E := E) (pv 0) T.clD GC hr2 pass0E))) pss_nil)
      (pss_cons (ps_if (pt_cmp (pc_eqI (pv 1) pe_int)) (pss_one (ps_ret (pm0 (E := E) (pv 0) T.clD GL hr3 pass0E))) pss_nil)
      (pss_cons (ps_if (pt_cmp (pc_eqI (pv 1) pe_int)) (pss_one (ps_ret (pm0 (E := E) (pv 0) T.clD GT hr2 pass0E))) pss_nil)
      (pss_one (ps_ret (pm0 (E := E) (pv 0) T.clD GS hr2 pass0E))))))))), ?_⟩
    have place : ∃ dx bl xs, H d = some (.ins CD dx (dF bl)) ∧ H bl = some (.lst xs) ∧ xs.isEmpty = o.isNone := by
      cases o with
      | none =>
        obtain ⟨a, b, D⟩ := D
        exact ⟨a, b, _, D.desk, D.lst, rfl⟩
      | some s =>
        obtain ⟨a, b, r, D⟩ := D
        exact ⟨a, b, _, D.desk, D.lst, rfl⟩
    obtain ⟨dx, bl, xs, hd, hbl, hxs⟩ := place
    have nb : ∀ {m : Str}, ((["boards"] : List Str).all fun g => !(m == g)) = true → (dF bl).lookup m = none := fun h => dF_none _ h
    refine ⟨_, rfl, _, _, rfl, rfl, _, rfl, ?_⟩
    by_cases p0 : p = 0
    · refine ifT (decide_eq_true p0) ?_
      cases hC with
      | begin_ n k =>
        exact ⟨_, rfl, d, dx, _, rfl, hd, nb (by decide +kernel), _, rfl, a, _, 0, .int (n : Int), rfl, rfl, hS, atI_nat (j := 0) rfl, _, rfl, a, _, 1, .int (k : Int), rfl, rfl, hS, atI_nat (j := 1) rfl, H0, d, o, n, k, rfl, D, aQ, aE⟩
      | _ => cases p0
    refine ifF (decide_eq_false p0) ?_
    refine ⟨_, rfl, d, CD, dx, _, _, rfl, hd, T.clD, T.nbo, dF_boards _, Nat.zero_le _, fun e he => ?_⟩
    have S1 := same_new (o := .lst []) he
    have hz : upd H e (.lst []) e = some (.lst []) := upd_same
    generalize upd H e (.lst []) = H1 at S1 hz
    have D1 := D.grow S1
    have hd1 := S1 _ _ hd
    have hS1 := S1.seq hS
    refine ⟨bl, e, _, rfl, rfl, SqL.of (S1 _ _ hbl), SqL.of hz, _, rfl, !xs.isEmpty, -9, rfl, fun c1 => ?_, fun c1 dd hdd => ?_⟩
    · cases o with
      | none =>
        rw [hxs] at c1
        cases c1
      | some s =>
        cases hC with
        | begin_ n k => exact absurd rfl p0
        | lift l => exact ⟨_, rfl, aO, _, rfl, .inr (sO _), rfl, rfl, _, rfl, ifT rfl ⟨_, rfl, d, dx, _, rfl, hd1, nb (by decide +kernel), _, rfl, _, rfl, H0, d, a, s, 1, _, _, rfl, hS1, .lift l, .inl rfl, D1, aQ, aE⟩⟩
        | hang l => exact ⟨_, rfl, aO, _, rfl, .inr (sO _), rfl, rfl, _, rfl, ifT rfl ⟨_, rfl, d, dx, _, rfl, hd1, nb (by decide +kernel), _, rfl, _, rfl, H0, d, a, s, 2, _, _, rfl, hS1, .hang l, .inr (.inl rfl), D1, aQ, aE⟩⟩
        | ask l b => exact ⟨_, rfl, aO, _, rfl, .inr (sO _), rfl, rfl, _, rfl, ifT rfl ⟨_, rfl, d, dx, _, rfl, hd1, nb (by decide +kernel), _, rfl, _, rfl, H0, d, a, s, 3, _, _, rfl, hS1, .ask l b, .inr (.inr (.inl rfl)), D1, aQ, aE⟩⟩
        | line l => exact ⟨_, rfl, aO, _, rfl, .inr (sO _), rfl, rfl, _, rfl, ifT rfl ⟨_, rfl, d, dx, _, rfl, hd1, nb (by decide +kernel), _, rfl, _, rfl, H0, d, a, s, 5, _, _, rfl, hS1, .line l, .inr (.inr (.inr (.inl rfl))), D1, aQ, aE⟩⟩
        | wait l => exact ⟨_, rfl, aO, _, rfl, .inr (sO _), rfl, rfl, _, rfl, ifT rfl ⟨_, rfl, d, dx, _, rfl, hd1, nb (by decide +kernel), _, rfl, _, rfl, H0, d, a, s, 9, _, _, rfl, hS1, .wait l, .inr (.inr (.inr (.inr rfl))), D1, aQ, aE⟩⟩
        | go n =>
          refine ⟨_, rfl, aO, _, rfl, .inr (sO _), rfl, rfl, _, rfl, ifF rfl ?_⟩
          refine ⟨_, rfl, _, _, rfl, rfl, _, rfl, ifT rfl ?_⟩
          exact ⟨_, rfl, d, dx, _, rfl, hd1, nb (by decide +kernel), _, rfl, a, _, 0, .int (n : Int), rfl, rfl, hS1, atI_nat (j := 0) rfl, H0, d, s, n, rfl, D1, aQ, aE⟩
        | cords =>
          refine ⟨_, rfl, aO, _, rfl, .inr (sO _), rfl, rfl, _, rfl, ifF rfl ?_⟩
          refine ⟨_, rfl, _, _, rfl, rfl, _, rfl, ifF rfl ?_⟩
          refine ⟨_, rfl, _, _, rfl, rfl, _, rfl, ifT rfl ?_⟩
          exact ⟨_, rfl, d, dx, _, rfl, hd1, nb (by decide +kernel), H0, d, s, rfl, D1, aQ, aE⟩
        | lamps =>
          refine ⟨_, rfl, aO, _, rfl, .inr (sO _), rfl, rfl, _, rfl, ifF rfl ?_⟩
          refine ⟨_, rfl, _, _, rfl, rfl, _, rfl, ifF rfl ?_⟩
          refine ⟨_, rfl, _, _, rfl, rfl, _, rfl, ifF rfl ?_⟩
          refine ⟨_, rfl, _, _, rfl, rfl, _, rfl, ifT rfl ?_⟩
          exact ⟨_, rfl, d, dx, _, rfl, hd1, nb (by decide +kernel), H0, d, s, rfl, D1, aQ, aE⟩
        | talks =>
          refine ⟨_, rfl, aO, _, rfl, .inr (sO _), rfl, rfl, _, rfl, ifF rfl ?_⟩
          refine ⟨_, rfl, _, _, rfl, rfl, _, rfl, ifF rfl ?_⟩
          refine ⟨_, rfl, _, _, rfl, rfl, _, rfl, ifF rfl ?_⟩
          refine ⟨_, rfl, _, _, rfl, rfl, _, rfl, ifF rfl ?_⟩
          refine ⟨_, rfl, _, _, rfl, rfl, _, rfl, ifT rfl ?_⟩
          exact ⟨_, rfl, d, dx, _, rfl, hd1, nb (by decide +kernel), H0, d, s, rfl, D1, aQ, aE⟩
        | sums =>
          refine ⟨_, rfl, aO, _, rfl, .inr (sO _), rfl, rfl, _, rfl, ifF rfl ?_⟩
          refine ⟨_, rfl, _, _, rfl, rfl, _, rfl, ifF rfl ?_⟩
          refine ⟨_, rfl, _, _, rfl, rfl, _, rfl, ifF rfl ?_⟩
          refine ⟨_, rfl, _, _, rfl, rfl, _, rfl, ifF rfl ?_⟩
          refine ⟨_, rfl, _, _, rfl, rfl, _, rfl, ifF rfl ?_⟩
          exact ⟨_, rfl, d, dx, _, rfl, hd1, nb (by decide +kernel), H0, d, s, rfl, D1, aQ, aE⟩
    · cases o with
      | none => exact aE (-9) dd _ (step_nobody hC p0) (D1.grow (same_new hdd)) upd_same
      | some s =>
        rw [hxs] at c1
        cases c1
theorem scDX : FnScope ["self", "place", "numbers", "answer", "refused"] ["self", "place", "numbers"] (defScope sDX) := ⟨rfl, rfl, rfl, by decide +kernel, rfl, by decide +kernel, by decide +kernel⟩
theorem ok_DX (F : MFun K CD "called" "Desk.called" sDX ["self", "place", "numbers"]) (T : Txt K mg CP CB CD) (R : RefTxt K mg CR) (GD : MOk P w K mg base (L2.CX P w) CD "answered" 12 ["self", "place", "numbers"] (spDD K CD CB CP CR)) : MOk P w K mg base CX0 CD "called" 13 ["self", "place", "numbers"] (spDX K CD CB CP) := by
  refine F.ok scDX (fun vs H Q E h => ?_) (fun f cdv A outer s H vs Q E hr h => ?_)
  · obtain ⟨H0, d, a, o, p, as, c, rfl, _⟩ := h
    rfl
  · obtain ⟨H0, d, a, o, p, as, c, rfl, hS, hC, D, q⟩ := h
    refine ⟨_, pss_cons (ps_try_as (i := 4) (tb := fun W => tAsg (tMeS CD "answered" (spDD K CD CB CP CR) (WE W) (tVar 0) (tCons (tVar 1) (tCons (tVar 2) tNil))) (gName 3)) (ts := fun a cls d => tRet (tLst (tCons (tXf a cls d CR "number" (tVar 4)) tNil))) (Wout := fun _ _ _ _ => False) rfl rfl scDX.nd rfl rfl ⟨rfl, by decide, Or.inl R.gR⟩ takes0
        (fun W pn xe tk _ => pss_one (ps_set (i := 3) scDX.nd rfl (Or.inl rfl) (by exact (pmS (pv 0) T.clD GD hr (fun σ => passAt tk σ) (by exact (pa_cons (pv 1) (pa_cons (pv 2) pa_nil)))))))
        (fun a oe cls d pn hz hf => pss_one (ps_ret (by exact (pe_lst (pa_cons (pe_xf R.xf R.nN hz hf (pv 4)) pa_nil))))))
      (pss_one (ps_ret (pv 3))), ?_⟩
    have place : ∃ dx bl, H d = some (.ins CD dx (dF bl)) := by
      cases o with
      | none =>
        obtain ⟨a, b, D⟩ := D
        exact ⟨a, b, D.desk⟩
      | some s =>
        obtain ⟨a, b, r, D⟩ := D
        exact ⟨a, b, D.desk⟩
    obtain ⟨dx, bl, hd⟩ := place
    have smd : ∀ {H' : Hp}, DeskAt CD CB CP H0 H' d o → Same H0 H' := fun {H'} D => by
      cases o with
      | none =>
        obtain ⟨a, b, D⟩ := D
        exact D.same
      | some s =>
        obtain ⟨a, b, r, D⟩ := D
        exact D.same
    refine ⟨_, rfl, d, dx, _, rfl, hd, dF_none _ (by decide +kernel), _, rfl, _, rfl, H0, d, a, o, p, as, c, rfl, hS, hC, D, fun o' ans H' p' hst D' hp fp => ?_, fun n dd H' hst D' hdd => ?_⟩
    · exact ⟨_, rfl, q o' ans H' p' hst D' hp fp⟩
    · refine ⟨true, R.te, fun _ a0 _ => ?_, fun z => Bool.noConfusion z⟩
      refine ⟨_, rfl, rfl, rfl, dd, _, _, rfl, hdd, lk_here, (by show 1 ≤ sizeLine; decide), fun e he => ?_⟩
      exact q o [n] _ e hst (D'.grow (same_new he)) upd_same ((smd D').free he)
end
end Cb

namespace Cb
open PySem PySem.Spec PyProof.Rows L2
def spAN (K : PySem.W.Frag) : Sp := fun vs H Q _ => ∃ (a : Addr) (ns : List Int) (cs : List Mu29.Call), vs = [.ref a] ∧ SqL K H a (ns.map V.int) ∧ Parse ns cs ∧ (outs none cs).length ≤ 10000000 ∧
  ∀ (H' : Hp) (p : Addr), H' p = some (.lst ((outs none cs).map V.int)) → Q (.ref p) H'
/-! ## the list that grows beside the desk -/
section
variable {CD CB CP : Addr} {H : Hp} {r : BR} {s : Mu29.State} {t : Addr} {xs ys : List V}
theorem BoardAt.apart (B : BoardAt CB CP H r s) (n : t ∉ foot r) (h : H t = some (.lst xs)) : BoardAt CB CP (upd H t (.lst ys)) r s := by
  have ne : ∀ {a : Addr}, a ∈ foot r → a ≠ t := fun ha z => n (by rw [← z]; exact ha)
  refine ⟨(upd_ne (ne (foot_b r))).trans B.b, (upd_ne (ne (foot_off r))).trans B.off, (upd_ne (ne (foot_lit r))).trans B.lit, (upd_ne (ne (by simp [foot]))).trans B.prs, B.len, fun i p c hp hc => ?_, B.nd, ?_, B.d1, B.d2, B.d3, B.d4, B.d5, B.d6, B.nl, B.nc⟩
  · obtain ⟨dx, row, h1, h2⟩ := B.pair i p c hp hc
    exact ⟨dx, row, (upd_ne (ne (foot_p hp))).trans h1, h2⟩
  · obtain ⟨ts, h1, h2, h3⟩ := B.nt
    exact ⟨ts, (upd_ne (ne (foot_nt r))).trans h1, h2, fun i u k a b => (upd_ne (tne (h3 i u k a b) h (fun _ z => by cases z))).trans (h3 i u k a b)⟩
theorem DeskAt.told {Hs : Hp} {d : Addr} {o : Option Mu29.State} (D : DeskAt CD CB CP (upd Hs t (.lst xs)) H d o) : DeskAt CD CB CP (upd Hs t (.lst ys)) (upd H t (.lst ys)) d o := by
  have ht0 : upd Hs t (.lst xs) t = some (.lst xs) := upd_same
  have ne : ∀ {a : Addr}, upd Hs t (.lst xs) a = none → a ≠ t ∧ upd Hs t (.lst ys) a = none := fun {a} h => by
    have n : a ≠ t := fun z => by rw [z, ht0] at h; cases h
    exact ⟨n, (upd_ne n).trans ((upd_ne n).symm.trans h)⟩
  have sm : Same (upd Hs t (.lst xs)) H → Same (upd Hs t (.lst ys)) (upd H t (.lst ys)) := fun S a u h => by
    by_cases z : a = t
    · rw [z] at h ⊢
      rw [upd_same] at h ⊢
      exact h
    · rw [upd_ne z] at h ⊢
      exact S a u ((upd_ne z).trans h)
  cases o with
  | none =>
    obtain ⟨dx, bl, D⟩ := D
    exact ⟨dx, bl, sm D.same, (ne D.nd).2, (ne D.nbl).2, (upd_ne (ne D.nd).1).trans D.desk, (upd_ne (ne D.nbl).1).trans D.lst⟩
  | some s =>
    obtain ⟨dx, bl, r, D⟩ := D
    have tn : t ∉ foot r := fun z => (ne (D.nf t z)).1 rfl
    exact ⟨dx, bl, r, sm D.same, (ne D.nd).2, (ne D.nbl).2, fun a ha => (ne (D.nf a ha)).2, (upd_ne (ne D.nd).1).trans D.desk, (upd_ne (ne D.nbl).1).trans D.lst, D.board.apart tn (D.same _ _ ht0), D.fd, D.fbl, D.wf, D.now⟩
theorem DeskAt.sm {H0 : Hp} {d : Addr} {o : Option Mu29.State} (D : DeskAt CD CB CP H0 H d o) : Same H0 H := by
  cases o with
  | none =>
    obtain ⟨dx, bl, D⟩ := D
    exact D.same
  | some s =>
    obtain ⟨dx, bl, r, D⟩ := D
    exact D.same
theorem DeskAt.ins {H0 : Hp} {d : Addr} {o : Option Mu29.State} (D : DeskAt CD CB CP H0 H d o) : ∃ dx bl, H d = some (.ins CD dx (dF bl)) := by
  cases o with
  | none =>
    obtain ⟨dx, bl, D⟩ := D
    exact ⟨dx, bl, D.desk⟩
  | some s =>
    obtain ⟨dx, bl, r, D⟩ := D
    exact ⟨dx, bl, D.desk⟩
end
abbrev manyV : List V := [.int 2, .int 1, .int 1, .int 2, .int 1, .int 1, .int 0, .int 0, .int 0, .int 1, .int 0]
theorem many_at {p : Int} {as : List Int} {c : Mu29.Call} (h : CallIs p as c) : atI manyV p = some (.int (as.length : Int)) := by
  cases h <;> rfl
/-- the numbers behind a call's own -/
theorem cut_args {ns as t : List Int} {p : Int} {i : Nat} (h : ns.drop i = p :: (as ++ t)) (hi : i < ns.length) : cutV (ns.map V.int) (some ((i : Int) + 1)) (some ((i : Int) + 1 + (as.length : Int))) = as.map V.int := by
  have hl : ns.length - i = 1 + (as.length + t.length) := by
    have := congrArg List.length h
    rw [List.length_drop, List.length_cons, List.length_append] at this
    omega
  have e1 : ((i : Int) + 1) = ((i + 1 : Nat) : Int) := by omega
  have e2 : ((i : Int) + 1 + (as.length : Int)) = ((i + 1 + as.length : Nat) : Int) := by omega
  unfold cutV
  rw [e2, e1, HT.sIx_nat, HT.sIx_nat, List.length_map]
  have m1 : min (i + 1) ns.length = i + 1 := by omega
  have m2 : min (i + 1 + as.length) ns.length = i + 1 + as.length := by omega
  rw [m1, m2]
  have d1 : ns.drop (i + 1) = as ++ t := by
    have : ns.drop (i + 1) = (ns.drop i).drop 1 := by rw [List.drop_drop]
    rw [this, h]
    rfl
  rw [← List.map_drop, d1, ← List.map_take]
  have : i + 1 + as.length - (i + 1) = as.length := by omega
  rw [this, List.take_left]
section
variable {P : Program} {w : World} {K : PySem.W.Frag} {mg : Str → Option Value} {base : Heap} {CP CB CD CR : Addr}
theorem scAN : FnScope ["calls", "desk", "told", "at", "end", "answer"] ["calls"] (defScope sAN) := ⟨rfl, rfl, rfl, by decide +kernel, rfl, by decide +kernel, by decide +kernel⟩
theorem ok_AN {f : Addr} {fd : FuncData} (F : Fun K "answers" "answers" sAN f fd) (T : Txt K mg CP CB CD) (GI : KOk P w K mg base CX0 CD "Desk" 1 ["self"] (spDI CD)) (GX : MOk P w K mg base CX0 CD "called" 13 ["self", "place", "numbers"] (spDX K CD CB CP)) : FnOk P w K mg base CX0 14 f fd ["calls"] (spAN K) := by
  obtain ⟨aM, gM, sM⟩ := T.gMANY
  refine F.ok scAN (fun vs H Q E h => ?_) (fun cdv A outer s H vs Q E hr h => ?_)
  · obtain ⟨a, ns, cs, rfl, _⟩ := h
    rfl
  · obtain ⟨a, ns, cs, rfl, hS, hP, hlen, q⟩ := h
    have hr2 : Room 2 _ := hr.mono (by decide)
    refine ⟨_, pss_cons (ps_set (i := 1) scAN.nd rfl (Or.inl rfl) (pk0 GI hr2 rfl pass0))
      (pss_cons (ps_set (i := 2) scAN.nd rfl (Or.inl rfl) (pe_lst pa_nil))
      (pss_cons (ps_set (i := 3) scAN.nd rfl (Or.inl rfl) pe_int)
      (pss_cons (ps_while PassesOwn.never (pt_cmp (pc_lt (pv 3) (pe_callB call_len_seq (by rfl) T.len PySem.boot_len (pa_cons (pv 0) pa_nil))))
        (pss_cons (ps_set (i := 4) scAN.nd rfl (Or.inl rfl) (pe_op op_add (pe_op op_add (pv 3) pe_int) (pe_ix ix_tup (pe_glob (v := .ref aM) (by rfl) gM rfl) (pe_ix ix_list (pv 0) (pv 3) (fun _ _ => rfl)) (fun _ _ => rfl))))
        (pss_cons (ps_set (i := 5) scAN.nd rfl (Or.inl rfl) (pm (pv 1) T.clD GX hr pass0 (pa_cons (pe_ix ix_list (pv 0) (pv 3) (fun _ _ => rfl)) (pa_cons (pe_slice sl_list (pv 0) (po_some (pe_op op_add (pv 3) pe_int)) (po_some (pv 4))) pa_nil))))
        (pss_cons (ps_expr (pe_bm PySem.F.plainAttrs_list PySem.F.slot_list_append PySem.F.type_list_append mt_append (pv 2) (pa_cons (pe_callB call_len_seq (by rfl) T.len PySem.boot_len (pa_cons (pv 5) pa_nil)) pa_nil)))
        (pss_cons (ps_expr (pe_bm PySem.F.plainAttrs_list PySem.F.slot_list_extend PySem.F.type_list_extend mt_extend (pv 2) (pa_cons (pv 5) pa_nil)))
        (pss_one (ps_set (i := 3) scAN.nd rfl (Or.inl rfl) (pv 4))))))))
      (pss_one (ps_ret (pv 2)))))), ?_⟩
    -- desk = Desk()
    intro d dx hd hdx hne
    refine ⟨d, dx, rfl, upd_same, fun bl hbl => ⟨rfl, ?_⟩⟩
    have nbd : bl ≠ d := fun z => by rw [z, upd_same] at hbl; cases hbl
    have hbl1 : upd H dx (.own d) bl = none := (upd_ne nbd).symm.trans hbl
    have nbx : bl ≠ dx := fun z => by rw [z, upd_same] at hbl1; cases hbl1
    have hbl0 : H bl = none := (upd_ne nbx).symm.trans hbl1
    have DN : DeskN CD H (upd (upd (upd (upd H dx (.own d)) d (.ins CD dx [])) bl (.lst [])) d (.ins CD dx (dF bl))) d dx bl := by
      refine ⟨fun b o h => ?_, hd, hbl0, upd_same, (upd_ne nbd).trans upd_same⟩
      rw [upd_ne (ne_of_none h hd), upd_ne (ne_of_none h hbl0), upd_ne (ne_of_none h hd), upd_ne (ne_of_none h hdx)]
      exact h
    generalize upd (upd (upd (upd H dx (.own d)) d (.ins CD dx [])) bl (.lst [])) d (.ins CD dx (dF bl)) = H1 at DN
    -- told = []
    refine ⟨Nat.zero_le _, fun t ht => ?_⟩
    have ht0 : H t = none := DN.same.free ht
    have ndt : d ≠ t := ne_of_none DN.desk ht
    have nblt : bl ≠ t := ne_of_none DN.lst ht
    have D0 : DeskAt CD CB CP (upd H t (.lst (([] : List Int).map V.int))) (upd H1 t (.lst (([] : List Int).map V.int))) d none := by
      refine ⟨dx, bl, fun b o h => ?_, (upd_ne ndt).trans hd, (upd_ne nblt).trans hbl0, (upd_ne ndt).trans DN.desk, (upd_ne nblt).trans DN.lst⟩
      by_cases z : b = t
      · rw [z] at h ⊢
        rw [upd_same] at h ⊢
        exact h
      · rw [upd_ne z] at h ⊢
        exact DN.same b o h
    have S0 : ∀ x, Same H (upd H t x) := fun x => same_new ht0
    refine ⟨fun m σ' H' => ∃ (i : Nat) (o : Option Mu29.State) (rest : List Mu29.Call) (done : List Int) (v4 v5 : Option V), m = ns.length - i ∧ i ≤ ns.length ∧ σ' = [some (.ref a), some (.ref d), some (.ref t), some (.int (i : Int)), v4, v5] ∧ Parse (ns.drop i) rest ∧ done ++ outs o rest = outs none cs ∧ DeskAt CD CB CP (upd H t (.lst (done.map V.int))) H' d o,
      ⟨ns.length, 0, none, cs, [], none, none, rfl, Nat.zero_le _, rfl, hP, rfl, D0⟩, ?_⟩
    rintro m σ' H' ⟨i, o, rest, done, v4, v5, rfl, hi, rfl, hR, hD, D⟩
    have hS' : SqL K H' a (ns.map V.int) := (((S0 _).trans D.sm)).seq hS
    have hT : H' t = some (.lst (done.map V.int)) := D.sm _ _ upd_same
    refine ⟨_, rfl, _, rfl, a, _, rfl, .inl hS', _, _, rfl, rfl, _, rfl, ?_⟩
    have elen : ((ns.map V.int).length : Int) = (ns.length : Int) := by rw [List.length_map]
    generalize hnd : ns.drop i = rem at hR
    cases hR with
    | nil =>
      have hge : ns.length ≤ i := by
        have := congrArg List.length hnd
        rw [List.length_drop] at this
        simp at this
        omega
      refine ifF (decide_eq_false (by rw [elen]; omega)) ?_
      refine ⟨_, rfl, q H' t ?_⟩
      have e : done = outs none cs := by
        rw [← hD]
        show done = done ++ []
        simp
      rw [← e]
      exact hT
    | @cons p as tl c rest' hc hR' =>
      have hlt : i < ns.length := by
        rcases Nat.lt_or_ge i ns.length with z | z
        · exact z
        · rw [List.drop_eq_nil_of_le z] at hnd
          cases hnd
      refine ifT (decide_eq_true (by rw [elen]; omega)) ?_
      have hp : ns[i]? = some p := by
        have := congrArg (fun l => l[0]?) hnd
        simp at this
        exact this
      have hpi : (ns.map V.int)[i]? = some (.int p) := by
        rw [List.getElem?_map, hp]
        rfl
      have hdr : ns.drop (i + 1 + as.length) = tl := by
        have : ns.drop (i + 1 + as.length) = (ns.drop i).drop (1 + as.length) := by
          rw [List.drop_drop]
          congr 1
          omega
        rw [this, hnd, Nat.add_comm 1, List.drop_succ_cons, List.drop_left]
      have hle : i + 1 + as.length ≤ ns.length := by
        have := congrArg List.length hnd
        rw [List.length_drop, List.length_cons, List.length_append] at this
        omega
      have hout : outs o (c :: rest') = ((Mu29.step o c).2.length : Int) :: ((Mu29.step o c).2 ++ outs (Mu29.step o c).1 rest') := rfl
      have htot : done.length + 1 + (Mu29.step o c).2.length ≤ 10000000 := by
        have := congrArg List.length hD
        rw [hout, List.length_append, List.length_cons, List.length_append] at this
        omega
      refine ⟨fun σ2 H2 => ∃ (o2 : Option Mu29.State) (rest2 : List Mu29.Call) (done2 : List Int) (w4 w5 : Option V), σ2 = [some (.ref a), some (.ref d), some (.ref t), some (.int ((i + 1 + as.length : Nat) : Int)), w4, w5] ∧ Parse (ns.drop (i + 1 + as.length)) rest2 ∧ done2 ++ outs o2 rest2 = outs none cs ∧ DeskAt CD CB CP (upd H t (.lst (done2.map V.int))) H2 d o2, fun σ2 H2 ⟨o2, rest2, done2, w4, w5, e2, P2, O2, D2⟩ => ⟨ns.length - (i + 1 + as.length), by omega, i + 1 + as.length, o2, rest2, done2, w4, w5, rfl, hle, e2, P2, O2, D2⟩, ?_⟩
      -- end = at + 1 + MANY[calls[at]]
      refine ⟨_, rfl, _, _, rfl, rfl, _, rfl, _, rfl, a, _, _, _, rfl, rfl, hS', atI_nat hpi, aM, _, _, _, rfl, rfl, sM _, many_at hc, _, _, rfl, rfl, ?_⟩
      -- answer = desk.called(..)
      obtain ⟨dx', bl', hdk⟩ := D.ins
      refine ⟨_, rfl, d, dx', _, rfl, hdk, dF_none _ (by decide +kernel), _, rfl, _, rfl, a, _, _, _, rfl, rfl, hS', atI_nat hpi, _, rfl, _, rfl, _, _, rfl, rfl, _, rfl, _, rfl, _, rfl, a, _, rfl, hS', fun g hg => ?_⟩
      rw [cut_args hnd hlt]
      refine ⟨upd H t (.lst (done.map V.int)), d, g, o, p, as, c, rfl, SqL.of upd_same, hc, D.grow (same_new hg), fun o' ans H2 p' hst D2 hp' fp' => ?_⟩
      have ea : ans = (Mu29.step o c).2 := by rw [hst]
      have eo : o' = (Mu29.step o c).1 := by rw [hst]
      have hT2 : H2 t = some (.lst (done.map V.int)) := D2.sm _ _ upd_same
      have npt : p' ≠ t := fun z => by rw [z, upd_same] at fp'; cases fp'
      -- told.append(len(answer))
      refine ⟨_, rfl, .inl ⟨rfl, _, SqL.of hT2⟩, _, rfl, p', _, rfl, .inl (SqL.of hp'), t, _, _, rfl, rfl, hT2, (by rw [List.length_map, sizeLine_eq]; omega), ?_⟩
      -- told.extend(answer)
      refine ⟨_, rfl, .inl ⟨rfl, _, SqL.of upd_same⟩, _, rfl, t, p', _, _, rfl, rfl, upd_same, (upd_ne npt).trans hp', ?_, ?_⟩
      · rw [List.length_append, List.length_map, List.length_map, sizeLine_eq, ea]
        show _ + 1 + _ ≤ _
        omega
      · rw [upd_upd]
        have e3 : (done.map V.int ++ [V.int ((ans.map V.int).length : Int)]) ++ ans.map V.int = (done ++ ((Mu29.step o c).2.length : Int) :: (Mu29.step o c).2).map V.int := by
          rw [List.length_map, ea, List.map_append, List.map_cons, List.append_assoc]
          rfl
        rw [e3]
        refine ⟨_, rfl, o', rest', done ++ ((Mu29.step o c).2.length : Int) :: (Mu29.step o c).2, some (.int ((i : Int) + 1 + (as.length : Int))), some (.ref p'), ?_, ?_, ?_, D2.told⟩
        · have e4 : (i : Int) + 1 + (as.length : Int) = ((i + 1 + as.length : Nat) : Int) := by omega
          rw [← e4]
          rfl
        · rw [hdr]
          exact hR'
        · rw [← hD, hout, eo, List.append_assoc]
          rfl
end
end Cb

namespace Cb
open PySem PySem.Spec PyProof.Rows L2
/-! ## the defs as they stand in the text -/
structure Funs (K : PySem.W.Frag) (mg : Str → Option Value) (CP CB CD : Addr) : Prop where
  fPI : KFun K mg CP "Pair" "Pair.__init__" sPI ["self", "state", "caller", "other", "since"]
  fPC : MFun K CP "copied" "Pair.copied" sPC ["self"]
  fPB : MFun K CP "become" "Pair.become" sPB ["self", "state"]
  fPF : MFun K CP "free" "Pair.free" sPF ["self"]
  fPH : MFun K CP "has_second" "Pair.has_second" sPH ["self"]
  fPN : MFun K CP "is_in" "Pair.is_in" sPN ["self", "line"]
  fPR : MFun K CP "rings_at" "Pair.rings_at" sPR ["self", "line"]
  fPE : MFun K CP "far_end" "Pair.far_end" sPE ["self", "line"]
  fPT : MFun K CP "told" "Pair.told" sPT ["self"]
  fBI : KFun K mg CB "Board" "Board.__init__" sBI ["self", "lines", "pairs"]
  fBC : MFun K CB "copied" "Board.copied" sBC ["self"]
  fBL : MFun K CB "lines" "Board.lines" sBL ["self"]
  fBP : MFun K CB "pairs_in" "Board.pairs_in" sBP ["self", "line"]
  fBQ : MFun K CB "is_plugged" "Board.is_plugged" sBQ ["self", "line"]
  fBK : MFun K CB "look" "Board.look" sBK ["self", "line"]
  fBR : MFun K CB "ringing_at" "Board.ringing_at" sBR ["self", "line"]
  fBU : MFun K CB "lift" "Board.lift" sBU ["self", "line"]
  fBH : MFun K CB "hang" "Board.hang" sBH ["self", "line"]
  fBT : MFun K CB "lit_lines" "Board.lit_lines" sBT ["self"]
  fBM : MFun K CB "many_free" "Board.many_free" sBM ["self"]
  fBE : MFun K CB "heard" "Board.heard" sBE ["self", "line"]
  fDI : KFun K mg CD "Desk" "Desk.__init__" sDI ["self"]
  fDB : MFun K CD "board" "Desk.board" sDB ["self"]
  fDN : MFun K CD "begin" "Desk.begin" sDN ["self", "lines", "pairs"]
  fDU : MFun K CD "lift" "Desk.lift" sDU ["self", "line"]
  fDH : MFun K CD "hang" "Desk.hang" sDH ["self", "line"]
  fDA : MFun K CD "ask" "Desk.ask" sDA ["self", "line", "number"]
  fDG : MFun K CD "go" "Desk.go" sDG ["self", "many"]
  fDL : MFun K CD "line" "Desk.line" sDL ["self", "line"]
  fDC : MFun K CD "cords" "Desk.cords" sDC ["self"]
  fDM : MFun K CD "lamps" "Desk.lamps" sDM ["self"]
  fDT : MFun K CD "talks" "Desk.talks" sDT ["self"]
  fDW : MFun K CD "wait" "Desk.wait" sDW ["self", "line"]
  fDS : MFun K CD "sums" "Desk.sums" sDS ["self"]
  fDO : MFun K CD "of_line" "Desk.of_line" sDO ["self", "place", "numbers"]
  fDD : MFun K CD "answered" "Desk.answered" sDD ["self", "place", "numbers"]
  fDX : MFun K CD "called" "Desk.called" sDX ["self", "place", "numbers"]
  fOL : GFun K mg "rang_long" sOL ["board", "pair"]
  fOI : GFun K mg "is_to_be_pulled" sOI ["board", "pair"]
  fOP : GFun K mg "pull" sOP ["board", "pair"]
  fOC : GFun K mg "connect" sOC ["board", "pair"]
  fOB : GFun K mg "longest_lit" sOB ["board"]
  fOG : GFun K mg "plug_in" sOG ["board", "pair"]
  fOW : GFun K mg "work" sOW ["board"]
  fOU : GFun K mg "unit" sOU ["board"]
  fWU : GFun K mg "units_till" sWU ["board", "line"]
  fMU : GFun K mg "must" sMU ["so", "number"]
section
variable {P : Program} {w : World} {K : PySem.W.Frag} {mg : Str → Option Value} {base : Heap} {CP CB CD CR : Addr}
/-- every def keeps its promise: the last one is answers -/
theorem all_ok {f : Addr} {fd : FuncData} (T : Txt K mg CP CB CD) (R : RefTxt K mg CR) (F : Funs K mg CP CB CD) (FA : Fun K "answers" "answers" sAN f fd) : FnOk P w K mg base CX0 14 f fd ["calls"] (spAN K) := by
  have gPI := ok_PI (P := P) (w := w) (base := base) F.fPI T
  have gPC := ok_PC F.fPC T gPI
  have gPB := ok_PB (P := P) (w := w) (base := base) F.fPB T
  have gPF := ok_PF (P := P) (w := w) (base := base) F.fPF T
  have gPH := ok_PH (P := P) (w := w) (base := base) F.fPH T
  have gPN := ok_PN F.fPN T gPH
  have gPR := ok_PR (P := P) (w := w) (base := base) F.fPR T
  have gPE := ok_PE (P := P) (w := w) (base := base) F.fPE T
  have gPT := ok_PT (P := P) (w := w) (base := base) F.fPT T
  have gBI := ok_BI F.fBI T gPI
  have gBC := ok_BC F.fBC T gBI gPC
  have gBL := ok_BL (P := P) (w := w) (base := base) F.fBL T
  have gBP := ok_BP F.fBP T gPN
  have gBQ := ok_BQ F.fBQ T gBP
  have gBK := ok_BK F.fBK T gBQ
  have gBR := ok_BR F.fBR T gPR
  have gBU := ok_BU F.fBU T gBR gPB gBK
  have gBH := ok_BH F.fBH T gBK
  have gBT := ok_BT F.fBT T gBL
  have gBM := ok_BM (P := P) (w := w) (base := base) F.fBM T
  have gBE := ok_BE F.fBE T gBR gBP gPE
  have gOL := ok_OL (P := P) (w := w) (base := base) F.fOL T
  have gOI := ok_OI F.fOI T gOL
  have gOP := ok_OP F.fOP T gPH gPB gPF gBK
  have gOC := ok_OC F.fOC T gBL gBQ gPB gBK
  have gOB := ok_OB F.fOB T gBT
  have gOG := ok_OG F.fOG T gOB gPB gBK
  have gOW := ok_OW F.fOW T gOI gOP gOC gBT gOG
  have gOU := ok_OU F.fOU T gOW
  have gWU := ok_WU F.fWU T gBC gOU gBQ
  have gMU := ok_MU (P := P) (w := w) (base := base) F.fMU R
  have gDI := ok_DI (P := P) (w := w) (base := base) F.fDI T
  have gDB := ok_DB (P := P) (w := w) (base := base) F.fDB T
  have gDN := ok_DN F.fDN T gMU gBI
  have gDU := ok_DU F.fDU T gMU gDB gBU gBE
  have gDH := ok_DH F.fDH T gMU gDB gBH
  have gDA := ok_DA (CB := CB) F.fDA T gMU gDB gPB
  have gDG := ok_DG F.fDG T gMU gDB gOU
  have gDL := ok_DL (CR := CR) F.fDL T gDB gBE
  have gDC := ok_DC (CB := CB) (CR := CR) F.fDC T gDB gPT
  have gDM := ok_DM (CR := CR) F.fDM T gDB gBT
  have gDT := ok_DT (P := P) (w := w) (base := base) (CB := CB) (CP := CP) (CR := CR) F.fDT T gDB
  have gDW := ok_DW F.fDW T gMU gDB gBT gWU
  have gDS := ok_DS (CR := CR) F.fDS T gDB gBM
  have gDO := ok_DO F.fDO T gMU gDB gBL gDU gDH gDA gDL gDW
  have gDD := ok_DD F.fDD T gMU gDN gDO gDG gDC gDM gDT gDS
  have gDX := ok_DX F.fDX T R gDD
  exact ok_AN FA T gDI gDX
end
/-! ## from what is found in the written part -/
section
variable {K : PySem.W.Frag} {mg : Str → Option Value} {C f : Addr} {m x qual : Str} {st : Stmt} {ps : List Str} {oc : Value} {od an : Option Addr} {osl : Array (Option Value)} {kV doc pm cdv ct : Value}
abbrev BindsBy (m qual : Str) (st : Stmt) (ps : List Str) : Prop := ∀ (kV doc pm : Value) (an : Option Addr) (cdv ct : Value) (us : List Value), us.length = ps.length → bindArgs (PySem.W.fnOf m qual (defArgs st) (defBody st) (defScope st) .none kV doc pm an cdv ct) ⟨us, []⟩ = pure (ps.zip us)
theorem mfun_mk (hb : BindsBy m qual st ps) (a : PySem.W.findIn K (.ref C) m = some (some (.ref f))) (i : PySem.W.isFn K (.ref f) = true) (l : K.lookup f = some ⟨oc, od, .func (PySem.W.fnOf m qual (defArgs st) (defBody st) (defScope st) .none kV doc pm an cdv ct), osl⟩)
    (c : PySem.W.codeIn K cdv qual = true) (k : PySem.W.keepIn K (.ref f) = true) : MFun K C m qual st ps := ⟨f, _, ⟨a, i, k⟩, fun_mk l c k, (fun_mk l c k).binds hb⟩
theorem gfun_mk (hb : BindsBy x x st ps) (a : mg x = some (.ref f)) (l : K.lookup f = some ⟨oc, od, .func (PySem.W.fnOf x x (defArgs st) (defBody st) (defScope st) .none kV doc pm an cdv ct), osl⟩)
    (c : PySem.W.codeIn K cdv x = true) (k : PySem.W.keepIn K (.ref f) = true) : GFun K mg x st ps := ⟨f, _, a, fun_mk l c k, (fun_mk l c k).binds hb⟩
theorem kfun_mk (hb : BindsBy "__init__" qual st ps) (mk : PySem.W.makesIn K C = true) (kc : PySem.W.keepIn K (.ref C) = true) (g : mg x = some (.ref C)) (a : PySem.W.findIn K (.ref C) "__init__" = some (some (.ref f))) (i : PySem.W.isFn K (.ref f) = true)
    (l : K.lookup f = some ⟨oc, od, .func (PySem.W.fnOf "__init__" qual (defArgs st) (defBody st) (defScope st) .none kV doc pm an cdv ct), osl⟩) (c : PySem.W.codeIn K cdv qual = true) (k : PySem.W.keepIn K (.ref f) = true) : KFun K mg C x qual st ps :=
  ⟨f, _, ⟨mk, a, i, kc⟩, g, fun_mk l c k, (fun_mk l c k).binds hb⟩
end
/-- what «except S» names is an error of the class at S -/
theorem exm_of {K : PySem.W.Frag} {S : Addr} (h1 : PySem.W.subIn K (.ref S) (.type "BaseException") = some true) (h2 : PySem.W.isClsIn K S = true) (h3 : PySem.W.typeIn K (.ref S) = some (.type "type")) (h4 : PySem.W.subIn K (.ref S) (.ref S) = some true) : PySem.W.exmOne K (.ref S) (.ref S) = some true := by
  have e1 : (PySem.W.subIn K (.ref S) (.type "BaseException") == some true) = true := by rw [h1] <;> rfl
  have e2 : ((PySem.W.clsIn K S).isSome && PySem.W.typeIn K (.ref S) == some (.type "type")) = true := by
    have z : (PySem.W.clsIn K S).isSome = true := h2
    rw [z, h3] <;> rfl
  show (if (PySem.W.subIn K (.ref S) (.type "BaseException") == some true) = true then (if ((PySem.W.clsIn K S).isSome && PySem.W.typeIn K (.ref S) == some (.type "type")) = true then PySem.W.subIn K (.ref S) (.ref S) else none) else none) = some true
  rw [if_pos e1, if_pos e2]
  exact h4
theorem bPI : BindsBy "__init__" "Pair.__init__" sPI ["self", "state", "caller", "other", "since"] := fun _ _ _ _ _ _ us hl => match us, hl with | [_, _, _, _, _], _ => rfl
theorem bPC : BindsBy "copied" "Pair.copied" sPC ["self"] := fun _ _ _ _ _ _ us hl => match us, hl with | [_], _ => rfl
theorem bPB : BindsBy "become" "Pair.become" sPB ["self", "state"] := fun _ _ _ _ _ _ us hl => match us, hl with | [_, _], _ => rfl
theorem bPF : BindsBy "free" "Pair.free" sPF ["self"] := fun _ _ _ _ _ _ us hl => match us, hl with | [_], _ => rfl
theorem bPH : BindsBy "has_second" "Pair.has_second" sPH ["self"] := fun _ _ _ _ _ _ us hl => match us, hl with | [_], _ => rfl
theorem bPN : BindsBy "is_in" "Pair.is_in" sPN ["self", "line"] := fun _ _ _ _ _ _ us hl => match us, hl with | [_, _], _ => rfl
theorem bPR : BindsBy "rings_at" "Pair.rings_at" sPR ["self", "line"] := fun _ _ _ _ _ _ us hl => match us, hl with | [_, _], _ => rfl
theorem bPE : BindsBy "far_end" "Pair.far_end" sPE ["self", "line"] := fun _ _ _ _ _ _ us hl => match us, hl with | [_, _], _ => rfl
theorem bPT : BindsBy "told" "Pair.told" sPT ["self"] := fun _ _ _ _ _ _ us hl => match us, hl with | [_], _ => rfl
theorem bBI : BindsBy "__init__" "Board.__init__" sBI ["self", "lines", "pairs"] := fun _ _ _ _ _ _ us hl => match us, hl with | [_, _, _], _ => rfl
theorem bBC : BindsBy "copied" "Board.copied" sBC ["self"] := fun _ _ _ _ _ _ us hl => match us, hl with | [_], _ => rfl
theorem bBL : BindsBy "lines" "Board.lines" sBL ["self"] := fun _ _ _ _ _ _ us hl => match us, hl with | [_], _ => rfl
theorem bBP : BindsBy "pairs_in" "Board.pairs_in" sBP ["self", "line"] := fun _ _ _ _ _ _ us hl => match us, hl with | [_, _], _ => rfl
theorem bBQ : BindsBy "is_plugged" "Board.is_plugged" sBQ ["self", "line"] := fun _ _ _ _ _ _ us hl => match us, hl with | [_, _], _ => rfl
theorem bBK : BindsBy "look" "Board.look" sBK ["self", "line"] := fun _ _ _ _ _ _ us hl => match us, hl with | [_, _], _ => rfl
theorem bBR : BindsBy "ringing_at" "Board.ringing_at" sBR ["self", "line"] := fun _ _ _ _ _ _ us hl => match us, hl with | [_, _], _ => rfl
theorem bBU : BindsBy "lift" "Board.lift" sBU ["self", "line"] := fun _ _ _ _ _ _ us hl => match us, hl with | [_, _], _ => rfl
theorem bBH : BindsBy "hang" "Board.hang" sBH ["self", "line"] := fun _ _ _ _ _ _ us hl => match us, hl with | [_, _], _ => rfl
theorem bBT : BindsBy "lit_lines" "Board.lit_lines" sBT ["self"] := fun _ _ _ _ _ _ us hl => match us, hl with | [_], _ => rfl
theorem bBM : BindsBy "many_free" "Board.many_free" sBM ["self"] := fun _ _ _ _ _ _ us hl => match us, hl with | [_], _ => rfl
theorem bBE : BindsBy "heard" "Board.heard" sBE ["self", "line"] := fun _ _ _ _ _ _ us hl => match us, hl with | [_, _], _ => rfl
theorem bDI : BindsBy "__init__" "Desk.__init__" sDI ["self"] := fun _ _ _ _ _ _ us hl => match us, hl with | [_], _ => rfl
theorem bDB : BindsBy "board" "Desk.board" sDB ["self"] := fun _ _ _ _ _ _ us hl => match us, hl with | [_], _ => rfl
theorem bDN : BindsBy "begin" "Desk.begin" sDN ["self", "lines", "pairs"] := fun _ _ _ _ _ _ us hl => match us, hl with | [_, _, _], _ => rfl
theorem bDU : BindsBy "lift" "Desk.lift" sDU ["self", "line"] := fun _ _ _ _ _ _ us hl => match us, hl with | [_, _], _ => rfl
theorem bDH : BindsBy "hang" "Desk.hang" sDH ["self", "line"] := fun _ _ _ _ _ _ us hl => match us, hl with | [_, _], _ => rfl
theorem bDA : BindsBy "ask" "Desk.ask" sDA ["self", "line", "number"] := fun _ _ _ _ _ _ us hl => match us, hl with | [_, _, _], _ => rfl
theorem bDG : BindsBy "go" "Desk.go" sDG ["self", "many"] := fun _ _ _ _ _ _ us hl => match us, hl with | [_, _], _ => rfl
theorem bDL : BindsBy "line" "Desk.line" sDL ["self", "line"] := fun _ _ _ _ _ _ us hl => match us, hl with | [_, _], _ => rfl
theorem bDC : BindsBy "cords" "Desk.cords" sDC ["self"] := fun _ _ _ _ _ _ us hl => match us, hl with | [_], _ => rfl
theorem bDM : BindsBy "lamps" "Desk.lamps" sDM ["self"] := fun _ _ _ _ _ _ us hl => match us, hl with | [_], _ => rfl
theorem bDT : BindsBy "talks" "Desk.talks" sDT ["self"] := fun _ _ _ _ _ _ us hl => match us, hl with | [_], _ => rfl
theorem bDW : BindsBy "wait" "Desk.wait" sDW ["self", "line"] := fun _ _ _ _ _ _ us hl => match us, hl with | [_, _], _ => rfl
theorem bDS : BindsBy "sums" "Desk.sums" sDS ["self"] := fun _ _ _ _ _ _ us hl => match us, hl with | [_], _ => rfl
theorem bDO : BindsBy "of_line" "Desk.of_line" sDO ["self", "place", "numbers"] := fun _ _ _ _ _ _ us hl => match us, hl with | [_, _, _], _ => rfl
theorem bDD : BindsBy "answered" "Desk.answered" sDD ["self", "place", "numbers"] := fun _ _ _ _ _ _ us hl => match us, hl with | [_, _, _], _ => rfl
theorem bDX : BindsBy "called" "Desk.called" sDX ["self", "place", "numbers"] := fun _ _ _ _ _ _ us hl => match us, hl with | [_, _, _], _ => rfl
theorem bOL : BindsBy "rang_long" "rang_long" sOL ["board", "pair"] := fun _ _ _ _ _ _ us hl => match us, hl with | [_, _], _ => rfl
theorem bOI : BindsBy "is_to_be_pulled" "is_to_be_pulled" sOI ["board", "pair"] := fun _ _ _ _ _ _ us hl => match us, hl with | [_, _], _ => rfl
theorem bOP : BindsBy "pull" "pull" sOP ["board", "pair"] := fun _ _ _ _ _ _ us hl => match us, hl with | [_, _], _ => rfl
theorem bOC : BindsBy "connect" "connect" sOC ["board", "pair"] := fun _ _ _ _ _ _ us hl => match us, hl with | [_, _], _ => rfl
theorem bOB : BindsBy "longest_lit" "longest_lit" sOB ["board"] := fun _ _ _ _ _ _ us hl => match us, hl with | [_], _ => rfl
theorem bOG : BindsBy "plug_in" "plug_in" sOG ["board", "pair"] := fun _ _ _ _ _ _ us hl => match us, hl with | [_, _], _ => rfl
theorem bOW : BindsBy "work" "work" sOW ["board"] := fun _ _ _ _ _ _ us hl => match us, hl with | [_], _ => rfl
theorem bOU : BindsBy "unit" "unit" sOU ["board"] := fun _ _ _ _ _ _ us hl => match us, hl with | [_], _ => rfl
theorem bWU : BindsBy "units_till" "units_till" sWU ["board", "line"] := fun _ _ _ _ _ _ us hl => match us, hl with | [_, _], _ => rfl
theorem bMU : BindsBy "must" "must" sMU ["so", "number"] := fun _ _ _ _ _ _ us hl => match us, hl with | [_, _], _ => rfl
theorem bRI : BindsBy "__init__" "Refused.__init__" sRI ["self", "number"] := fun _ _ _ _ _ _ us hl => match us, hl with | [_, _], _ => rfl
theorem all_mk {P : Program} {w : World} {K : PySem.W.Frag} {h : Heap} {mg : Str → Option Value} {fa CP CB CD CR fRI fAN fPI fPC fPB fPF fPH fPN fPR fPE fPT fBI fBC fBL fBP fBQ fBK fBR fBU fBH fBT fBM fBE fDI fDB fDN fDU fDH fDA fDG fDL fDC fDM fDT fDW fDS fDO fDD fDX fOL fOI fOP fOC fOB fOG fOW fOU fWU fMU : Addr} (X : K.In h) (G : h.Ns mainGlobals mg) (hfa : mg "answers" = some (.ref fa))
    {tFREE : Tok}
    {tASKS : Tok}
    {tTOLD : Tok}
    {tRINGS : Tok}
    {tTALK : Tok}
    {tBUSY : Tok}
    {tDARK : Tok}
    {tLONG : Tok}
    {tMOST_UNITS : Tok}
    {tNEVER : Tok}
    {tLEAST_LINES : Tok}
    {tMOST_LINES : Tok}
    {tMOST_PAIRS : Tok}
    {tMOST_GONE : Tok}
    {tLAST : Tok}
    {aM nM : Nat} {odM : Option Addr} {slM : Array (Option Value)} {uM0 uM1 uM2 uM3 uM4 uM5 uM6 uM7 uM8 uM9 uM10 : Tok}
    {aO nO : Nat} {odO : Option Addr} {slO : Array (Option Value)} {uO0 uO1 uO2 uO3 uO4 : Tok}
    {nmR qR : Str} {NR : Addr} {bsR : List Value} {snR : List Str} {subR : List Value} {abR : Bool} {colR : Option Bool} {ddR : Option Addr} {m0 m1 m2 m3 m5 : Option Value}
    {odRI anRI : Option Addr} {slRI : Array (Option Value)} {ocRI kVRI dcRI pmRI cdRI ctRI : Value}
    {odPI anPI : Option Addr} {slPI : Array (Option Value)} {ocPI kVPI dcPI pmPI cdPI ctPI : Value}
    {odPC anPC : Option Addr} {slPC : Array (Option Value)} {ocPC kVPC dcPC pmPC cdPC ctPC : Value}
    {odPB anPB : Option Addr} {slPB : Array (Option Value)} {ocPB kVPB dcPB pmPB cdPB ctPB : Value}
    {odPF anPF : Option Addr} {slPF : Array (Option Value)} {ocPF kVPF dcPF pmPF cdPF ctPF : Value}
    {odPH anPH : Option Addr} {slPH : Array (Option Value)} {ocPH kVPH dcPH pmPH cdPH ctPH : Value}
    {odPN anPN : Option Addr} {slPN : Array (Option Value)} {ocPN kVPN dcPN pmPN cdPN ctPN : Value}
    {odPR anPR : Option Addr} {slPR : Array (Option Value)} {ocPR kVPR dcPR pmPR cdPR ctPR : Value}
    {odPE anPE : Option Addr} {slPE : Array (Option Value)} {ocPE kVPE dcPE pmPE cdPE ctPE : Value}
    {odPT anPT : Option Addr} {slPT : Array (Option Value)} {ocPT kVPT dcPT pmPT cdPT ctPT : Value}
    {odBI anBI : Option Addr} {slBI : Array (Option Value)} {ocBI kVBI dcBI pmBI cdBI ctBI : Value}
    {odBC anBC : Option Addr} {slBC : Array (Option Value)} {ocBC kVBC dcBC pmBC cdBC ctBC : Value}
    {odBL anBL : Option Addr} {slBL : Array (Option Value)} {ocBL kVBL dcBL pmBL cdBL ctBL : Value}
    {odBP anBP : Option Addr} {slBP : Array (Option Value)} {ocBP kVBP dcBP pmBP cdBP ctBP : Value}
    {odBQ anBQ : Option Addr} {slBQ : Array (Option Value)} {ocBQ kVBQ dcBQ pmBQ cdBQ ctBQ : Value}
    {odBK anBK : Option Addr} {slBK : Array (Option Value)} {ocBK kVBK dcBK pmBK cdBK ctBK : Value}
    {odBR anBR : Option Addr} {slBR : Array (Option Value)} {ocBR kVBR dcBR pmBR cdBR ctBR : Value}
    {odBU anBU : Option Addr} {slBU : Array (Option Value)} {ocBU kVBU dcBU pmBU cdBU ctBU : Value}
    {odBH anBH : Option Addr} {slBH : Array (Option Value)} {ocBH kVBH dcBH pmBH cdBH ctBH : Value}
    {odBT anBT : Option Addr} {slBT : Array (Option Value)} {ocBT kVBT dcBT pmBT cdBT ctBT : Value}
    {odBM anBM : Option Addr} {slBM : Array (Option Value)} {ocBM kVBM dcBM pmBM cdBM ctBM : Value}
    {odBE anBE : Option Addr} {slBE : Array (Option Value)} {ocBE kVBE dcBE pmBE cdBE ctBE : Value}
    {odDI anDI : Option Addr} {slDI : Array (Option Value)} {ocDI kVDI dcDI pmDI cdDI ctDI : Value}
    {odDB anDB : Option Addr} {slDB : Array (Option Value)} {ocDB kVDB dcDB pmDB cdDB ctDB : Value}
    {odDN anDN : Option Addr} {slDN : Array (Option Value)} {ocDN kVDN dcDN pmDN cdDN ctDN : Value}
    {odDU anDU : Option Addr} {slDU : Array (Option Value)} {ocDU kVDU dcDU pmDU cdDU ctDU : Value}
    {odDH anDH : Option Addr} {slDH : Array (Option Value)} {ocDH kVDH dcDH pmDH cdDH ctDH : Value}
    {odDA anDA : Option Addr} {slDA : Array (Option Value)} {ocDA kVDA dcDA pmDA cdDA ctDA : Value}
    {odDG anDG : Option Addr} {slDG : Array (Option Value)} {ocDG kVDG dcDG pmDG cdDG ctDG : Value}
    {odDL anDL : Option Addr} {slDL : Array (Option Value)} {ocDL kVDL dcDL pmDL cdDL ctDL : Value}
    {odDC anDC : Option Addr} {slDC : Array (Option Value)} {ocDC kVDC dcDC pmDC cdDC ctDC : Value}
    {odDM anDM : Option Addr} {slDM : Array (Option Value)} {ocDM kVDM dcDM pmDM cdDM ctDM : Value}
    {odDT anDT : Option Addr} {slDT : Array (Option Value)} {ocDT kVDT dcDT pmDT cdDT ctDT : Value}
    {odDW anDW : Option Addr} {slDW : Array (Option Value)} {ocDW kVDW dcDW pmDW cdDW ctDW : Value}
    {odDS anDS : Option Addr} {slDS : Array (Option Value)} {ocDS kVDS dcDS pmDS cdDS ctDS : Value}
    {odDO anDO : Option Addr} {slDO : Array (Option Value)} {ocDO kVDO dcDO pmDO cdDO ctDO : Value}
    {odDD anDD : Option Addr} {slDD : Array (Option Value)} {ocDD kVDD dcDD pmDD cdDD ctDD : Value}
    {odDX anDX : Option Addr} {slDX : Array (Option Value)} {ocDX kVDX dcDX pmDX cdDX ctDX : Value}
    {odOL anOL : Option Addr} {slOL : Array (Option Value)} {ocOL kVOL dcOL pmOL cdOL ctOL : Value}
    {odOI anOI : Option Addr} {slOI : Array (Option Value)} {ocOI kVOI dcOI pmOI cdOI ctOI : Value}
    {odOP anOP : Option Addr} {slOP : Array (Option Value)} {ocOP kVOP dcOP pmOP cdOP ctOP : Value}
    {odOC anOC : Option Addr} {slOC : Array (Option Value)} {ocOC kVOC dcOC pmOC cdOC ctOC : Value}
    {odOB anOB : Option Addr} {slOB : Array (Option Value)} {ocOB kVOB dcOB pmOB cdOB ctOB : Value}
    {odOG anOG : Option Addr} {slOG : Array (Option Value)} {ocOG kVOG dcOG pmOG cdOG ctOG : Value}
    {odOW anOW : Option Addr} {slOW : Array (Option Value)} {ocOW kVOW dcOW pmOW cdOW ctOW : Value}
    {odOU anOU : Option Addr} {slOU : Array (Option Value)} {ocOU kVOU dcOU pmOU cdOU ctOU : Value}
    {odWU anWU : Option Addr} {slWU : Array (Option Value)} {ocWU kVWU dcWU pmWU cdWU ctWU : Value}
    {odMU anMU : Option Addr} {slMU : Array (Option Value)} {ocMU kVMU dcMU pmMU cdMU ctMU : Value}
    {odAN anAN : Option Addr} {slAN : Array (Option Value)} {ocAN kVAN dcAN pmAN cdAN ctAN : Value}
    (aCP : PySem.W.nsIn K mainGlobals "Pair" = some (some (.ref CP)))
    (pgCP : PySem.W.plainGet K CP Str.empty = true)
    (hdCP : PySem.W.hasDictIn K CP = true)
    (poCP : PySem.W.plainOver K CP = true)
    (saCP : PySem.W.findIn K (.ref CP) "__setattr__" = some (some (.builtin "object.__setattr__")))
    (mkCP : PySem.W.makesIn K CP = true)
    (kcCP : PySem.W.keepIn K (.ref CP) = true)
    (n_state : PySem.W.findIn K (.ref CP) "state" = some none)
    (n_caller : PySem.W.findIn K (.ref CP) "caller" = some none)
    (n_other : PySem.W.findIn K (.ref CP) "other" = some none)
    (n_since : PySem.W.findIn K (.ref CP) "since" = some none)
    (aCB : PySem.W.nsIn K mainGlobals "Board" = some (some (.ref CB)))
    (pgCB : PySem.W.plainGet K CB Str.empty = true)
    (hdCB : PySem.W.hasDictIn K CB = true)
    (poCB : PySem.W.plainOver K CB = true)
    (saCB : PySem.W.findIn K (.ref CB) "__setattr__" = some (some (.builtin "object.__setattr__")))
    (mkCB : PySem.W.makesIn K CB = true)
    (kcCB : PySem.W.keepIn K (.ref CB) = true)
    (n_time : PySem.W.findIn K (.ref CB) "time" = some none)
    (n_off : PySem.W.findIn K (.ref CB) "off" = some none)
    (n_lit : PySem.W.findIn K (.ref CB) "lit" = some none)
    (n_pairs : PySem.W.findIn K (.ref CB) "pairs" = some none)
    (n_noted : PySem.W.findIn K (.ref CB) "noted" = some none)
    (n_busy : PySem.W.findIn K (.ref CB) "busy" = some none)
    (n_nobody : PySem.W.findIn K (.ref CB) "nobody" = some none)
    (aCD : PySem.W.nsIn K mainGlobals "Desk" = some (some (.ref CD)))
    (pgCD : PySem.W.plainGet K CD Str.empty = true)
    (hdCD : PySem.W.hasDictIn K CD = true)
    (poCD : PySem.W.plainOver K CD = true)
    (saCD : PySem.W.findIn K (.ref CD) "__setattr__" = some (some (.builtin "object.__setattr__")))
    (mkCD : PySem.W.makesIn K CD = true)
    (kcCD : PySem.W.keepIn K (.ref CD) = true)
    (n_boards : PySem.W.findIn K (.ref CD) "boards" = some none)
    (c_FREE : PySem.W.nsIn K mainGlobals "FREE" = some (some (.int 0 tFREE)))
    (c_ASKS : PySem.W.nsIn K mainGlobals "ASKS" = some (some (.int 1 tASKS)))
    (c_TOLD : PySem.W.nsIn K mainGlobals "TOLD" = some (some (.int 2 tTOLD)))
    (c_RINGS : PySem.W.nsIn K mainGlobals "RINGS" = some (some (.int 3 tRINGS)))
    (c_TALK : PySem.W.nsIn K mainGlobals "TALK" = some (some (.int 4 tTALK)))
    (c_BUSY : PySem.W.nsIn K mainGlobals "BUSY" = some (some (.int 5 tBUSY)))
    (c_DARK : PySem.W.nsIn K mainGlobals "DARK" = some (some (.int (-1) tDARK)))
    (c_LONG : PySem.W.nsIn K mainGlobals "LONG" = some (some (.int 20 tLONG)))
    (c_MOST_UNITS : PySem.W.nsIn K mainGlobals "MOST_UNITS" = some (some (.int 100 tMOST_UNITS)))
    (c_NEVER : PySem.W.nsIn K mainGlobals "NEVER" = some (some (.int 0 tNEVER)))
    (c_LEAST_LINES : PySem.W.nsIn K mainGlobals "LEAST_LINES" = some (some (.int 2 tLEAST_LINES)))
    (c_MOST_LINES : PySem.W.nsIn K mainGlobals "MOST_LINES" = some (some (.int 20 tMOST_LINES)))
    (c_MOST_PAIRS : PySem.W.nsIn K mainGlobals "MOST_PAIRS" = some (some (.int 6 tMOST_PAIRS)))
    (c_MOST_GONE : PySem.W.nsIn K mainGlobals "MOST_GONE" = some (some (.int 200 tMOST_GONE)))
    (c_LAST : PySem.W.nsIn K mainGlobals "LAST" = some (some (.int 1000000 tLAST)))
    (a_MANY : PySem.W.nsIn K mainGlobals "MANY" = some (some (.ref aM)))
    (l_MANY : K.lookup aM = some ⟨.type "tuple", odM, .seq #[.int 2 uM0, .int 1 uM1, .int 1 uM2, .int 2 uM3, .int 1 uM4, .int 1 uM5, .int 0 uM6, .int 0 uM7, .int 0 uM8, .int 1 uM9, .int 0 uM10] nM, slM⟩)
    (a_OF_LINES : PySem.W.nsIn K mainGlobals "OF_LINES" = some (some (.ref aO)))
    (l_OF_LINES : K.lookup aO = some ⟨.type "tuple", odO, .seq #[.int 1 uO0, .int 2 uO1, .int 3 uO2, .int 5 uO3, .int 9 uO4] nO, slO⟩)
    (z_len : PySem.W.nsIn K mainGlobals "len" = some none)
    (z_range : PySem.W.nsIn K mainGlobals "range" = some none)
    (z_int : PySem.W.nsIn K mainGlobals "int" = some none)
    (z_list : PySem.W.nsIn K mainGlobals "list" = some none)
    (aR : PySem.W.nsIn K mainGlobals "Refused" = some (some (.ref CR)))
    (xR : K.lookup CR = some (excClassObj nmR qR CR NR bsR [.type "ValueError", .type "Exception", .type "BaseException", .type "object"] true snR subR abR colR ddR m0 m1 m2 m3 m5 "ValueError.__new__"))
    (saR : PySem.W.findIn K (.ref CR) "__setattr__" = some (some (.builtin "object.__setattr__")))
    (gaR : PySem.W.findIn K (.ref CR) "__getattribute__" = some (some (.builtin "BaseException.__getattribute__")))
    (ggR : PySem.W.findIn K (.ref CR) "__getattr__" = some none)
    (nbR : PySem.W.findIn K (.ref CR) "number" = some none)
    (kcR : PySem.W.keepIn K (.ref CR) = true)
    (eR : PySem.W.subIn K (.ref CR) (.type "BaseException") = some true)
    (tR : PySem.W.typeIn K (.ref CR) = some (.type "type"))
    (hR : PySem.W.hasDictIn K CR = true)
    (iR : PySem.W.isClsIn K CR = true)
    (sR : PySem.W.subIn K (.ref CR) (.ref CR) = some true)
    (aRI : PySem.W.findIn K (.ref CR) "__init__" = some (some (.ref fRI)))
    (tRI : PySem.W.typeIn K (.ref fRI) = some (.type "function"))
    (lRI : K.lookup fRI = some ⟨ocRI, odRI, .func (PySem.W.fnOf "__init__" "Refused.__init__" (defArgs sRI) (defBody sRI) (defScope sRI) .none kVRI dcRI pmRI anRI cdRI ctRI), slRI⟩)
    (cRI : PySem.W.codeIn K cdRI "Refused.__init__" = true)
    (kRI : PySem.W.keepIn K (.ref fRI) = true)
    (aPI : PySem.W.findIn K (.ref CP) "__init__" = some (some (.ref fPI)))
    (iPI : PySem.W.isFn K (.ref fPI) = true)
    (lPI : K.lookup fPI = some ⟨ocPI, odPI, .func (PySem.W.fnOf "__init__" "Pair.__init__" (defArgs sPI) (defBody sPI) (defScope sPI) .none kVPI dcPI pmPI anPI cdPI ctPI), slPI⟩)
    (cPI : PySem.W.codeIn K cdPI "Pair.__init__" = true)
    (kPI : PySem.W.keepIn K (.ref fPI) = true)
    (aPC : PySem.W.findIn K (.ref CP) "copied" = some (some (.ref fPC)))
    (iPC : PySem.W.isFn K (.ref fPC) = true)
    (lPC : K.lookup fPC = some ⟨ocPC, odPC, .func (PySem.W.fnOf "copied" "Pair.copied" (defArgs sPC) (defBody sPC) (defScope sPC) .none kVPC dcPC pmPC anPC cdPC ctPC), slPC⟩)
    (cPC : PySem.W.codeIn K cdPC "Pair.copied" = true)
    (kPC : PySem.W.keepIn K (.ref fPC) = true)
    (aPB : PySem.W.findIn K (.ref CP) "become" = some (some (.ref fPB)))
    (iPB : PySem.W.isFn K (.ref fPB) = true)
    (lPB : K.lookup fPB = some ⟨ocPB, odPB, .func (PySem.W.fnOf "become" "Pair.become" (defArgs sPB) (defBody sPB) (defScope sPB) .none kVPB dcPB pmPB anPB cdPB ctPB), slPB⟩)
    (cPB : PySem.W.codeIn K cdPB "Pair.become" = true)
    (kPB : PySem.W.keepIn K (.ref fPB) = true)
    (aPF : PySem.W.findIn K (.ref CP) "free" = some (some (.ref fPF)))
    (iPF : PySem.W.isFn K (.ref fPF) = true)
    (lPF : K.lookup fPF = some ⟨ocPF, odPF, .func (PySem.W.fnOf "free" "Pair.free" (defArgs sPF) (defBody sPF) (defScope sPF) .none kVPF dcPF pmPF anPF cdPF ctPF), slPF⟩)
    (cPF : PySem.W.codeIn K cdPF "Pair.free" = true)
    (kPF : PySem.W.keepIn K (.ref fPF) = true)
    (aPH : PySem.W.findIn K (.ref CP) "has_second" = some (some (.ref fPH)))
    (iPH : PySem.W.isFn K (.ref fPH) = true)
    (lPH : K.lookup fPH = some ⟨ocPH, odPH, .func (PySem.W.fnOf "has_second" "Pair.has_second" (defArgs sPH) (defBody sPH) (defScope sPH) .none kVPH dcPH pmPH anPH cdPH ctPH), slPH⟩)
    (cPH : PySem.W.codeIn K cdPH "Pair.has_second" = true)
    (kPH : PySem.W.keepIn K (.ref fPH) = true)
    (aPN : PySem.W.findIn K (.ref CP) "is_in" = some (some (.ref fPN)))
    (iPN : PySem.W.isFn K (.ref fPN) = true)
    (lPN : K.lookup fPN = some ⟨ocPN, odPN, .func (PySem.W.fnOf "is_in" "Pair.is_in" (defArgs sPN) (defBody sPN) (defScope sPN) .none kVPN dcPN pmPN anPN cdPN ctPN), slPN⟩)
    (cPN : PySem.W.codeIn K cdPN "Pair.is_in" = true)
    (kPN : PySem.W.keepIn K (.ref fPN) = true)
    (aPR : PySem.W.findIn K (.ref CP) "rings_at" = some (some (.ref fPR)))
    (iPR : PySem.W.isFn K (.ref fPR) = true)
    (lPR : K.lookup fPR = some ⟨ocPR, odPR, .func (PySem.W.fnOf "rings_at" "Pair.rings_at" (defArgs sPR) (defBody sPR) (defScope sPR) .none kVPR dcPR pmPR anPR cdPR ctPR), slPR⟩)
    (cPR : PySem.W.codeIn K cdPR "Pair.rings_at" = true)
    (kPR : PySem.W.keepIn K (.ref fPR) = true)
    (aPE : PySem.W.findIn K (.ref CP) "far_end" = some (some (.ref fPE)))
    (iPE : PySem.W.isFn K (.ref fPE) = true)
    (lPE : K.lookup fPE = some ⟨ocPE, odPE, .func (PySem.W.fnOf "far_end" "Pair.far_end" (defArgs sPE) (defBody sPE) (defScope sPE) .none kVPE dcPE pmPE anPE cdPE ctPE), slPE⟩)
    (cPE : PySem.W.codeIn K cdPE "Pair.far_end" = true)
    (kPE : PySem.W.keepIn K (.ref fPE) = true)
    (aPT : PySem.W.findIn K (.ref CP) "told" = some (some (.ref fPT)))
    (iPT : PySem.W.isFn K (.ref fPT) = true)
    (lPT : K.lookup fPT = some ⟨ocPT, odPT, .func (PySem.W.fnOf "told" "Pair.told" (defArgs sPT) (defBody sPT) (defScope sPT) .none kVPT dcPT pmPT anPT cdPT ctPT), slPT⟩)
    (cPT : PySem.W.codeIn K cdPT "Pair.told" = true)
    (kPT : PySem.W.keepIn K (.ref fPT) = true)
    (aBI : PySem.W.findIn K (.ref CB) "__init__" = some (some (.ref fBI)))
    (iBI : PySem.W.isFn K (.ref fBI) = true)
    (lBI : K.lookup fBI = some ⟨ocBI, odBI, .func (PySem.W.fnOf "__init__" "Board.__init__" (defArgs sBI) (defBody sBI) (defScope sBI) .none kVBI dcBI pmBI anBI cdBI ctBI), slBI⟩)
    (cBI : PySem.W.codeIn K cdBI "Board.__init__" = true)
    (kBI : PySem.W.keepIn K (.ref fBI) = true)
    (aBC : PySem.W.findIn K (.ref CB) "copied" = some (some (.ref fBC)))
    (iBC : PySem.W.isFn K (.ref fBC) = true)
    (lBC : K.lookup fBC = some ⟨ocBC, odBC, .func (PySem.W.fnOf "copied" "Board.copied" (defArgs sBC) (defBody sBC) (defScope sBC) .none kVBC dcBC pmBC anBC cdBC ctBC), slBC⟩)
    (cBC : PySem.W.codeIn K cdBC "Board.copied" = true)
    (kBC : PySem.W.keepIn K (.ref fBC) = true)
    (aBL : PySem.W.findIn K (.ref CB) "lines" = some (some (.ref fBL)))
    (iBL : PySem.W.isFn K (.ref fBL) = true)
    (lBL : K.lookup fBL = some ⟨ocBL, odBL, .func (PySem.W.fnOf "lines" "Board.lines" (defArgs sBL) (defBody sBL) (defScope sBL) .none kVBL dcBL pmBL anBL cdBL ctBL), slBL⟩)
    (cBL : PySem.W.codeIn K cdBL "Board.lines" = true)
    (kBL : PySem.W.keepIn K (.ref fBL) = true)
    (aBP : PySem.W.findIn K (.ref CB) "pairs_in" = some (some (.ref fBP)))
    (iBP : PySem.W.isFn K (.ref fBP) = true)
    (lBP : K.lookup fBP = some ⟨ocBP, odBP, .func (PySem.W.fnOf "pairs_in" "Board.pairs_in" (defArgs sBP) (defBody sBP) (defScope sBP) .none kVBP dcBP pmBP anBP cdBP ctBP), slBP⟩)
    (cBP : PySem.W.codeIn K cdBP "Board.pairs_in" = true)
    (kBP : PySem.W.keepIn K (.ref fBP) = true)
    (aBQ : PySem.W.findIn K (.ref CB) "is_plugged" = some (some (.ref fBQ)))
    (iBQ : PySem.W.isFn K (.ref fBQ) = true)
    (lBQ : K.lookup fBQ = some ⟨ocBQ, odBQ, .func (PySem.W.fnOf "is_plugged" "Board.is_plugged" (defArgs sBQ) (defBody sBQ) (defScope sBQ) .none kVBQ dcBQ pmBQ anBQ cdBQ ctBQ), slBQ⟩)
    (cBQ : PySem.W.codeIn K cdBQ "Board.is_plugged" = true)
    (kBQ : PySem.W.keepIn K (.ref fBQ) = true)
    (aBK : PySem.W.findIn K (.ref CB) "look" = some (some (.ref fBK)))
    (iBK : PySem.W.isFn K (.ref fBK) = true)
    (lBK : K.lookup fBK = some ⟨ocBK, odBK, .func (PySem.W.fnOf "look" "Board.look" (defArgs sBK) (defBody sBK) (defScope sBK) .none kVBK dcBK pmBK anBK cdBK ctBK), slBK⟩)
    (cBK : PySem.W.codeIn K cdBK "Board.look" = true)
    (kBK : PySem.W.keepIn K (.ref fBK) = true)
    (aBR : PySem.W.findIn K (.ref CB) "ringing_at" = some (some (.ref fBR)))
    (iBR : PySem.W.isFn K (.ref fBR) = true)
    (lBR : K.lookup fBR = some ⟨ocBR, odBR, .func (PySem.W.fnOf "ringing_at" "Board.ringing_at" (defArgs sBR) (defBody sBR) (defScope sBR) .none kVBR dcBR pmBR anBR cdBR ctBR), slBR⟩)
    (cBR : PySem.W.codeIn K cdBR "Board.ringing_at" = true)
    (kBR : PySem.W.keepIn K (.ref fBR) = true)
    (aBU : PySem.W.findIn K (.ref CB) "lift" = some (some (.ref fBU)))
    (iBU : PySem.W.isFn K (.ref fBU) = true)
    (lBU : K.lookup fBU = some ⟨ocBU, odBU, .func (PySem.W.fnOf "lift" "Board.lift" (defArgs sBU) (defBody sBU) (defScope sBU) .none kVBU dcBU pmBU anBU cdBU ctBU), slBU⟩)
    (cBU : PySem.W.codeIn K cdBU "Board.lift" = true)
    (kBU : PySem.W.keepIn K (.ref fBU) = true)
    (aBH : PySem.W.findIn K (.ref CB) "hang" = some (some (.ref fBH)))
    (iBH : PySem.W.isFn K (.ref fBH) = true)
    (lBH : K.lookup fBH = some ⟨ocBH, odBH, .func (PySem.W.fnOf "hang" "Board.hang" (defArgs sBH) (defBody sBH) (defScope sBH) .none kVBH dcBH pmBH anBH cdBH ctBH), slBH⟩)
    (cBH : PySem.W.codeIn K cdBH "Board.hang" = true)
    (kBH : PySem.W.keepIn K (.ref fBH) = true)
    (aBT : PySem.W.findIn K (.ref CB) "lit_lines" = some (some (.ref fBT)))
    (iBT : PySem.W.isFn K (.ref fBT) = true)
    (lBT : K.lookup fBT = some ⟨ocBT, odBT, .func (PySem.W.fnOf "lit_lines" "Board.lit_lines" (defArgs sBT) (defBody sBT) (defScope sBT) .none kVBT dcBT pmBT anBT cdBT ctBT), slBT⟩)
    (cBT : PySem.W.codeIn K cdBT "Board.lit_lines" = true)
    (kBT : PySem.W.keepIn K (.ref fBT) = true)
    (aBM : PySem.W.findIn K (.ref CB) "many_free" = some (some (.ref fBM)))
    (iBM : PySem.W.isFn K (.ref fBM) = true)
    (lBM : K.lookup fBM = some ⟨ocBM, odBM, .func (PySem.W.fnOf "many_free" "Board.many_free" (defArgs sBM) (defBody sBM) (defScope sBM) .none kVBM dcBM pmBM anBM cdBM ctBM), slBM⟩)
    (cBM : PySem.W.codeIn K cdBM "Board.many_free" = true)
    (kBM : PySem.W.keepIn K (.ref fBM) = true)
    (aBE : PySem.W.findIn K (.ref CB) "heard" = some (some (.ref fBE)))
    (iBE : PySem.W.isFn K (.ref fBE) = true)
    (lBE : K.lookup fBE = some ⟨ocBE, odBE, .func (PySem.W.fnOf "heard" "Board.heard" (defArgs sBE) (defBody sBE) (defScope sBE) .none kVBE dcBE pmBE anBE cdBE ctBE), slBE⟩)
    (cBE : PySem.W.codeIn K cdBE "Board.heard" = true)
    (kBE : PySem.W.keepIn K (.ref fBE) = true)
    (aDI : PySem.W.findIn K (.ref CD) "__init__" = some (some (.ref fDI)))
    (iDI : PySem.W.isFn K (.ref fDI) = true)
    (lDI : K.lookup fDI = some ⟨ocDI, odDI, .func (PySem.W.fnOf "__init__" "Desk.__init__" (defArgs sDI) (defBody sDI) (defScope sDI) .none kVDI dcDI pmDI anDI cdDI ctDI), slDI⟩)
    (cDI : PySem.W.codeIn K cdDI "Desk.__init__" = true)
    (kDI : PySem.W.keepIn K (.ref fDI) = true)
    (aDB : PySem.W.findIn K (.ref CD) "board" = some (some (.ref fDB)))
    (iDB : PySem.W.isFn K (.ref fDB) = true)
    (lDB : K.lookup fDB = some ⟨ocDB, odDB, .func (PySem.W.fnOf "board" "Desk.board" (defArgs sDB) (defBody sDB) (defScope sDB) .none kVDB dcDB pmDB anDB cdDB ctDB), slDB⟩)
    (cDB : PySem.W.codeIn K cdDB "Desk.board" = true)
    (kDB : PySem.W.keepIn K (.ref fDB) = true)
    (aDN : PySem.W.findIn K (.ref CD) "begin" = some (some (.ref fDN)))
    (iDN : PySem.W.isFn K (.ref fDN) = true)
    (lDN : K.lookup fDN = some ⟨ocDN, odDN, .func (PySem.W.fnOf "begin" "Desk.begin" (defArgs sDN) (defBody sDN) (defScope sDN) .none kVDN dcDN pmDN anDN cdDN ctDN), slDN⟩)
    (cDN : PySem.W.codeIn K cdDN "Desk.begin" = true)
    (kDN : PySem.W.keepIn K (.ref fDN) = true)
    (aDU : PySem.W.findIn K (.ref CD) "lift" = some (some (.ref fDU)))
    (iDU : PySem.W.isFn K (.ref fDU) = true)
    (lDU : K.lookup fDU = some ⟨ocDU, odDU, .func (PySem.W.fnOf "lift" "Desk.lift" (defArgs sDU) (defBody sDU) (defScope sDU) .none kVDU dcDU pmDU anDU cdDU ctDU), slDU⟩)
    (cDU : PySem.W.codeIn K cdDU "Desk.lift" = true)
    (kDU : PySem.W.keepIn K (.ref fDU) = true)
    (aDH : PySem.W.findIn K (.ref CD) "hang" = some (some (.ref fDH)))
    (iDH : PySem.W.isFn K (.ref fDH) = true)
    (lDH : K.lookup fDH = some ⟨ocDH, odDH, .func (PySem.W.fnOf "hang" "Desk.hang" (defArgs sDH) (defBody sDH) (defScope sDH) .none kVDH dcDH pmDH anDH cdDH ctDH), slDH⟩)
    (cDH : PySem.W.codeIn K cdDH "Desk.hang" = true)
    (kDH : PySem.W.keepIn K (.ref fDH) = true)
    (aDA : PySem.W.findIn K (.ref CD) "ask" = some (some (.ref fDA)))
    (iDA : PySem.W.isFn K (.ref fDA) = true)
    (lDA : K.lookup fDA = some ⟨ocDA, odDA, .func (PySem.W.fnOf "ask" "Desk.ask" (defArgs sDA) (defBody sDA) (defScope sDA) .none kVDA dcDA pmDA anDA cdDA ctDA), slDA⟩)
    (cDA : PySem.W.codeIn K cdDA "Desk.ask" = true)
    (kDA : PySem.W.keepIn K (.ref fDA) = true)
    (aDG : PySem.W.findIn K (.ref CD) "go" = some (some (.ref fDG)))
    (iDG : PySem.W.isFn K (.ref fDG) = true)
    (lDG : K.lookup fDG = some ⟨ocDG, odDG, .func (PySem.W.fnOf "go" "Desk.go" (defArgs sDG) (defBody sDG) (defScope sDG) .none kVDG dcDG pmDG anDG cdDG ctDG), slDG⟩)
    (cDG : PySem.W.codeIn K cdDG "Desk.go" = true)
    (kDG : PySem.W.keepIn K (.ref fDG) = true)
    (aDL : PySem.W.findIn K (.ref CD) "line" = some (some (.ref fDL)))
    (iDL : PySem.W.isFn K (.ref fDL) = true)
    (lDL : K.lookup fDL = some ⟨ocDL, odDL, .func (PySem.W.fnOf "line" "Desk.line" (defArgs sDL) (defBody sDL) (defScope sDL) .none kVDL dcDL pmDL anDL cdDL ctDL), slDL⟩)
    (cDL : PySem.W.codeIn K cdDL "Desk.line" = true)
    (kDL : PySem.W.keepIn K (.ref fDL) = true)
    (aDC : PySem.W.findIn K (.ref CD) "cords" = some (some (.ref fDC)))
    (iDC : PySem.W.isFn K (.ref fDC) = true)
    (lDC : K.lookup fDC = some ⟨ocDC, odDC, .func (PySem.W.fnOf "cords" "Desk.cords" (defArgs sDC) (defBody sDC) (defScope sDC) .none kVDC dcDC pmDC anDC cdDC ctDC), slDC⟩)
    (cDC : PySem.W.codeIn K cdDC "Desk.cords" = true)
    (kDC : PySem.W.keepIn K (.ref fDC) = true)
    (aDM : PySem.W.findIn K (.ref CD) "lamps" = some (some (.ref fDM)))
    (iDM : PySem.W.isFn K (.ref fDM) = true)
    (lDM : K.lookup fDM = some ⟨ocDM, odDM, .func (PySem.W.fnOf "lamps" "Desk.lamps" (defArgs sDM) (defBody sDM) (defScope sDM) .none kVDM dcDM pmDM anDM cdDM ctDM), slDM⟩)
    (cDM : PySem.W.codeIn K cdDM "Desk.lamps" = true)
    (kDM : PySem.W.keepIn K (.ref fDM) = true)
    (aDT : PySem.W.findIn K (.ref CD) "talks" = some (some (.ref fDT)))
    (iDT : PySem.W.isFn K (.ref fDT) = true)
    (lDT : K.lookup fDT = some ⟨ocDT, odDT, .func (PySem.W.fnOf "talks" "Desk.talks" (defArgs sDT) (defBody sDT) (defScope sDT) .none kVDT dcDT pmDT anDT cdDT ctDT), slDT⟩)
    (cDT : PySem.W.codeIn K cdDT "Desk.talks" = true)
    (kDT : PySem.W.keepIn K (.ref fDT) = true)
    (aDW : PySem.W.findIn K (.ref CD) "wait" = some (some (.ref fDW)))
    (iDW : PySem.W.isFn K (.ref fDW) = true)
    (lDW : K.lookup fDW = some ⟨ocDW, odDW, .func (PySem.W.fnOf "wait" "Desk.wait" (defArgs sDW) (defBody sDW) (defScope sDW) .none kVDW dcDW pmDW anDW cdDW ctDW), slDW⟩)
    (cDW : PySem.W.codeIn K cdDW "Desk.wait" = true)
    (kDW : PySem.W.keepIn K (.ref fDW) = true)
    (aDS : PySem.W.findIn K (.ref CD) "sums" = some (some (.ref fDS)))
    (iDS : PySem.W.isFn K (.ref fDS) = true)
    (lDS : K.lookup fDS = some ⟨ocDS, odDS, .func (PySem.W.fnOf "sums" "Desk.sums" (defArgs sDS) (defBody sDS) (defScope sDS) .none kVDS dcDS pmDS anDS cdDS ctDS), slDS⟩)
    (cDS : PySem.W.codeIn K cdDS "Desk.sums" = true)
    (kDS : PySem.W.keepIn K (.ref fDS) = true)
    (aDO : PySem.W.findIn K (.ref CD) "of_line" = some (some (.ref fDO)))
    (iDO : PySem.W.isFn K (.ref fDO) = true)
    (lDO : K.lookup fDO = some ⟨ocDO, odDO, .func (PySem.W.fnOf "of_line" "Desk.of_line" (defArgs sDO) (defBody sDO) (defScope sDO) .none kVDO dcDO pmDO anDO cdDO ctDO), slDO⟩)
    (cDO : PySem.W.codeIn K cdDO "Desk.of_line" = true)
    (kDO : PySem.W.keepIn K (.ref fDO) = true)
    (aDD : PySem.W.findIn K (.ref CD) "answered" = some (some (.ref fDD)))
    (iDD : PySem.W.isFn K (.ref fDD) = true)
    (lDD : K.lookup fDD = some ⟨ocDD, odDD, .func (PySem.W.fnOf "answered" "Desk.answered" (defArgs sDD) (defBody sDD) (defScope sDD) .none kVDD dcDD pmDD anDD cdDD ctDD), slDD⟩)
    (cDD : PySem.W.codeIn K cdDD "Desk.answered" = true)
    (kDD : PySem.W.keepIn K (.ref fDD) = true)
    (aDX : PySem.W.findIn K (.ref CD) "called" = some (some (.ref fDX)))
    (iDX : PySem.W.isFn K (.ref fDX) = true)
    (lDX : K.lookup fDX = some ⟨ocDX, odDX, .func (PySem.W.fnOf "called" "Desk.called" (defArgs sDX) (defBody sDX) (defScope sDX) .none kVDX dcDX pmDX anDX cdDX ctDX), slDX⟩)
    (cDX : PySem.W.codeIn K cdDX "Desk.called" = true)
    (kDX : PySem.W.keepIn K (.ref fDX) = true)
    (aOL : PySem.W.nsIn K mainGlobals "rang_long" = some (some (.ref fOL)))
    (lOL : K.lookup fOL = some ⟨ocOL, odOL, .func (PySem.W.fnOf "rang_long" "rang_long" (defArgs sOL) (defBody sOL) (defScope sOL) .none kVOL dcOL pmOL anOL cdOL ctOL), slOL⟩)
    (cOL : PySem.W.codeIn K cdOL "rang_long" = true)
    (kOL : PySem.W.keepIn K (.ref fOL) = true)
    (aOI : PySem.W.nsIn K mainGlobals "is_to_be_pulled" = some (some (.ref fOI)))
    (lOI : K.lookup fOI = some ⟨ocOI, odOI, .func (PySem.W.fnOf "is_to_be_pulled" "is_to_be_pulled" (defArgs sOI) (defBody sOI) (defScope sOI) .none kVOI dcOI pmOI anOI cdOI ctOI), slOI⟩)
    (cOI : PySem.W.codeIn K cdOI "is_to_be_pulled" = true)
    (kOI : PySem.W.keepIn K (.ref fOI) = true)
    (aOP : PySem.W.nsIn K mainGlobals "pull" = some (some (.ref fOP)))
    (lOP : K.lookup fOP = some ⟨ocOP, odOP, .func (PySem.W.fnOf "pull" "pull" (defArgs sOP) (defBody sOP) (defScope sOP) .none kVOP dcOP pmOP anOP cdOP ctOP), slOP⟩)
    (cOP : PySem.W.codeIn K cdOP "pull" = true)
    (kOP : PySem.W.keepIn K (.ref fOP) = true)
    (aOC : PySem.W.nsIn K mainGlobals "connect" = some (some (.ref fOC)))
    (lOC : K.lookup fOC = some ⟨ocOC, odOC, .func (PySem.W.fnOf "connect" "connect" (defArgs sOC) (defBody sOC) (defScope sOC) .none kVOC dcOC pmOC anOC cdOC ctOC), slOC⟩)
    (cOC : PySem.W.codeIn K cdOC "connect" = true)
    (kOC : PySem.W.keepIn K (.ref fOC) = true)
    (aOB : PySem.W.nsIn K mainGlobals "longest_lit" = some (some (.ref fOB)))
    (lOB : K.lookup fOB = some ⟨ocOB, odOB, .func (PySem.W.fnOf "longest_lit" "longest_lit" (defArgs sOB) (defBody sOB) (defScope sOB) .none kVOB dcOB pmOB anOB cdOB ctOB), slOB⟩)
    (cOB : PySem.W.codeIn K cdOB "longest_lit" = true)
    (kOB : PySem.W.keepIn K (.ref fOB) = true)
    (aOG : PySem.W.nsIn K mainGlobals "plug_in" = some (some (.ref fOG)))
    (lOG : K.lookup fOG = some ⟨ocOG, odOG, .func (PySem.W.fnOf "plug_in" "plug_in" (defArgs sOG) (defBody sOG) (defScope sOG) .none kVOG dcOG pmOG anOG cdOG ctOG), slOG⟩)
    (cOG : PySem.W.codeIn K cdOG "plug_in" = true)
    (kOG : PySem.W.keepIn K (.ref fOG) = true)
    (aOW : PySem.W.nsIn K mainGlobals "work" = some (some (.ref fOW)))
    (lOW : K.lookup fOW = some ⟨ocOW, odOW, .func (PySem.W.fnOf "work" "work" (defArgs sOW) (defBody sOW) (defScope sOW) .none kVOW dcOW pmOW anOW cdOW ctOW), slOW⟩)
    (cOW : PySem.W.codeIn K cdOW "work" = true)
    (kOW : PySem.W.keepIn K (.ref fOW) = true)
    (aOU : PySem.W.nsIn K mainGlobals "unit" = some (some (.ref fOU)))
    (lOU : K.lookup fOU = some ⟨ocOU, odOU, .func (PySem.W.fnOf "unit" "unit" (defArgs sOU) (defBody sOU) (defScope sOU) .none kVOU dcOU pmOU anOU cdOU ctOU), slOU⟩)
    (cOU : PySem.W.codeIn K cdOU "unit" = true)
    (kOU : PySem.W.keepIn K (.ref fOU) = true)
    (aWU : PySem.W.nsIn K mainGlobals "units_till" = some (some (.ref fWU)))
    (lWU : K.lookup fWU = some ⟨ocWU, odWU, .func (PySem.W.fnOf "units_till" "units_till" (defArgs sWU) (defBody sWU) (defScope sWU) .none kVWU dcWU pmWU anWU cdWU ctWU), slWU⟩)
    (cWU : PySem.W.codeIn K cdWU "units_till" = true)
    (kWU : PySem.W.keepIn K (.ref fWU) = true)
    (aMU : PySem.W.nsIn K mainGlobals "must" = some (some (.ref fMU)))
    (lMU : K.lookup fMU = some ⟨ocMU, odMU, .func (PySem.W.fnOf "must" "must" (defArgs sMU) (defBody sMU) (defScope sMU) .none kVMU dcMU pmMU anMU cdMU ctMU), slMU⟩)
    (cMU : PySem.W.codeIn K cdMU "must" = true)
    (kMU : PySem.W.keepIn K (.ref fMU) = true)
    (aAN : PySem.W.nsIn K mainGlobals "answers" = some (some (.ref fAN)))
    (lAN : K.lookup fAN = some ⟨ocAN, odAN, .func (PySem.W.fnOf "answers" "answers" (defArgs sAN) (defBody sAN) (defScope sAN) .none kVAN dcAN pmAN anAN cdAN ctAN), slAN⟩)
    (cAN : PySem.W.codeIn K cdAN "answers" = true)
    (kAN : PySem.W.keepIn K (.ref fAN) = true)
    : ∃ fd : FuncData, (∀ (s : Shared) (us : List Value), us.length = (["calls"] : List Str).length → BindsTo s fd ⟨us, []⟩ ((["calls"] : List Str).zip us)) ∧ ∀ base : Heap, K.In base → base.Ns mainGlobals mg → FnOk P w K mg base CX0 14 fa fd ["calls"] (spAN K) := by
  have e := hfa.symm.trans (PySem.W.mg_of X G aAN)
  cases e
  have T : Txt K mg CP CB CD :=
    { clP := ⟨pgCP, hdCP, poCP, saCP⟩, clB := ⟨pgCB, hdCB, poCB, saCB⟩, clD := ⟨pgCD, hdCD, poCD, saCD⟩,
      nst := n_state, nca := n_caller, not := n_other, nsi := n_since, nti := n_time, nof := n_off, nli := n_lit, npr := n_pairs, nno := n_noted, nbu := n_busy, nnb := n_nobody, nbo := n_boards,
      gFREE := ⟨_, PySem.W.mg_of X G c_FREE⟩, gASKS := ⟨_, PySem.W.mg_of X G c_ASKS⟩, gTOLD := ⟨_, PySem.W.mg_of X G c_TOLD⟩, gRINGS := ⟨_, PySem.W.mg_of X G c_RINGS⟩, gTALK := ⟨_, PySem.W.mg_of X G c_TALK⟩, gBUSY := ⟨_, PySem.W.mg_of X G c_BUSY⟩, gDARK := ⟨_, PySem.W.mg_of X G c_DARK⟩, gLONG := ⟨_, PySem.W.mg_of X G c_LONG⟩, gMU := ⟨_, PySem.W.mg_of X G c_MOST_UNITS⟩, gNEVER := ⟨_, PySem.W.mg_of X G c_NEVER⟩, gLL := ⟨_, PySem.W.mg_of X G c_LEAST_LINES⟩, gML := ⟨_, PySem.W.mg_of X G c_MOST_LINES⟩, gMP := ⟨_, PySem.W.mg_of X G c_MOST_PAIRS⟩, gMG := ⟨_, PySem.W.mg_of X G c_MOST_GONE⟩, gLAST := ⟨_, PySem.W.mg_of X G c_LAST⟩,
      gMANY := ⟨aM, PySem.W.mg_of X G a_MANY, fun H => .inr ⟨_, _, _, l_MANY, rfl, rfl, (by show 11 ≤ sizeLine; decide), .cons ⟨_, rfl⟩ (.cons ⟨_, rfl⟩ (.cons ⟨_, rfl⟩ (.cons ⟨_, rfl⟩ (.cons ⟨_, rfl⟩ (.cons ⟨_, rfl⟩ (.cons ⟨_, rfl⟩ (.cons ⟨_, rfl⟩ (.cons ⟨_, rfl⟩ (.cons ⟨_, rfl⟩ (.cons ⟨_, rfl⟩ (.nil)))))))))))⟩⟩,
      gOF := ⟨aO, PySem.W.mg_of X G a_OF_LINES, fun H => .inr ⟨_, _, _, l_OF_LINES, rfl, rfl, (by show 5 ≤ sizeLine; decide), .cons ⟨_, rfl⟩ (.cons ⟨_, rfl⟩ (.cons ⟨_, rfl⟩ (.cons ⟨_, rfl⟩ (.cons ⟨_, rfl⟩ (.nil)))))⟩⟩,
      len := PySem.W.mg_none_of X G z_len, range := PySem.W.mg_none_of X G z_range, int := PySem.W.mg_none_of X G z_int, list := PySem.W.mg_none_of X G z_list }
  have R : RefTxt K mg CR := ⟨⟨⟨nmR, qR, NR, bsR, _, snR, subR, abR, colR, ddR, m0, m1, m2, m3, m5, xR, by decide +kernel⟩, saR, eR, tR, kcR⟩, ⟨gaR, ggR, eR, hR⟩, nbR, PySem.W.mg_of X G aR, exm_of eR iR tR sR, ⟨fRI, _, aRI, tRI, fun_mk (st := sRI) lRI cRI kRI, (fun_mk (st := sRI) lRI cRI kRI).binds bRI⟩⟩
  have Fs : Funs K mg CP CB CD :=
    { fPI := kfun_mk bPI mkCP kcCP (PySem.W.mg_of X G aCP) aPI iPI lPI cPI kPI,
      fPC := mfun_mk bPC aPC iPC lPC cPC kPC,
      fPB := mfun_mk bPB aPB iPB lPB cPB kPB,
      fPF := mfun_mk bPF aPF iPF lPF cPF kPF,
      fPH := mfun_mk bPH aPH iPH lPH cPH kPH,
      fPN := mfun_mk bPN aPN iPN lPN cPN kPN,
      fPR := mfun_mk bPR aPR iPR lPR cPR kPR,
      fPE := mfun_mk bPE aPE iPE lPE cPE kPE,
      fPT := mfun_mk bPT aPT iPT lPT cPT kPT,
      fBI := kfun_mk bBI mkCB kcCB (PySem.W.mg_of X G aCB) aBI iBI lBI cBI kBI,
      fBC := mfun_mk bBC aBC iBC lBC cBC kBC,
      fBL := mfun_mk bBL aBL iBL lBL cBL kBL,
      fBP := mfun_mk bBP aBP iBP lBP cBP kBP,
      fBQ := mfun_mk bBQ aBQ iBQ lBQ cBQ kBQ,
      fBK := mfun_mk bBK aBK iBK lBK cBK kBK,
      fBR := mfun_mk bBR aBR iBR lBR cBR kBR,
      fBU := mfun_mk bBU aBU iBU lBU cBU kBU,
      fBH := mfun_mk bBH aBH iBH lBH cBH kBH,
      fBT := mfun_mk bBT aBT iBT lBT cBT kBT,
      fBM := mfun_mk bBM aBM iBM lBM cBM kBM,
      fBE := mfun_mk bBE aBE iBE lBE cBE kBE,
      fDI := kfun_mk bDI mkCD kcCD (PySem.W.mg_of X G aCD) aDI iDI lDI cDI kDI,
      fDB := mfun_mk bDB aDB iDB lDB cDB kDB,
      fDN := mfun_mk bDN aDN iDN lDN cDN kDN,
      fDU := mfun_mk bDU aDU iDU lDU cDU kDU,
      fDH := mfun_mk bDH aDH iDH lDH cDH kDH,
      fDA := mfun_mk bDA aDA iDA lDA cDA kDA,
      fDG := mfun_mk bDG aDG iDG lDG cDG kDG,
      fDL := mfun_mk bDL aDL iDL lDL cDL kDL,
      fDC := mfun_mk bDC aDC iDC lDC cDC kDC,
      fDM := mfun_mk bDM aDM iDM lDM cDM kDM,
      fDT := mfun_mk bDT aDT iDT lDT cDT kDT,
      fDW := mfun_mk bDW aDW iDW lDW cDW kDW,
      fDS := mfun_mk bDS aDS iDS lDS cDS kDS,
      fDO := mfun_mk bDO aDO iDO lDO cDO kDO,
      fDD := mfun_mk bDD aDD iDD lDD cDD kDD,
      fDX := mfun_mk bDX aDX iDX lDX cDX kDX,
      fOL := gfun_mk bOL (PySem.W.mg_of X G aOL) lOL cOL kOL,
      fOI := gfun_mk bOI (PySem.W.mg_of X G aOI) lOI cOI kOI,
      fOP := gfun_mk bOP (PySem.W.mg_of X G aOP) lOP cOP kOP,
      fOC := gfun_mk bOC (PySem.W.mg_of X G aOC) lOC cOC kOC,
      fOB := gfun_mk bOB (PySem.W.mg_of X G aOB) lOB cOB kOB,
      fOG := gfun_mk bOG (PySem.W.mg_of X G aOG) lOG cOG kOG,
      fOW := gfun_mk bOW (PySem.W.mg_of X G aOW) lOW cOW kOW,
      fOU := gfun_mk bOU (PySem.W.mg_of X G aOU) lOU cOU kOU,
      fWU := gfun_mk bWU (PySem.W.mg_of X G aWU) lWU cWU kWU,
      fMU := gfun_mk bMU (PySem.W.mg_of X G aMU) lMU cMU kMU }
  exact ⟨PySem.W.fnOf "answers" "answers" (defArgs sAN) (defBody sAN) (defScope sAN) .none kVAN dcAN pmAN anAN cdAN ctAN, fun s us hu => match us, hu with | [_], _ => .of_eq rfl, fun base _ _ => all_ok T R Fs (fun_mk (st := sAN) lAN cAN kAN)⟩
end Cb

open PySem PySem.W PyProof.Rows
set_option maxRecDepth 100000 in
set_option maxHeartbeats 0 in
theorem PySem.Challenge.cw_cordboard_s01_answers_holds : PySem.Challenge.rw_cordboard_s01_answers.Holds := by
  w_on; k_headS; (case hw => exact ⟨[.list [.int 10]], by decide +kernel, by decide +kernel⟩)
  k_fillS
  refine L2.walk_specK (r := PySem.Challenge.rw_cordboard_s01_answers) (k := 14) (CX := L2.CX0) (ps := ["calls"]) (sp := Cb.spAN) (by decide +kernel) rfl rfl ⟨rfl, by decide, by decide⟩ (fun w h Y => PySem.W.kIn_of Y) ?F ?S (fun _ _ _ _ z => z)
  case F =>
    intro w mg fa h Y KX G hmg
    refine' Cb.all_mk KX G hmg ?aCP ?pgCP ?hdCP ?poCP ?saCP ?mkCP ?kcCP ?n_state ?n_caller ?n_other ?n_since ?aCB ?pgCB ?hdCB ?poCB ?saCB ?mkCB ?kcCB ?n_time ?n_off ?n_lit ?n_pairs ?n_noted ?n_busy ?n_nobody ?aCD ?pgCD ?hdCD ?poCD ?saCD ?mkCD ?kcCD ?n_boards ?c_FREE ?c_ASKS ?c_TOLD ?c_RINGS ?c_TALK ?c_BUSY ?c_DARK ?c_LONG ?c_MOST_UNITS ?c_NEVER ?c_LEAST_LINES ?c_MOST_LINES ?c_MOST_PAIRS ?c_MOST_GONE ?c_LAST ?a_MANY ?l_MANY ?a_OF_LINES ?l_OF_LINES ?z_len ?z_range ?z_int ?z_list ?aR ?xR ?saR ?gaR ?ggR ?nbR ?kcR ?eR ?tR ?hR ?iR ?sR ?aRI ?tRI ?lRI ?cRI ?kRI ?aPI ?iPI ?lPI ?cPI ?kPI ?aPC ?iPC ?lPC ?cPC ?kPC ?aPB ?iPB ?lPB ?cPB ?kPB ?aPF ?iPF ?lPF ?cPF ?kPF ?aPH ?iPH ?lPH ?cPH ?kPH ?aPN ?iPN ?lPN ?cPN ?kPN ?aPR ?iPR ?lPR ?cPR ?kPR ?aPE ?iPE ?lPE ?cPE ?kPE ?aPT ?iPT ?lPT ?cPT ?kPT ?aBI ?iBI ?lBI ?cBI ?kBI ?aBC ?iBC ?lBC ?cBC ?kBC ?aBL ?iBL ?lBL ?cBL ?kBL ?aBP ?iBP ?lBP ?cBP ?kBP ?aBQ ?iBQ ?lBQ ?cBQ ?kBQ ?aBK ?iBK ?lBK ?cBK ?kBK ?aBR ?iBR ?lBR ?cBR ?kBR ?aBU ?iBU ?lBU ?cBU ?kBU ?aBH ?iBH ?lBH ?cBH ?kBH ?aBT ?iBT ?lBT ?cBT ?kBT ?aBM ?iBM ?lBM ?cBM ?kBM ?aBE ?iBE ?lBE ?cBE ?kBE ?aDI ?iDI ?lDI ?cDI ?kDI ?aDB ?iDB ?lDB ?cDB ?kDB ?aDN ?iDN ?lDN ?cDN ?kDN ?aDU ?iDU ?lDU ?cDU ?kDU ?aDH ?iDH ?lDH ?cDH ?kDH ?aDA ?iDA ?lDA ?cDA ?kDA ?aDG ?iDG ?lDG ?cDG ?kDG ?aDL ?iDL ?lDL ?cDL ?kDL ?aDC ?iDC ?lDC ?cDC ?kDC ?aDM ?iDM ?lDM ?cDM ?kDM ?aDT ?iDT ?lDT ?cDT ?kDT ?aDW ?iDW ?lDW ?cDW ?kDW ?aDS ?iDS ?lDS ?cDS ?kDS ?aDO ?iDO ?lDO ?cDO ?kDO ?aDD ?iDD ?lDD ?cDD ?kDD ?aDX ?iDX ?lDX ?cDX ?kDX ?aOL ?lOL ?cOL ?kOL ?aOI ?lOI ?cOI ?kOI ?aOP ?lOP ?cOP ?kOP ?aOC ?lOC ?cOC ?kOC ?aOB ?lOB ?cOB ?kOB ?aOG ?lOG ?cOG ?kOG ?aOW ?lOW ?cOW ?kOW ?aOU ?lOU ?cOU ?kOU ?aWU ?lWU ?cWU ?kWU ?aMU ?lMU ?cMU ?kMU ?aAN ?lAN ?cAN ?kAN
    (case aCP => k_is)
    (case pgCP => k_is)
    (case hdCP => k_is)
    (case poCP => k_is)
    (case saCP => k_is)
    (case mkCP => k_is)
    (case kcCP => k_is)
    (case n_state => k_is)
    (case n_caller => k_is)
    (case n_other => k_is)
    (case n_since => k_is)
    (case aCB => k_is)
    (case pgCB => k_is)
    (case hdCB => k_is)
    (case poCB => k_is)
    (case saCB => k_is)
    (case mkCB => k_is)
    (case kcCB => k_is)
    (case n_time => k_is)
    (case n_off => k_is)
    (case n_lit => k_is)
    (case n_pairs => k_is)
    (case n_noted => k_is)
    (case n_busy => k_is)
    (case n_nobody => k_is)
    (case aCD => k_is)
    (case pgCD => k_is)
    (case hdCD => k_is)
    (case poCD => k_is)
    (case saCD => k_is)
    (case mkCD => k_is)
    (case kcCD => k_is)
    (case n_boards => k_is)
    (case c_FREE => k_is)
    (case c_ASKS => k_is)
    (case c_TOLD => k_is)
    (case c_RINGS => k_is)
    (case c_TALK => k_is)
    (case c_BUSY => k_is)
    (case c_DARK => k_is)
    (case c_LONG => k_is)
    (case c_MOST_UNITS => k_is)
    (case c_NEVER => k_is)
    (case c_LEAST_LINES => k_is)
    (case c_MOST_LINES => k_is)
    (case c_MOST_PAIRS => k_is)
    (case c_MOST_GONE => k_is)
    (case c_LAST => k_is)
    (case a_MANY => k_is)
    (case l_MANY => k_is)
    (case a_OF_LINES => k_is)
    (case l_OF_LINES => k_is)
    (case z_len => k_is)
    (case z_range => k_is)
    (case z_int => k_is)
    (case z_list => k_is)
    (case aR => k_is)
    (case xR => k_is)
    (case saR => k_is)
    (case gaR => k_is)
    (case ggR => k_is)
    (case nbR => k_is)
    (case kcR => k_is)
    (case eR => k_is)
    (case tR => k_is)
    (case hR => k_is)
    (case iR => k_is)
    (case sR => first | rfl | k_is)
    (case aRI => k_is)
    (case tRI => k_is)
    (case lRI => k_is)
    (case cRI => k_is)
    (case kRI => k_is)
    (case aPI => k_is)
    (case iPI => k_is)
    (case lPI => k_is)
    (case cPI => k_is)
    (case kPI => k_is)
    (case aPC => k_is)
    (case iPC => k_is)
    (case lPC => k_is)
    (case cPC => k_is)
    (case kPC => k_is)
    (case aPB => k_is)
    (case iPB => k_is)
    (case lPB => k_is)
    (case cPB => k_is)
    (case kPB => k_is)
    (case aPF => k_is)
    (case iPF => k_is)
    (case lPF => k_is)
    (case cPF => k_is)
    (case kPF => k_is)
    (case aPH => k_is)
    (case iPH => k_is)
    (case lPH => k_is)
    (case cPH => k_is)
    (case kPH => k_is)
    (case aPN => k_is)
    (case iPN => k_is)
    (case lPN => k_is)
    (case cPN => k_is)
    (case kPN => k_is)
    (case aPR => k_is)
    (case iPR => k_is)
    (case lPR => k_is)
    (case cPR => k_is)
    (case kPR => k_is)
    (case aPE => k_is)
    (case iPE => k_is)
    (case lPE => k_is)
    (case cPE => k_is)
    (case kPE => k_is)
    (case aPT => k_is)
    (case iPT => k_is)
    (case lPT => k_is)
    (case cPT => k_is)
    (case kPT => k_is)
    (case aBI => k_is)
    (case iBI => k_is)
    (case lBI => k_is)
    (case cBI => k_is)
    (case kBI => k_is)
    (case aBC => k_is)
    (case iBC => k_is)
    (case lBC => k_is)
    (case cBC => k_is)
    (case kBC => k_is)
    (case aBL => k_is)
    (case iBL => k_is)
    (case lBL => k_is)
    (case cBL => k_is)
    (case kBL => k_is)
    (case aBP => k_is)
    (case iBP => k_is)
    (case lBP => k_is)
    (case cBP => k_is)
    (case kBP => k_is)
    (case aBQ => k_is)
    (case iBQ => k_is)
    (case lBQ => k_is)
    (case cBQ => k_is)
    (case kBQ => k_is)
    (case aBK => k_is)
    (case iBK => k_is)
    (case lBK => k_is)
    (case cBK => k_is)
    (case kBK => k_is)
    (case aBR => k_is)
    (case iBR => k_is)
    (case lBR => k_is)
    (case cBR => k_is)
    (case kBR => k_is)
    (case aBU => k_is)
    (case iBU => k_is)
    (case lBU => k_is)
    (case cBU => k_is)
    (case kBU => k_is)
    (case aBH => k_is)
    (case iBH => k_is)
    (case lBH => k_is)
    (case cBH => k_is)
    (case kBH => k_is)
    (case aBT => k_is)
    (case iBT => k_is)
    (case lBT => k_is)
    (case cBT => k_is)
    (case kBT => k_is)
    (case aBM => k_is)
    (case iBM => k_is)
    (case lBM => k_is)
    (case cBM => k_is)
    (case kBM => k_is)
    (case aBE => k_is)
    (case iBE => k_is)
    (case lBE => k_is)
    (case cBE => k_is)
    (case kBE => k_is)
    (case aDI => k_is)
    (case iDI => k_is)
    (case lDI => k_is)
    (case cDI => k_is)
    (case kDI => k_is)
    (case aDB => k_is)
    (case iDB => k_is)
    (case lDB => k_is)
    (case cDB => k_is)
    (case kDB => k_is)
    (case aDN => k_is)
    (case iDN => k_is)
    (case lDN => k_is)
    (case cDN => k_is)
    (case kDN => k_is)
    (case aDU => k_is)
    (case iDU => k_is)
    (case lDU => k_is)
    (case cDU => k_is)
    (case kDU => k_is)
    (case aDH => k_is)
    (case iDH => k_is)
    (case lDH => k_is)
    (case cDH => k_is)
    (case kDH => k_is)
    (case aDA => k_is)
    (case iDA => k_is)
    (case lDA => k_is)
    (case cDA => k_is)
    (case kDA => k_is)
    (case aDG => k_is)
    (case iDG => k_is)
    (case lDG => k_is)
    (case cDG => k_is)
    (case kDG => k_is)
    (case aDL => k_is)
    (case iDL => k_is)
    (case lDL => k_is)
    (case cDL => k_is)
    (case kDL => k_is)
    (case aDC => k_is)
    (case iDC => k_is)
    (case lDC => k_is)
    (case cDC => k_is)
    (case kDC => k_is)
    (case aDM => k_is)
    (case iDM => k_is)
    (case lDM => k_is)
    (case cDM => k_is)
    (case kDM => k_is)
    (case aDT => k_is)
    (case iDT => k_is)
    (case lDT => k_is)
    (case cDT => k_is)
    (case kDT => k_is)
    (case aDW => k_is)
    (case iDW => k_is)
    (case lDW => k_is)
    (case cDW => k_is)
    (case kDW => k_is)
    (case aDS => k_is)
    (case iDS => k_is)
    (case lDS => k_is)
    (case cDS => k_is)
    (case kDS => k_is)
    (case aDO => k_is)
    (case iDO => k_is)
    (case lDO => k_is)
    (case cDO => k_is)
    (case kDO => k_is)
    (case aDD => k_is)
    (case iDD => k_is)
    (case lDD => k_is)
    (case cDD => k_is)
    (case kDD => k_is)
    (case aDX => k_is)
    (case iDX => k_is)
    (case lDX => k_is)
    (case cDX => k_is)
    (case kDX => k_is)
    (case aOL => k_is)
    (case lOL => k_is)
    (case cOL => k_is)
    (case kOL => k_is)
    (case aOI => k_is)
    (case lOI => k_is)
    (case cOI => k_is)
    (case kOI => k_is)
    (case aOP => k_is)
    (case lOP => k_is)
    (case cOP => k_is)
    (case kOP => k_is)
    (case aOC => k_is)
    (case lOC => k_is)
    (case cOC => k_is)
    (case kOC => k_is)
    (case aOB => k_is)
    (case lOB => k_is)
    (case cOB => k_is)
    (case kOB => k_is)
    (case aOG => k_is)
    (case lOG => k_is)
    (case cOG => k_is)
    (case kOG => k_is)
    (case aOW => k_is)
    (case lOW => k_is)
    (case cOW => k_is)
    (case kOW => k_is)
    (case aOU => k_is)
    (case lOU => k_is)
    (case cOU => k_is)
    (case kOU => k_is)
    (case aWU => k_is)
    (case lWU => k_is)
    (case cWU => k_is)
    (case kWU => k_is)
    (case aMU => k_is)
    (case lMU => k_is)
    (case cMU => k_is)
    (case kMU => k_is)
    (case aAN => k_is)
    (case lAN => k_is)
    (case cAN => k_is)
    (case kAN => k_is)
  case S =>
    intro K H xs a hO hwi hask hx
    cases hx with
    | cons h1 h2 =>
      cases h2
      cases h1 with
      | lst hs ha =>
        have e := L2.ints_dw a.1 _ ha
        subst e
        have hq : PyMu29.answers_asked a.1 = true := hask
        obtain ⟨cs, hP, hA, hlen⟩ := Cb.asked_parse hq
        refine ⟨_, a.1, cs, rfl, hs, hP, hlen, fun H' p hp => ?_⟩
        have hp' : H' p = some (.lst ((PyMu29.answers a.1).map L2.V.int)) := by
          rw [hA]
          exact hp
        exact .lst (L2.SqL.of hp') (L2.dw_ints (PyMu29.answers a.1))
#print axioms PySem.Challenge.cw_cordboard_s01_answers_holds

