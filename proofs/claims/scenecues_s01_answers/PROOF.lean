import PyProof.Rows.All
import PySy92
import KE.DatumOrd
import Wide.All
import OpenK.AllK
import Wide.FinOn
import PyProof.EqAt
import PyProof.EqKinds
import PyProof.TupleCall
import Open.SpecLaws
import KE.OsGo
import KE.DataMinMax
import HandS.ForSpec
import HandS.Comp
import HandS.Iter
import HandS.Conv
import HandS.TupAny
import HandS.ExcInit
import HandS.Evl
import HandS.Zip
import HandS.Walk
import HandS.HeadHook2
import HandS.Head2
import PySem.Challenge.RW_scenecues_s01_answers
import HandS.HeadHook4
import HandS.ExcField
import KE.OsHead
import KE.KStateDown
import HandS.Head0
import HandS.Head1
import HandS.Spec
import KE.GoesMore
set_option Elab.async false
set_option linter.all false
/-! A1: the stage. Functions as the program has them, over the specification's state; what holds of every state that is reached. -/
namespace Sc
open Sy90

def dueOf (s : St) (k : Nat) : Option Nat := match (cue s k).upon with
  | none => none
  | some (e, c, d) => (if e = 0 then startOf s c else doneAt s c).map fun t => t + d
def dueP (s : St) (k : Nat) : Bool := (startOf s k).isNone && decide (dueOf s k = some s.second)
def stepP (s : St) (k : Nat) : St := if dueP s k = true then starts s k else s
def followedP (s : St) : St := (List.range s.cues.length).foldl stepP s
def reached (s : St) (k : Nat) : Bool := s.things.all fun t => t.by_ != some k || !moving t
def finishedP (s : St) : St := { s with done := (List.range s.cues.length).map fun k => match doneAt s k with
  | some t => some t
  | none => if ((startOf s k).isSome && reached s k) = true then some s.second else none }
def tickP (s : St) : St := followedP (finishedP { s with things := s.things.map moved, second := s.second + 1 })
def calledP (s : St) (k : Nat) : St := followedP (starts s k)
def toCome (s : St) (k : Nat) : Bool := (startOf s k).isNone && match (cue s k).upon with
  | none => false
  | some (_, c, _) => (startOf s c).isSome
def quiet (s : St) : Bool := !(s.things.any moving) && !((List.range s.cues.length).any (toCome s))

structure CueOk (n k : Nat) (c : Cue) : Prop where
  ne : c.moves ≠ []
  bars : ∀ x ∈ c.moves, x.1 < n ∧ x.2 ≤ 6
  nodup : (c.moves.map (·.1)).Nodup
  up : ∀ e l d, c.upon = some (e, l, d) → e ≤ 1 ∧ l < k ∧ d ≤ 5

structure Wf (s : St) : Prop where
  n1 : 1 ≤ s.things.length
  n4 : s.things.length ≤ 4
  c5 : s.cues.length ≤ 5
  ls : s.started.length = s.cues.length
  ld : s.done.length = s.cues.length
  cues : ∀ k, k < s.cues.length → CueOk s.things.length k (cue s k)
  le6 : ∀ b, b < s.things.length → (thing s b).mark ≤ 6 ∧ (thing s b).aim ≤ 6
  hold : ∀ b, b < s.things.length → ∀ k, (thing s b).by_ = some k → ∃ t0, startOf s k = some t0 ∧ (∃ x ∈ (cue s k).moves, x.1 = b) ∧
    ((thing s b).mark = (thing s b).aim ∨ apart (thing s b).mark (thing s b).aim + s.second ≤ t0 + 6)
  free : ∀ b, b < s.things.length → (thing s b).by_ = none → (thing s b).mark = (thing s b).aim
  sle : ∀ k t, startOf s k = some t → t ≤ s.second
  dle : ∀ k t, doneAt s k = some t → ∃ t0, startOf s k = some t0 ∧ t0 < t ∧ t ≤ t0 + 6 ∧ t ≤ s.second
  slow : ∀ k t0, startOf s k = some t0 → doneAt s k = none → s.second ≤ t0 + 5
  wk : ∀ k t, k < s.cues.length → startOf s k = none → dueOf s k = some t → s.second ≤ t
structure Ok (s : St) : Prop extends Wf s where
  st : ∀ k t, k < s.cues.length → startOf s k = none → dueOf s k = some t → s.second < t

/-! ### small facts -/
theorem startOf_lt {s : St} {k t : Nat} (h : startOf s k = some t) : k < s.started.length := by
  unfold startOf at h
  rw [List.getD_eq_getElem?_getD] at h
  by_cases c : k < s.started.length
  · exact c
  · rw [List.getElem?_eq_none (by omega)] at h
    cases h
theorem getD_set_eq {α : Type} {l : List α} {k : Nat} {v d : α} (h : k < l.length) : (l.set k v).getD k d = v := by
  rw [List.getD_eq_getElem?_getD, List.getElem?_set_self h]
  rfl
theorem getD_set_ne {α : Type} {l : List α} {k j : Nat} {v d : α} (h : j ≠ k) : (l.set k v).getD j d = l.getD j d := by
  rw [List.getD_eq_getElem?_getD, List.getD_eq_getElem?_getD, List.getElem?_set_ne (Ne.symm h)]
/-- what a cue's start does to the bars -/
def setMoves (k : Nat) (m : List (Nat × Nat)) (l : List Thing) : List Thing :=
  m.foldl (fun (l : List Thing) (x : Nat × Nat) => l.set x.1 { (l.getD x.1 ⟨0, 0, none⟩) with aim := x.2, by_ := some k }) l
theorem setMoves_len (k : Nat) : ∀ (m : List (Nat × Nat)) (l : List Thing), (setMoves k m l).length = l.length
  | [], _ => rfl
  | x :: m, l => by
    show (setMoves k m _).length = _
    rw [setMoves_len k m, List.length_set]
theorem setMoves_at (k : Nat) : ∀ (m : List (Nat × Nat)) (l : List Thing) (b : Nat), b < l.length →
    ((∃ y, (b, y) ∈ m ∧ (setMoves k m l).getD b ⟨0, 0, none⟩ = { (l.getD b ⟨0, 0, none⟩) with aim := y, by_ := some k }) ∨
      ((∀ x ∈ m, x.1 ≠ b) ∧ (setMoves k m l).getD b ⟨0, 0, none⟩ = l.getD b ⟨0, 0, none⟩))
  | [], l, b, _ => .inr ⟨fun x h => (by cases h), rfl⟩
  | x :: m, l, b, hb => by
    have ih := setMoves_at k m (l.set x.1 { (l.getD x.1 ⟨0, 0, none⟩) with aim := x.2, by_ := some k }) b (by rw [List.length_set]; exact hb)
    have e0 : setMoves k (x :: m) l = setMoves k m (l.set x.1 { (l.getD x.1 ⟨0, 0, none⟩) with aim := x.2, by_ := some k }) := rfl
    rw [e0]
    by_cases hx : x.1 = b
    · subst hx
      rw [getD_set_eq hb] at ih
      rcases ih with ⟨y, h1, h2⟩ | ⟨h1, h2⟩
      · exact .inl ⟨y, List.mem_cons_of_mem _ h1, h2⟩
      · exact .inl ⟨x.2, List.mem_cons_self, h2⟩
    · rw [getD_set_ne (Ne.symm hx)] at ih
      rcases ih with ⟨y, h1, h2⟩ | ⟨h1, h2⟩
      · exact .inl ⟨y, List.mem_cons_of_mem _ h1, h2⟩
      · refine .inr ⟨fun z hz => ?_, h2⟩
        rcases List.mem_cons.mp hz with rfl | hz
        · exact hx
        · exact h1 z hz
section
variable {s : St} {k j : Nat}
theorem starts_things : (starts s k).things = setMoves k (cue s k).moves s.things := rfl
theorem starts_len : (starts s k).things.length = s.things.length := setMoves_len _ _ _
theorem starts_cue : cue (starts s k) j = cue s j := rfl
theorem starts_self (h : k < s.started.length) : startOf (starts s k) k = some s.second := getD_set_eq h
theorem starts_ne (h : j ≠ k) : startOf (starts s k) j = startOf s j := getD_set_ne h
theorem starts_done : doneAt (starts s k) j = doneAt s j := rfl
theorem starts_dueOf (hj : ∀ e l d, (cue s j).upon = some (e, l, d) → l ≠ k) : dueOf (starts s k) j = dueOf s j := by
  unfold dueOf
  rw [starts_cue]
  cases h : (cue s j).upon with
  | none => rfl
  | some p =>
    obtain ⟨e, l, d⟩ := p
    dsimp only
    rw [starts_ne (hj e l d h), starts_done]
theorem apart_le {a b : Nat} (ha : a ≤ 6) (hb : b ≤ 6) : apart a b ≤ 6 := by
  unfold apart
  omega

/-- a cue that hasn't started starts -/
theorem Wf.starts (W : Wf s) (hk : k < s.cues.length) (hu : startOf s k = none) : Wf (starts s k) := by
  have hks : k < s.started.length := by rw [W.ls]; exact hk
  have hC := W.cues k hk
  have hdn : doneAt s k = none := by
    cases e : doneAt s k with
    | none => rfl
    | some t =>
      obtain ⟨t0, h1, _⟩ := W.dle k t e
      rw [hu] at h1
      cases h1
  have at_ : ∀ b, b < s.things.length → ((∃ y, (b, y) ∈ (cue s k).moves ∧ thing (Sy90.starts s k) b = { (thing s b) with aim := y, by_ := some k }) ∨
      ((∀ x ∈ (cue s k).moves, x.1 ≠ b) ∧ thing (Sy90.starts s k) b = thing s b)) := fun b hb => setMoves_at k _ _ b hb
  refine ⟨?_, ?_, W.c5, ?_, W.ld, ?_, ?_, ?_, ?_, ?_, ?_, ?_, ?_⟩
  · rw [starts_len]; exact W.n1
  · rw [starts_len]; exact W.n4
  · show (s.started.set k _).length = _
    rw [List.length_set]
    exact W.ls
  · intro j hj
    rw [starts_len]
    exact W.cues j hj
  · intro b hb
    rw [starts_len] at hb
    rcases at_ b hb with ⟨y, h1, h2⟩ | ⟨h1, h2⟩
    · rw [h2]
      exact ⟨(W.le6 b hb).1, (hC.bars _ h1).2⟩
    · rw [h2]
      exact W.le6 b hb
  · intro b hb j hj
    rw [starts_len] at hb
    rcases at_ b hb with ⟨y, h1, h2⟩ | ⟨h1, h2⟩
    · rw [h2] at hj ⊢
      have e : k = j := Option.some.inj hj
      subst e
      refine ⟨s.second, starts_self hks, ⟨_, h1, rfl⟩, .inr ?_⟩
      have q : apart (thing s b).mark y ≤ 6 := apart_le (W.le6 b hb).1 (hC.bars _ h1).2
      show apart (thing s b).mark y + s.second ≤ s.second + 6
      omega
    · rw [h2] at hj ⊢
      obtain ⟨t0, a1, a2, a3⟩ := W.hold b hb j hj
      have ne : j ≠ k := fun z => by rw [z, hu] at a1; cases a1
      exact ⟨t0, by rw [starts_ne ne]; exact a1, a2, a3⟩
  · intro b hb hj
    rw [starts_len] at hb
    rcases at_ b hb with ⟨y, h1, h2⟩ | ⟨h1, h2⟩
    · rw [h2] at hj
      cases hj
    · rw [h2] at hj ⊢
      exact W.free b hb hj
  · intro j t ht
    by_cases e : j = k
    · subst e
      rw [starts_self hks] at ht
      cases ht
      exact Nat.le_refl _
    · rw [starts_ne e] at ht
      exact W.sle j t ht
  · intro j t ht
    rw [starts_done] at ht
    obtain ⟨t0, h1, h2⟩ := W.dle j t ht
    have ne : j ≠ k := fun z => by rw [z, hu] at h1; cases h1
    exact ⟨t0, by rw [starts_ne ne]; exact h1, h2⟩
  · intro j t0 ht hd
    rw [starts_done] at hd
    by_cases e : j = k
    · subst e
      rw [starts_self hks] at ht
      cases ht
      show s.second ≤ s.second + 5
      omega
    · rw [starts_ne e] at ht
      exact W.slow j t0 ht hd
  · intro j t hj hs hd
    have ne : j ≠ k := fun z => by rw [z, starts_self hks] at hs; cases hs
    rw [starts_ne ne] at hs
    by_cases c : ∀ e l d, (cue s j).upon = some (e, l, d) → l ≠ k
    · rw [starts_dueOf c] at hd
      exact W.wk j t hj hs hd
    · have c' : ∃ e d, (cue s j).upon = some (e, k, d) := by
        cases h : (cue s j).upon with
        | none => exact absurd (fun e l d z => by rw [h] at z; cases z) c
        | some p =>
          obtain ⟨e, l, d⟩ := p
          by_cases hl : l = k
          · subst hl
            exact ⟨e, d, rfl⟩
          · exact absurd (fun e' l' d' z => by rw [h] at z; cases z; exact hl) c
      obtain ⟨e, d, h⟩ := c'
      unfold dueOf at hd
      rw [starts_cue, h] at hd
      dsimp only at hd
      rw [starts_self hks, starts_done, hdn] at hd
      by_cases he : e = 0
      · rw [if_pos he] at hd
        cases hd
        show s.second ≤ s.second + d
        omega
      · rw [if_neg he] at hd
        cases hd
end
end Sc
/-! A2: one second, a call: the program's and the specification's are one, and what holds of a state is kept. -/
namespace Sc
open Sy90

theorem fold_inv {α : Type} (P : Nat → α → Prop) (f : α → Nat → α) (n : Nat) (a : α) (h0 : P 0 a) (hs : ∀ i a, i < n → P i a → P (i + 1) (f a i)) : P n ((List.range n).foldl f a) := by
  induction n with
  | zero => exact h0
  | succ n ih =>
    rw [List.range_succ, List.foldl_append]
    exact hs n _ (Nat.lt_succ_self n) (ih fun i a hi p => hs i a (Nat.lt_succ_of_lt hi) p)
theorem fold_eq {α : Type} (P : Nat → α → Prop) (f g : α → Nat → α) (n : Nat) (a : α) (h0 : P 0 a) (hs : ∀ i a, i < n → P i a → P (i + 1) (f a i)) (he : ∀ i a, i < n → P i a → f a i = g a i) :
    (List.range n).foldl f a = (List.range n).foldl g a := by
  have key : P n ((List.range n).foldl f a) ∧ (List.range n).foldl f a = (List.range n).foldl g a := by
    induction n with
    | zero => exact ⟨h0, rfl⟩
    | succ n ih =>
      obtain ⟨i1, i2⟩ := ih (fun i a hi p => hs i a (Nat.lt_succ_of_lt hi) p) (fun i a hi p => he i a (Nat.lt_succ_of_lt hi) p)
      rw [List.range_succ, List.foldl_append, List.foldl_append, ← i2]
      exact ⟨hs n _ (Nat.lt_succ_self n) i1, he n _ (Nat.lt_succ_self n) i1⟩
  exact key.2

theorem due_iff {s : St} {k : Nat} (hw : ∀ t, startOf s k = none → dueOf s k = some t → s.second ≤ t) : due s k = dueP s k := by
  unfold due dueP
  cases hs : startOf s k with
  | some t => rfl
  | none =>
    have hw' := fun t => hw t hs
    unfold dueOf at hw' ⊢
    cases hu : (cue s k).upon with
    | none => simp
    | some p =>
      obtain ⟨e, c, d⟩ := p
      rw [hu] at hw'
      have key : ∀ o : Option Nat, (∀ t, o.map (fun t => t + d) = some t → s.second ≤ t) → (o.any fun (t : Nat) => decide (t + d ≤ s.second)) = decide (o.map (fun t => t + d) = some s.second) := by
        intro o h
        cases o with
        | none => simp
        | some t =>
          have h1 := h (t + d) rfl
          by_cases c : t + d = s.second
          · simp [c]
          · have : ¬ t + d ≤ s.second := by omega
            simp [c, this]
      cases e with
      | zero => exact key _ hw'
      | succ e => exact key _ hw'

section
variable {s : St}
def spec1 (s : St) (k : Nat) : St := if due s k = true then starts s k else s
theorem followed_def (s : St) : followed s = (List.range s.cues.length).foldl spec1 s := rfl
theorem stepP_cues (s : St) (k : Nat) : (stepP s k).cues = s.cues := by
  unfold stepP
  split <;> rfl
theorem stepP_second (s : St) (k : Nat) : (stepP s k).second = s.second := by
  unfold stepP
  split <;> rfl
theorem stepP_pairs (s : St) (k : Nat) : (stepP s k).pairs = s.pairs := by
  unfold stepP
  split <;> rfl
theorem stepP_done (s : St) (k : Nat) : (stepP s k).done = s.done := by
  unfold stepP
  split <;> rfl
theorem stepP_len (s : St) (k : Nat) : (stepP s k).things.length = s.things.length := by
  unfold stepP
  split
  · exact starts_len
  · rfl
theorem dueP_un {k : Nat} (h : dueP s k = true) : startOf s k = none ∧ dueOf s k = some s.second := by
  unfold dueP at h
  rw [Bool.and_eq_true] at h
  exact ⟨Option.isNone_iff_eq_none.mp h.1, of_decide_eq_true h.2⟩
theorem Wf.step {k : Nat} (W : Wf s) (hk : k < s.cues.length) : Wf (stepP s k) := by
  unfold stepP
  split
  · rename_i h
    exact W.starts hk (dueP_un h).1
  · exact W
theorem fold_same (s : St) (n : Nat) : ((List.range n).foldl stepP s).cues = s.cues ∧ ((List.range n).foldl stepP s).second = s.second ∧ ((List.range n).foldl stepP s).pairs = s.pairs ∧ ((List.range n).foldl stepP s).done = s.done ∧
    ((List.range n).foldl stepP s).things.length = s.things.length := by
  refine fold_inv (fun _ a => a.cues = s.cues ∧ a.second = s.second ∧ a.pairs = s.pairs ∧ a.done = s.done ∧ a.things.length = s.things.length) stepP n s ⟨rfl, rfl, rfl, rfl, rfl⟩ fun i a _ h => ?_
  rw [stepP_cues, stepP_second, stepP_pairs, stepP_done, stepP_len]
  exact h
theorem followed_eq (W : Wf s) : followed s = followedP s := by
  rw [followed_def]
  refine (fold_eq (fun _ a => Wf a ∧ a.cues = s.cues) stepP spec1 _ s ⟨W, rfl⟩ (fun i a hi p => ?_) fun i a hi p => ?_).symm
  · exact ⟨p.1.step (by rw [p.2]; exact hi), (stepP_cues a i).trans p.2⟩
  · unfold stepP spec1
    rw [due_iff fun t h1 h2 => p.1.wk i t (by rw [p.2]; exact hi) h1 h2]
/-- after the loop nothing more is due -/
theorem followedP_ok (W : Wf s) : Ok (followedP s) := by
  have key : Wf (followedP s) ∧ (followedP s).cues = s.cues ∧ ∀ k t, k < s.cues.length → startOf (followedP s) k = none → dueOf (followedP s) k = some t → (followedP s).second < t := by
    refine fold_inv (fun i (a : St) => Wf a ∧ a.cues = s.cues ∧ ∀ k t, k < i → startOf a k = none → dueOf a k = some t → a.second < t) stepP s.cues.length s ⟨W, rfl, fun k t hk => absurd hk (Nat.not_lt_zero _)⟩ fun i a hi p => ?_
    obtain ⟨p1, p2, p3⟩ := p
    have hi' : i < a.cues.length := by rw [p2]; exact hi
    refine ⟨p1.step hi', (stepP_cues a i).trans p2, fun k t hk h1 h2 => ?_⟩
    rw [stepP_second]
    by_cases hd : dueP a i = true
    · have e : stepP a i = starts a i := if_pos hd
      rw [e] at h1 h2
      have ne : k ≠ i := fun z => by
        rw [z, starts_self (by rw [p1.ls]; exact hi')] at h1
        cases h1
      have hk' : k < i := by omega
      rw [starts_ne ne] at h1
      rw [starts_dueOf fun e l d z => by
        have := ((p1.cues k (by omega)).up e l d z).2.1
        omega] at h2
      exact p3 k t hk' h1 h2
    · have e : stepP a i = a := if_neg hd
      rw [e] at h1 h2
      by_cases hk' : k < i
      · exact p3 k t hk' h1 h2
      · have ek : k = i := by omega
        subst ek
        have h3 := p1.wk k t hi' h1 h2
        rcases Nat.lt_or_ge a.second t with h | h
        · exact h
        · have et : t = a.second := by omega
          subst et
          refine absurd ?_ hd
          unfold dueP
          rw [h1, h2]
          simp
  have hl : (followedP s).cues.length = s.cues.length := by rw [key.2.1]
  exact ⟨key.1, fun k t hk h1 h2 => key.2.2 k t (by rw [← hl]; exact hk) h1 h2⟩

theorem called_eq {k : Nat} (W : Wf s) (hk : k < s.cues.length) (hu : startOf s k = none) : called s k = calledP s k := followed_eq (W.starts hk hu)
theorem called_ok {k : Nat} (W : Wf s) (hk : k < s.cues.length) (hu : startOf s k = none) : Ok (called s k) := by
  rw [called_eq W hk hu]
  exact followedP_ok (W.starts hk hu)

/-! ### a second passes -/
def goOn (s : St) : St := { s with things := s.things.map moved, second := s.second + 1 }
theorem goOn_len : (goOn s).things.length = s.things.length := List.length_map ..
theorem goOn_thing {b : Nat} (hb : b < s.things.length) : thing (goOn s) b = moved (thing s b) := by
  unfold thing goOn
  rw [List.getD_eq_getElem?_getD, List.getD_eq_getElem?_getD, List.getElem?_map, List.getElem?_eq_getElem hb]
  rfl
theorem moved_by (t : Thing) : (moved t).by_ = t.by_ := rfl
theorem moved_aim (t : Thing) : (moved t).aim = t.aim := rfl
theorem moved_mark (t : Thing) : (moved t).mark = if t.mark < t.aim then t.mark + 1 else if t.aim < t.mark then t.mark - 1 else t.mark := rfl
theorem goOn_start {k : Nat} : startOf (goOn s) k = startOf s k := rfl
theorem goOn_done {k : Nat} : doneAt (goOn s) k = doneAt s k := rfl
theorem goOn_due {k : Nat} : dueOf (goOn s) k = dueOf s k := rfl
theorem goOn_cue {k : Nat} : cue (goOn s) k = cue s k := rfl
/-- what holds behind the move, ahead of the ends -/
structure Mid (s : St) : Prop where
  n1 : 1 ≤ s.things.length
  n4 : s.things.length ≤ 4
  c5 : s.cues.length ≤ 5
  ls : s.started.length = s.cues.length
  ld : s.done.length = s.cues.length
  cues : ∀ k, k < s.cues.length → CueOk s.things.length k (cue s k)
  le6 : ∀ b, b < s.things.length → (thing s b).mark ≤ 6 ∧ (thing s b).aim ≤ 6
  hold : ∀ b, b < s.things.length → ∀ k, (thing s b).by_ = some k → ∃ t0, startOf s k = some t0 ∧ (∃ x ∈ (cue s k).moves, x.1 = b) ∧
    ((thing s b).mark = (thing s b).aim ∨ apart (thing s b).mark (thing s b).aim + s.second ≤ t0 + 6)
  free : ∀ b, b < s.things.length → (thing s b).by_ = none → (thing s b).mark = (thing s b).aim
  slt : ∀ k t, startOf s k = some t → t < s.second
  dle : ∀ k t, doneAt s k = some t → ∃ t0, startOf s k = some t0 ∧ t0 < t ∧ t ≤ t0 + 6 ∧ t ≤ s.second
  slow : ∀ k t0, startOf s k = some t0 → doneAt s k = none → s.second ≤ t0 + 6
  wk : ∀ k t, k < s.cues.length → startOf s k = none → dueOf s k = some t → s.second ≤ t
theorem Ok.goOn (W : Ok s) : Mid (goOn s) := by
  refine ⟨?_, ?_, W.c5, W.ls, W.ld, ?_, ?_, ?_, ?_, ?_, ?_, ?_, ?_⟩
  · rw [goOn_len]; exact W.n1
  · rw [goOn_len]; exact W.n4
  · intro k hk
    rw [goOn_len]
    exact W.cues k hk
  · intro b hb
    rw [goOn_len] at hb
    rw [goOn_thing hb, moved_aim, moved_mark]
    have := W.le6 b hb
    refine ⟨?_, this.2⟩
    split
    · omega
    · split <;> omega
  · intro b hb k hk
    rw [goOn_len] at hb
    rw [goOn_thing hb, moved_by] at hk
    obtain ⟨t0, a1, a2, a3⟩ := W.hold b hb k hk
    refine ⟨t0, a1, a2, ?_⟩
    rw [goOn_thing hb, moved_aim, moved_mark]
    have e : (Sc.goOn s).second = s.second + 1 := rfl
    rw [e]
    rcases a3 with a3 | a3
    · left
      rw [if_neg (by omega), if_neg (by omega)]
      exact a3
    · unfold apart at a3 ⊢
      split
      · omega
      · split <;> omega
  · intro b hb hk
    rw [goOn_len] at hb
    rw [goOn_thing hb, moved_by] at hk
    rw [goOn_thing hb, moved_aim, moved_mark]
    have := W.free b hb hk
    rw [if_neg (by omega), if_neg (by omega)]
    exact this
  · intro k t h
    exact Nat.lt_succ_of_le (W.sle k t h)
  · intro k t h
    obtain ⟨t0, h1, h2, h3, h4⟩ := W.dle k t h
    exact ⟨t0, h1, h2, h3, Nat.le_succ_of_le h4⟩
  · intro k t0 h1 h2
    have := W.slow k t0 h1 h2
    show s.second + 1 ≤ t0 + 6
    omega
  · intro k t hk h1 h2
    exact W.st k t hk h1 h2

theorem mem_things {t : Thing} : t ∈ s.things ↔ ∃ b, b < s.things.length ∧ thing s b = t := by
  constructor
  · intro h
    obtain ⟨b, hb, e⟩ := List.mem_iff_getElem.mp h
    refine ⟨b, hb, ?_⟩
    unfold thing
    rw [List.getD_eq_getElem?_getD, List.getElem?_eq_getElem hb]
    exact e
  · rintro ⟨b, hb, e⟩
    subst e
    unfold thing
    rw [List.getD_eq_getElem?_getD, List.getElem?_eq_getElem hb]
    exact List.getElem_mem hb
theorem isDone_eq (M : Mid s) (k : Nat) (hk : k < s.cues.length) : isDone s k = ((startOf s k).isSome && reached s k) := by
  unfold isDone reached
  cases h : startOf s k with
  | none => rfl
  | some t =>
    have e1 : ((some t).any fun (t : Nat) => decide (t < s.second)) = true := decide_eq_true (M.slt k t h)
    rw [e1]
    show (true && _) = (true && _)
    rw [Bool.true_and, Bool.true_and, Bool.eq_iff_iff, List.all_eq_true, List.all_eq_true]
    constructor
    · intro a x hx
      obtain ⟨b, hb, rfl⟩ := mem_things.mp hx
      by_cases hy : (thing s b).by_ = some k
      · obtain ⟨_, _, ⟨y, hy1, rfl⟩, _⟩ := M.hold b hb k hy
        exact a y hy1
      · simp [hy]
    · intro a x hx
      exact a _ (mem_things.mpr ⟨x.1, ((M.cues k hk).bars x hx).1, rfl⟩)
theorem finished_eq (M : Mid s) : finished s = finishedP s := by
  unfold finished finishedP
  congr 1
  refine List.map_congr_left fun k hk => ?_
  have hk' : k < s.cues.length := List.mem_range.mp hk
  rw [isDone_eq M k hk']
  cases doneAt s k <;> rfl
theorem finishedP_done {k : Nat} (hk : k < s.cues.length) : doneAt (finishedP s) k = (match doneAt s k with
  | some t => some t
  | none => if ((startOf s k).isSome && reached s k) = true then some s.second else none) := by
  have h : doneAt (finishedP s) k = ((List.range s.cues.length).map fun k => match doneAt s k with
    | some t => some t
    | none => if ((startOf s k).isSome && reached s k) = true then some s.second else none).getD k none := rfl
  rw [h, List.getD_eq_getElem?_getD, List.getElem?_map, List.getElem?_range hk]
  rfl
theorem doneAt_none {s : St} {k : Nat} (h : s.done.length ≤ k) : doneAt s k = none := by
  unfold doneAt
  rw [List.getD_eq_getElem?_getD, List.getElem?_eq_none h]
  rfl
theorem finishedP_ok (M : Mid s) : Wf (finishedP s) := by
  have hout : ∀ k, s.cues.length ≤ k → doneAt (finishedP s) k = none := fun k hk => doneAt_none (by
    show ((List.range s.cues.length).map _).length ≤ k
    rw [List.length_map, List.length_range]
    exact hk)
  have hin : ∀ k t0, startOf s k = some t0 → k < s.cues.length := fun k t0 h => by
    rw [← M.ls]
    exact startOf_lt h
  refine ⟨M.n1, M.n4, M.c5, M.ls, ?_, M.cues, M.le6, M.hold, M.free, fun k t h => Nat.le_of_lt (M.slt k t h), ?_, ?_, ?_⟩
  · show ((List.range s.cues.length).map _).length = _
    rw [List.length_map, List.length_range]
    rfl
  · intro k t h
    by_cases hk : k < s.cues.length
    · rw [finishedP_done hk] at h
      cases hd : doneAt s k with
      | some t' =>
        rw [hd] at h
        cases h
        exact M.dle k t hd
      | none =>
        rw [hd] at h
        dsimp only at h
        split at h
        · rename_i hc
          cases h
          rw [Bool.and_eq_true] at hc
          obtain ⟨t0, ht0⟩ := Option.isSome_iff_exists.mp hc.1
          exact ⟨t0, ht0, M.slt k t0 ht0, M.slow k t0 ht0 hd, Nat.le_refl _⟩
        · cases h
    · rw [hout k (by omega)] at h
      cases h
  · intro k t0 h1 h2
    have hk := hin k t0 h1
    rw [finishedP_done hk] at h2
    cases hd : doneAt s k with
    | some t' =>
      rw [hd] at h2
      cases h2
    | none =>
      rw [hd] at h2
      dsimp only at h2
      split at h2
      · cases h2
      · rename_i hc
        have h1' : startOf s k = some t0 := h1
        rw [h1'] at hc
        have hr : reached s k = false := by
          cases hh : reached s k with
          | false => rfl
          | true => rw [hh] at hc; exact absurd rfl hc
        unfold reached at hr
        rw [List.all_eq_false] at hr
        obtain ⟨x, hx, hxx⟩ := hr
        obtain ⟨b, hb, rfl⟩ := mem_things.mp hx
        have hb1 : (thing s b).by_ = some k := by
          by_cases c : (thing s b).by_ = some k
          · exact c
          · exact absurd (by simp [c]) hxx
        have hb2 : (thing s b).mark ≠ (thing s b).aim := fun z => hxx (by
          unfold moving
          simp [z])
        obtain ⟨t1, a1, _, a3⟩ := M.hold b hb k hb1
        rw [h1'] at a1
        cases a1
        rcases a3 with a3 | a3
        · exact absurd a3 hb2
        · show s.second ≤ t0 + 5
          unfold apart at a3
          omega
  · intro k t hk h1 h2
    have h1' : startOf s k = none := h1
    have hk' : k < s.cues.length := hk
    show s.second ≤ t
    unfold dueOf at h2
    have hcue : cue (finishedP s) k = cue s k := rfl
    rw [hcue] at h2
    cases hu : (cue s k).upon with
    | none =>
      rw [hu] at h2
      cases h2
    | some p =>
      obtain ⟨e, c, d⟩ := p
      rw [hu] at h2
      dsimp only at h2
      have hwk := fun t => M.wk k t hk' h1'
      unfold dueOf at hwk
      rw [hu] at hwk
      dsimp only at hwk
      by_cases he : e = 0
      · rw [if_pos he] at h2
        exact hwk t (by rw [if_pos he]; exact h2)
      · rw [if_neg he] at h2
        have hc : c < s.cues.length := by
          have := ((M.cues k hk').up e c d hu).2.1
          omega
        rw [finishedP_done hc] at h2
        cases hd : doneAt s c with
        | some t' =>
          rw [hd] at h2
          exact hwk t (by rw [if_neg he, hd]; exact h2)
        | none =>
          rw [hd] at h2
          dsimp only at h2
          split at h2
          · cases h2
            show s.second ≤ s.second + d
            omega
          · cases h2
theorem tick_eq (W : Ok s) : tick s = tickP s := by
  have e : tick s = followed (finished (goOn s)) := rfl
  have e' : tickP s = followedP (finishedP (goOn s)) := rfl
  rw [e, e', finished_eq W.goOn, followed_eq (finishedP_ok W.goOn)]
theorem tick_ok (W : Ok s) : Ok (tick s) := by
  rw [tick_eq W]
  exact followedP_ok (finishedP_ok W.goOn)
theorem after_ok : ∀ (n : Nat) {s : St}, Ok s → Ok (after s n)
  | 0, _, h => h
  | n + 1, _, h => after_ok n (tick_ok h)
theorem after_add : ∀ (n m : Nat) (s : St), after s (n + m) = after (after s n) m
  | 0, m, s => by rw [Nat.zero_add]; rfl
  | n + 1, m, s => by
    rw [Nat.succ_add]
    exact after_add n m (tick s)
theorem after_succ (n : Nat) (s : St) : after s (n + 1) = tick (after s n) := after_add n 1 s
end
end Sc
/-! A3: within 55 seconds all is still; what stillness is; films. -/
namespace Sc
open Sy90
section
variable {s : St}

/-! ### what a second keeps -/
theorem followed_same (s : St) : (followed s).cues = s.cues ∧ (followed s).second = s.second ∧ (followed s).pairs = s.pairs ∧ (followed s).done = s.done ∧ (followed s).things.length = s.things.length := by
  rw [followed_def]
  refine fold_inv (fun _ a => a.cues = s.cues ∧ a.second = s.second ∧ a.pairs = s.pairs ∧ a.done = s.done ∧ a.things.length = s.things.length) spec1 s.cues.length s ⟨rfl, rfl, rfl, rfl, rfl⟩ fun i a _ h => ?_
  unfold spec1
  split
  · exact ⟨h.1, h.2.1, h.2.2.1, h.2.2.2.1, starts_len.trans h.2.2.2.2⟩
  · exact h
theorem tick_cues (s : St) : (tick s).cues = s.cues := (followed_same _).1
theorem tick_second (s : St) : (tick s).second = s.second + 1 := (followed_same _).2.1
theorem tick_pairs (s : St) : (tick s).pairs = s.pairs := (followed_same _).2.2.1
theorem tick_len (s : St) : (tick s).things.length = s.things.length := ((followed_same _).2.2.2.2).trans (List.length_map ..)
theorem called_cues (s : St) (k : Nat) : (called s k).cues = s.cues := (followed_same _).1
theorem called_second (s : St) (k : Nat) : (called s k).second = s.second := (followed_same _).2.1
theorem called_pairs (s : St) (k : Nat) : (called s k).pairs = s.pairs := (followed_same _).2.2.1
theorem called_len (s : St) (k : Nat) : (called s k).things.length = s.things.length := ((followed_same _).2.2.2.2).trans starts_len
theorem after_same : ∀ (n : Nat) (s : St), (after s n).cues = s.cues ∧ (after s n).second = s.second + n ∧ (after s n).pairs = s.pairs ∧ (after s n).things.length = s.things.length
  | 0, s => ⟨rfl, rfl, rfl, rfl⟩
  | n + 1, s => by
    obtain ⟨h1, h2, h3, h4⟩ := after_same n (tick s)
    refine ⟨h1.trans (tick_cues s), ?_, h3.trans (tick_pairs s), h4.trans (tick_len s)⟩
    show (after (tick s) n).second = _
    rw [h2, tick_second]
    omega
/-- a start is kept -/
theorem followed_start {k t : Nat} (h : startOf s k = some t) : startOf (followed s) k = some t := by
  rw [followed_def]
  refine fold_inv (fun _ a => startOf a k = some t) spec1 s.cues.length s h fun i a _ h => ?_
  unfold spec1
  split
  · rename_i hd
    by_cases e : k = i
    · subst e
      unfold due at hd
      rw [h] at hd
      exact absurd hd (by simp)
    · rw [starts_ne e]
      exact h
  · exact h
theorem tick_start {k t : Nat} (h : startOf s k = some t) : startOf (tick s) k = some t := followed_start (s := finished (goOn s)) h
theorem after_start : ∀ (n : Nat) {s : St} {k t : Nat}, startOf s k = some t → startOf (after s n) k = some t
  | 0, _, _, _, h => h
  | n + 1, _, _, _, h => after_start n (tick_start h)
theorem called_start {k j t : Nat} (hu : startOf s k = none) (h : startOf s j = some t) : startOf (called s k) j = some t :=
  followed_start (by rw [starts_ne (fun z => by rw [z, hu] at h; cases h)]; exact h)
theorem followed_none {k : Nat} (hk : k < s.started.length) (h : startOf (followed s) k = none) : startOf s k = none := by
  cases e : startOf s k with
  | none => rfl
  | some t => rw [followed_start e] at h; cases h

/-! ### not still: a cue has started within the last ten seconds -/
theorem quiet_false (h : quiet s = false) : (∃ b, b < s.things.length ∧ (thing s b).mark ≠ (thing s b).aim) ∨ ∃ k, k < s.cues.length ∧ toCome s k = true := by
  unfold quiet at h
  rw [Bool.and_eq_false_iff] at h
  rcases h with h | h
  · left
    have h' : s.things.any moving = true := by simpa using h
    rw [List.any_eq_true] at h'
    obtain ⟨x, hx, hm⟩ := h'
    obtain ⟨b, hb, rfl⟩ := mem_things.mp hx
    refine ⟨b, hb, ?_⟩
    unfold moving at hm
    simpa using hm
  · right
    have h' : (List.range s.cues.length).any (toCome s) = true := by simpa using h
    rw [List.any_eq_true] at h'
    obtain ⟨k, hk, hc⟩ := h'
    exact ⟨k, List.mem_range.mp hk, hc⟩
theorem toCome_at {k : Nat} (h : toCome s k = true) : startOf s k = none ∧ ∃ e c d t, (cue s k).upon = some (e, c, d) ∧ startOf s c = some t := by
  unfold toCome at h
  rw [Bool.and_eq_true] at h
  refine ⟨Option.isNone_iff_eq_none.mp h.1, ?_⟩
  cases hu : (cue s k).upon with
  | none =>
    rw [hu] at h
    exact absurd h.2 (by simp)
  | some p =>
    obtain ⟨e, c, d⟩ := p
    rw [hu] at h
    obtain ⟨t, ht⟩ := Option.isSome_iff_exists.mp h.2
    exact ⟨e, c, d, t, rfl, ht⟩
theorem recent (W : Ok s) (h : quiet s = false) : ∃ k t, startOf s k = some t ∧ s.second ≤ t + 10 := by
  rcases quiet_false h with ⟨b, hb, hm⟩ | ⟨k, hk, hc⟩
  · cases hy : (thing s b).by_ with
    | none => exact absurd (W.free b hb hy) hm
    | some k =>
      obtain ⟨t0, a1, _, a3⟩ := W.hold b hb k hy
      rcases a3 with a3 | a3
      · exact absurd a3 hm
      · exact ⟨k, t0, a1, by omega⟩
  · obtain ⟨hn, e, c, d, t, hu, ht⟩ := toCome_at hc
    refine ⟨c, t, ht, ?_⟩
    obtain ⟨u1, u2, u3⟩ := (W.cues k hk).up e c d hu
    have hst := fun t => W.st k t hk hn
    unfold dueOf at hst
    rw [hu] at hst
    dsimp only at hst
    by_cases he : e = 0
    · rw [if_pos he, ht] at hst
      have := hst (t + d) rfl
      omega
    · rw [if_neg he] at hst
      cases hd : doneAt s c with
      | none =>
        have := W.slow c t ht hd
        omega
      | some t1 =>
        rw [hd] at hst
        have h1 := hst (t1 + d) rfl
        obtain ⟨t0, b1, b2, b3, b4⟩ := W.dle c t1 hd
        rw [ht] at b1
        cases b1
        omega
/-- how many cues have started -/
def many (s : St) : Nat := ((List.range s.cues.length).filter fun k => (startOf s k).isSome).length
theorem many_le (s : St) : many s ≤ s.cues.length := by
  have := List.length_filter_le (fun k => (startOf s k).isSome) (List.range s.cues.length)
  rw [List.length_range] at this
  exact this
theorem filter_more {α : Type} (p q : α → Bool) (h : ∀ x, p x = true → q x = true) : ∀ l : List α, (l.filter p).length ≤ (l.filter q).length
  | [] => Nat.le_refl _
  | x :: l => by
    have ih := filter_more p q h l
    rw [List.filter_cons, List.filter_cons]
    by_cases hp : p x = true
    · rw [if_pos hp, if_pos (h x hp), List.length_cons, List.length_cons]
      omega
    · rw [if_neg hp]
      split
      · rw [List.length_cons]
        omega
      · exact ih
theorem filter_lt {α : Type} (p q : α → Bool) (h : ∀ x, p x = true → q x = true) : ∀ (l : List α) (y : α), y ∈ l → p y = false → q y = true → (l.filter p).length < (l.filter q).length
  | [], y, hy, _, _ => by cases hy
  | x :: l, y, hy, h1, h2 => by
    rw [List.filter_cons, List.filter_cons]
    rcases List.mem_cons.mp hy with rfl | hy
    · rw [if_neg (by rw [h1]; decide), if_pos h2, List.length_cons]
      have := filter_more p q h l
      omega
    · have ih := filter_lt p q h l y hy h1 h2
      by_cases hp : p x = true
      · rw [if_pos hp, if_pos (h x hp), List.length_cons, List.length_cons]
        omega
      · rw [if_neg hp]
        split
        · rw [List.length_cons]
          omega
        · exact ih
theorem many_more (W : Ok s) (hq : quiet (after s 11) = false) : many s < many (after s 11) := by
  obtain ⟨k, t, hk, ht⟩ := recent (after_ok 11 W) hq
  obtain ⟨e1, e2, e3, e4⟩ := after_same 11 s
  rw [e2] at ht
  have hkl : k < s.cues.length := by
    have := startOf_lt hk
    rw [(after_ok 11 W).ls, e1] at this
    exact this
  have hn : startOf s k = none := by
    cases e : startOf s k with
    | none => rfl
    | some t' =>
      have h1 := after_start 11 e
      rw [hk] at h1
      cases h1
      have := W.sle k t e
      omega
  unfold many
  rw [e1]
  refine filter_lt _ _ (fun j hj => ?_) _ k (List.mem_range.mpr hkl) (by rw [hn]; rfl) (by rw [hk]; rfl)
  obtain ⟨t', ht'⟩ := Option.isSome_iff_exists.mp hj
  rw [after_start 11 ht']
  rfl
theorem many_pos (W : Ok s) (hq : quiet s = false) : 0 < many s := by
  obtain ⟨k, t, hk, _⟩ := recent W hq
  have hkl : k < s.cues.length := by
    have := startOf_lt hk
    rw [W.ls] at this
    exact this
  unfold many
  exact List.length_pos_of_mem (List.mem_filter.mpr ⟨List.mem_range.mpr hkl, by rw [hk]; rfl⟩)
/-- within 55 seconds there is a second at which all is still -/
theorem quiet_soon (W : Ok s) : ∃ n, n ≤ 55 ∧ quiet (after s n) = true := by
  refine Classical.byContradiction fun hno => ?_
  have nq : ∀ n, n ≤ 55 → quiet (after s n) = false := fun n hn => by
    cases h : quiet (after s n) with
    | false => rfl
    | true => exact absurd ⟨n, hn, h⟩ hno
  have h0 := many_pos W (nq 0 (by omega))
  have st : ∀ n, n + 11 ≤ 55 → many (after s n) < many (after s (n + 11)) := fun n hn => by
    have h := many_more (after_ok n W) (by rw [← after_add]; exact nq _ hn)
    rw [← after_add] at h
    exact h
  have h1 : many (after s 0) < many (after s 11) := st 0 (by omega)
  have h2 : many (after s 11) < many (after s 22) := st 11 (by omega)
  have h3 : many (after s 22) < many (after s 33) := st 22 (by omega)
  have h4 : many (after s 33) < many (after s 44) := st 33 (by omega)
  have h5 : many (after s 44) < many (after s 55) := st 44 (by omega)
  have h6 := many_le (after s 55)
  have h7 := W.c5
  rw [(after_same 55 s).1] at h6
  have h8 : many (after s 0) = many s := rfl
  omega

/-! ### stillness stays -/
theorem quiet_true (h : quiet s = true) : (∀ b, b < s.things.length → (thing s b).mark = (thing s b).aim) ∧ ∀ k, k < s.cues.length → toCome s k = false := by
  unfold quiet at h
  rw [Bool.and_eq_true] at h
  refine ⟨fun b hb => ?_, fun k hk => ?_⟩
  · have h' : s.things.any moving = false := by simpa using h.1
    rw [List.any_eq_false] at h'
    have := h' _ (mem_things.mpr ⟨b, hb, rfl⟩)
    unfold moving at this
    simpa using this
  · have h' : (List.range s.cues.length).any (toCome s) = false := by simpa using h.2
    rw [List.any_eq_false] at h'
    have := h' k (List.mem_range.mpr hk)
    simpa using this
theorem things_ext {l1 l2 : List Thing} (hl : l1.length = l2.length) (h : ∀ b, b < l1.length → l1.getD b ⟨0, 0, none⟩ = l2.getD b ⟨0, 0, none⟩) : l1 = l2 := by
  refine List.ext_getElem hl fun b h1 h2 => ?_
  have := h b h1
  rw [List.getD_eq_getElem?_getD, List.getD_eq_getElem?_getD, List.getElem?_eq_getElem h1, List.getElem?_eq_getElem h2] at this
  exact this
theorem toCome_false {k : Nat} (h : toCome s k = false) (hn : startOf s k = none) : ∀ e c d, (cue s k).upon = some (e, c, d) → startOf s c = none := fun e c d hu => by
  unfold toCome at h
  rw [hn, hu] at h
  have h' : (startOf s c).isSome = false := by simpa using h
  cases e : startOf s c with
  | none => rfl
  | some t =>
    rw [e] at h'
    exact absurd h' (by simp)
theorem due_of_leader {k : Nat} (W : Ok s) (hn : startOf s k = none) (hl : ∀ e c d, (cue s k).upon = some (e, c, d) → startOf s c = none) : dueOf s k = none := by
  unfold dueOf
  cases hu : (cue s k).upon with
  | none => rfl
  | some p =>
    obtain ⟨e, c, d⟩ := p
    dsimp only
    have h1 := hl e c d hu
    have h2 : doneAt s c = none := by
      cases hd : doneAt s c with
      | none => rfl
      | some t =>
        obtain ⟨t0, a, _⟩ := W.dle c t hd
        rw [h1] at a
        cases a
    split
    · rw [h1]; rfl
    · rw [h2]; rfl
theorem followedP_none (h : ∀ k, k < s.cues.length → dueP s k = false) : followedP s = s := by
  unfold followedP
  refine fold_inv (fun _ a => a = s) stepP s.cues.length s rfl fun i a hi e => ?_
  subst e
  unfold stepP
  rw [h i hi]
  rfl
/-- a still second -/
theorem tick_quiet (W : Ok s) (h : quiet s = true) : (tick s).things = s.things ∧ (tick s).started = s.started := by
  obtain ⟨q1, q2⟩ := quiet_true h
  have ht : (goOn s).things = s.things := by
    refine things_ext goOn_len fun b hb => ?_
    rw [goOn_len] at hb
    have e := goOn_thing (s := s) hb
    unfold thing at e
    rw [e]
    have hm := q1 b hb
    unfold thing at hm
    unfold moved
    rw [if_neg (by omega), if_neg (by omega)]
  have nd : ∀ k, k < (finishedP (goOn s)).cues.length → dueP (finishedP (goOn s)) k = false := fun k hk => by
    have hk' : k < s.cues.length := hk
    cases hs : startOf s k with
    | some t =>
      have hs' : startOf (finishedP (goOn s)) k = some t := hs
      unfold dueP
      rw [hs']
      rfl
    | none =>
      have hs' : startOf (finishedP (goOn s)) k = none := hs
      have hl := toCome_false (q2 k hk') hs
      have e : dueOf (finishedP (goOn s)) k = none := by
        unfold dueOf
        have hcue : cue (finishedP (goOn s)) k = cue s k := rfl
        rw [hcue]
        cases hu : (cue s k).upon with
        | none => rfl
        | some p =>
          obtain ⟨e, c, d⟩ := p
          dsimp only
          have h1 := hl e c d hu
          have h1' : startOf (finishedP (goOn s)) c = none := h1
          have hcl : c < s.cues.length := by
            have := ((W.cues k hk').up e c d hu).2.1
            omega
          have h2 : doneAt (finishedP (goOn s)) c = none := by
            rw [finishedP_done (s := goOn s) hcl]
            have hdn : doneAt (goOn s) c = none := by
              rw [goOn_done]
              cases hd : doneAt s c with
              | none => rfl
              | some t =>
                obtain ⟨t0, a, _⟩ := W.dle c t hd
                rw [h1] at a
                cases a
            rw [hdn]
            dsimp only
            rw [goOn_start, h1]
            rfl
          split
          · rw [h1']; rfl
          · rw [h2]; rfl
      unfold dueP
      rw [e]
      simp
  rw [tick_eq W]
  have e : tickP s = finishedP (goOn s) := followedP_none nd
  rw [e]
  exact ⟨ht, rfl⟩
theorem quiet_of {s s' : St} (h1 : s'.things = s.things) (h2 : s'.started = s.started) (h3 : s'.cues = s.cues) : quiet s' = quiet s := by
  have e : ∀ k, toCome s' k = toCome s k := fun k => by
    unfold toCome startOf cue
    rw [h2, h3]
  unfold quiet
  rw [h1, h3, funext e]
theorem quiet_tick (W : Ok s) (h : quiet s = true) : quiet (tick s) = true := by
  obtain ⟨h1, h2⟩ := tick_quiet W h
  rw [quiet_of h1 h2 (tick_cues s)]
  exact h
theorem quiet_after (W : Ok s) (h : quiet s = true) : ∀ n, (after s n).things = s.things ∧ (after s n).started = s.started ∧ quiet (after s n) = true
  | 0 => ⟨rfl, rfl, h⟩
  | n + 1 => by
    obtain ⟨a1, a2, a3⟩ := quiet_after W h n
    obtain ⟨b1, b2⟩ := tick_quiet (after_ok n W) a3
    rw [after_succ]
    exact ⟨b1.trans a1, b2.trans a2, quiet_tick (after_ok n W) a3⟩

/-! ### films -/
def filmN : Nat → St → List St
  | 0, s => [s]
  | n + 1, s => if quiet s = true then [s] else s :: filmN n (tick s)
def filmP (s : St) : List St := filmN 60 s
/-- the first still second is the n-th -/
structure FirstQ (s : St) (n : Nat) : Prop where
  yes : quiet (after s n) = true
  no : ∀ m, m < n → quiet (after s m) = false
theorem firstQ (W : Ok s) : ∃ n, n ≤ 55 ∧ FirstQ s n := by
  obtain ⟨n, hn, hq⟩ := quiet_soon W
  have key : ∀ n, n ≤ 55 → quiet (after s n) = true → ∃ m, m ≤ 55 ∧ FirstQ s m := by
    intro n
    induction n using Nat.strongRecOn with
    | ind n ih =>
      intro hn hq
      by_cases c : ∃ m, m < n ∧ quiet (after s m) = true
      · obtain ⟨m, hm, hq'⟩ := c
        exact ih m hm (by omega) hq'
      · refine ⟨n, hn, hq, fun m hm => ?_⟩
        cases h : quiet (after s m) with
        | false => rfl
        | true => exact absurd ⟨m, hm, h⟩ c
  exact key n hn hq
theorem FirstQ.tick {n : Nat} (F : FirstQ s (n + 1)) : FirstQ (tick s) n := ⟨F.yes, fun m hm => F.no (m + 1) (by omega)⟩
theorem filmN_eq : ∀ (n f : Nat) {s : St}, n ≤ f → FirstQ s n → filmN f s = (List.range (n + 1)).map (after s)
  | 0, 0, _, _, _ => rfl
  | 0, f + 1, s, _, F => by
    show (if quiet s = true then [s] else s :: filmN f (Sy90.tick s)) = _
    rw [if_pos (show quiet s = true from F.yes)]
    rfl
  | n + 1, 0, _, h, _ => absurd h (by omega)
  | n + 1, f + 1, s, h, F => by
    show (if quiet s = true then [s] else s :: filmN f (Sy90.tick s)) = _
    have h0 : quiet s = false := F.no 0 (by omega)
    rw [if_neg (by rw [h0]; decide), filmN_eq n f (by omega) F.tick, List.range_succ_eq_map (n := n + 1), List.map_cons, List.map_map]
    rfl
theorem filmP_eq {n : Nat} (hn : n ≤ 55) (F : FirstQ s n) : filmP s = (List.range (n + 1)).map (after s) := filmN_eq n 60 (by omega) F
/-- the specification's stillness is the same second -/
theorem still_eq {n : Nat} (W : Ok s) (hn : n ≤ 55) (F : FirstQ s n) : still s = n := by
  have mv : ∀ m, (after s m).things.any moving = true → quiet (after s m) = false := fun m h => by
    unfold quiet
    rw [h]
    rfl
  have up : ∀ m, n ≤ m → quiet (after s m) = true ∧ (after s m).started = (after s n).started := fun m hm => by
    have e : m = n + (m - n) := by omega
    obtain ⟨a1, a2, a3⟩ := quiet_after (after_ok n W) F.yes (m - n)
    rw [← after_add, ← e] at a1 a2 a3
    exact ⟨a3, a2⟩
  have hi : ∀ m, stillFrom s (n + m) = stillFrom s n := by
    intro m
    induction m with
    | zero => rfl
    | succ m ih =>
      show (if (after s (n + m + 1)).things.any moving = true ∨ (after s (n + m)).things.any moving = true ∨ (after s (n + m + 1)).started ≠ (after s (n + m)).started then n + m + 1 else stillFrom s (n + m)) = _
      rw [if_neg, ih]
      rintro (h | h | h)
      · exact absurd (mv _ h) (by rw [(up (n + m + 1) (by omega)).1]; decide)
      · exact absurd (mv _ h) (by rw [(up (n + m) (by omega)).1]; decide)
      · exact h ((up (n + m + 1) (by omega)).2.trans (up (n + m) (by omega)).2.symm)
  have e60 : still s = stillFrom s n := by
    have := hi (60 - n)
    rw [show n + (60 - n) = 60 by omega] at this
    exact this
  rw [e60]
  cases n with
  | zero => rfl
  | succ n =>
    show (if (after s (n + 1)).things.any moving = true ∨ (after s n).things.any moving = true ∨ (after s (n + 1)).started ≠ (after s n).started then n + 1 else stillFrom s n) = _
    refine if_pos ?_
    have hno := F.no n (by omega)
    by_cases c : (after s n).things.any moving = true
    · exact .inr (.inl c)
    · refine .inr (.inr fun hs => ?_)
      have hyes := F.yes
      have hc : (List.range (after s n).cues.length).any (toCome (after s n)) = true := by
        unfold quiet at hno
        have c' : (after s n).things.any moving = false := by simpa using c
        rw [c'] at hno
        simpa using hno
      have hyes' := (quiet_true hyes).2
      rw [List.any_eq_true] at hc
      obtain ⟨k, hk, hk2⟩ := hc
      have hk' : k < (after s n).cues.length := List.mem_range.mp hk
      have hk1 : k < (after s (n + 1)).cues.length := by
        rw [(after_same (n + 1) s).1, ← (after_same n s).1]
        exact hk'
      have := hyes' k hk1
      have e : toCome (after s (n + 1)) k = toCome (after s n) k := by
        unfold toCome startOf cue
        rw [hs, (after_same (n + 1) s).1, (after_same n s).1]
      rw [e, hk2] at this
      cases this
end
end Sc
/-! A4: films with cues called at their times; the program's course. -/
namespace Sc
open Sy90 (tick called after ENOUGH)

/-- the state at second i ahead of the calls, and behind them -/
def pre (calls : List (Nat × Nat)) (s : Sy90.St) : Nat → Sy90.St
  | 0 => s
  | i + 1 => tick (Sy92.callNow calls i (pre calls s i))
def cur (calls : List (Nat × Nat)) (s : Sy90.St) (i : Nat) : Sy90.St := Sy92.callNow calls i (pre calls s i)
theorem film_eq (calls : List (Nat × Nat)) (s : Sy90.St) : ∀ n t, Sy92.film calls t n (pre calls s t) = (List.range' t (n + 1)).map (cur calls s)
  | 0, t => rfl
  | n + 1, t => by
    show cur calls s t :: Sy92.film calls (t + 1) n (tick (cur calls s t)) = _
    have e : tick (cur calls s t) = pre calls s (t + 1) := rfl
    rw [e, film_eq calls s n (t + 1), List.range'_succ (s := t) (n := n + 1), List.map_cons]
theorem film_zero (calls : List (Nat × Nat)) (s : Sy90.St) (n : Nat) : Sy92.film calls 0 n s = (List.range (n + 1)).map (cur calls s) := by
  have := film_eq calls s n 0
  rw [List.range_eq_range']
  exact this
theorem callNow_app (calls : List (Nat × Nat)) (c : Nat × Nat) (i : Nat) (s : Sy90.St) : Sy92.callNow (calls ++ [c]) i s = if c.1 = i then called (Sy92.callNow calls i s) c.2 else Sy92.callNow calls i s := by
  unfold Sy92.callNow
  rw [List.foldl_append]
  rfl
theorem callNow_no {calls : List (Nat × Nat)} {i : Nat} (h : ∀ x ∈ calls, x.1 ≠ i) (s : Sy90.St) : Sy92.callNow calls i s = s := by
  unfold Sy92.callNow
  induction calls with
  | nil => rfl
  | cons x r ih =>
    rw [List.foldl_cons, if_neg (h x List.mem_cons_self)]
    exact ih fun y hy => h y (List.mem_cons_of_mem _ hy)

/-- the course: the states ahead of the last call's time, the state behind the last call -/
structure Course (s : Sy90.St) (calls : List (Nat × Nat)) (frames : List Sy90.St) (u : Sy90.St) : Prop where
  le : ∀ x ∈ calls, x.1 ≤ frames.length
  last : Sy92.lastCall calls = frames.length
  frm : ∀ i, i < frames.length → frames[i]? = some (cur calls s i)
  cur_ : ∀ i, cur calls s (frames.length + i) = after u i
theorem course_nil (s : Sy90.St) : Course s [] [] s := by
  refine ⟨fun x h => (by cases h), rfl, fun i h => absurd h (Nat.not_lt_zero _), fun i => ?_⟩
  show cur [] s (0 + i) = _
  rw [Nat.zero_add]
  have key : ∀ i, pre [] s i = after s i := by
    intro i
    induction i with
    | zero => rfl
    | succ i ih =>
      show tick (pre [] s i) = _
      rw [ih, after_succ]
  exact key i
theorem lastCall_app (calls : List (Nat × Nat)) (c : Nat × Nat) : Sy92.lastCall (calls ++ [c]) = max (Sy92.lastCall calls) c.1 := by
  unfold Sy92.lastCall
  rw [List.foldl_append]
  rfl
theorem Course.call {s u : Sy90.St} {calls : List (Nat × Nat)} {frames : List Sy90.St} (C : Course s calls frames u) (n k : Nat) :
    Course s (calls ++ [(frames.length + n, k)]) (frames ++ (List.range n).map (after u)) (called (after u n) k) := by
  have hpre : ∀ i, i ≤ frames.length + n → pre (calls ++ [(frames.length + n, k)]) s i = pre calls s i := by
    intro i
    induction i with
    | zero => intro _; rfl
    | succ i ih =>
      intro hi
      show tick (Sy92.callNow _ i _) = tick (Sy92.callNow _ i _)
      rw [ih (by omega), callNow_app, if_neg (by show ¬ (frames.length + n = i); omega)]
  have hcur : ∀ i, i < frames.length + n → cur (calls ++ [(frames.length + n, k)]) s i = cur calls s i := fun i hi => by
    unfold cur
    rw [hpre i (by omega), callNow_app, if_neg (by show ¬ (frames.length + n = i); omega)]
  have hat : cur (calls ++ [(frames.length + n, k)]) s (frames.length + n) = called (after u n) k := by
    unfold cur
    rw [hpre _ (Nat.le_refl _), callNow_app, if_pos rfl]
    have := C.cur_ n
    unfold cur at this
    rw [this]
  have hl : (frames ++ (List.range n).map (after u)).length = frames.length + n := by
    rw [List.length_append, List.length_map, List.length_range]
  refine ⟨fun x hx => ?_, ?_, fun i hi => ?_, fun i => ?_⟩
  · rw [hl]
    rcases List.mem_append.mp hx with hx | hx
    · have := C.le x hx
      omega
    · rw [List.mem_singleton.mp hx]
      exact Nat.le_refl _
  · rw [lastCall_app, C.last, hl]
    show max frames.length (frames.length + n) = _
    omega
  · rw [hl] at hi
    rw [hcur i hi]
    by_cases c : i < frames.length
    · rw [List.getElem?_append_left c]
      exact C.frm i c
    · rw [List.getElem?_append_right (by omega), List.getElem?_map, List.getElem?_range (by omega)]
      have := C.cur_ (i - frames.length)
      rw [show frames.length + (i - frames.length) = i by omega] at this
      rw [this]
      rfl
  · rw [hl]
    induction i with
    | zero => exact hat
    | succ i ih =>
      have e : cur (calls ++ [(frames.length + n, k)]) s (frames.length + n + (i + 1)) = tick (cur (calls ++ [(frames.length + n, k)]) s (frames.length + n + i)) := by
        have e2 : pre (calls ++ [(frames.length + n, k)]) s (frames.length + n + (i + 1)) = tick (cur (calls ++ [(frames.length + n, k)]) s (frames.length + n + i)) := rfl
        unfold cur at e2 ⊢
        rw [e2]
        refine callNow_no (fun x hx => ?_) _
        rcases List.mem_append.mp hx with hx | hx
        · have := C.le x hx
          omega
        · rw [List.mem_singleton.mp hx]
          show frames.length + n ≠ _
          omega
      rw [e, ih, after_succ]
/-- the specification's whole film -/
theorem Course.whole {s u : Sy90.St} {calls : List (Nat × Nat)} {frames : List Sy90.St} (C : Course s calls frames u) (S : Sy92.St) (hS : S.stage = s) : Sy92.whole S calls = frames ++ (List.range (ENOUGH + 1)).map (after u) := by
  unfold Sy92.whole
  rw [hS, film_zero, C.last]
  refine List.ext_getElem? fun i => ?_
  rw [List.getElem?_map]
  by_cases h1 : i < frames.length
  · rw [List.getElem?_range (by omega), List.getElem?_append_left h1, C.frm i h1]
    rfl
  · rw [List.getElem?_append_right (by omega), List.getElem?_map]
    by_cases h2 : i < frames.length + ENOUGH + 1
    · rw [List.getElem?_range h2, List.getElem?_range (by omega)]
      have := C.cur_ (i - frames.length)
      rw [show frames.length + (i - frames.length) = i by omega] at this
      show some _ = some _
      rw [this]
    · rw [List.getElem?_eq_none (by rw [List.length_range]; omega), List.getElem?_eq_none (by rw [List.length_range]; omega)]
      rfl

/-! ### movements: by the directions -/
/-- the direction of a bar: 1, 0, -1 -/
def dirOf (s : Sy90.St) (b : Nat) : Int := let t := Sy90.thing s b
  if t.mark < t.aim then 1 else if t.aim < t.mark then -1 else 0
/-- the rows of one direction: from time t, the row in progress -/
def rows : Nat → List Int → Option (Nat × Int) → List (Nat × Nat)
  | t, [], w => match w with
    | some x => [(x.1, t)]
    | none => []
  | t, d :: l, w => match w with
    | some (a, e) => if d = 0 then (a, t) :: rows (t + 1) l none else if e = d then rows (t + 1) l (some (a, e)) else (a, t) :: rows (t + 1) l (some (t, d))
    | none => if d = 0 then rows (t + 1) l none else rows (t + 1) l (some (t, d))
theorem rows_n (t : Nat) (d : Int) (l : List Int) : rows t (d :: l) none = if d = 0 then rows (t + 1) l none else rows (t + 1) l (some (t, d)) := rfl
theorem rows_s (t : Nat) (d : Int) (l : List Int) (a : Nat) (e : Int) : rows t (d :: l) (some (a, e)) = if d = 0 then (a, t) :: rows (t + 1) l none else if e = d then rows (t + 1) l (some (a, e)) else (a, t) :: rows (t + 1) l (some (t, d)) := rfl
def dirB : Bool → Int
  | true => 1
  | false => -1
theorem waysIn_eq (k : Nat) : ∀ (l : List Sy90.St) (t : Nat) (w : Option (Nat × Bool)), Sy92.waysIn k t l w = rows t (l.map fun s => dirOf s k) (w.map fun x => (x.1, dirB x.2))
  | [], t, w => by
    cases w <;> rfl
  | s :: l, t, w => by
    rw [List.map_cons]
    unfold Sy92.waysIn
    have hd : (if Sy90.moving (Sy90.thing s k) = true then some (decide ((Sy90.thing s k).mark < (Sy90.thing s k).aim)) else none) = (if dirOf s k = 0 then none else some (decide (dirOf s k = 1))) := by
      unfold dirOf Sy90.moving
      dsimp only
      by_cases h1 : (Sy90.thing s k).mark < (Sy90.thing s k).aim
      · have : (Sy90.thing s k).mark ≠ (Sy90.thing s k).aim := by omega
        simp [h1, this]
      · by_cases h2 : (Sy90.thing s k).aim < (Sy90.thing s k).mark
        · have : (Sy90.thing s k).mark ≠ (Sy90.thing s k).aim := by omega
          simp [h1, h2, this]
        · have : (Sy90.thing s k).mark = (Sy90.thing s k).aim := by omega
          simp [this]
    have h3 : dirOf s k = 0 ∨ dirOf s k = 1 ∨ dirOf s k = -1 := by
      unfold dirOf
      dsimp only
      split
      · exact .inr (.inl rfl)
      · split
        · exact .inr (.inr rfl)
        · exact .inl rfl
    dsimp only
    rw [hd]
    rcases h3 with h | h | h
    · rw [h, if_pos rfl]
      cases w with
      | none =>
        show Sy92.waysIn k (t + 1) l none = _
        rw [waysIn_eq k l (t + 1) none]
        rfl
      | some x =>
        obtain ⟨a, u⟩ := x
        show (a, t) :: Sy92.waysIn k (t + 1) l none = _
        rw [waysIn_eq k l (t + 1) none]
        rfl
    · rw [h, if_neg (by decide)]
      cases w with
      | none =>
        show Sy92.waysIn k (t + 1) l (some (t, true)) = _
        rw [waysIn_eq k l (t + 1) (some (t, true))]
        rfl
      | some x =>
        obtain ⟨a, u⟩ := x
        cases u with
        | true =>
          show Sy92.waysIn k (t + 1) l (some (a, true)) = _
          rw [waysIn_eq k l (t + 1) (some (a, true))]
          rfl
        | false =>
          show (a, t) :: Sy92.waysIn k (t + 1) l (some (t, true)) = _
          rw [waysIn_eq k l (t + 1) (some (t, true))]
          rfl
    · rw [h, if_neg (by decide)]
      cases w with
      | none =>
        show Sy92.waysIn k (t + 1) l (some (t, false)) = _
        rw [waysIn_eq k l (t + 1) (some (t, false))]
        rfl
      | some x =>
        obtain ⟨a, u⟩ := x
        cases u with
        | true =>
          show (a, t) :: Sy92.waysIn k (t + 1) l (some (t, false)) = _
          rw [waysIn_eq k l (t + 1) (some (t, false))]
          rfl
        | false =>
          show Sy92.waysIn k (t + 1) l (some (a, false)) = _
          rw [waysIn_eq k l (t + 1) (some (a, false))]
          rfl
/-- zeros behind change nothing, if a zero stands there -/
theorem rows_zeros : ∀ (m t : Nat), rows t (List.replicate m 0) none = []
  | 0, _ => rfl
  | m + 1, t => by
    rw [List.replicate_succ, rows_n, if_pos rfl]
    exact rows_zeros m (t + 1)
theorem rows_more (m : Nat) : ∀ (l : List Int) (t : Nat) (w : Option (Nat × Int)), rows t (l ++ 0 :: List.replicate m 0) w = rows t (l ++ [0]) w
  | [], t, w => by
    cases w with
    | none =>
      rw [List.nil_append, List.nil_append, rows_n, rows_n, if_pos rfl, if_pos rfl, rows_zeros]
      rfl
    | some x =>
      obtain ⟨a, e⟩ := x
      rw [List.nil_append, List.nil_append, rows_s, rows_s, if_pos rfl, if_pos rfl, rows_zeros]
      rfl
  | d :: l, t, w => by
    rw [List.cons_append, List.cons_append]
    cases w with
    | none => rw [rows_n, rows_n, rows_more m l, rows_more m l]
    | some x =>
      obtain ⟨a, e⟩ := x
      rw [rows_s, rows_s, rows_more m l, rows_more m l, rows_more m l]
/-- the program's loop over the times 1 .. -/
def runStep (ds : List Int) (a : List (Nat × Nat) × Nat) (t : Nat) : List (Nat × Nat) × Nat :=
  if ds.getD t 0 ≠ ds.getD (t - 1) 0 then (if ds.getD (t - 1) 0 ≠ 0 then a.1 ++ [(a.2, t)] else a.1, t) else a
def runsP (ds : List Int) : List (Nat × Nat) := ((List.range (ds.length - 1)).foldl (fun a i => runStep ds a (i + 1)) ([], 0)).1
/-- behind the times below t + 1 : what is found, the row in progress, and the rest give all rows -/
theorem runs_inv (ds : List Int) (hne : 0 < ds.length) : ∀ n, n ≤ ds.length - 1 →
    ∃ found begin, (List.range n).foldl (fun a i => runStep ds a (i + 1)) ([], 0) = (found, begin) ∧
      rows 0 ds none = found ++ rows (n + 1) (ds.drop (n + 1)) (if ds.getD n 0 = 0 then none else some (begin, ds.getD n 0)) := by
  intro n
  induction n with
  | zero =>
    intro _
    refine ⟨[], 0, rfl, ?_⟩
    cases ds with
    | nil => exact absurd hne (Nat.lt_irrefl _)
    | cons d l =>
      show rows 0 (d :: l) none = [] ++ rows 1 l (if d = 0 then none else some (0, d))
      rw [List.nil_append, rows_n]
      split <;> rfl
  | succ n ih =>
    intro hn
    obtain ⟨found, begin, h1, h2⟩ := ih (by omega)
    rw [List.range_succ, List.foldl_append, h1]
    have hlt : n + 1 < ds.length := by omega
    have hdrop : ds.drop (n + 1) = ds.getD (n + 1) 0 :: ds.drop (n + 2) := by
      rw [List.drop_eq_getElem_cons hlt, List.getD_eq_getElem?_getD, List.getElem?_eq_getElem hlt]
      rfl
    rw [hdrop] at h2
    have e : runStep ds (found, begin) (n + 1) = if ds.getD (n + 1) 0 ≠ ds.getD n 0 then (if ds.getD n 0 ≠ 0 then found ++ [(begin, n + 1)] else found, n + 1) else (found, begin) := rfl
    show ∃ found' begin', runStep ds (found, begin) (n + 1) = (found', begin') ∧ _
    rw [e]
    by_cases c : ds.getD (n + 1) 0 = ds.getD n 0
    · rw [if_neg (fun z => z c)]
      refine ⟨found, begin, rfl, ?_⟩
      rw [h2, c]
      congr 1
      by_cases z : ds.getD n 0 = 0
      · rw [z, if_pos rfl, rows_n, if_pos rfl]
      · rw [if_neg z, rows_s, if_neg z, if_pos rfl]
    · rw [if_pos c]
      by_cases z : ds.getD n 0 = 0
      · rw [if_neg (fun q => q z)]
        refine ⟨found, n + 1, rfl, ?_⟩
        rw [h2, if_pos z]
        have z' : ds.getD (n + 1) 0 ≠ 0 := fun q => c (q.trans z.symm)
        rw [if_neg z']
        congr 1
        rw [rows_n, if_neg z']
      · rw [if_pos z]
        refine ⟨found ++ [(begin, n + 1)], n + 1, rfl, ?_⟩
        rw [h2, if_neg z, List.append_assoc]
        congr 1
        rw [rows_s]
        by_cases z' : ds.getD (n + 1) 0 = 0
        · rw [if_pos z', if_pos z']
          rfl
        · rw [if_neg z', if_neg (Ne.symm c), if_neg z']
          rfl
theorem runs_eq {ds : List Int} (l : List Int) (e : ds = l ++ [0]) : runsP ds = rows 0 ds none := by
  have hl : ds.length = l.length + 1 := by rw [e, List.length_append]; rfl
  obtain ⟨found, begin, h1, h2⟩ := runs_inv ds (by omega) (ds.length - 1) (Nat.le_refl _)
  unfold runsP
  rw [h1, h2]
  have h3 : ds.getD (ds.length - 1) 0 = 0 := by
    rw [hl, Nat.add_sub_cancel, e, List.getD_eq_getElem?_getD, List.getElem?_append_right (Nat.le_refl _), Nat.sub_self]
    rfl
  rw [h3, if_pos rfl, List.drop_eq_nil_of_le (by omega)]
  show found = found ++ []
  rw [List.append_nil]
end Sc
/-! A5: Dilworth's theorem for lists of numbers (Galvin's proof); plain mathematics. -/
namespace Sc
/-! ### pigeons -/
theorem nodup_len : ∀ (k : Nat) (l : List Nat), l.Nodup → (∀ x ∈ l, x < k) → l.length ≤ k
  | 0, [], _, _ => Nat.le_refl _
  | 0, x :: l, _, h => absurd (h x List.mem_cons_self) (Nat.not_lt_zero _)
  | k + 1, l, hn, h => by
    have h1 : (l.erase k).Nodup := hn.erase k
    have h2 : ∀ x ∈ l.erase k, x < k := fun x hx => by
      have q := (List.Nodup.mem_erase_iff hn).mp hx
      have := h x q.2
      have := q.1
      omega
    have ih := nodup_len k (l.erase k) h1 h2
    have := List.length_erase (a := k) (l := l)
    split at this <;> omega
theorem nodup_all {k : Nat} {l : List Nat} (hn : l.Nodup) (h : ∀ x ∈ l, x < k) (hl : l.length = k) : ∀ i, i < k → i ∈ l := by
  intro i hi
  refine Classical.byContradiction fun hno => ?_
  have : (i :: l).length ≤ k := nodup_len k (i :: l) (List.nodup_cons.mpr ⟨hno, hn⟩) (fun x hx => by
    rcases List.mem_cons.mp hx with rfl | hx
    · exact hi
    · exact h x hx)
  rw [List.length_cons] at this
  omega
theorem nodup_map {α β : Type} {f : α → β} : ∀ {l : List α}, l.Nodup → (∀ x ∈ l, ∀ y ∈ l, x ≠ y → f x ≠ f y) → (l.map f).Nodup
  | [], _, _ => List.nodup_nil
  | a :: l, hn, h => by
    rw [List.map_cons, List.nodup_cons]
    have hc := List.nodup_cons.mp hn
    refine ⟨fun hm => ?_, nodup_map hc.2 fun x hx y hy => h x (List.mem_cons_of_mem _ hx) y (List.mem_cons_of_mem _ hy)⟩
    obtain ⟨y, hy, e⟩ := List.mem_map.mp hm
    exact h y (List.mem_cons_of_mem _ hy) a List.mem_cons_self (fun z => hc.1 (z ▸ hy)) e
section
variable (R : Nat → Nat → Bool) (irr : ∀ x, R x x = false) (tr : ∀ x y z, R x y = true → R y z = true → R x z = true)
include irr tr
theorem exists_max : ∀ (S : List Nat), S ≠ [] → ∃ a ∈ S, ∀ x ∈ S, R a x = false
  | [], h => absurd rfl h
  | [x], _ => ⟨x, List.mem_cons_self, fun y hy => by
      rcases List.mem_cons.mp hy with rfl | hy
      · exact irr _
      · cases hy⟩
  | x :: y :: l, _ => by
    obtain ⟨m, hm, h⟩ := exists_max (y :: l) (fun z => by cases z)
    cases c : R m x with
    | true =>
      refine ⟨x, List.mem_cons_self, fun z hz => ?_⟩
      rcases List.mem_cons.mp hz with rfl | hz
      · exact irr _
      · cases c2 : R x z with
        | false => rfl
        | true =>
          have := tr m x z c c2
          rw [h z hz] at this
          cases this
    | false =>
      refine ⟨m, List.mem_cons_of_mem _ hm, fun z hz => ?_⟩
      rcases List.mem_cons.mp hz with rfl | hz
      · exact c
      · exact h z hz
/-- an antichain of k of S -/
structure Anti (S : List Nat) (k : Nat) (B : List Nat) : Prop where
  nd : B.Nodup
  sub : ∀ x ∈ B, x ∈ S
  anti : ∀ x ∈ B, ∀ y ∈ B, R x y = false
  len : B.length = k
structure Cols (S : List Nat) (k : Nat) (col : Nat → Nat) : Prop where
  lt : ∀ x ∈ S, col x < k
  chain : ∀ x ∈ S, ∀ y ∈ S, x ≠ y → col x = col y → R x y = true ∨ R y x = true
omit irr tr in
theorem Anti.hits {S B : List Nat} {k : Nat} {col : Nat → Nat} (a : Anti R S k B) (c : Cols R S k col) : ∀ i, i < k → ∃ y ∈ B, col y = i := by
  have h1 : (B.map col).Nodup := nodup_map a.nd fun x hx y hy ne e => by
    rcases c.chain x (a.sub x hx) y (a.sub y hy) ne e with h | h
    · rw [a.anti x hx y hy] at h
      cases h
    · rw [a.anti y hy x hx] at h
      cases h
  intro i hi
  have := nodup_all h1 (fun z hz => by
    obtain ⟨y, hy, rfl⟩ := List.mem_map.mp hz
    exact c.lt y (a.sub y hy)) (by rw [List.length_map]; exact a.len) i hi
  obtain ⟨y, hy, e⟩ := List.mem_map.mp this
  exact ⟨y, hy, e⟩
theorem dilworth : ∀ (n : Nat) (S : List Nat), S.length = n → S.Nodup → ∃ (k : Nat) (col : Nat → Nat) (A : List Nat), Anti R S k A ∧ Cols R S k col := by
  intro n
  induction n using Nat.strongRecOn with
  | ind n ih =>
    intro S hS hnd
    by_cases hne : S = []
    · subst hne
      exact ⟨0, fun _ => 0, [], ⟨List.nodup_nil, fun x h => h, fun x h => (by cases h), rfl⟩, ⟨fun x h => (by cases h), fun x h => (by cases h)⟩⟩
    obtain ⟨a, ha, hmax⟩ := exists_max R irr tr S hne
    have hS' : (S.erase a).length < n := by
      rw [List.length_erase_of_mem ha, hS]
      have : 0 < S.length := List.length_pos_of_mem ha
      omega
    have hnd' : (S.erase a).Nodup := hnd.erase a
    have mem' : ∀ x, x ∈ S.erase a ↔ x ≠ a ∧ x ∈ S := fun x => List.Nodup.mem_erase_iff hnd
    obtain ⟨k, col, A, hA, hC⟩ := ih _ hS' (S.erase a) rfl hnd'
    -- an item that lies in some antichain of k
    let good : Nat → Prop := fun x => ∃ B, Anti R (S.erase a) k B ∧ x ∈ B
    have hex : ∀ i, i < k → ∃ x, good x ∧ col x = i ∧ ∀ y, good y → col y = i → y = x ∨ R y x = true := by
      intro i hi
      have : ∃ L : List Nat, ∀ x, x ∈ L ↔ x ∈ S.erase a ∧ good x ∧ col x = i := by
        refine ⟨(S.erase a).filter fun x => @decide (good x ∧ col x = i) (Classical.propDecidable _), fun x => ?_⟩
        rw [List.mem_filter]
        constructor
        · rintro ⟨h1, h2⟩
          exact ⟨h1, @of_decide_eq_true _ (Classical.propDecidable _) h2⟩
        · rintro ⟨h1, h2⟩
          exact ⟨h1, @decide_eq_true _ (Classical.propDecidable _) h2⟩
      obtain ⟨L, hL⟩ := this
      obtain ⟨y, hy, e⟩ := hA.hits R hC i hi
      have hLne : L ≠ [] := fun z => by
        have : y ∈ L := (hL y).mpr ⟨hA.sub y hy, ⟨A, hA, hy⟩, e⟩
        rw [z] at this
        cases this
      obtain ⟨x, hx, hxm⟩ := exists_max R irr tr L hLne
      have hx' := (hL x).mp hx
      refine ⟨x, hx'.2.1, hx'.2.2, fun z hz ez => ?_⟩
      obtain ⟨B, hB, hzB⟩ := hz
      have hzS := hB.sub z hzB
      by_cases exz : z = x
      · exact .inl exz
      · rcases hC.chain z hzS x hx'.1 exz (ez.trans hx'.2.2.symm) with h | h
        · exact .inr h
        · rw [hxm z ((hL z).mpr ⟨hzS, ⟨B, hB, hzB⟩, ez⟩)] at h
          cases h
    have hch : ∃ xi : Nat → Nat, ∀ i, i < k → good (xi i) ∧ col (xi i) = i ∧ ∀ y, good y → col y = i → y = xi i ∨ R y (xi i) = true := by
      refine ⟨fun i => if h : i < k then Classical.choose (hex i h) else 0, fun i hi => ?_⟩
      dsimp only
      rw [dif_pos hi]
      exact Classical.choose_spec (hex i hi)
    obtain ⟨xi, hxi⟩ := hch
    have inS : ∀ i, i < k → xi i ∈ S.erase a := fun i hi => by
      obtain ⟨⟨B, hB, h⟩, _⟩ := hxi i hi
      exact hB.sub _ h
    have hanti : ∀ i j, i < k → j < k → R (xi j) (xi i) = false := by
      intro i j hi hj
      by_cases e : i = j
      · subst e
        exact irr _
      cases c : R (xi j) (xi i) with
      | false => rfl
      | true =>
        obtain ⟨⟨B, hB, hiB⟩, _, _⟩ := hxi i hi
        obtain ⟨y, hy, ey⟩ := hB.hits R hC j hj
        have hyx := (hxi j hj).2.2 y ⟨B, hB, hy⟩ ey
        have hyi : R y (xi i) = true := by
          rcases hyx with h | h
          · rw [h]
            exact c
          · exact tr _ _ _ h c
        rw [hB.anti y hy (xi i) hiB] at hyi
        cases hyi
    by_cases hcase : ∃ i, i < k ∧ R (xi i) a = true
    · obtain ⟨i, hi, hia⟩ := hcase
      -- the chain that is taken out
      let inK : Nat → Bool := fun z => z == a || (decide (z ∈ S.erase a) && (col z == i && (z == xi i || R z (xi i))))
      have hK : ∀ z, inK z = true ↔ z = a ∨ (z ∈ S.erase a ∧ col z = i ∧ (z = xi i ∨ R z (xi i) = true)) := fun z => by
        show (z == a || (decide (z ∈ S.erase a) && (col z == i && (z == xi i || R z (xi i))))) = true ↔ _
        simp only [Bool.or_eq_true, Bool.and_eq_true, beq_iff_eq, decide_eq_true_eq]
      let T := S.filter fun z => !inK z
      have hTlt : T.length < n := by
        have : T.length < S.length := by
          have key : ∀ (l : List Nat), a ∈ l → (l.filter fun z => !inK z).length < l.length := by
            intro l
            induction l with
            | nil => intro h; cases h
            | cons x l ihl =>
              intro h
              have hle := List.length_filter_le (fun z => !inK z) l
              rw [List.filter_cons, List.length_cons]
              rcases List.mem_cons.mp h with rfl | h
              · have : inK a = true := (hK a).mpr (.inl rfl)
                rw [this]
                simp only [Bool.not_true, Bool.false_eq_true, if_false]
                omega
              · have := ihl h
                split
                · rw [List.length_cons]
                  omega
                · omega
          exact key S ha
        rw [hS] at this
        exact this
      have hTnd : T.Nodup := hnd.filter _
      have hTm : ∀ z, z ∈ T ↔ z ∈ S ∧ inK z = false := fun z => by
        show z ∈ S.filter (fun z => !inK z) ↔ _
        rw [List.mem_filter]
        simp
      have hTS : ∀ z, z ∈ T → z ∈ S.erase a := fun z hz => by
        have h := (hTm z).mp hz
        refine (mem' z).mpr ⟨fun e => ?_, h.1⟩
        have : inK z = true := (hK z).mpr (.inl e)
        rw [h.2] at this
        cases this
      obtain ⟨k2, col2, A2, hA2, hC2⟩ := ih _ hTlt T rfl hTnd
      have hk2 : k2 < k := by
        refine Classical.byContradiction fun hno => ?_
        have hB : Anti R (S.erase a) k (A2.take k) := ⟨List.Nodup.sublist (List.take_sublist k A2) hA2.nd, fun x hx => hTS x (hA2.sub x (List.mem_of_mem_take hx)),
          fun x hx y hy => hA2.anti x (List.mem_of_mem_take hx) y (List.mem_of_mem_take hy), by rw [List.length_take, hA2.len]; omega⟩
        obtain ⟨y, hy, ey⟩ := hB.hits R hC i hi
        have hyx := (hxi i hi).2.2 y ⟨_, hB, hy⟩ ey
        have hyT := hA2.sub y (List.mem_of_mem_take hy)
        have : inK y = true := (hK y).mpr (.inr ⟨hTS y hyT, ey, hyx⟩)
        rw [((hTm y).mp hyT).2] at this
        cases this
      refine ⟨k, fun z => if inK z = true then k2 else col2 z, A, ⟨hA.nd, fun x hx => ((mem' x).mp (hA.sub x hx)).2, hA.anti, hA.len⟩, fun x hx => ?_, fun x hx y hy ne e => ?_⟩
      · show (if inK x = true then k2 else col2 x) < k
        cases c : inK x with
        | true =>
          rw [if_pos rfl]
          exact hk2
        | false =>
          rw [if_neg (by decide)]
          have := hC2.lt x ((hTm x).mpr ⟨hx, c⟩)
          omega
      · have e : (if inK x = true then k2 else col2 x) = (if inK y = true then k2 else col2 y) := e
        cases cx : inK x with
        | true =>
          cases cy : inK y with
          | true =>
            rcases (hK x).mp cx with ex | ⟨x1, x2, x3⟩
            · rcases (hK y).mp cy with ey | ⟨y1, y2, y3⟩
              · exact absurd (ex.trans ey.symm) ne
              · right
                rw [ex]
                rcases y3 with h | h
                · rw [h]; exact hia
                · exact tr _ _ _ h hia
            · rcases (hK y).mp cy with ey | ⟨y1, y2, y3⟩
              · left
                rw [ey]
                rcases x3 with h | h
                · rw [h]; exact hia
                · exact tr _ _ _ h hia
              · exact hC.chain x x1 y y1 ne (x2.trans y2.symm)
          | false =>
            rw [cx, cy, if_pos rfl, if_neg (by decide)] at e
            have := hC2.lt y ((hTm y).mpr ⟨hy, cy⟩)
            omega
        | false =>
          cases cy : inK y with
          | true =>
            rw [cx, cy, if_pos rfl, if_neg (by decide)] at e
            have := hC2.lt x ((hTm x).mpr ⟨hx, cx⟩)
            omega
          | false =>
            rw [cx, cy, if_neg (by decide), if_neg (by decide)] at e
            exact hC2.chain x ((hTm x).mpr ⟨hx, cx⟩) y ((hTm y).mpr ⟨hy, cy⟩) ne e
    · have hno : ∀ i, i < k → R (xi i) a = false := fun i hi => by
        cases c : R (xi i) a with
        | false => rfl
        | true => exact absurd ⟨i, hi, c⟩ hcase
      refine ⟨k + 1, fun z => if z = a then k else col z, a :: (List.range k).map xi, ⟨?_, ?_, ?_, ?_⟩, fun x hx => ?_, fun x hx y hy ne e => ?_⟩
      · rw [List.nodup_cons]
        refine ⟨fun hm => ?_, nodup_map List.nodup_range fun i hi j hj ne e => ?_⟩
        · obtain ⟨i, hi, e⟩ := List.mem_map.mp hm
          exact ((mem' _).mp (inS i (List.mem_range.mp hi))).1 e
        · have h1 := (hxi i (List.mem_range.mp hi)).2.1
          have h2 := (hxi j (List.mem_range.mp hj)).2.1
          rw [e] at h1
          exact ne (h1.symm.trans h2)
      · intro x hx
        rcases List.mem_cons.mp hx with rfl | hx
        · exact ha
        · obtain ⟨i, hi, rfl⟩ := List.mem_map.mp hx
          exact ((mem' _).mp (inS i (List.mem_range.mp hi))).2
      · intro x hx y hy
        rcases List.mem_cons.mp hx with rfl | hx
        · rcases List.mem_cons.mp hy with rfl | hy
          · exact irr _
          · obtain ⟨j, hj, rfl⟩ := List.mem_map.mp hy
            exact hmax _ ((mem' _).mp (inS j (List.mem_range.mp hj))).2
        · obtain ⟨i, hi, rfl⟩ := List.mem_map.mp hx
          rcases List.mem_cons.mp hy with rfl | hy
          · exact hno i (List.mem_range.mp hi)
          · obtain ⟨j, hj, rfl⟩ := List.mem_map.mp hy
            exact hanti j i (List.mem_range.mp hj) (List.mem_range.mp hi)
      · rw [List.length_cons, List.length_map, List.length_range]
      · show (if x = a then k else col x) < k + 1
        split
        · omega
        · rename_i hxa
          have := hC.lt x ((mem' x).mpr ⟨hxa, hx⟩)
          omega
      · have e : (if x = a then k else col x) = (if y = a then k else col y) := e
        by_cases ex : x = a
        · by_cases ey : y = a
          · exact absurd (ex.trans ey.symm) ne
          · rw [if_pos ex, if_neg ey] at e
            have := hC.lt y ((mem' y).mpr ⟨ey, hy⟩)
            omega
        · by_cases ey : y = a
          · rw [if_neg ex, if_pos ey] at e
            have := hC.lt x ((mem' x).mpr ⟨ex, hx⟩)
            omega
          · rw [if_neg ex, if_neg ey] at e
            exact hC.chain x ((mem' x).mpr ⟨ex, hx⟩) y ((mem' y).mpr ⟨ey, hy⟩) ne e
end
end Sc
/-! A6: plans: the specification's greatest crowd is the least number of stagehands. -/
namespace Sc
open Sy91

/-- jobs that end behind their start -/
def Jobs (s : Sy91.St) : Prop := ∀ k, k < s.jobs.length → (job s k).from_ < (job s k).to_
def ltJ (s : Sy91.St) (i j : Nat) : Bool := inTime s (job s i) (job s j)
section
variable {s : Sy91.St}
theorem apart_self (a : Nat) : apart a a = 0 := by unfold apart; omega
theorem apart_comm (a b : Nat) : apart a b = apart b a := by unfold apart; omega
theorem apart_tri (a b c : Nat) : apart a c ≤ apart a b + apart b c := by unfold apart; omega
theorem ltJ_iff {i j : Nat} : ltJ s i j = true ↔ (job s i).to_ + walk s (job s i) (job s j) ≤ (job s j).from_ := by
  unfold ltJ inTime
  exact decide_eq_true_iff
theorem ltJ_irr (J : Jobs s) {i : Nat} (h : i < s.jobs.length) : ltJ s i i = false := by
  have := J i h
  cases c : ltJ s i i with
  | false => rfl
  | true =>
    have := ltJ_iff.mp c
    omega
theorem ltJ_tr (J : Jobs s) {i j k : Nat} (hj : j < s.jobs.length) (h1 : ltJ s i j = true) (h2 : ltJ s j k = true) : ltJ s i k = true := by
  have a := ltJ_iff.mp h1
  have b := ltJ_iff.mp h2
  have c := J j hj
  refine ltJ_iff.mpr ?_
  unfold walk at a b ⊢
  have := apart_tri (s.ropes.getD (job s i).rope 0) (s.ropes.getD (job s j).rope 0) (s.ropes.getD (job s k).rope 0)
  omega
theorem both_eq (i j : Nat) : both s i j = (i != j && (ltJ s i j || ltJ s j i)) := rfl
theorem both_comm (i j : Nat) : both s i j = both s j i := by
  rw [both_eq, both_eq, Bool.or_comm (ltJ s i j)]
  congr 1
  rw [Bool.eq_iff_iff, bne_iff_ne, bne_iff_ne]
  exact ⟨fun h => h.symm, fun h => h.symm⟩
theorem both_self (i : Nat) : both s i i = false := by
  rw [both_eq]
  simp

/-! ### sums -/
theorem foldl_add : ∀ (l : List Nat) (a : Nat), l.foldl (fun (a b : Nat) => a + b) a = a + l.sum
  | [], a => rfl
  | x :: l, a => by
    rw [List.foldl_cons, foldl_add l, List.sum_cons, Nat.add_assoc]
theorem wants_eq (l : List Nat) : wants s l = (l.map fun k => (job s k).hands).sum := by
  unfold wants
  rw [foldl_add, Nat.zero_add]
theorem units_filter (p : Nat → Bool) (h : Nat → Nat) : ∀ L : List Nat, ((L.flatMap fun k => List.replicate (h k) k).filter p).length = ((L.filter p).map h).sum
  | [] => rfl
  | k :: L => by
    rw [List.flatMap_cons, List.filter_append, List.length_append, units_filter p h L, List.filter_cons]
    cases c : p k with
    | true =>
      rw [if_pos rfl, List.map_cons, List.sum_cons, List.filter_replicate, if_pos c, List.length_replicate]
    | false =>
      rw [if_neg (by decide), List.filter_replicate, if_neg (by rw [c]; decide)]
      show 0 + _ = _
      rw [Nat.zero_add]
theorem units_mem {k : Nat} (h : k ∈ units s) : k < s.jobs.length := by
  unfold units at h
  obtain ⟨j, hj, hk⟩ := List.mem_flatMap.mp h
  rw [(List.mem_replicate.mp hk).2]
  exact List.mem_range.mp hj
theorem units_len : (units s).length = wants s (all_ s) := by
  have h := units_filter (fun _ => true) (fun k => (job s k).hands) (List.range s.jobs.length)
  rw [wants_eq]
  unfold all_
  have e : ∀ l : List Nat, l.filter (fun _ => true) = l := fun l => List.filter_eq_self.mpr fun _ _ => rfl
  rw [e, e] at h
  exact h

/-! ### rows and crowds -/
theorem rowsFrom_mem : ∀ (n k : Nat) (p : Nat → Bool), (List.range' k n).filter p ∈ rowsFrom k n
  | 0, k, p => List.mem_singleton.mpr rfl
  | n + 1, k, p => by
    have ih := rowsFrom_mem n (k + 1) p
    rw [List.range'_succ, List.filter_cons]
    unfold rowsFrom
    split
    · exact List.mem_append_left _ (List.mem_map.mpr ⟨_, ih, rfl⟩)
    · exact List.mem_append_right _ ih
theorem rowsFrom_is : ∀ (n k : Nat) (l : List Nat), l ∈ rowsFrom k n → ∃ p : Nat → Bool, l = (List.range' k n).filter p
  | 0, k, l, h => ⟨fun _ => true, by rw [List.mem_singleton.mp h]; rfl⟩
  | n + 1, k, l, h => by
    unfold rowsFrom at h
    rcases List.mem_append.mp h with h | h
    · obtain ⟨l', hl', rfl⟩ := List.mem_map.mp h
      obtain ⟨p, rfl⟩ := rowsFrom_is n (k + 1) l' hl'
      refine ⟨fun i => i == k || p i, ?_⟩
      rw [List.range'_succ, List.filter_cons, if_pos (by simp)]
      congr 1
      refine List.filter_congr fun i hi => ?_
      have : k + 1 ≤ i := (List.mem_range'_1.mp hi).1
      have e : (i == k) = false := by simpa using (show i ≠ k by omega)
      rw [e, Bool.false_or]
    · obtain ⟨p, rfl⟩ := rowsFrom_is n (k + 1) l h
      refine ⟨fun i => i != k && p i, ?_⟩
      rw [List.range'_succ, List.filter_cons, if_neg (by simp)]
      refine List.filter_congr fun i hi => ?_
      have : k + 1 ≤ i := (List.mem_range'_1.mp hi).1
      have e : (i != k) = true := by simpa using (show i ≠ k by omega)
      rw [e, Bool.true_and]
theorem rows_mem (p : Nat → Bool) : (List.range s.jobs.length).filter p ∈ Sy91.rows s := by
  rw [List.range_eq_range']
  exact rowsFrom_mem _ _ p
theorem rows_is {l : List Nat} (h : l ∈ Sy91.rows s) : ∃ p : Nat → Bool, l = (List.range s.jobs.length).filter p := by
  rw [List.range_eq_range']
  exact rowsFrom_is _ _ l h
theorem crowd_iff : ∀ (l : List Nat), crowd s l = true ↔ l.Pairwise fun i j => both s i j = false
  | [] => by simp [crowd]
  | k :: l => by
    unfold crowd
    rw [Bool.and_eq_true, List.pairwise_cons, crowd_iff l, List.all_eq_true]
    simp
theorem crowd_all {l : List Nat} (h : crowd s l = true) : ∀ i ∈ l, ∀ j ∈ l, both s i j = false := by
  have hp := (crowd_iff l).mp h
  clear h
  induction hp with
  | nil => intro i hi; cases hi
  | cons h1 _ ih =>
    intro i hi j hj
    rcases List.mem_cons.mp hi with rfl | hi2
    · rcases List.mem_cons.mp hj with rfl | hj2
      · exact both_self _
      · exact h1 _ hj2
    · rcases List.mem_cons.mp hj with rfl | hj2
      · rw [both_comm]
        exact h1 _ hi2
      · exact ih i hi2 j hj2
theorem crowds_iff {l : List Nat} : l ∈ crowds s ↔ l ∈ Sy91.rows s ∧ crowd s l = true := by
  unfold crowds
  exact List.mem_filter
theorem firstMost_mem (f : List Nat → Nat) : ∀ (L : List (List Nat)), L ≠ [] → firstMost f L = [] ∨ firstMost f L ∈ L
  | [], h => absurd rfl h
  | l :: r, _ => by
    unfold firstMost
    dsimp only
    split
    · exact .inr List.mem_cons_self
    · by_cases hr : r = []
      · subst hr
        exact .inl rfl
      · rcases firstMost_mem f r hr with h | h
        · exact .inl h
        · exact .inr (List.mem_cons_of_mem _ h)
theorem firstMost_le (f : List Nat → Nat) : ∀ (L : List (List Nat)), ∀ l ∈ L, f l ≤ f (firstMost f L)
  | [], l, h => by cases h
  | x :: r, l, h => by
    unfold firstMost
    dsimp only
    split
    · rename_i hc
      rcases List.mem_cons.mp h with rfl | h
      · exact Nat.le_refl _
      · have := firstMost_le f r l h
        omega
    · rename_i hc
      rcases List.mem_cons.mp h with rfl | h
      · omega
      · exact firstMost_le f r l h
theorem nil_crowd : ([] : List Nat) ∈ crowds s := crowds_iff.mpr ⟨by
  have := rows_mem (s := s) fun _ => false
  rw [List.filter_eq_nil_iff.mpr (by simp)] at this
  exact this, rfl⟩
theorem theCrowd_mem : theCrowd s ∈ crowds s := by
  unfold theCrowd
  rcases firstMost_mem (wants s) (crowds s) (fun z => by have := nil_crowd (s := s); rw [z] at this; cases this) with h | h
  · rw [h]
    exact nil_crowd
  · exact h
theorem fewest_ge {l : List Nat} (h : l ∈ crowds s) : wants s l ≤ fewest s := firstMost_le (wants s) (crowds s) l h

/-! ### dealing -/
def Valid (s : Sy91.St) (L : List (Nat × Nat)) : Prop := L.Pairwise fun x y => x.2 = y.2 → both s x.1 y.1 = true
theorem free_iff {d : List (Nat × Nat)} {k h : Nat} : free s d k h = true ↔ ∀ x ∈ d, x.2 = h → both s x.1 k = true := by
  unfold free
  rw [List.all_eq_true]
  constructor
  · intro a x hx e
    have := a x hx
    rw [Bool.or_eq_true, bne_iff_ne] at this
    rcases this with q | q
    · exact absurd e q
    · exact q
  · intro a x hx
    rw [Bool.or_eq_true, bne_iff_ne]
    by_cases e : x.2 = h
    · exact .inr (a x hx e)
    · exact .inl e
theorem valid_app {d : List (Nat × Nat)} {k h : Nat} : Valid s (d ++ [(k, h)]) ↔ Valid s d ∧ free s d k h = true := by
  unfold Valid
  rw [List.pairwise_append, free_iff]
  constructor
  · rintro ⟨h1, _, h3⟩
    exact ⟨h1, fun x hx e => h3 x hx (k, h) (List.mem_singleton.mpr rfl) e⟩
  · rintro ⟨h1, h2⟩
    refine ⟨h1, List.pairwise_singleton _ _, fun x hx y hy e => ?_⟩
    rw [List.mem_singleton.mp hy] at e ⊢
    exact h2 x hx e
theorem deal_cons (most k : Nat) (l : List Nat) (d : List (Nat × Nat)) (n : Nat) :
    deal s most (k :: l) d n = ((List.range (min (n + 1) most)).filter fun (h : Nat) => free s d k h).findSome? fun (h : Nat) => deal s most l (d ++ [(k, h)]) (max n (h + 1)) := rfl
theorem deal_sound (most : Nat) : ∀ (l : List Nat) (d : List (Nat × Nat)) (n : Nat) (p : List Nat), deal s most l d n = some p → Valid s d →
    ∃ c : List Nat, c.length = l.length ∧ p = d.map (·.2) ++ c ∧ Valid s (d ++ l.zip c) ∧ ∀ x ∈ c, x < most
  | [], d, n, p, h, hv => ⟨[], rfl, by cases h; rw [List.append_nil], by rw [List.zip_nil_left, List.append_nil]; exact hv, fun x hx => (by cases hx)⟩
  | k :: l, d, n, p, h, hv => by
    rw [deal_cons] at h
    obtain ⟨h0, hm, h1⟩ := List.exists_of_findSome?_eq_some h
    rw [List.mem_filter] at hm
    obtain ⟨c, c1, c2, c3, c4⟩ := deal_sound most l _ _ p h1 (valid_app.mpr ⟨hv, hm.2⟩)
    refine ⟨h0 :: c, by rw [List.length_cons, List.length_cons, c1], ?_, ?_, fun x hx => ?_⟩
    · rw [c2, List.map_append, List.append_assoc]
      rfl
    · rw [List.zip_cons_cons]
      rw [List.append_assoc] at c3
      exact c3
    · rcases List.mem_cons.mp hx with rfl | hx
      · have := List.mem_range.mp hm.1
        omega
      · exact c4 x hx
def sw (n h x : Nat) : Nat := if x = n then h else if x = h then n else x
theorem sw_inj {n h x y : Nat} (e : sw n h x = sw n h y) : x = y := by
  unfold sw at e
  split at e <;> split at e <;> (try split at e) <;> (try split at e) <;> omega
theorem deal_complete (most : Nat) : ∀ (l : List Nat) (d : List (Nat × Nat)) (n : Nat) (c : List Nat), c.length = l.length → Valid s (d ++ l.zip c) → (∀ x ∈ c, x < most) → (∀ x ∈ d, x.2 < n) → n ≤ most →
    deal s most l d n ≠ none
  | [], d, n, c, _, _, _, _, _ => fun z => by cases z
  | k :: l, d, n, [], h, _, _, _, _ => by cases h
  | k :: l, d, n, h :: c, hl, hv, hc, hd, hn => by
    rw [deal_cons]
    intro hno
    rw [List.findSome?_eq_none_iff] at hno
    have hlc : c.length = l.length := by simpa using hl
    have hhm := hc h List.mem_cons_self
    have hv' : Valid s ((d ++ [(k, h)]) ++ l.zip c) := by
      rw [List.append_assoc]
      exact hv
    have hv1 : Valid s (d ++ [(k, h)]) := by
      unfold Valid at hv' ⊢
      exact (List.pairwise_append.mp hv').1
    by_cases hh : h < n
    · have hfree := (valid_app.mp hv1).2
      refine deal_complete most l (d ++ [(k, h)]) (max n (h + 1)) c hlc hv' (fun x hx => hc x (List.mem_cons_of_mem _ hx)) (fun x hx => ?_) (by omega) (hno h (List.mem_filter.mpr ⟨List.mem_range.mpr (by omega), hfree⟩))
      rcases List.mem_append.mp hx with hx | hx
      · have := hd x hx
        omega
      · rw [List.mem_singleton.mp hx]
        show h < max n (h + 1)
        omega
    · -- a new one: called n
      have hval : Valid s ((d ++ [(k, n)]) ++ l.zip (c.map (sw n h))) := by
        have e : (d ++ [(k, n)]) ++ l.zip (c.map (sw n h)) = d ++ (((k, h) :: l.zip c).map fun x => (x.1, sw n h x.2)) := by
          rw [List.append_assoc, List.map_cons, List.zip_map_right]
          have : sw n h h = n := by
            unfold sw
            split
            · omega
            · rw [if_pos rfl]
          dsimp only
          rw [this]
          rfl
        rw [e]
        unfold Valid at hv ⊢
        rw [List.pairwise_append] at hv ⊢
        refine ⟨hv.1, ?_, fun x hx y hy e => ?_⟩
        · rw [List.pairwise_map]
          exact hv.2.1.imp fun {x y} q e => q (sw_inj e)
        · obtain ⟨z, hz, rfl⟩ := List.mem_map.mp hy
          have hxn := hd x hx
          dsimp only at e ⊢
          have : z.2 = x.2 := by
            unfold sw at e
            split at e
            · omega
            · split at e
              · omega
              · exact e.symm
          exact hv.2.2 x hx z hz this.symm
      have hval1 : Valid s (d ++ [(k, n)]) := by
        unfold Valid at hval ⊢
        exact (List.pairwise_append.mp hval).1
      have hfree := (valid_app.mp hval1).2
      refine deal_complete most l (d ++ [(k, n)]) (max n (n + 1)) (c.map (sw n h)) (by rw [List.length_map]; exact hlc) hval (fun x hx => ?_) (fun x hx => ?_) (by omega) (hno n (List.mem_filter.mpr ⟨List.mem_range.mpr (by omega), hfree⟩))
      · obtain ⟨y, hy, rfl⟩ := List.mem_map.mp hx
        have := hc y (List.mem_cons_of_mem _ hy)
        unfold sw
        split
        · exact hhm
        · split <;> omega
      · rcases List.mem_append.mp hx with hx | hx
        · have := hd x hx
          omega
        · rw [List.mem_singleton.mp hx]
          show n < max n (n + 1)
          omega
theorem valid_nil : Valid s [] := List.Pairwise.nil
/-- a crowd needs its hands -/
theorem crowd_hands {c l : List Nat} {most : Nat} (hv : Valid s ((units s).zip c)) (hlen : c.length = (units s).length) (hc : ∀ x ∈ c, x < most) (hl : l ∈ crowds s) : wants s l ≤ most := by
  obtain ⟨h1, h2⟩ := crowds_iff.mp hl
  obtain ⟨p, rfl⟩ := rows_is h1
  have hall := crowd_all h2
  -- the places of the crowd's movements
  let L := ((units s).zip c).filter fun x => decide (x.1 ∈ (List.range s.jobs.length).filter p)
  have hnd : (L.map (·.2)).Nodup := by
    have hp : L.Pairwise fun x y => x.2 = y.2 → both s x.1 y.1 = true := hv.filter _
    have hm : ∀ x ∈ L, x.1 ∈ (List.range s.jobs.length).filter p := fun x hx => by
      have := (List.mem_filter.mp hx).2
      exact of_decide_eq_true this
    rw [List.nodup_iff_pairwise_ne, List.pairwise_map]
    refine List.Pairwise.imp_of_mem (fun {x y} hx hy q => ?_) hp
    intro e
    have := q e
    rw [hall x.1 (hm x hx) y.1 (hm y hy)] at this
    cases this
  have hlt : ∀ x ∈ L.map (·.2), x < most := fun x hx => by
    obtain ⟨y, hy, rfl⟩ := List.mem_map.mp hx
    have := (List.mem_filter.mp hy).1
    exact hc _ (List.of_mem_zip this).2
  have := nodup_len most _ hnd hlt
  rw [List.length_map] at this
  have e : L.length = wants s ((List.range s.jobs.length).filter p) := by
    have e1 : L.length = ((units s).filter fun k => decide (k ∈ (List.range s.jobs.length).filter p)).length := by
      have e2 : (units s) = ((units s).zip c).map (·.1) := by
        rw [List.map_fst_zip]
        omega
      conv => rhs; rw [e2]
      rw [List.filter_map, List.length_map]
      rfl
    rw [e1, wants_eq]
    unfold units
    rw [units_filter]
    congr 2
    refine List.filter_congr fun k hk => ?_
    rw [Bool.eq_iff_iff, decide_eq_true_iff, List.mem_filter]
    exact ⟨fun q => q.2, fun q => ⟨hk, q⟩⟩
  omega
theorem planWith_fewest {most : Nat} {p : List Nat} (h : planWith s most = some p) : fewest s ≤ most := by
  obtain ⟨c, c1, c2, c3, c4⟩ := deal_sound most _ _ _ p h valid_nil
  exact crowd_hands c3 c1 c4 theCrowd_mem
/-- Dilworth: so many hands are enough -/
theorem fewest_enough (J : Jobs s) : ∃ c : List Nat, c.length = (units s).length ∧ Valid s ((units s).zip c) ∧ ∀ x ∈ c, x < fewest s := by
  let u := fun p => (units s).getD p 0
  let R : Nat → Nat → Bool := fun p q => decide (p < (units s).length) && (decide (q < (units s).length) && ltJ s (u p) (u q))
  have hR : ∀ p q, R p q = true ↔ p < (units s).length ∧ q < (units s).length ∧ ltJ s (u p) (u q) = true := fun p q => by
    show (decide _ && (decide _ && _)) = true ↔ _
    rw [Bool.and_eq_true, Bool.and_eq_true, decide_eq_true_iff, decide_eq_true_iff]
  have hu : ∀ p, p < (units s).length → u p < s.jobs.length := fun p hp => by
    refine units_mem ?_
    show (units s).getD p 0 ∈ _
    rw [List.getD_eq_getElem?_getD, List.getElem?_eq_getElem hp]
    exact List.getElem_mem hp
  obtain ⟨k, col, A, hA, hC⟩ := dilworth R (fun x => by
      cases c : R x x with
      | false => rfl
      | true =>
        obtain ⟨h1, _, h2⟩ := (hR x x).mp c
        rw [ltJ_irr J (hu x h1)] at h2
        cases h2)
    (fun x y z h1 h2 => by
      obtain ⟨a1, a2, a3⟩ := (hR x y).mp h1
      obtain ⟨b1, b2, b3⟩ := (hR y z).mp h2
      exact (hR x z).mpr ⟨a1, b2, ltJ_tr J (hu y a2) a3 b3⟩) _ (List.range (units s).length) rfl List.nodup_range
  -- the antichain's movements are a crowd
  let inA : Nat → Bool := fun k => A.any fun p => u p == k
  have hl : (List.range s.jobs.length).filter inA ∈ crowds s := by
    refine crowds_iff.mpr ⟨rows_mem _, ?_⟩
    rw [crowd_iff]
    have hpw : ∀ i ∈ (List.range s.jobs.length).filter inA, ∀ j ∈ (List.range s.jobs.length).filter inA, both s i j = false := by
      intro i hi j hj
      obtain ⟨p, hp, ep⟩ := List.any_eq_true.mp (List.mem_filter.mp hi).2
      obtain ⟨q, hq, eq⟩ := List.any_eq_true.mp (List.mem_filter.mp hj).2
      have ep' : u p = i := by simpa using ep
      have eq' : u q = j := by simpa using eq
      have lp := List.mem_range.mp (hA.sub p hp)
      have lq := List.mem_range.mp (hA.sub q hq)
      have n1 : ltJ s i j = false := by
        cases c : ltJ s i j with
        | false => rfl
        | true =>
          have := (hR p q).mpr ⟨lp, lq, by rw [ep', eq']; exact c⟩
          rw [hA.anti p hp q hq] at this
          cases this
      have n2 : ltJ s j i = false := by
        cases c : ltJ s j i with
        | false => rfl
        | true =>
          have := (hR q p).mpr ⟨lq, lp, by rw [ep', eq']; exact c⟩
          rw [hA.anti q hq p hp] at this
          cases this
      rw [both_eq, n1, n2]
      simp
    exact List.Pairwise.imp_of_mem (fun {x y} hx hy _ => hpw x hx y hy) (List.pairwise_lt_range.filter inA)
  have hk : k ≤ fewest s := by
    refine Nat.le_trans ?_ (fewest_ge hl)
    rw [wants_eq]
    have e1 : (((List.range s.jobs.length).filter inA).map fun k => (job s k).hands).sum = ((units s).filter inA).length := by
      unfold units
      rw [units_filter]
    rw [e1]
    have e2 : units s = (List.range (units s).length).map u := by
      refine List.ext_getElem (by rw [List.length_map, List.length_range]) fun i h1 h2 => ?_
      rw [List.getElem_map, List.getElem_range]
      show _ = (units s).getD i 0
      rw [List.getD_eq_getElem?_getD, List.getElem?_eq_getElem h1]
      rfl
    rw [e2, List.filter_map, List.length_map, ← hA.len]
    have e3 : ∀ x ∈ A, x ∈ (List.range (units s).length).filter (inA ∘ u) := fun x hx => by
      refine List.mem_filter.mpr ⟨hA.sub x hx, ?_⟩
      show A.any (fun p => u p == u x) = true
      exact List.any_eq_true.mpr ⟨x, hx, by simp⟩
    have e4 : ∀ (A L : List Nat), A.Nodup → (∀ x ∈ A, x ∈ L) → A.length ≤ L.length := by
      intro A
      induction A with
      | nil => intro L _ _; exact Nat.zero_le _
      | cons a A ih =>
        intro L hn hs
        have ha := hs a List.mem_cons_self
        have hn' := List.nodup_cons.mp hn
        have := ih (L.erase a) hn'.2 fun x hx => by
          have hne : x ≠ a := fun e => hn'.1 (e ▸ hx)
          exact (List.mem_erase_of_ne hne).mpr (hs x (List.mem_cons_of_mem _ hx))
        rw [List.length_erase_of_mem ha] at this
        have := List.length_pos_of_mem ha
        rw [List.length_cons]
        omega
    exact e4 A _ hA.nd e3
  refine ⟨(List.range (units s).length).map col, by rw [List.length_map, List.length_range], ?_, fun x hx => ?_⟩
  · unfold Valid
    rw [List.pairwise_iff_getElem]
    intro i j hi hj hij e
    have hi' : i < (units s).length := by
      rw [List.length_zip, List.length_map, List.length_range] at hi
      omega
    have hj' : j < (units s).length := by
      rw [List.length_zip, List.length_map, List.length_range] at hj
      omega
    rw [List.getElem_zip, List.getElem_zip, List.getElem_map, List.getElem_map, List.getElem_range, List.getElem_range] at e
    rw [List.getElem_zip, List.getElem_zip]
    have hui : ∀ i (h : i < (units s).length), (units s)[i] = u i := fun i h => by
      show _ = (units s).getD i 0
      rw [List.getD_eq_getElem?_getD, List.getElem?_eq_getElem h]
      rfl
    show both s (units s)[i] (units s)[j] = true
    rw [hui i hi', hui j hj', both_eq]
    rcases hC.chain i (List.mem_range.mpr hi') j (List.mem_range.mpr hj') (by omega) e with h | h
    · have h3 := ((hR i j).mp h).2.2
      have ne : u i ≠ u j := fun z => by
        rw [z, ltJ_irr J (hu j hj')] at h3
        cases h3
      rw [h3]
      simp [ne]
    · have h3 := ((hR j i).mp h).2.2
      have ne : u i ≠ u j := fun z => by
        rw [z, ltJ_irr J (hu j hj')] at h3
        cases h3
      rw [h3]
      simp [ne]
  · obtain ⟨i, hi, rfl⟩ := List.mem_map.mp hx
    have := hC.lt i hi
    omega
theorem planWith_some (J : Jobs s) {most : Nat} (h : fewest s ≤ most) : planWith s most ≠ none := by
  obtain ⟨c, c1, c2, c3⟩ := fewest_enough J
  exact deal_complete most _ [] 0 c c1 c2 (fun x hx => Nat.lt_of_lt_of_le (c3 x hx) h) (fun x hx => by cases hx) (Nat.zero_le _)
theorem planWith_iff (J : Jobs s) (most : Nat) : (planWith s most).isSome = decide (fewest s ≤ most) := by
  by_cases h : fewest s ≤ most
  · rw [decide_eq_true h]
    cases e : planWith s most with
    | none => exact absurd e (planWith_some J h)
    | some p => rfl
  · rw [decide_eq_false h]
    cases e : planWith s most with
    | none => rfl
    | some p => exact absurd (planWith_fewest e) h
theorem plan_is (J : Jobs s) : planWith s (fewest s) = some (Sy91.plan s) := by
  unfold Sy91.plan
  cases e : planWith s (fewest s) with
  | none => exact absurd e (planWith_some J (Nat.le_refl _))
  | some p => rfl
/-- the greatest number in the plan is one less than the number of hands -/
def handsIn (p : List Nat) : Nat := p.foldl (fun m h => max m (h + 1)) 0
theorem handsIn_le {m : Nat} : ∀ (p : List Nat) (a : Nat), a ≤ m → (∀ x ∈ p, x < m) → p.foldl (fun m h => max m (h + 1)) a ≤ m
  | [], a, h, _ => h
  | x :: p, a, h, hp => handsIn_le p _ (by have := hp x List.mem_cons_self; show max a (x + 1) ≤ m; omega) fun y hy => hp y (List.mem_cons_of_mem _ hy)
theorem lt_handsIn : ∀ (p : List Nat) (a : Nat), a ≤ p.foldl (fun m h => max m (h + 1)) a ∧ ∀ x ∈ p, x < p.foldl (fun m h => max m (h + 1)) a
  | [], a => ⟨Nat.le_refl _, fun x hx => by cases hx⟩
  | x :: p, a => by
    obtain ⟨h1, h2⟩ := lt_handsIn p (max a (x + 1))
    refine ⟨?_, fun y hy => ?_⟩
    · rw [List.foldl_cons]
      omega
    · rw [List.foldl_cons]
      rcases List.mem_cons.mp hy with rfl | hy
      · omega
      · exact h2 y hy
theorem plan_facts (J : Jobs s) : (Sy91.plan s).length = (units s).length ∧ Valid s ((units s).zip (Sy91.plan s)) ∧ ∀ x ∈ Sy91.plan s, x < fewest s := by
  obtain ⟨c, c1, c2, c3, c4⟩ := deal_sound (fewest s) _ _ _ _ (plan_is J) valid_nil
  have e : Sy91.plan s = c := c2
  rw [e]
  exact ⟨c1, c3, c4⟩
theorem plan_hands (J : Jobs s) : handsIn (Sy91.plan s) = fewest s := by
  obtain ⟨h1, h2, h3⟩ := plan_facts J
  refine Nat.le_antisymm (handsIn_le _ 0 (Nat.zero_le _) h3) ?_
  exact crowd_hands h2 h1 (lt_handsIn _ 0).2 theCrowd_mem
theorem fewest_le : fewest s ≤ wants s (all_ s) := by
  have h := theCrowd_mem (s := s)
  obtain ⟨p, e⟩ := rows_is (crowds_iff.mp h).1
  show wants s (theCrowd s) ≤ _
  rw [e, wants_eq, wants_eq]
  unfold all_
  have key : ∀ (h : Nat → Nat) (l : List Nat), ((l.filter p).map h).sum ≤ (l.map h).sum := by
    intro h l
    induction l with
    | nil => exact Nat.le_refl _
    | cons x l ih =>
      rw [List.filter_cons, List.map_cons, List.sum_cons]
      split
      · rw [List.map_cons, List.sum_cons]
        omega
      · omega
  exact key _ _
end
end Sc
/-! A7: a still second more or less changes nothing but the times (shift); movements behind a still time. -/
namespace Sc
open Sy90

structure Shift (t t' : St) : Prop where
  th : t'.things = t.things
  cu : t'.cues = t.cues
  pa : t'.pairs = t.pairs
  se : t'.second = t.second + 1
  st : ∀ k, (startOf t' k).isSome = (startOf t k).isSome
  ld : ∀ j, j < t.cues.length → startOf t j = none → ∀ e l d, (cue t j).upon = some (e, l, d) → startOf t' l = (startOf t l).map (· + 1) ∧ doneAt t' l = (doneAt t l).map (· + 1)
section
variable {t t' : St}
theorem Shift.cue (S : Shift t t') (j : Nat) : Sy90.cue t' j = Sy90.cue t j := by
  unfold Sy90.cue
  rw [S.cu]
theorem Shift.thing (S : Shift t t') (b : Nat) : Sy90.thing t' b = Sy90.thing t b := by
  unfold Sy90.thing
  rw [S.th]
theorem Shift.none_ (S : Shift t t') {k : Nat} : startOf t' k = none ↔ startOf t k = none := by
  have h := S.st k
  cases a : startOf t k <;> cases b : startOf t' k <;> rw [a, b] at h <;> simp_all
theorem Shift.due (S : Shift t t') {j : Nat} (hj : j < t.cues.length) (hn : startOf t j = none) : dueOf t' j = (dueOf t j).map (· + 1) := by
  unfold dueOf
  rw [S.cue]
  cases hu : (Sy90.cue t j).upon with
  | none => rfl
  | some p =>
    obtain ⟨e, l, d⟩ := p
    obtain ⟨h1, h2⟩ := S.ld j hj hn e l d hu
    dsimp only
    rw [h1, h2]
    by_cases he : e = 0
    · rw [if_pos he, if_pos he]
      cases startOf t l with
      | none => rfl
      | some a =>
        show some (a + 1 + d) = some (a + d + 1)
        congr 1
        omega
    · rw [if_neg he, if_neg he]
      cases doneAt t l with
      | none => rfl
      | some a =>
        show some (a + 1 + d) = some (a + d + 1)
        congr 1
        omega
theorem Shift.dueP (S : Shift t t') {j : Nat} (hj : j < t.cues.length) : dueP t' j = dueP t j := by
  unfold Sc.dueP
  cases hn : startOf t j with
  | some a =>
    cases hn' : startOf t' j with
    | some b => rfl
    | none =>
      have := S.st j
      rw [hn, hn'] at this
      cases this
  | none =>
    rw [S.none_.mpr hn, S.due hj hn, S.se]
    cases dueOf t j with
    | none => simp
    | some a => simp
theorem Wf.undone {s : St} (W : Wf s) {k : Nat} (h : startOf s k = none) : doneAt s k = none := by
  cases e : doneAt s k with
  | none => rfl
  | some t =>
    obtain ⟨t0, h1, _⟩ := W.dle k t e
    rw [h] at h1
    cases h1
theorem Shift.starts (S : Shift t t') (W : Wf t) (W' : Wf t') {k : Nat} (hk : k < t.cues.length) (hu : startOf t k = none) : Shift (Sy90.starts t k) (Sy90.starts t' k) := by
  have hks : k < t.started.length := by rw [W.ls]; exact hk
  have hks' : k < t'.started.length := by rw [W'.ls, S.cu]; exact hk
  refine ⟨?_, S.cu, S.pa, S.se, fun j => ?_, fun j hj hn e l d hup => ?_⟩
  · rw [starts_things, starts_things, S.cue, S.th]
  · by_cases e : j = k
    · subst e
      rw [starts_self hks, starts_self hks']
      rfl
    · rw [starts_ne e, starts_ne e]
      exact S.st j
  · have ne : j ≠ k := fun z => by
      rw [z, starts_self hks] at hn
      cases hn
    rw [starts_ne ne] at hn
    obtain ⟨h1, h2⟩ := S.ld j hj hn e l d hup
    rw [starts_done, starts_done]
    refine ⟨?_, h2⟩
    by_cases el : l = k
    · subst el
      rw [starts_self hks, starts_self hks', S.se]
      rfl
    · rw [starts_ne el, starts_ne el]
      exact h1
theorem Shift.step (S : Shift t t') (W : Wf t) (W' : Wf t') {k : Nat} (hk : k < t.cues.length) : Shift (stepP t k) (stepP t' k) := by
  unfold stepP
  rw [S.dueP hk]
  by_cases h : Sc.dueP t k = true
  · rw [if_pos h, if_pos h]
    exact S.starts W W' hk (dueP_un h).1
  · rw [if_neg h, if_neg h]
    exact S
theorem Shift.followed (S : Shift t t') (W : Wf t) (W' : Wf t') : Shift (followedP t) (followedP t') := by
  unfold followedP
  rw [S.cu]
  have key : ∀ n, n ≤ t.cues.length → Shift ((List.range n).foldl stepP t) ((List.range n).foldl stepP t') ∧ Wf ((List.range n).foldl stepP t) ∧ Wf ((List.range n).foldl stepP t') := by
    intro n
    induction n with
    | zero => intro _; exact ⟨S, W, W'⟩
    | succ n ih =>
      intro hn
      obtain ⟨a, b, c⟩ := ih (by omega)
      rw [List.range_succ, List.foldl_append, List.foldl_append]
      have e1 := (fold_same t n).1
      have e2 := (fold_same t' n).1
      have h1 : n < ((List.range n).foldl stepP t).cues.length := by rw [e1]; omega
      have h2 : n < ((List.range n).foldl stepP t').cues.length := by rw [e2, S.cu]; omega
      exact ⟨a.step b c h1, b.step h1, c.step h2⟩
  exact (key _ (Nat.le_refl _)).1
theorem Shift.called (S : Shift t t') (W : Wf t) (W' : Wf t') {k : Nat} (hk : k < t.cues.length) (hu : startOf t k = none) : Shift (Sy90.called t k) (Sy90.called t' k) := by
  have hk' : k < t'.cues.length := by rw [S.cu]; exact hk
  have hu' := S.none_.mpr hu
  rw [called_eq W hk hu, called_eq W' hk' hu']
  exact (S.starts W W' hk hu).followed (W.starts hk hu) (W'.starts hk' hu')
theorem Shift.goOn (S : Shift t t') : Shift (goOn t) (goOn t') := by
  refine ⟨?_, S.cu, S.pa, ?_, S.st, S.ld⟩
  · show t'.things.map moved = t.things.map moved
    rw [S.th]
  · show t'.second + 1 = t.second + 1 + 1
    rw [S.se]
theorem Shift.reached (S : Shift t t') (k : Nat) : reached t' k = reached t k := by
  unfold Sc.reached
  rw [S.th]
theorem Shift.finished (S : Shift t t') (M : Mid t) : Shift (finishedP t) (finishedP t') := by
  refine ⟨S.th, S.cu, S.pa, S.se, S.st, fun j hj hn e l d hup => ?_⟩
  obtain ⟨h1, h2⟩ := S.ld j hj hn e l d hup
  refine ⟨h1, ?_⟩
  have hl : l < t.cues.length := by
    have := ((M.cues j hj).up e l d hup).2.1
    have : j < t.cues.length := hj
    omega
  rw [finishedP_done hl, finishedP_done (s := t') (by rw [S.cu]; exact hl), h2, S.st l, S.reached, S.se]
  cases doneAt t l with
  | some a => rfl
  | none =>
    dsimp only [Option.map]
    split <;> rfl
theorem Shift.tick (S : Shift t t') (W : Ok t) (W' : Ok t') : Shift (Sy90.tick t) (Sy90.tick t') := by
  rw [tick_eq W, tick_eq W']
  exact (S.goOn.finished W.goOn).followed (finishedP_ok W.goOn) (finishedP_ok W'.goOn)
theorem Shift.after (S : Shift t t') (W : Ok t) (W' : Ok t') : ∀ n, Shift (Sy90.after t n) (Sy90.after t' n)
  | 0 => S
  | n + 1 => by
    rw [after_succ, after_succ]
    exact (S.after W W' n).tick (after_ok n W) (after_ok n W')
/-- behind a still second -/
theorem shift_quiet (W : Ok t) (h : quiet t = true) : Shift t (Sy90.tick t) := by
  obtain ⟨a, b⟩ := tick_quiet W h
  have hs : ∀ k, startOf (Sy90.tick t) k = startOf t k := fun k => by
    unfold startOf
    rw [b]
  refine ⟨a, tick_cues t, tick_pairs t, tick_second t, fun k => by rw [hs], fun j hj hn e l d hup => ?_⟩
  have hl := toCome_false ((quiet_true h).2 j hj) hn e l d hup
  have W' := tick_ok W
  have hl' : startOf (Sy90.tick t) l = none := by rw [hs]; exact hl
  rw [hl', hl, W'.undone hl', W.undone hl]
  exact ⟨rfl, rfl⟩
theorem Shift.fouled (S : Shift t t') : fouled t' = fouled t := by
  unfold Sy90.fouled
  rw [S.pa]
  congr 1
  funext p
  unfold fouls
  rw [S.thing, S.thing]
theorem Shift.foul (S : Shift t t') (W : Ok t) (W' : Ok t') : foul t' = foul t := by
  unfold Sy90.foul
  congr 1
  funext n
  rw [(S.after W W' n).fouled]
theorem Shift.dir (S : Shift t t') (b : Nat) : dirOf t' b = dirOf t b := by
  unfold dirOf
  rw [S.thing]
end

/-! ### rows of directions, parted at a 0 -/
theorem rows_split (r : List Int) : ∀ (l : List Int) (t : Nat) (w : Option (Nat × Int)), rows t (l ++ 0 :: r) w = rows t (l ++ [0]) w ++ rows (t + l.length + 1) r none
  | [], t, w => by
    cases w with
    | none =>
      rw [List.nil_append, List.nil_append, rows_n, rows_n, if_pos rfl, if_pos rfl]
      rfl
    | some x =>
      obtain ⟨a, e⟩ := x
      rw [List.nil_append, List.nil_append, rows_s, rows_s, if_pos rfl, if_pos rfl]
      rfl
  | d :: l, t, w => by
    have e : t + 1 + l.length + 1 = t + (d :: l).length + 1 := by rw [List.length_cons]; omega
    rw [List.cons_append, List.cons_append]
    cases w with
    | none =>
      rw [rows_n, rows_n]
      split
      · rw [rows_split r l, e]
      · rw [rows_split r l, e]
    | some x =>
      obtain ⟨a, e'⟩ := x
      rw [rows_s, rows_s]
      split
      · rw [rows_split r l, e]
        rfl
      · split
        · rw [rows_split r l, e]
        · rw [rows_split r l, e]
          rfl
theorem rows_skip (r : List Int) : ∀ (m t : Nat), rows t (List.replicate m 0 ++ r) none = rows (t + m) r none
  | 0, t => rfl
  | m + 1, t => by
    rw [List.replicate_succ, List.cons_append, rows_n, if_pos rfl, rows_skip r m]
    congr 1
    omega
def sh (x : Nat × Nat) : Nat × Nat := (x.1 + 1, x.2 + 1)
theorem rows_shift : ∀ (l : List Int) (t : Nat) (w : Option (Nat × Int)), rows (t + 1) l (w.map fun x => (x.1 + 1, x.2)) = (rows t l w).map sh
  | [], t, w => by cases w <;> rfl
  | d :: l, t, w => by
    have ih := rows_shift l (t + 1)
    have ihn : rows (t + 1 + 1) l none = (rows (t + 1) l none).map sh := ih none
    have ihs : ∀ a e, rows (t + 1 + 1) l (some (a + 1, e)) = (rows (t + 1) l (some (a, e))).map sh := fun a e => ih (some (a, e))
    cases w with
    | none =>
      show rows (t + 1) (d :: l) none = _
      rw [rows_n, rows_n]
      split
      · exact ihn
      · exact ihs t d
    | some x =>
      obtain ⟨a, e⟩ := x
      show rows (t + 1) (d :: l) (some (a + 1, e)) = _
      rw [rows_s, rows_s]
      split
      · rw [ihn]
        rfl
      · split
        · exact ihs a e
        · rw [ihs t d]
          rfl
theorem rows_in : ∀ (l : List Int) (t : Nat) (w : Option (Nat × Int)) (lo : Nat), lo ≤ t → (∀ x, w = some x → lo ≤ x.1 ∧ x.1 < t) → ∀ x ∈ rows t l w, lo ≤ x.1 ∧ x.1 < x.2 ∧ x.2 ≤ t + l.length
  | [], t, w, lo, _, hw, x, hx => by
    cases w with
    | none => cases hx
    | some y =>
      have e : x = (y.1, t) := List.mem_singleton.mp hx
      have := hw y rfl
      rw [e]
      exact ⟨this.1, this.2, Nat.le_refl _⟩
  | d :: l, t, w, lo, hlo, hw, x, hx => by
    have ih := rows_in l (t + 1)
    have hl : (d :: l).length = l.length + 1 := rfl
    have n1 : ∀ x ∈ rows (t + 1) l none, lo ≤ x.1 ∧ x.1 < x.2 ∧ x.2 ≤ t + (d :: l).length := fun x hx => by
      have := ih none lo (by omega) (fun _ h => by cases h) x hx
      omega
    have n2 : ∀ a e, lo ≤ a → a < t + 1 → ∀ x ∈ rows (t + 1) l (some (a, e)), lo ≤ x.1 ∧ x.1 < x.2 ∧ x.2 ≤ t + (d :: l).length := fun a e h1 h2 x hx => by
      have := ih (some (a, e)) lo (by omega) (fun y h => by cases h; exact ⟨h1, h2⟩) x hx
      omega
    cases w with
    | none =>
      rw [rows_n] at hx
      split at hx
      · exact n1 x hx
      · exact n2 t d hlo (Nat.lt_succ_self t) x hx
    | some y =>
      obtain ⟨a, e⟩ := y
      have hy := hw (a, e) rfl
      have hfirst : x = (a, t) → lo ≤ x.1 ∧ x.1 < x.2 ∧ x.2 ≤ t + (d :: l).length := fun z => by
        subst z
        exact ⟨hy.1, hy.2, by show t ≤ _; omega⟩
      rw [rows_s] at hx
      split at hx
      · rcases List.mem_cons.mp hx with z | z
        · exact hfirst z
        · exact n1 x z
      · split at hx
        · exact n2 a e hy.1 (Nat.lt_succ_of_lt hy.2) x hx
        · rcases List.mem_cons.mp hx with z | z
          · exact hfirst z
          · exact n2 t d hlo (Nat.lt_succ_self t) x z
end Sc
/-! A8: the movements of a course, and the first safe time. -/
namespace Sc
open Sy90 (tick called after ENOUGH startOf fouled foul)

theorem rows_in0 : ∀ (l : List Int) (t : Nat) (w : Option (Nat × Int)), ∀ x ∈ rows t (l ++ [0]) w, x.2 ≤ t + l.length
  | [], t, w, x, hx => by
    cases w with
    | none => cases hx
    | some y =>
      obtain ⟨a, e⟩ := y
      rw [List.nil_append, rows_s, if_pos rfl] at hx
      rcases List.mem_cons.mp hx with z | z
      · rw [z]
        exact Nat.le_refl _
      · cases z
  | d :: l, t, w, x, hx => by
    have ih := rows_in0 l (t + 1)
    have hl : (d :: l).length = l.length + 1 := rfl
    have n1 : ∀ w, ∀ x ∈ rows (t + 1) (l ++ [0]) w, x.2 ≤ t + (d :: l).length := fun w x hx => by
      have := ih w x hx
      omega
    have hf : ∀ a : Nat, x = (a, t) → x.2 ≤ t + (d :: l).length := fun a z => by
      subst z
      show t ≤ _
      omega
    rw [List.cons_append] at hx
    cases w with
    | none =>
      rw [rows_n] at hx
      split at hx
      · exact n1 _ x hx
      · exact n1 _ x hx
    | some y =>
      obtain ⟨a, e⟩ := y
      rw [rows_s] at hx
      split at hx
      · rcases List.mem_cons.mp hx with z | z
        · exact hf a z
        · exact n1 _ x z
      · split at hx
        · exact n1 _ x hx
        · rcases List.mem_cons.mp hx with z | z
          · exact hf a z
          · exact n1 _ x z

theorem dir_quiet {s : Sy90.St} (h : quiet s = true) (b : Nat) : dirOf s b = 0 := by
  unfold dirOf
  by_cases hb : b < s.things.length
  · have := (quiet_true h).1 b hb
    dsimp only
    rw [if_neg (by omega), if_neg (by omega)]
  · have e : Sy90.thing s b = ⟨0, 0, none⟩ := by
      unfold Sy90.thing
      rw [List.getD_eq_getElem?_getD, List.getElem?_eq_none (by omega)]
      rfl
    rw [e]
    rfl
theorem map_const {α : Type} (f : α → Int) : ∀ (l : List α), (∀ x ∈ l, f x = 0) → l.map f = List.replicate l.length 0
  | [], _ => rfl
  | x :: l, h => by
    rw [List.map_cons, h x List.mem_cons_self, map_const f l fun y hy => h y (List.mem_cons_of_mem _ hy), List.length_cons, List.replicate_succ]
theorem range_add (n m : Nat) : List.range (n + m) = List.range n ++ (List.range m).map (n + ·) := by
  refine List.ext_getElem? fun i => ?_
  by_cases h : i < n
  · rw [List.getElem?_append_left (by rw [List.length_range]; exact h), List.getElem?_range (by omega), List.getElem?_range h]
  · rw [List.getElem?_append_right (by rw [List.length_range]; omega), List.length_range, List.getElem?_map]
    by_cases h2 : i < n + m
    · rw [List.getElem?_range h2, List.getElem?_range (by omega)]
      show some i = some (n + (i - n))
      congr 1
      omega
    · rw [List.getElem?_eq_none (by rw [List.length_range]; omega), List.getElem?_eq_none (by rw [List.length_range]; omega)]
      rfl
theorem dir_from {u : Sy90.St} {q : Nat} (W : Ok u) (F : quiet (after u q) = true) (b : Nat) {i : Nat} (h : q ≤ i) : dirOf (after u i) b = 0 := by
  have e : i = q + (i - q) := by omega
  rw [e, after_add]
  exact dir_quiet (quiet_after (after_ok q W) F (i - q)).2.2 b
/-- the directions of a still stage's seconds -/
theorem dirs_quiet {u : Sy90.St} {q : Nat} (W : Ok u) (F : quiet (after u q) = true) (b p m : Nat) (h : q ≤ p) : (((List.range m).map (p + ·)).map (after u)).map (fun s => dirOf s b) = List.replicate m 0 := by
  have h2 := map_const (fun s => dirOf s b) (((List.range m).map (p + ·)).map (after u)) fun s hs => by
    obtain ⟨i, hi, rfl⟩ := List.mem_map.mp hs
    obtain ⟨j, _, rfl⟩ := List.mem_map.mp hi
    exact dir_from W F b (by omega)
  rw [List.length_map, List.length_map, List.length_range] at h2
  exact h2

/-! ### movements of a film -/
def movesP (nb : Nat) (l : List Sy90.St) : List (Nat × Nat × Nat) := (List.range nb).flatMap fun b => (runsP (l.map fun s => dirOf s b)).map fun x => (b, x.1, x.2)
theorem moves_def (S : Sy92.St) (calls : List (Nat × Nat)) : Sy92.moves S calls = (List.range S.stage.things.length).flatMap fun b => (rows 0 ((Sy92.whole S calls).map fun s => dirOf s b) none).map fun x => (b, x.1, x.2) := by
  unfold Sy92.moves
  dsimp only
  congr 1
  funext b
  rw [waysIn_eq]
  rfl
theorem range_cut (q n : Nat) (h : q < n) : List.range n = List.range q ++ q :: (List.range (n - q - 1)).map (q + 1 + ·) := by
  have e : n = q + 1 + (n - q - 1) := by omega
  conv => lhs; rw [e]
  rw [range_add (q + 1), List.range_succ, List.append_assoc]
  rfl
theorem film_rows {u : Sy90.St} {q : Nat} (W : Ok u) (hq : q ≤ 55) (F : FirstQ u q) (frames : List Sy90.St) (b : Nat) :
    rows 0 ((frames ++ (List.range (ENOUGH + 1)).map (after u)).map fun s => dirOf s b) none = runsP ((frames ++ filmP u).map fun s => dirOf s b) := by
  have hz : dirOf (after u q) b = 0 := dir_quiet F.yes b
  have e1 : (frames ++ filmP u).map (fun s => dirOf s b) = (frames.map (fun s => dirOf s b) ++ ((List.range q).map (after u)).map fun s => dirOf s b) ++ [0] := by
    rw [filmP_eq hq F, List.range_succ, List.map_append, List.map_append, List.map_append, List.append_assoc]
    congr 2
    show [dirOf (after u q) b] = _
    rw [hz]
  have e2 : (frames ++ (List.range (ENOUGH + 1)).map (after u)).map (fun s => dirOf s b) = (frames.map (fun s => dirOf s b) ++ ((List.range q).map (after u)).map fun s => dirOf s b) ++ 0 :: List.replicate (ENOUGH + 1 - q - 1) 0 := by
    rw [range_cut q (ENOUGH + 1) (by show q < 61; omega), List.map_append, List.map_append, List.map_append, List.append_assoc]
    congr 2
    rw [List.map_cons, List.map_cons, hz]
    congr 1
    exact dirs_quiet W F.yes b (q + 1) _ (by omega)
  rw [e2, rows_more, e1, runs_eq _ rfl]
theorem moves_eq {s u : Sy90.St} {calls : List (Nat × Nat)} {frames : List Sy90.St} (C : Course s calls frames u) (S : Sy92.St) (hS : S.stage = s) (W : Ok u) {q : Nat} (hq : q ≤ 55) (F : FirstQ u q) :
    Sy92.moves S calls = movesP s.things.length (frames ++ filmP u) := by
  rw [moves_def, C.whole S hS, hS]
  unfold movesP
  congr 1
  funext b
  rw [film_rows W hq F]

/-! ### the same movements, but for a longer wait -/
inductive All2 {α β : Type} (R : α → β → Prop) : List α → List β → Prop
  | nil : All2 R [] []
  | cons {a : α} {b : β} {l : List α} {m : List β} : R a b → All2 R l m → All2 R (a :: l) (b :: m)
theorem All2.append {α β : Type} {R : α → β → Prop} {l1 l2 : List α} {m1 m2 : List β} (h1 : All2 R l1 m1) (h2 : All2 R l2 m2) : All2 R (l1 ++ l2) (m1 ++ m2) := by
  induction h1 with
  | nil => exact h2
  | cons a _ ih => exact .cons a ih
theorem All2.flat {α β γ : Type} {R : β → γ → Prop} {f : α → List β} {g : α → List γ} : ∀ (l : List α), (∀ x ∈ l, All2 R (f x) (g x)) → All2 R (l.flatMap f) (l.flatMap g)
  | [], _ => .nil
  | x :: l, h => by
    rw [List.flatMap_cons, List.flatMap_cons]
    exact (h x List.mem_cons_self).append (All2.flat l fun y hy => h y (List.mem_cons_of_mem _ hy))
theorem All2.map2 {α β γ : Type} {R : β → γ → Prop} {f : α → β} {g : α → γ} : ∀ (l : List α), (∀ x ∈ l, R (f x) (g x)) → All2 R (l.map f) (l.map g)
  | [], _ => .nil
  | x :: l, h => .cons (h x List.mem_cons_self) (All2.map2 l fun y hy => h y (List.mem_cons_of_mem _ hy))
theorem All2.len {α β : Type} {R : α → β → Prop} {l : List α} {m : List β} (h : All2 R l m) : l.length = m.length := by
  induction h with
  | nil => rfl
  | cons _ _ ih => rw [List.length_cons, List.length_cons, ih]
theorem All2.at {α β : Type} {R : α → β → Prop} {l : List α} {m : List β} (h : All2 R l m) : ∀ (i : Nat), i < l.length → ∃ x y, l[i]? = some x ∧ m[i]? = some y ∧ R x y := by
  induction h with
  | nil => intro i hi; exact absurd hi (Nat.not_lt_zero _)
  | cons a _ ih =>
    intro i hi
    cases i with
    | zero => exact ⟨_, _, rfl, rfl, a⟩
    | succ i => exact ih i (by rw [List.length_cons] at hi; omega)
/-- one movement, early or late -/
def Near (T : Nat) (x y : Nat × Nat × Nat) : Prop := y.1 = x.1 ∧ x.2.1 < x.2.2 ∧ ((y.2 = x.2 ∧ x.2.2 ≤ T) ∨ (y.2.1 = x.2.1 + 1 ∧ y.2.2 = x.2.2 + 1 ∧ T + 20 ≤ x.2.1))
theorem split_dirs {u : Sy90.St} {q : Nat} (W : Ok u) (F : FirstQ u q) (frames tail : List Sy90.St) (b m : Nat) :
    rows 0 (((frames ++ (List.range (q + (m + 1))).map (after u)) ++ tail).map fun s => dirOf s b) none =
      rows 0 ((frames ++ (List.range q).map (after u)).map (fun s => dirOf s b) ++ [0]) none ++ rows (frames.length + q + (m + 1)) (tail.map fun s => dirOf s b) none := by
  have e : ((frames ++ (List.range (q + (m + 1))).map (after u)) ++ tail).map (fun s => dirOf s b) = (frames ++ (List.range q).map (after u)).map (fun s => dirOf s b) ++ 0 :: (List.replicate m 0 ++ tail.map fun s => dirOf s b) := by
    have e0 : (frames ++ (List.range (q + (m + 1))).map (after u)) ++ tail = (frames ++ (List.range q).map (after u)) ++ (((List.range (m + 1)).map (q + ·)).map (after u) ++ tail) := by
      rw [range_add, List.map_append, List.append_assoc, List.append_assoc, List.append_assoc]
    rw [e0, List.map_append, List.map_append (l₁ := ((List.range (m + 1)).map (q + ·)).map (after u)), dirs_quiet W F.yes b q (m + 1) (Nat.le_refl _), List.replicate_succ]
    rfl
  rw [e, rows_split, rows_skip]
  congr 2
  rw [List.length_map, List.length_append, List.length_map, List.length_range]
  omega
theorem near_moves {s u : Sy90.St} {calls : List (Nat × Nat)} {frames : List Sy90.St} (C : Course s calls frames u) (S : Sy92.St) (hS : S.stage = s) (W : Ok u) {q : Nat} (F : FirstQ u q) {k : Nat} (hk : k < u.cues.length) (hu : startOf (after u q) k = none) :
    All2 (Near (frames.length + q)) (Sy92.moves S (calls ++ [(frames.length + (q + 20), k)])) (Sy92.moves S (calls ++ [(frames.length + (q + 21), k)])) := by
  have Wq := after_ok q W
  have qq : ∀ m, quiet (after u (q + m)) = true ∧ startOf (after u (q + m)) k = none := fun m => by
    rw [after_add]
    obtain ⟨_, h2, h3⟩ := quiet_after Wq F.yes m
    refine ⟨h3, ?_⟩
    unfold Sy90.startOf at hu ⊢
    rw [h2]
    exact hu
  have hk20 : k < (after u (q + 20)).cues.length := by rw [(after_same _ u).1]; exact hk
  have Sh : Shift (after u (q + 20)) (after u (q + 21)) := by
    have e : after u (q + 21) = tick (after u (q + 20)) := after_succ (q + 20) u
    rw [e]
    exact shift_quiet (after_ok _ W) (qq 20).1
  have W20 := after_ok (q + 20) W
  have W21 := after_ok (q + 21) W
  have Sc_ := Sh.called W20.toWf W21.toWf hk20 (qq 20).2
  have Wc20 := called_ok W20.toWf hk20 (qq 20).2
  have Wc21 := called_ok W21.toWf (by rw [(after_same _ u).1]; exact hk) (qq 21).2
  have Sn := Sc_.after Wc20 Wc21
  rw [moves_def, moves_def, (C.call (q + 20) k).whole S hS, (C.call (q + 21) k).whole S hS]
  refine All2.flat _ fun b _ => ?_
  rw [split_dirs W F frames _ b 19, split_dirs W F frames _ b 20]
  have ed : ((List.range (ENOUGH + 1)).map (after (called (after u (q + 21)) k))).map (fun s => dirOf s b) = ((List.range (ENOUGH + 1)).map (after (called (after u (q + 20)) k))).map fun s => dirOf s b := by
    rw [List.map_map, List.map_map]
    refine List.map_congr_left fun n _ => ?_
    exact (Sn n).dir b
  rw [ed]
  have es := rows_shift (((List.range (ENOUGH + 1)).map (after (called (after u (q + 20)) k))).map fun s => dirOf s b) (frames.length + q + (19 + 1)) none
  have es' : rows (frames.length + q + (20 + 1)) (((List.range (ENOUGH + 1)).map (after (called (after u (q + 20)) k))).map fun s => dirOf s b) none = (rows (frames.length + q + (19 + 1)) (((List.range (ENOUGH + 1)).map (after (called (after u (q + 20)) k))).map fun s => dirOf s b) none).map sh := es
  rw [es']
  generalize hR : rows (frames.length + q + (19 + 1)) (((List.range (ENOUGH + 1)).map (after (called (after u (q + 20)) k))).map fun s => dirOf s b) none = R
  generalize hE : rows 0 ((frames ++ (List.range q).map (after u)).map (fun s => dirOf s b) ++ [0]) none = E0
  rw [List.map_append, List.map_append, List.map_map]
  refine All2.append ?_ ?_
  · refine All2.map2 _ fun x hx => ⟨rfl, ?_, .inl ⟨rfl, ?_⟩⟩
    · rw [← hE] at hx
      exact (rows_in _ 0 none 0 (Nat.le_refl _) (fun _ z => by cases z) x hx).2.1
    · rw [← hE] at hx
      have := rows_in0 _ _ _ x hx
      rw [List.length_map, List.length_append, List.length_map, List.length_range] at this
      show x.2 ≤ _
      omega
  · refine All2.map2 _ fun x hx => ⟨rfl, ?_, .inr ⟨rfl, rfl, ?_⟩⟩
    · rw [← hR] at hx
      exact (rows_in _ _ none _ (Nat.le_refl _) (fun _ z => by cases z) x hx).2.1
    · rw [← hR] at hx
      have := (rows_in _ _ none (frames.length + q + (19 + 1)) (Nat.le_refl _) (fun _ z => by cases z) x hx).1
      show _ ≤ x.1
      omega
end Sc
/-! A9: the first safe time: the program's loop against the specification's search. -/
namespace Sc
open Sy90 (tick called after ENOUGH startOf fouled foul)

/-! ### what hangs on who can be with whom alone -/
theorem all_congr2 {α : Type} {p q : α → Bool} {l : List α} (h : ∀ x ∈ l, p x = q x) : l.all p = l.all q := by
  induction l with
  | nil => rfl
  | cons x l ih =>
    rw [List.all_cons, List.all_cons, h x List.mem_cons_self, ih fun y hy => h y (List.mem_cons_of_mem _ hy)]
structure Alike (j j' : Sy91.St) : Prop where
  len : j'.jobs.length = j.jobs.length
  hands : ∀ k, k < j.jobs.length → (Sy91.job j' k).hands = (Sy91.job j k).hands
  both : ∀ i k, i < j.jobs.length → k < j.jobs.length → Sy91.both j' i k = Sy91.both j i k
section
variable {j j' : Sy91.St}
theorem Alike.wants (A : Alike j j') {l : List Nat} (h : ∀ k ∈ l, k < j.jobs.length) : Sy91.wants j' l = Sy91.wants j l := by
  unfold Sy91.wants
  congr 1
  exact List.map_congr_left fun k hk => A.hands k (h k hk)
theorem Alike.crowd (A : Alike j j') : ∀ {l : List Nat}, (∀ k ∈ l, k < j.jobs.length) → Sy91.crowd j' l = Sy91.crowd j l
  | [], _ => rfl
  | k :: l, h => by
    unfold Sy91.crowd
    rw [A.crowd fun x hx => h x (List.mem_cons_of_mem _ hx)]
    congr 1
    refine all_congr2 fun i hi => ?_
    rw [A.both k i (h k List.mem_cons_self) (h i (List.mem_cons_of_mem _ hi))]
theorem rows_lt {s : Sy91.St} {l : List Nat} (h : l ∈ Sy91.rows s) : ∀ k ∈ l, k < s.jobs.length := by
  obtain ⟨p, rfl⟩ := rows_is h
  intro k hk
  exact List.mem_range.mp (List.mem_filter.mp hk).1
theorem firstMost_congr {f g : List Nat → Nat} : ∀ {L : List (List Nat)}, (∀ l ∈ L, f l = g l) → f [] = g [] → Sy91.firstMost f L = Sy91.firstMost g L
  | [], _, _ => rfl
  | l :: r, h, h0 => by
    have ih := firstMost_congr (L := r) (fun x hx => h x (List.mem_cons_of_mem _ hx)) h0
    have hm : f (Sy91.firstMost g r) = g (Sy91.firstMost g r) := by
      by_cases hr : r = []
      · subst hr
        exact h0
      · rcases firstMost_mem g r hr with e | e
        · rw [e]
          exact h0
        · exact h _ (List.mem_cons_of_mem _ e)
    unfold Sy91.firstMost
    dsimp only
    rw [ih, hm, h l List.mem_cons_self]
theorem Alike.crowds (A : Alike j j') : Sy91.crowds j' = Sy91.crowds j := by
  unfold Sy91.crowds
  have e : Sy91.rows j' = Sy91.rows j := by
    unfold Sy91.rows
    rw [A.len]
  rw [e]
  exact List.filter_congr fun l hl => A.crowd (rows_lt hl)
theorem Alike.fewest (A : Alike j j') : Sy91.fewest j' = Sy91.fewest j := by
  have hm := crowds_iff.mp (theCrowd_mem (s := j))
  have e : Sy91.theCrowd j' = Sy91.theCrowd j := by
    unfold Sy91.theCrowd
    rw [A.crowds]
    exact firstMost_congr (fun l hl => A.wants (rows_lt (crowds_iff.mp hl).1)) rfl
  unfold Sy91.fewest
  rw [e]
  exact A.wants (rows_lt hm.1)
theorem Alike.tooMany (A : Alike j j') : Sy92.tooMany j' = Sy92.tooMany j := by
  unfold Sy92.tooMany
  have e : Sy91.all_ j' = Sy91.all_ j := by
    unfold Sy91.all_
    rw [A.len]
  rw [e, A.wants (l := Sy91.all_ j) fun k hk => List.mem_range.mp hk]
end

/-! ### jobs of movements -/
def jobOf (S : Sy92.St) (x : Nat × Nat × Nat) : Sy91.Job := ⟨x.1, x.2.1, x.2.2, (S.ropes.getD x.1 (0, 1)).2⟩
theorem jobs_len (S : Sy92.St) (m : List (Nat × Nat × Nat)) : (Sy92.jobs S m).jobs.length = m.length := List.length_map ..
theorem jobs_at (S : Sy92.St) {m : List (Nat × Nat × Nat)} {k : Nat} {x : Nat × Nat × Nat} (h : m[k]? = some x) : Sy91.job (Sy92.jobs S m) k = jobOf S x := by
  show (m.map (jobOf S)).getD k _ = _
  rw [List.getD_eq_getElem?_getD, List.getElem?_map, h]
  rfl
theorem movesP_lt {nb : Nat} {l : List Sy90.St} (hl : ∀ b, ∃ l', (l.map fun s => dirOf s b) = l' ++ [0]) {x : Nat × Nat × Nat} (h : x ∈ movesP nb l) : x.1 < nb ∧ x.2.1 < x.2.2 ∧ x.2.2 ≤ l.length := by
  unfold movesP at h
  obtain ⟨b, hb, hx⟩ := List.mem_flatMap.mp h
  obtain ⟨y, hy, rfl⟩ := List.mem_map.mp hx
  obtain ⟨l', e⟩ := hl b
  rw [runs_eq l' e] at hy
  have := rows_in _ 0 none 0 (Nat.le_refl _) (fun _ z => by cases z) y hy
  rw [List.length_map] at this
  refine ⟨List.mem_range.mp hb, this.2.1, ?_⟩
  show y.2 ≤ _
  omega
theorem jobs_ok {S : Sy92.St} {m : List (Nat × Nat × Nat)} (h : ∀ x ∈ m, x.2.1 < x.2.2) : Jobs (Sy92.jobs S m) := by
  intro k hk
  rw [jobs_len] at hk
  rw [jobs_at S (List.getElem?_eq_getElem hk)]
  exact h _ (List.getElem_mem hk)
/-- ropes within their bounds -/
def RopesOk (r : List (Nat × Nat)) : Prop := ∀ x ∈ r, x.1 ≤ 20 ∧ 1 ≤ x.2 ∧ x.2 ≤ 3
theorem walk_le {S : Sy92.St} (R : RopesOk S.ropes) {m : List (Nat × Nat × Nat)} (a b : Sy91.Job) : Sy91.walk (Sy92.jobs S m) a b ≤ 20 := by
  have key : ∀ k, (S.ropes.map fun (r : Nat × Nat) => r.1).getD k 0 ≤ 20 := fun k => by
    rw [List.getD_eq_getElem?_getD, List.getElem?_map]
    by_cases h : k < S.ropes.length
    · rw [List.getElem?_eq_getElem h]
      exact (R _ (List.getElem_mem h)).1
    · rw [List.getElem?_eq_none (by omega)]
      exact Nat.zero_le _
  have h1 := key a.rope
  have h2 := key b.rope
  show Sy91.apart _ _ ≤ 20
  unfold Sy91.apart
  show ((S.ropes.map fun (r : Nat × Nat) => r.1).getD a.rope 0 - (S.ropes.map fun (r : Nat × Nat) => r.1).getD b.rope 0) + ((S.ropes.map fun (r : Nat × Nat) => r.1).getD b.rope 0 - (S.ropes.map fun (r : Nat × Nat) => r.1).getD a.rope 0) ≤ 20
  omega
theorem alike_near {S : Sy92.St} (R : RopesOk S.ropes) {T : Nat} {m m' : List (Nat × Nat × Nat)} (h : All2 (Near T) m m') : Alike (Sy92.jobs S m) (Sy92.jobs S m') := by
  have hl := h.len
  refine ⟨by rw [jobs_len, jobs_len, hl], fun k hk => ?_, fun i k hi hk => ?_⟩
  · rw [jobs_len] at hk
    obtain ⟨x, y, h1, h2, h3⟩ := h.at k hk
    rw [jobs_at S h1, jobs_at S h2]
    show (S.ropes.getD y.1 (0, 1)).2 = (S.ropes.getD x.1 (0, 1)).2
    rw [h3.1]
  · rw [jobs_len] at hi hk
    obtain ⟨x, y, h1, h2, h3⟩ := h.at i hi
    obtain ⟨z, v, h4, h5, h6⟩ := h.at k hk
    unfold Sy91.both
    rw [jobs_at S h1, jobs_at S h2, jobs_at S h4, jobs_at S h5]
    have w1 : Sy91.walk (Sy92.jobs S m') (jobOf S y) (jobOf S v) = Sy91.walk (Sy92.jobs S m) (jobOf S x) (jobOf S z) := by
      unfold Sy91.walk
      show Sy91.apart ((S.ropes.map fun (r : Nat × Nat) => r.1).getD y.1 0) ((S.ropes.map fun (r : Nat × Nat) => r.1).getD v.1 0) = Sy91.apart ((S.ropes.map fun (r : Nat × Nat) => r.1).getD x.1 0) ((S.ropes.map fun (r : Nat × Nat) => r.1).getD z.1 0)
      rw [h3.1, h6.1]
    have w2 : Sy91.walk (Sy92.jobs S m') (jobOf S v) (jobOf S y) = Sy91.walk (Sy92.jobs S m) (jobOf S z) (jobOf S x) := by
      unfold Sy91.walk
      show Sy91.apart ((S.ropes.map fun (r : Nat × Nat) => r.1).getD v.1 0) ((S.ropes.map fun (r : Nat × Nat) => r.1).getD y.1 0) = Sy91.apart ((S.ropes.map fun (r : Nat × Nat) => r.1).getD z.1 0) ((S.ropes.map fun (r : Nat × Nat) => r.1).getD x.1 0)
      rw [h3.1, h6.1]
    have l1 := walk_le (m := m) R (jobOf S x) (jobOf S z)
    have l2 := walk_le (m := m) R (jobOf S z) (jobOf S x)
    obtain ⟨_, a1, a2⟩ := h3
    obtain ⟨_, b1, b2⟩ := h6
    obtain ⟨x0, x1, x2⟩ := x
    obtain ⟨y0, y1, y2⟩ := y
    obtain ⟨z0, z1, z2⟩ := z
    obtain ⟨v0, v1, v2⟩ := v
    have i1 : Sy91.inTime (Sy92.jobs S m') (jobOf S (y0, y1, y2)) (jobOf S (v0, v1, v2)) = Sy91.inTime (Sy92.jobs S m) (jobOf S (x0, x1, x2)) (jobOf S (z0, z1, z2)) := by
      unfold Sy91.inTime
      rw [w1, decide_eq_decide]
      show y2 + _ ≤ v1 ↔ x2 + _ ≤ z1
      dsimp only at a1 a2 b1 b2
      generalize Sy91.walk (Sy92.jobs S m) _ _ = W at l1 ⊢
      rcases a2 with ⟨a2, a3⟩ | ⟨a2, a3, a4⟩ <;> rcases b2 with ⟨b2, b3⟩ | ⟨b2, b3, b4⟩ <;> (try simp only [Prod.mk.injEq] at a2 b2) <;> omega
    have i2 : Sy91.inTime (Sy92.jobs S m') (jobOf S (v0, v1, v2)) (jobOf S (y0, y1, y2)) = Sy91.inTime (Sy92.jobs S m) (jobOf S (z0, z1, z2)) (jobOf S (x0, x1, x2)) := by
      unfold Sy91.inTime
      rw [w2, decide_eq_decide]
      show v2 + _ ≤ y1 ↔ z2 + _ ≤ x1
      dsimp only at a1 a2 b1 b2
      generalize Sy91.walk (Sy92.jobs S m) _ _ = W at l2 ⊢
      rcases a2 with ⟨a2, a3⟩ | ⟨a2, a3, a4⟩ <;> rcases b2 with ⟨b2, b3⟩ | ⟨b2, b3, b4⟩ <;> (try simp only [Prod.mk.injEq] at a2 b2) <;> omega
    rw [i1, i2]

/-! ### the program's loop -/
/-- whether no pair is violated from now on, and all movements are feasible -/
def safeP (S : Sy92.St) (frames : List Sy90.St) (w : Sy90.St) (h : Nat) : Bool :=
  (foul w).isNone && (!Sy92.tooMany (Sy92.jobs S (movesP S.stage.things.length (frames ++ filmP w))) && decide (Sy91.fewest (Sy92.jobs S (movesP S.stage.things.length (frames ++ filmP w))) ≤ h))
/-- whether the loop stops without a time -/
def stopP (u : Sy90.St) (k : Nat) : Bool := (startOf u k).isSome || (fouled u).isSome
structure Here (S : Sy92.St) (calls : List (Nat × Nat)) (frames : List Sy90.St) (u : Sy90.St) : Prop where
  c : Course S.stage calls frames u
  ok : Ok u
  ropes : RopesOk S.ropes
  cues : u.cues = S.stage.cues
  len : u.things.length = S.stage.things.length
section
variable {S : Sy92.St} {calls : List (Nat × Nat)} {frames : List Sy90.St} {u : Sy90.St} {h k : Nat}
theorem Here.moves (E : Here S calls frames u) : Sy92.moves S calls = movesP S.stage.things.length (frames ++ filmP u) := by
  obtain ⟨q, hq, F⟩ := firstQ E.ok
  exact moves_eq E.c S rfl E.ok hq F
theorem Here.later (E : Here S calls frames u) (n : Nat) (hk : k < u.cues.length) (hu : startOf (after u n) k = none) : Here S (calls ++ [(frames.length + n, k)]) (frames ++ (List.range n).map (after u)) (called (after u n) k) := by
  obtain ⟨e1, e2, e3, e4⟩ := after_same n u
  exact ⟨E.c.call n k, called_ok (after_ok n E.ok).toWf (by rw [e1]; exact hk) hu, E.ropes, by rw [called_cues, e1, E.cues], by rw [called_len, e4, E.len]⟩
theorem mayAt_eq (E : Here S calls frames u) (n : Nat) (hk : k < u.cues.length) (hs : ∀ m, m ≤ n → stopP (after u m) k = false) :
    Sy92.mayAt S u frames.length calls h k n = safeP S (frames ++ (List.range n).map (after u)) (called (after u n) k) h := by
  have hst : startOf (after u n) k = none ∧ fouled (after u n) = none := by
    have := hs n (Nat.le_refl _)
    unfold stopP at this
    rw [Bool.or_eq_false_iff] at this
    exact ⟨by simpa using this.1, by simpa using this.2⟩
  have hm : ∀ m, m < n → fouled (after u m) = none := fun m hm => by
    have := hs m (by omega)
    unfold stopP at this
    rw [Bool.or_eq_false_iff] at this
    simpa using this.2
  unfold Sy92.mayAt Sy90.safeAt
  have e1 : ((List.range n).all fun m => (fouled (after u m)).isNone) = true := by
    rw [List.all_eq_true]
    intro m h1
    rw [hm m (List.mem_range.mp h1)]
    rfl
  rw [e1, hst.1, hst.2]
  unfold safeP Sy92.done
  rw [(E.later n hk hst.1).moves]
  rfl
theorem mayAt_stop {now : Nat} {m n : Nat} (W : Ok u) (hs : stopP (after u m) k = true) (hmn : m ≤ n) : Sy92.mayAt S u now calls h k n = false := by
  cases e : Sy92.mayAt S u now calls h k n with
  | false => rfl
  | true =>
    unfold Sy92.mayAt Sy90.safeAt at e
    rw [Bool.and_eq_true, Bool.and_eq_true, Bool.and_eq_true, Bool.and_eq_true, List.all_eq_true] at e
    obtain ⟨⟨a1, a2, a3, a4⟩, _⟩ := e
    unfold stopP at hs
    rw [Bool.or_eq_true] at hs
    rcases hs with hs | hs
    · obtain ⟨t, ht⟩ := Option.isSome_iff_exists.mp hs
      have := after_start (n - m) ht
      rw [← after_add, show m + (n - m) = n by omega] at this
      rw [this] at a2
      cases a2
    · have hf : (fouled (after u m)).isNone = true := by
        by_cases c : m < n
        · exact a1 m (List.mem_range.mpr c)
        · have : m = n := by omega
          rw [this]
          exact a3
      obtain ⟨t, ht⟩ := Option.isSome_iff_exists.mp hs
      rw [ht] at hf
      cases hf
/-- a safe time behind the longest walk: one second earlier is safe, too -/
theorem mayAt_back (E : Here S calls frames u) {q : Nat} (F : FirstQ u q) (hk : k < u.cues.length) (hm : Sy92.mayAt S u frames.length calls h k (q + 21) = true) : Sy92.mayAt S u frames.length calls h k (q + 20) = true := by
  unfold Sy92.mayAt Sy90.safeAt at hm ⊢
  rw [Bool.and_eq_true, Bool.and_eq_true, Bool.and_eq_true, Bool.and_eq_true, List.all_eq_true] at hm
  obtain ⟨⟨a1, a2, a3, a4⟩, a5⟩ := hm
  have W := E.ok
  have hu : startOf (after u q) k = none := by
    cases e : startOf (after u q) k with
    | none => rfl
    | some t =>
      have := after_start 21 e
      rw [← after_add] at this
      rw [this] at a2
      cases a2
  have hu20 : startOf (after u (q + 20)) k = none := by
    cases e : startOf (after u (q + 20)) k with
    | none => rfl
    | some t =>
      have := after_start 1 e
      rw [← after_add] at this
      have e2 : startOf (after u (q + 21)) k = some t := this
      rw [e2] at a2
      cases a2
  have Sh : Shift (after u (q + 20)) (after u (q + 21)) := by
    have e : after u (q + 21) = tick (after u (q + 20)) := after_succ (q + 20) u
    rw [e]
    exact shift_quiet (after_ok _ W) (by rw [after_add]; exact (quiet_after (after_ok q W) F.yes 20).2.2)
  have hk20 : k < (after u (q + 20)).cues.length := by rw [(after_same _ u).1]; exact hk
  have hu21 : startOf (after u (q + 21)) k = none := Sh.none_.mpr hu20
  have W20 := after_ok (q + 20) W
  have W21 := after_ok (q + 21) W
  have Sc_ := Sh.called W20.toWf W21.toWf hk20 hu20
  rw [Sc_.foul (called_ok W20.toWf hk20 hu20) (called_ok W21.toWf (by rw [(after_same _ u).1]; exact hk) hu21)] at a4
  rw [Bool.and_eq_true, Bool.and_eq_true, Bool.and_eq_true, Bool.and_eq_true, List.all_eq_true]
  refine ⟨⟨fun m h1 => a1 m (List.mem_range.mpr (by have := List.mem_range.mp h1; omega)), by rw [hu20]; rfl, a1 (q + 20) (List.mem_range.mpr (by omega)), a4⟩, ?_⟩
  unfold Sy92.done at a5 ⊢
  have A := alike_near (S := S) E.ropes (near_moves E.c S rfl W F hk hu)
  dsimp only at a5 ⊢
  rw [A.tooMany, A.fewest] at a5
  exact a5
theorem find_at {p : Nat → Bool} {n N : Nat} (hn : n < N) (h : p n = true) (hlt : ∀ m, m < n → p m = false) : (List.range N).find? p = some n := by
  rw [range_cut n N hn, List.find?_append]
  have e : (List.range n).find? p = none := by
    rw [List.find?_eq_none]
    intro m hm
    rw [hlt m (List.mem_range.mp hm)]
    decide
  rw [e, List.find?_cons, h]
  rfl
theorem find_no {p : Nat → Bool} {N : Nat} (h : ∀ m, m < N → p m = false) : (List.range N).find? p = none := by
  rw [List.find?_eq_none]
  intro m hm
  rw [h m (List.mem_range.mp hm)]
  decide
/-- what the loop has found out behind n turns -/
structure Tried (S : Sy92.St) (frames : List Sy90.St) (u : Sy90.St) (h k n : Nat) : Prop where
  go : ∀ m, m < n → stopP (after u m) k = false
  no : ∀ m, m < n → safeP S (frames ++ (List.range m).map (after u)) (called (after u m) k) h = false
theorem Tried.start : Tried S frames u h k 0 := ⟨fun m hm => absurd hm (Nat.not_lt_zero _), fun m hm => absurd hm (Nat.not_lt_zero _)⟩
theorem Tried.more {n : Nat} (T : Tried S frames u h k n) (h1 : stopP (after u n) k = false) (h2 : safeP S (frames ++ (List.range n).map (after u)) (called (after u n) k) h = false) : Tried S frames u h k (n + 1) := by
  refine ⟨fun m hm => ?_, fun m hm => ?_⟩
  · by_cases c : m < n
    · exact T.go m c
    · rw [show m = n by omega]
      exact h1
  · by_cases c : m < n
    · exact T.no m c
    · rw [show m = n by omega]
      exact h2
theorem Tried.may {n : Nat} (T : Tried S frames u h k n) (E : Here S calls frames u) (hk : k < u.cues.length) {m : Nat} (hm : m < n) : Sy92.mayAt S u frames.length calls h k m = false := by
  rw [mayAt_eq E m hk fun j hj => T.go j (by omega)]
  exact T.no m hm
/-- the cue has started, or a pair is violated -/
theorem next_stop {n : Nat} (T : Tried S frames u h k n) (E : Here S calls frames u) (hk : k < u.cues.length) (hs : stopP (after u n) k = true) : Sy92.next S u frames.length calls h k = none := by
  unfold Sy92.next
  split
  · rfl
  · refine find_no fun m _ => ?_
    by_cases c : m < n
    · exact T.may E hk c
    · exact mayAt_stop E.ok hs (by omega)
theorem next_now {n q : Nat} (T : Tried S frames u h k n) (E : Here S calls frames u) (hk : k < u.cues.length) (hq : q ≤ 55) (F : FirstQ u q) (hn : n ≤ q + 20) (hs : stopP (after u n) k = false)
    (hy : safeP S (frames ++ (List.range n).map (after u)) (called (after u n) k) h = true) : Sy92.next S u frames.length calls h k = some n := by
  have hgo : ∀ m, m ≤ n → stopP (after u m) k = false := fun m hm => by
    by_cases c : m < n
    · exact T.go m c
    · rw [show m = n by omega]
      exact hs
  unfold Sy92.next
  rw [if_neg]
  · refine find_at ?_ ?_ fun m hm => T.may E hk hm
    · unfold Sy92.wait_
      rw [still_eq E.ok hq F]
      omega
    · rw [mayAt_eq E n hk hgo]
      exact hy
  · have := hgo 0 (Nat.zero_le _)
    unfold stopP at this
    rw [Bool.or_eq_false_iff] at this
    have h0 : (startOf u k).isSome = false := this.1
    rw [h0]
    decide
theorem next_none {q : Nat} (E : Here S calls frames u) (hk : k < u.cues.length) (hq : q ≤ 55) (F : FirstQ u q) (T : Tried S frames u h k (q + 21)) : Sy92.next S u frames.length calls h k = none := by
  unfold Sy92.next
  split
  · rfl
  · refine find_no fun m hm => ?_
    by_cases c : m < q + 21
    · exact T.may E hk c
    · unfold Sy92.wait_ at hm
      rw [still_eq E.ok hq F] at hm
      have e : m = q + 21 := by omega
      subst e
      cases e : Sy92.mayAt S u frames.length calls h k (q + 21) with
      | false => rfl
      | true =>
        have := mayAt_back E F hk e
        rw [T.may E hk (by omega)] at this
        cases this
end
end Sc
/-! A10: the bottleneck: the greatest of the ranks is the specification's crowd. -/
namespace Sc
open Sy91

/-- lists of numbers by their order -/
def ltL : List Nat → List Nat → Bool
  | [], [] => false
  | [], _ :: _ => true
  | _ :: _, [] => false
  | x :: xs, y :: ys => if x = y then ltL xs ys else decide (x < y)
def ltR (a b : Nat × List Nat) : Bool := if a.1 = b.1 then ltL a.2 b.2 else decide (a.1 < b.1)
theorem ltL_irr : ∀ l, ltL l l = false
  | [] => rfl
  | x :: l => by
    unfold ltL
    rw [if_pos rfl, ltL_irr l]
theorem ltL_asym : ∀ a b, ltL a b = true → ltL b a = false
  | [], [], h => rfl
  | [], _ :: _, _ => rfl
  | _ :: _, [], h => by cases h
  | x :: xs, y :: ys, h => by
    unfold ltL at h ⊢
    by_cases e : x = y
    · subst e
      rw [if_pos rfl] at h ⊢
      exact ltL_asym xs ys h
    · rw [if_neg e] at h
      rw [if_neg (Ne.symm e)]
      have := of_decide_eq_true h
      exact decide_eq_false (by omega)
theorem ltL_tri : ∀ a b, a.length = b.length → a ≠ b → ltL a b = false → ltL b a = true
  | [], [], _, h, _ => absurd rfl h
  | x :: xs, y :: ys, hl, h, h2 => by
    unfold ltL at h2 ⊢
    by_cases e : x = y
    · subst e
      rw [if_pos rfl] at h2 ⊢
      exact ltL_tri xs ys (by simpa using hl) (fun z => h (by rw [z])) h2
    · rw [if_neg e] at h2
      rw [if_neg (Ne.symm e)]
      have := of_decide_eq_false h2
      exact decide_eq_true (by omega)

/-- which of n numbers from k on are in -/
def flagsP (k n : Nat) (l : List Nat) : List Nat := (List.range' k n).map fun i => if l.contains i = true then 1 else 0
theorem flagsP_cons (k n : Nat) (l : List Nat) : flagsP k (n + 1) l = (if l.contains k = true then 1 else 0) :: flagsP (k + 1) n l := by
  unfold flagsP
  rw [List.range'_succ, List.map_cons]
theorem flagsP_len (k n : Nat) (l : List Nat) : (flagsP k n l).length = n := by
  unfold flagsP
  rw [List.length_map, List.length_range']
theorem flagsP_skip {k n j : Nat} (l : List Nat) (h : j < k) : flagsP k n (j :: l) = flagsP k n l := by
  unfold flagsP
  refine List.map_congr_left fun i hi => ?_
  have := (List.mem_range'_1.mp hi).1
  have e : (j :: l).contains i = l.contains i := by
    rw [List.contains_cons]
    have : (i == j) = false := by simpa using (show i ≠ j by omega)
    rw [this, Bool.false_or]
  rw [e]
theorem rowsFrom_ge : ∀ (n k : Nat) (l : List Nat), l ∈ rowsFrom k n → ∀ i ∈ l, k ≤ i := fun n k l h i hi => by
  obtain ⟨p, rfl⟩ := rowsFrom_is n k l h
  exact (List.mem_range'_1.mp (List.mem_filter.mp hi).1).1
/-- the rows come in falling order -/
theorem rowsFrom_falls : ∀ (n k : Nat), (rowsFrom k n).Pairwise fun a b => ltL (flagsP k n b) (flagsP k n a) = true
  | 0, k => List.pairwise_singleton _ _
  | n + 1, k => by
    have ih := rowsFrom_falls n (k + 1)
    have no : ∀ l ∈ rowsFrom (k + 1) n, l.contains k = false := fun l hl => by
      cases c : l.contains k with
      | false => rfl
      | true =>
        have := rowsFrom_ge n (k + 1) l hl k (by simpa using c)
        omega
    unfold rowsFrom
    rw [List.pairwise_append]
    refine ⟨?_, ?_, ?_⟩
    · rw [List.pairwise_map]
      refine List.Pairwise.imp_of_mem (fun {a b} ha hb h => ?_) ih
      rw [flagsP_cons, flagsP_cons, flagsP_skip a (Nat.lt_succ_self k), flagsP_skip b (Nat.lt_succ_self k)]
      have e1 : (k :: a).contains k = true := by simp
      have e2 : (k :: b).contains k = true := by simp
      rw [e1, e2]
      unfold ltL
      rw [if_pos rfl]
      exact h
    · refine List.Pairwise.imp_of_mem (fun {a b} ha hb h => ?_) ih
      rw [flagsP_cons, flagsP_cons, no a ha, no b hb]
      unfold ltL
      rw [if_pos rfl]
      exact h
    · intro a ha b hb
      obtain ⟨a', _, rfl⟩ := List.mem_map.mp ha
      rw [flagsP_cons, flagsP_cons, no b hb]
      have e1 : (k :: a').contains k = true := by simp
      rw [e1]
      rfl
theorem firstMost_first (f : List Nat → Nat) (lt : List Nat → List Nat → Prop) : ∀ (L : List (List Nat)), L ≠ [] → f [] = 0 → L.Pairwise lt → (∃ l ∈ L, l = firstMost f L) ∧ ∀ l ∈ L, f l < f (firstMost f L) ∨ (f l = f (firstMost f L) ∧ (l = firstMost f L ∨ lt (firstMost f L) l))
  | [], h, _, _ => absurd rfl h
  | x :: r, _, h0, hp => by
    rw [List.pairwise_cons] at hp
    by_cases hr : r = []
    · subst hr
      have e : firstMost f [x] = x := by
        unfold firstMost firstMost
        dsimp only
        rw [if_pos (by rw [h0]; exact Nat.zero_le _)]
      rw [e]
      exact ⟨⟨x, List.mem_singleton.mpr rfl, rfl⟩, fun l hl => .inr ⟨by rw [List.mem_singleton.mp hl], .inl (List.mem_singleton.mp hl)⟩⟩
    · obtain ⟨⟨b, hb, eb⟩, ih⟩ := firstMost_first f lt r hr h0 hp.2
      by_cases c : f (firstMost f r) ≤ f x
      · have e : firstMost f (x :: r) = x := by
          show (let b := firstMost f r; if f b ≤ f x then x else b) = x
          exact if_pos c
        rw [e]
        refine ⟨⟨x, List.mem_cons_self, rfl⟩, fun l hl => ?_⟩
        rcases List.mem_cons.mp hl with rfl | hl
        · exact .inr ⟨rfl, .inl rfl⟩
        · have h1 := hp.1 l hl
          rcases ih l hl with h | ⟨h, _⟩
          · exact .inl (by omega)
          · by_cases c2 : f l = f x
            · exact .inr ⟨c2, .inr h1⟩
            · exact .inl (by omega)
      · have e : firstMost f (x :: r) = firstMost f r := by
          show (let b := firstMost f r; if f b ≤ f x then x else b) = firstMost f r
          exact if_neg c
        rw [e]
        refine ⟨⟨b, List.mem_cons_of_mem _ hb, eb⟩, fun l hl => ?_⟩
        rcases List.mem_cons.mp hl with rfl | hl
        · exact .inl (by omega)
        · exact ih l hl
section
variable {s : Sy91.St}
def rankP (s : Sy91.St) (l : List Nat) : Nat × List Nat := (wants s l, flagsP 0 s.jobs.length l)
theorem wants_nil : wants s [] = 0 := rfl
theorem theCrowd_first : ∀ l ∈ crowds s, l ≠ theCrowd s → ltR (rankP s l) (rankP s (theCrowd s)) = true := by
  intro l hl hne
  have hp : (crowds s).Pairwise fun a b => ltL (flagsP 0 s.jobs.length b) (flagsP 0 s.jobs.length a) = true := (rowsFrom_falls s.jobs.length 0).filter _
  have h := (firstMost_first (wants s) _ (crowds s) (fun z => by have := nil_crowd (s := s); rw [z] at this; cases this) wants_nil hp).2 l hl
  unfold ltR rankP
  dsimp only
  rcases h with h | ⟨h, h2⟩
  · have h' : wants s l < wants s (theCrowd s) := h
    rw [if_neg (by omega)]
    exact decide_eq_true h'
  · have h' : wants s l = wants s (theCrowd s) := h
    rw [if_pos h']
    rcases h2 with h2 | h2
    · exact absurd h2 hne
    · exact h2
/-- what is not below anything is the crowd's rank -/
theorem rank_most {L : List (List Nat)} (hL : ∀ l, l ∈ L ↔ l ∈ crowds s) {m : List Nat} (hm : m ∈ L) (hmax : ∀ l ∈ L, ltR (rankP s m) (rankP s l) = false) : m = theCrowd s := by
  refine Classical.byContradiction fun hne => ?_
  have h1 := theCrowd_first m ((hL m).mp hm) hne
  rw [hmax _ ((hL _).mpr theCrowd_mem)] at h1
  cases h1
/-- the numbers whose flag is 1 -/
theorem flags_back {l : List Nat} (h : l ∈ crowds s) : (List.range s.jobs.length).filter (fun i => decide ((flagsP 0 s.jobs.length l).getD i 0 = 1)) = l := by
  obtain ⟨p, rfl⟩ := rows_is (crowds_iff.mp h).1
  refine List.filter_congr fun i hi => ?_
  have hi' := List.mem_range.mp hi
  unfold flagsP
  rw [List.getD_eq_getElem?_getD, List.getElem?_map, ← List.range_eq_range', List.getElem?_range hi']
  show decide ((if _ then 1 else 0) = 1) = p i
  cases c : p i with
  | true =>
    have : ((List.range s.jobs.length).filter p).contains i = true := by simp [hi', c]
    rw [this]
    rfl
  | false =>
    have : ((List.range s.jobs.length).filter p).contains i = false := by simp [c]
    rw [this]
    rfl
end

/-! ### all sets, as the program finds them -/
def setsP (clash : Nat → Nat → Bool) (n : Nat) : List (List Nat) := (List.range n).foldl (fun F m => F ++ (F.filter fun l => l.all (clash m)).map fun l => l ++ [m]) [[]]
theorem setsP_succ (clash : Nat → Nat → Bool) (n : Nat) : setsP clash (n + 1) = setsP clash n ++ ((setsP clash n).filter fun l => l.all (clash n)).map fun l => l ++ [n] := by
  unfold setsP
  rw [List.range_succ, List.foldl_append]
  rfl
theorem setsP_len (clash : Nat → Nat → Bool) : ∀ n, (setsP clash n).length ≤ 2 ^ n
  | 0 => Nat.le_refl _
  | n + 1 => by
    have ih := setsP_len clash n
    rw [setsP_succ, List.length_append, List.length_map]
    have := List.length_filter_le (fun l => l.all (clash n)) (setsP clash n)
    rw [Nat.pow_succ]
    omega
theorem crowd_app {s : Sy91.St} {l : List Nat} {k : Nat} : crowd s (l ++ [k]) = true ↔ crowd s l = true ∧ ∀ i ∈ l, both s k i = false := by
  rw [crowd_iff, crowd_iff, List.pairwise_append]
  constructor
  · rintro ⟨h1, _, h3⟩
    exact ⟨h1, fun i hi => by rw [both_comm]; exact h3 i hi k (List.mem_singleton.mpr rfl)⟩
  · rintro ⟨h1, h2⟩
    refine ⟨h1, List.pairwise_singleton _ _, fun i hi j hj => ?_⟩
    rw [List.mem_singleton.mp hj, both_comm]
    exact h2 i hi
theorem setsP_mem {s : Sy91.St} {clash : Nat → Nat → Bool} : ∀ (n : Nat), (∀ i k, i < n → k < n → clash i k = !both s i k) → ∀ l, l ∈ setsP clash n ↔ (∃ p : Nat → Bool, l = (List.range n).filter p) ∧ crowd s l = true
  | 0, _, l => by
    constructor
    · intro h
      have e : l = [] := List.mem_singleton.mp h
      rw [e]
      exact ⟨⟨fun _ => true, rfl⟩, rfl⟩
    · rintro ⟨⟨p, e⟩, _⟩
      rw [e]
      exact List.mem_singleton.mpr rfl
  | n + 1, hc, l => by
    have ih := setsP_mem n fun i k hi hk => hc i k (by omega) (by omega)
    rw [setsP_succ, List.mem_append, List.mem_map]
    have hr : ∀ p : Nat → Bool, (List.range (n + 1)).filter p = (List.range n).filter p ++ if p n = true then [n] else [] := fun p => by
      rw [List.range_succ, List.filter_append, List.filter_cons]
      rfl
    constructor
    · rintro (h | ⟨l', h, rfl⟩)
      · obtain ⟨⟨p, rfl⟩, h2⟩ := (ih l).mp h
        refine ⟨⟨fun i => p i && decide (i < n), ?_⟩, h2⟩
        rw [hr]
        simp only [Nat.lt_irrefl, decide_false, Bool.and_false, Bool.false_eq_true, if_false, List.append_nil]
        refine List.filter_congr fun i hi => ?_
        rw [decide_eq_true (List.mem_range.mp hi), Bool.and_true]
      · rw [List.mem_filter] at h
        obtain ⟨⟨p, rfl⟩, h2⟩ := (ih l').mp h.1
        refine ⟨⟨fun i => (p i && decide (i < n)) || i == n, ?_⟩, ?_⟩
        · rw [hr]
          simp only [beq_self_eq_true, Bool.or_true, if_true]
          congr 1
          refine List.filter_congr fun i hi => ?_
          have := List.mem_range.mp hi
          rw [decide_eq_true this, Bool.and_true]
          have e : (i == n) = false := by simpa using (show i ≠ n by omega)
          rw [e, Bool.or_false]
        · refine crowd_app.mpr ⟨h2, fun i hi => ?_⟩
          have h3 := List.all_eq_true.mp h.2 i hi
          rw [hc n i (Nat.lt_succ_self n) (by have := List.mem_range.mp (List.mem_filter.mp hi).1; omega)] at h3
          simpa using h3
    · rintro ⟨⟨p, rfl⟩, h2⟩
      rw [hr] at h2 ⊢
      cases c : p n with
      | false =>
        rw [c] at h2
        rw [if_neg (by decide), List.append_nil] at h2 ⊢
        exact .inl ((ih _).mpr ⟨⟨p, rfl⟩, h2⟩)
      | true =>
        rw [c] at h2
        rw [if_pos rfl] at h2 ⊢
        obtain ⟨h3, h4⟩ := crowd_app.mp h2
        refine .inr ⟨_, List.mem_filter.mpr ⟨(ih _).mpr ⟨⟨p, rfl⟩, h3⟩, ?_⟩, rfl⟩
        rw [List.all_eq_true]
        intro i hi
        rw [hc n i (Nat.lt_succ_self n) (by have := List.mem_range.mp (List.mem_filter.mp hi).1; omega), h4 i hi]
        rfl
theorem sets_crowds {s : Sy91.St} {clash : Nat → Nat → Bool} (hc : ∀ i k, i < s.jobs.length → k < s.jobs.length → clash i k = !both s i k) (l : List Nat) : l ∈ setsP clash s.jobs.length ↔ l ∈ crowds s := by
  rw [setsP_mem _ hc, crowds_iff]
  constructor
  · rintro ⟨⟨p, rfl⟩, h⟩
    exact ⟨rows_mem p, h⟩
  · rintro ⟨h1, h2⟩
    exact ⟨rows_is h1, h2⟩
end Sc
/-! A11: frames; what the questions about the film answer. -/
namespace Sc
open Sy90 (tick called after ENOUGH startOf fouled foul marks)

abbrev Fr := List Nat × List Nat
def aims (s : Sy90.St) : List Nat := s.things.map fun t => t.aim
def frameOf (s : Sy90.St) : Fr := (marks s, aims s)
theorem marks_at (s : Sy90.St) (b : Nat) : (marks s).getD b 0 = (Sy90.thing s b).mark := by
  unfold marks Sy90.thing
  rw [List.getD_eq_getElem?_getD, List.getD_eq_getElem?_getD, List.getElem?_map]
  cases s.things[b]? <;> rfl
theorem aims_at (s : Sy90.St) (b : Nat) : (aims s).getD b 0 = (Sy90.thing s b).aim := by
  unfold aims Sy90.thing
  rw [List.getD_eq_getElem?_getD, List.getD_eq_getElem?_getD, List.getElem?_map]
  cases s.things[b]? <;> rfl
theorem marks_len (s : Sy90.St) : (marks s).length = s.things.length := List.length_map ..
theorem aims_len (s : Sy90.St) : (aims s).length = s.things.length := List.length_map ..
/-- 1, 0, -1 -/
def signI (i : Int) : Int := (if 0 < i then 1 else 0) - (if i < 0 then 1 else 0)
def dirF (f : Fr) (b : Nat) : Int := signI ((f.2.getD b 0 : Nat) - (f.1.getD b 0 : Nat))
theorem dirF_eq (s : Sy90.St) (b : Nat) : dirF (frameOf s) b = dirOf s b := by
  unfold dirF frameOf dirOf signI
  dsimp only
  rw [marks_at, aims_at]
  repeat' split
  all_goals omega

/-! ### violations -/
def fouledF (pairs : List (Nat × Nat × Nat)) (pos : List Nat) : Option Nat := pairs.findIdx? fun p => decide (Sy90.apart (pos.getD p.1 0) (pos.getD p.2.1 0) < p.2.2)
theorem fouledF_eq (s : Sy90.St) : fouledF s.pairs (marks s) = fouled s := by
  unfold fouledF fouled Sy90.fouls
  congr 1
  funext p
  rw [marks_at, marks_at]
/-- the first time, from t on, with the first pair -/
def violF (pairs : List (Nat × Nat × Nat)) : Nat → List Fr → Option (Nat × Nat)
  | _, [] => none
  | t, f :: r => match fouledF pairs f.1 with
    | some p => some (t, p)
    | none => violF pairs (t + 1) r
theorem violF_eq (pairs : List (Nat × Nat × Nat)) (g : Nat → Fr) : ∀ (n t : Nat), violF pairs t ((List.range' t n).map g) = (List.range' t n).findSome? fun i => (fouledF pairs (g i).1).map fun p => (i, p)
  | 0, t => rfl
  | n + 1, t => by
    rw [List.range'_succ, List.map_cons, List.findSome?_cons]
    unfold violF
    cases h : fouledF pairs (g t).1 with
    | some p => rfl
    | none =>
      dsimp only [Option.map]
      exact violF_eq pairs g n (t + 1)
theorem foul_eq {u : Sy90.St} (W : Ok u) : foul u = violF u.pairs 0 ((filmP u).map frameOf) := by
  obtain ⟨q, hq, F⟩ := firstQ W
  rw [filmP_eq hq F, List.map_map, List.range_eq_range', violF_eq]
  unfold foul
  have e1 : ∀ n, (fouledF u.pairs ((frameOf ∘ after u) n).1).map (fun p => (n, p)) = (fouled (after u n)).map fun p => (n, p) := fun n => by
    show (fouledF u.pairs (marks (after u n))).map _ = _
    rw [← fouledF_eq, (after_same n u).2.2.1]
  rw [show (fun i => (fouledF u.pairs ((frameOf ∘ after u) i).1).map fun p => (i, p)) = fun n => (fouled (after u n)).map fun p => (n, p) from funext e1]
  rw [← List.range_eq_range']
  have hr : List.range (ENOUGH + 1) = List.range (q + 1) ++ (List.range (ENOUGH + 1 - (q + 1))).map (q + 1 + ·) := by
    rw [← range_add]
    congr 1
    show 61 = q + 1 + (61 - (q + 1))
    omega
  rw [hr, List.findSome?_append]
  cases h : (List.range (q + 1)).findSome? fun n => (fouled (after u n)).map fun p => (n, p) with
  | some x => rfl
  | none =>
    rw [List.findSome?_eq_none_iff] at h
    have hq0 := h q (List.mem_range.mpr (Nat.lt_succ_self q))
    have hq1 : fouled (after u q) = none := by simpa using hq0
    show (none <|> _) = none
    show (List.findSome? _ _) = none
    rw [List.findSome?_eq_none_iff]
    intro n hn
    obtain ⟨i, _, rfl⟩ := List.mem_map.mp hn
    have e : fouled (after u (q + 1 + i)) = fouled (after u q) := by
      rw [show q + 1 + i = q + (1 + i) by omega, after_add]
      obtain ⟨h1, _, _⟩ := quiet_after (after_ok q W) F.yes (1 + i)
      rw [← fouledF_eq, ← fouledF_eq, (after_same _ _).2.2.1]
      congr 1
      unfold marks
      rw [h1]
    rw [e, hq1]
    rfl
/-! ### one time -/
theorem frame_at_eq {u : Sy90.St} (W : Ok u) (n : Nat) : ((filmP u).map frameOf)[min n ((filmP u).length - 1)]? = some (frameOf (after u (min n (ENOUGH + 1)))) := by
  obtain ⟨q, hq, F⟩ := firstQ W
  have hl : (filmP u).length = q + 1 := by rw [filmP_eq hq F, List.length_map, List.length_range]
  rw [hl, filmP_eq hq F, List.map_map, List.getElem?_map, List.getElem?_range (by omega)]
  show some (frameOf (after u _)) = _
  congr 1
  by_cases c : n ≤ q
  · have e1 : min n (q + 1 - 1) = n := by omega
    have e2 : min n (ENOUGH + 1) = n := by
      show min n 61 = n
      omega
    rw [e1, e2]
  · have e1 : min n (q + 1 - 1) = q := by omega
    have e2 : min n (ENOUGH + 1) = q + (min n 61 - q) := by
      show min n 61 = _
      omega
    rw [e1, e2, after_add]
    obtain ⟨h1, _, _⟩ := quiet_after (after_ok q W) F.yes (min n 61 - q)
    unfold frameOf marks aims
    rw [h1]
theorem many_moving (s : Sy90.St) : (s.things.filter Sy90.moving).length = ((List.range s.things.length).filter fun b => decide ((marks s).getD b 0 ≠ (aims s).getD b 0)).length := by
  have e : s.things = (List.range s.things.length).map (Sy90.thing s) := by
    refine List.ext_getElem (by rw [List.length_map, List.length_range]) fun i h1 h2 => ?_
    rw [List.getElem_map, List.getElem_range]
    unfold Sy90.thing
    rw [List.getD_eq_getElem?_getD, List.getElem?_eq_getElem h1]
    rfl
  conv => lhs; rw [e]
  rw [List.filter_map, List.length_map]
  congr 1
  refine List.filter_congr fun b _ => ?_
  rw [marks_at, aims_at]
  show (_ != _) = _
  rw [Bool.eq_iff_iff, bne_iff_ne, decide_eq_true_iff]
/-! ### the movements from now on -/
def hereOf (x : Sy90.Thing) : Option Bool := if Sy90.moving x = true then some (decide (x.mark < x.aim)) else none
theorem waysOf_succ (s : Sy90.St) (k n t : Nat) (w : Option (Nat × Bool)) : Sy90.waysOf s k t (n + 1) w = (match w, hereOf (Sy90.thing (after s t) k) with
      | some (a, u), some v => if u = v then Sy90.waysOf s k (t + 1) n (some (a, u)) else (a, t) :: Sy90.waysOf s k (t + 1) n (some (t, v))
      | some (a, _), none => (a, t) :: Sy90.waysOf s k (t + 1) n none
      | none, some v => Sy90.waysOf s k (t + 1) n (some (t, v))
      | none, none => Sy90.waysOf s k (t + 1) n none) := rfl
theorem waysIn_cons (s : Sy90.St) (l : List Sy90.St) (k t : Nat) (w : Option (Nat × Bool)) : Sy92.waysIn k t (s :: l) w = (match w, hereOf (Sy90.thing s k) with
      | some (a, u), some v => if u = v then Sy92.waysIn k (t + 1) l (some (a, u)) else (a, t) :: Sy92.waysIn k (t + 1) l (some (t, v))
      | some (a, _), none => (a, t) :: Sy92.waysIn k (t + 1) l none
      | none, some v => Sy92.waysIn k (t + 1) l (some (t, v))
      | none, none => Sy92.waysIn k (t + 1) l none) := rfl
theorem waysOf_eq (s : Sy90.St) (k : Nat) : ∀ (n t : Nat) (w : Option (Nat × Bool)), Sy90.waysOf s k t n w = Sy92.waysIn k t ((List.range' t n).map (after s)) w
  | 0, t, w => by cases w <;> rfl
  | n + 1, t, w => by
    have ih := waysOf_eq s k n (t + 1)
    rw [List.range'_succ, List.map_cons, waysOf_succ, waysIn_cons]
    generalize hereOf (Sy90.thing (after s t) k) = o
    cases w with
    | none => cases o with
      | none => exact ih _
      | some v => exact ih _
    | some x =>
      obtain ⟨a, u⟩ := x
      cases o with
      | none =>
        dsimp only
        rw [ih]
      | some v =>
        dsimp only
        split
        · exact ih _
        · rw [ih]
theorem moves90_eq {u : Sy90.St} (W : Ok u) : Sy90.moves u = movesP u.things.length (filmP u) := by
  obtain ⟨q, hq, F⟩ := firstQ W
  unfold Sy90.moves movesP
  rw [still_eq W hq F]
  congr 1
  funext b
  congr 1
  rw [waysOf_eq, waysIn_eq, ← List.range_eq_range', ← filmP_eq hq F]
  refine (runs_eq (((List.range q).map (after u)).map fun s => dirOf s b) ?_).symm
  rw [filmP_eq hq F, List.range_succ, List.map_append, List.map_append]
  congr 1
  show [dirOf (after u q) b] = [0]
  rw [dir_quiet F.yes b]
theorem here_nil (S : Sy92.St) (W : Ok S.stage) (R : RopesOk S.ropes) : Here S [] [] S.stage := ⟨course_nil _, W, R, rfl, rfl⟩
theorem moves92_eq {S : Sy92.St} (W : Ok S.stage) (R : RopesOk S.ropes) : Sy92.moves S [] = movesP S.stage.things.length (filmP S.stage) := by
  have := (here_nil S W R).moves
  rw [List.nil_append] at this
  exact this
/-- the film's directions end in 0 -/
theorem film_ends {u : Sy90.St} (W : Ok u) (frames : List Sy90.St) (b : Nat) : ∃ l', ((frames ++ filmP u).map fun s => dirOf s b) = l' ++ [0] := by
  obtain ⟨q, hq, F⟩ := firstQ W
  refine ⟨(frames ++ (List.range q).map (after u)).map fun s => dirOf s b, ?_⟩
  rw [filmP_eq hq F, List.range_succ, List.map_append (f := after u), ← List.append_assoc, List.map_append]
  congr 1
  show [dirOf (after u q) b] = [0]
  rw [dir_quiet F.yes b]
theorem filmP_len {u : Sy90.St} (W : Ok u) : 1 ≤ (filmP u).length ∧ (filmP u).length ≤ 56 := by
  obtain ⟨q, hq, F⟩ := firstQ W
  rw [filmP_eq hq F, List.length_map, List.length_range]
  omega
/-- movements by frames -/
def movesF (nb : Nat) (l : List Fr) : List (Nat × Nat × Nat) := (List.range nb).flatMap fun b => (runsP (l.map fun f => dirF f b)).map fun x => (b, x.1, x.2)
theorem movesF_eq (nb : Nat) (l : List Sy90.St) : movesF nb (l.map frameOf) = movesP nb l := by
  unfold movesF movesP
  congr 1
  funext b
  rw [List.map_map]
  congr 2
  refine List.map_congr_left fun s _ => ?_
  exact dirF_eq s b
end Sc
/-! A12: the crews' functions as the program has them, against jobs. -/
namespace Sc
open Sy91 (both units deal wants all_ job planWith free)

def jobsR (ropes : List (Nat × Nat)) (m : List (Nat × Nat × Nat)) : Sy91.St := ⟨ropes.map fun (r : Nat × Nat) => r.1, m.map fun (x : Nat × Nat × Nat) => ⟨x.1, x.2.1, x.2.2, (ropes.getD x.1 (0, 1)).2⟩⟩
theorem jobsR_eq (S : Sy92.St) (m : List (Nat × Nat × Nat)) : Sy92.jobs S m = jobsR S.ropes m := rfl
def compatP (ropes : List (Nat × Nat)) (a b : Nat × Nat × Nat) : Bool :=
  decide (a.2.2 + Sy91.apart (ropes.getD a.1 (0, 1)).1 (ropes.getD b.1 (0, 1)).1 ≤ b.2.1) || decide (b.2.2 + Sy91.apart (ropes.getD a.1 (0, 1)).1 (ropes.getD b.1 (0, 1)).1 ≤ a.2.1)
def mv0 : Nat × Nat × Nat := (0, 0, 0)
def clashAt (ropes : List (Nat × Nat)) (m : List (Nat × Nat × Nat)) (i j : Nat) : Bool := decide (j = i) || !compatP ropes (m.getD i mv0) (m.getD j mv0)
def clashP (ropes : List (Nat × Nat)) (m : List (Nat × Nat × Nat)) : List (List Bool) := (List.range m.length).map fun i => (List.range m.length).map fun j => clashAt ropes m i j
def crewsP (ropes : List (Nat × Nat)) (m : List (Nat × Nat × Nat)) : List Nat := m.map fun x => (ropes.getD x.1 (0, 1)).2
def spotsP (crews : List Nat) : List Nat := (List.range crews.length).flatMap fun k => List.replicate (crews.getD k 0) k
section
variable {ropes : List (Nat × Nat)} {m : List (Nat × Nat × Nat)}
theorem jobsR_len : (jobsR ropes m).jobs.length = m.length := List.length_map ..
theorem jobsR_at {k : Nat} (h : k < m.length) : job (jobsR ropes m) k = ⟨(m.getD k mv0).1, (m.getD k mv0).2.1, (m.getD k mv0).2.2, (ropes.getD (m.getD k mv0).1 (0, 1)).2⟩ := by
  show (m.map _).getD k _ = _
  rw [List.getD_eq_getElem?_getD, List.getElem?_map, List.getD_eq_getElem?_getD, List.getElem?_eq_getElem h]
  rfl
theorem map_fst_getD (l : List (Nat × Nat)) (k : Nat) : (l.map fun (r : Nat × Nat) => r.1).getD k 0 = (l.getD k (0, 1)).1 := by
  rw [List.getD_eq_getElem?_getD, List.getElem?_map, List.getD_eq_getElem?_getD]
  cases l[k]? <;> rfl
theorem both_compat {i k : Nat} (hi : i < m.length) (hk : k < m.length) : both (jobsR ropes m) i k = (i != k && compatP ropes (m.getD i mv0) (m.getD k mv0)) := by
  unfold both Sy91.inTime Sy91.walk compatP
  rw [jobsR_at hi, jobsR_at hk]
  show (i != k && (decide (_ + Sy91.apart ((ropes.map fun (r : Nat × Nat) => r.1).getD _ 0) ((ropes.map fun (r : Nat × Nat) => r.1).getD _ 0) ≤ _) || decide (_ + Sy91.apart ((ropes.map fun (r : Nat × Nat) => r.1).getD _ 0) ((ropes.map fun (r : Nat × Nat) => r.1).getD _ 0) ≤ _))) = _
  rw [map_fst_getD, map_fst_getD, apart_comm (ropes.getD (m.getD k mv0).1 (0, 1)).1]
theorem clash_both {i k : Nat} (hi : i < m.length) (hk : k < m.length) : clashAt ropes m i k = !both (jobsR ropes m) i k := by
  rw [both_compat hi hk]
  unfold clashAt
  by_cases e : i = k
  · subst e
    simp
  · have e2 : (i != k) = true := by simpa using e
    rw [e2, decide_eq_false (fun z => e z.symm)]
    rfl
theorem clashP_len : (clashP ropes m).length = m.length := by
  unfold clashP
  rw [List.length_map, List.length_range]
theorem clashP_row {i : Nat} (hi : i < m.length) : (clashP ropes m).getD i [] = (List.range m.length).map fun j => clashAt ropes m i j := by
  unfold clashP
  rw [List.getD_eq_getElem?_getD, List.getElem?_map, List.getElem?_range hi]
  rfl
theorem clashP_at {i k : Nat} (hi : i < m.length) (hk : k < m.length) : ((clashP ropes m).getD i []).getD k false = clashAt ropes m i k := by
  rw [clashP_row hi, List.getD_eq_getElem?_getD, List.getElem?_map, List.getElem?_range hk]
  rfl
theorem crewsP_at {k : Nat} (h : k < m.length) : (crewsP ropes m).getD k 0 = (job (jobsR ropes m) k).hands := by
  rw [jobsR_at h]
  unfold crewsP
  rw [List.getD_eq_getElem?_getD, List.getElem?_map, List.getD_eq_getElem?_getD, List.getElem?_eq_getElem h]
  rfl
theorem crewsP_len : (crewsP ropes m).length = m.length := List.length_map ..
theorem spots_units : spotsP (crewsP ropes m) = units (jobsR ropes m) := by
  unfold spotsP units
  rw [crewsP_len, jobsR_len]
  refine flatMap_congr_left ?_
  intro k hk
  rw [crewsP_at (List.mem_range.mp hk)]
where
  flatMap_congr_left {α β : Type} {f g : α → List β} {l : List α} (h : ∀ x ∈ l, f x = g x) : l.flatMap f = l.flatMap g := by
    rw [List.flatMap_def, List.flatMap_def, List.map_congr_left h]
theorem few_eq : decide ((crewsP ropes m).sum ≤ 8) = !Sy92.tooMany (jobsR ropes m) := by
  have e : wants (jobsR ropes m) (all_ (jobsR ropes m)) = (crewsP ropes m).sum := by
    rw [wants_eq]
    congr 1
    unfold all_
    rw [jobsR_len]
    refine List.ext_getElem (by rw [List.length_map, List.length_range, crewsP_len]) fun i h1 h2 => ?_
    rw [List.length_map, List.length_range] at h1
    rw [List.getElem_map, List.getElem_range, ← crewsP_at h1, List.getD_eq_getElem?_getD, List.getElem?_eq_getElem h2]
    rfl
  unfold Sy92.tooMany
  rw [e]
  by_cases c : (crewsP ropes m).sum ≤ 8
  · rw [decide_eq_true c, decide_eq_false (by omega)]
    rfl
  · rw [decide_eq_false c, decide_eq_true (by omega)]
    rfl
theorem units_len_few : (units (jobsR ropes m)).length = (crewsP ropes m).sum := by
  rw [units_len]
  rw [wants_eq]
  congr 1
  unfold all_
  rw [jobsR_len]
  refine List.ext_getElem (by rw [List.length_map, List.length_range, crewsP_len]) fun i h1 h2 => ?_
  rw [List.length_map, List.length_range] at h1
  rw [List.getElem_map, List.getElem_range, ← crewsP_at h1, List.getD_eq_getElem?_getD, List.getElem?_eq_getElem h2]
  rfl

/-! ### taking a place -/
/-- the movements that a hand has so far -/
def ownOnes (sp pl : List Nat) (h : Nat) : List Nat := ((List.range pl.length).filter fun i => decide (pl.getD i 0 = h)).map fun i => sp.getD i 0
def canP (cs : List (List Bool)) (sp pl : List Nat) (h : Nat) : Bool := !(ownOnes sp pl h).any fun o => (cs.getD (sp.getD pl.length 0) []).getD o false
theorem zip_range (sp pl : List Nat) (hl : pl.length ≤ sp.length) : sp.zip pl = (List.range pl.length).map fun i => (sp.getD i 0, pl.getD i 0) := by
  refine List.ext_getElem (by rw [List.length_zip, List.length_map, List.length_range]; omega) fun i h1 h2 => ?_
  rw [List.length_zip] at h1
  rw [List.getElem_zip, List.getElem_map, List.getElem_range, List.getD_eq_getElem?_getD, List.getD_eq_getElem?_getD, List.getElem?_eq_getElem (by omega), List.getElem?_eq_getElem (by omega)]
  rfl
theorem can_free {sp pl : List Nat} {h : Nat} (hs : ∀ x ∈ sp, x < m.length) (hl : pl.length < sp.length) : canP (clashP ropes m) sp pl h = free (jobsR ropes m) (sp.zip pl) (sp.getD pl.length 0) h := by
  have hat : ∀ i, i < sp.length → sp.getD i 0 < m.length := fun i hi => by
    rw [List.getD_eq_getElem?_getD, List.getElem?_eq_getElem hi]
    exact hs _ (List.getElem_mem hi)
  unfold canP free ownOnes
  rw [zip_range sp pl (Nat.le_of_lt hl), List.any_map, List.all_map, List.any_filter, Bool.eq_iff_iff, Bool.not_eq_true', List.any_eq_false, List.all_eq_true]
  have key : ∀ i, i < pl.length → ((!(decide (pl.getD i 0 = h) && ((clashP ropes m).getD (sp.getD pl.length 0) []).getD (sp.getD i 0) false)) = (pl.getD i 0 != h || both (jobsR ropes m) (sp.getD i 0) (sp.getD pl.length 0))) := fun i hi => by
    rw [clashP_at (hat _ hl) (hat i (by omega)), clash_both (hat _ hl) (hat i (by omega)), both_comm]
    by_cases c : pl.getD i 0 = h
    · rw [decide_eq_true c]
      have : (pl.getD i 0 != h) = false := by simpa using c
      rw [this]
      simp
    · rw [decide_eq_false c]
      have : (pl.getD i 0 != h) = true := by simpa using c
      rw [this]
      rfl
  constructor
  · intro a i hi
    have h1 := a i hi
    have h2 := key i (List.mem_range.mp hi)
    show (pl.getD i 0 != h || both (jobsR ropes m) (sp.getD i 0) (sp.getD pl.length 0)) = true
    rw [← h2, Bool.not_eq_true']
    cases z : (decide (pl.getD i 0 = h) && ((clashP ropes m).getD (sp.getD pl.length 0) []).getD (sp.getD i 0) false) with
    | false => rfl
    | true => exact absurd z h1
  · intro a i hi
    have h1 : (pl.getD i 0 != h || both (jobsR ropes m) (sp.getD i 0) (sp.getD pl.length 0)) = true := a i hi
    have h2 := key i (List.mem_range.mp hi)
    rw [h1, Bool.not_eq_true'] at h2
    intro z
    have z' : (decide (pl.getD i 0 = h) && ((clashP ropes m).getD (sp.getD pl.length 0) []).getD (sp.getD i 0) false) = true := z
    rw [h2] at z'
    cases z'
/-! ### going on with a plan -/
/-- what going on with a plan gives -/
def goOnP (s : Sy91.St) (most : Nat) (pl : List Nat) : Option (List Nat) := deal s most ((units s).drop pl.length) ((units s).zip pl) (handsIn pl)
theorem goOnP_start (s : Sy91.St) (most : Nat) : goOnP s most [] = planWith s most := by
  unfold goOnP planWith
  rw [List.length_nil, List.drop_zero, List.zip_nil_right]
  rfl
theorem goOnP_end {s : Sy91.St} {most : Nat} {pl : List Nat} (h : pl.length = (units s).length) : goOnP s most pl = some pl := by
  unfold goOnP
  rw [h, List.drop_length]
  show some (((units s).zip pl).map fun (x : Nat × Nat) => x.2) = some pl
  congr 1
  exact List.map_snd_zip (by omega)
theorem handsIn_snoc (pl : List Nat) (h : Nat) : handsIn (pl ++ [h]) = max (handsIn pl) (h + 1) := by
  unfold handsIn
  rw [List.foldl_append]
  rfl
theorem zip_snoc {u pl : List Nat} (h : Nat) (hl : pl.length < u.length) : u.zip (pl ++ [h]) = u.zip pl ++ [(u.getD pl.length 0, h)] := by
  refine List.ext_getElem? fun i => ?_
  by_cases c : i < pl.length
  · rw [List.getElem?_append_left (by rw [List.length_zip]; omega)]
    rw [List.getElem?_eq_getElem (by rw [List.length_zip, List.length_append, List.length_singleton]; omega), List.getElem?_eq_getElem (by rw [List.length_zip]; omega), List.getElem_zip, List.getElem_zip, List.getElem_append_left c]
  · rw [List.getElem?_append_right (by rw [List.length_zip]; omega), List.length_zip, Nat.min_eq_right (by omega)]
    by_cases c2 : i = pl.length
    · subst c2
      rw [Nat.sub_self, List.getElem?_eq_getElem (by rw [List.length_zip, List.length_append, List.length_singleton]; omega), List.getElem_zip, List.getElem_append_right (by omega)]
      simp [List.getD_eq_getElem?_getD, hl]
    · rw [List.getElem?_eq_none (by rw [List.length_zip, List.length_append, List.length_singleton]; omega), List.getElem?_eq_none (by rw [List.length_singleton]; omega)]
theorem goOnP_step {s : Sy91.St} {most : Nat} {pl : List Nat} (hl : pl.length < (units s).length) :
    goOnP s most pl = ((List.range (min (handsIn pl + 1) most)).filter fun h => free s ((units s).zip pl) ((units s).getD pl.length 0) h).findSome? fun h => goOnP s most (pl ++ [h]) := by
  have e : (units s).drop pl.length = (units s).getD pl.length 0 :: (units s).drop (pl.length + 1) := by
    rw [List.drop_eq_getElem_cons hl, List.getD_eq_getElem?_getD, List.getElem?_eq_getElem hl]
    rfl
  unfold goOnP
  rw [e, deal_cons]
  congr 1
  funext h
  rw [List.length_append, List.length_singleton, zip_snoc h hl, handsIn_snoc]
/-- behind i turns of the loop over the hands -/
theorem tried_succ (p : Nat → Bool) (f : Nat → Option (List Nat)) (i : Nat) (h0 : ((List.range i).filter p).findSome? f = none) (h : p i = true → f i = none) : ((List.range (i + 1)).filter p).findSome? f = none := by
  rw [List.range_succ, List.filter_append, List.findSome?_append, h0]
  show (List.findSome? f (List.filter p [i])) = none
  cases c : p i with
  | true =>
    rw [List.filter_cons, if_pos c]
    show (List.findSome? f [i]) = none
    rw [List.findSome?_cons, h c]
    rfl
  | false =>
    rw [List.filter_cons, if_neg (by rw [c]; decide)]
    rfl
theorem tried_found (p : Nat → Bool) (f : Nat → Option (List Nat)) (i n : Nat) (hi : i < n) (h0 : ((List.range i).filter p).findSome? f = none) (hp : p i = true) (r : List Nat) (h : f i = some r) : ((List.range n).filter p).findSome? f = some r := by
  rw [range_cut i n hi, List.filter_append, List.findSome?_append, h0, List.filter_cons, if_pos hp, List.findSome?_cons, h]
  rfl
/-- max([-1] + plan) + 1 -/
theorem handsIn_max {pl : List Nat} {v : Int} (hm : v ∈ (-1 :: pl.map fun (n : Nat) => (n : Int))) (hmax : ∀ y, y ∈ (-1 :: pl.map fun (n : Nat) => (n : Int)) → y ≤ v) : v + 1 = (handsIn pl : Nat) := by
  have h1 := (lt_handsIn pl 0).2
  have hv : -1 ≤ v := hmax (-1) List.mem_cons_self
  have hle : handsIn pl ≤ (v + 1).toNat := handsIn_le pl 0 (Nat.zero_le _) fun x hx => by
    have := hmax (x : Int) (List.mem_cons_of_mem _ (List.mem_map.mpr ⟨x, hx, rfl⟩))
    omega
  have hge : (v + 1).toNat ≤ handsIn pl := by
    rcases List.mem_cons.mp hm with e | e
    · rw [e]
      exact Nat.zero_le _
    · obtain ⟨x, hx, rfl⟩ := List.mem_map.mp e
      have : x < handsIn pl := h1 x hx
      omega
  omega
end
end Sc
/-! A13: the greatest rank. -/
namespace Sc
open PySem
theorem ltL_trans : ∀ a b c, ltL a b = true → ltL b c = true → ltL a c = true
  | [], [], _, h, _ => by cases h
  | [], _ :: _, [], _, h => by cases h
  | [], _ :: _, _ :: _, _, _ => rfl
  | _ :: _, [], _, h, _ => by cases h
  | _ :: _, _ :: _, [], _, h => by cases h
  | x :: xs, y :: ys, z :: zs, h1, h2 => by
    unfold ltL at h1 h2 ⊢
    by_cases e1 : x = y
    · subst e1
      rw [if_pos rfl] at h1
      by_cases e2 : x = z
      · subst e2
        rw [if_pos rfl] at h2 ⊢
        exact ltL_trans xs ys zs h1 h2
      · rw [if_neg e2] at h2 ⊢
        exact h2
    · rw [if_neg e1] at h1
      have a := of_decide_eq_true h1
      by_cases e2 : y = z
      · subst e2
        rw [if_neg e1]
        exact h1
      · rw [if_neg e2] at h2
        have b := of_decide_eq_true h2
        rw [if_neg (by omega)]
        exact decide_eq_true (by omega)
theorem ltR_trans (a b c : Nat × List Nat) (h1 : ltR a b = true) (h2 : ltR b c = true) : ltR a c = true := by
  unfold ltR at h1 h2 ⊢
  by_cases e1 : a.1 = b.1
  · rw [if_pos e1] at h1
    by_cases e2 : b.1 = c.1
    · rw [if_pos e2] at h2
      rw [if_pos (e1.trans e2)]
      exact ltL_trans _ _ _ h1 h2
    · rw [if_neg e2] at h2
      rw [if_neg (by omega), e1]
      exact h2
  · rw [if_neg e1] at h1
    have x := of_decide_eq_true h1
    by_cases e2 : b.1 = c.1
    · rw [if_neg (by omega)]
      exact decide_eq_true (by omega)
    · rw [if_neg e2] at h2
      have y := of_decide_eq_true h2
      rw [if_neg (by omega)]
      exact decide_eq_true (by omega)
theorem ltR_irr (a : Nat × List Nat) : ltR a a = false := by
  unfold ltR
  rw [if_pos rfl]
  exact ltL_irr _
/-- the greatest of a list, by a word that is an order -/
theorem fold_top {α : Type} (lt : α → α → Bool) (tr : ∀ a b c, lt a b = true → lt b c = true → lt a c = true) (ir : ∀ a, lt a a = false) : ∀ (xs : List α) (x : α) (P : α → Prop), (∀ y, P y → lt x y = false) →
    (xs.foldl (fun a y => if lt a y = true then y else a) x ∈ x :: xs) ∧ ∀ y, P y ∨ y ∈ x :: xs → lt (xs.foldl (fun a y => if lt a y = true then y else a) x) y = false
  | [], x, P, h => ⟨List.mem_cons_self, fun y hy => by
    rcases hy with hy | hy
    · exact h y hy
    · rw [List.mem_singleton.mp hy]
      exact ir x⟩
  | z :: xs, x, P, h => by
    rw [List.foldl_cons]
    by_cases c : lt x z = true
    · rw [if_pos c]
      obtain ⟨h1, h2⟩ := fold_top lt tr ir xs z (fun y => P y ∨ y = x) fun y hy => by
        cases e : lt z y with
        | false => rfl
        | true =>
          have := tr _ _ _ c e
          rcases hy with hy | hy
          · rw [h y hy] at this
            cases this
          · rw [hy, ir] at this
            cases this
      refine ⟨List.mem_cons_of_mem _ h1, fun y hy => h2 y ?_⟩
      rcases hy with hy | hy
      · exact .inl (.inl hy)
      · rcases List.mem_cons.mp hy with hy | hy
        · exact .inl (.inr hy)
        · exact .inr hy
    · rw [if_neg c]
      obtain ⟨h1, h2⟩ := fold_top lt tr ir xs x (fun y => P y ∨ y = z) fun y hy => by
        rcases hy with hy | hy
        · exact h y hy
        · rw [hy]
          simpa using c
      refine ⟨?_, fun y hy => h2 y ?_⟩
      · rcases List.mem_cons.mp h1 with e | e
        · rw [e]
          exact List.mem_cons_self
        · exact List.mem_cons_of_mem _ (List.mem_cons_of_mem _ e)
      · rcases hy with hy | hy
        · exact .inl (.inl hy)
        · rcases List.mem_cons.mp hy with e | e
          · exact .inr (e ▸ List.mem_cons_self)
          · rcases List.mem_cons.mp e with e | e
            · exact .inl (.inr e)
            · exact .inr (List.mem_cons_of_mem _ e)
/-- a rank as a datum -/
def rkT (r : Nat × List Nat) : Int × PySem.W.Tup Int := ((r.1 : Int), ⟨r.2.map fun (n : Nat) => (n : Int)⟩)
theorem listLt_ltL : ∀ a b : List Nat, PySem.W.listLt (a.map fun (n : Nat) => (n : Int)) (b.map fun (n : Nat) => (n : Int)) = ltL a b
  | [], [] => rfl
  | [], _ :: _ => rfl
  | _ :: _, [] => rfl
  | x :: xs, y :: ys => by
    rw [List.map_cons, List.map_cons]
    unfold PySem.W.listLt ltL
    by_cases e : x = y
    · rw [if_pos (by omega), if_pos e]
      exact listLt_ltL xs ys
    · rw [if_neg (by omega), if_neg e]
      exact decide_eq_decide.mpr (by omega)
theorem rk_lt (a b : Nat × List Nat) : PySem.W.DatumOrd.lt (rkT a) (rkT b) = ltR a b := by
  show (if (a.1 : Int) = (b.1 : Int) then PySem.W.listLt (a.2.map fun (n : Nat) => (n : Int)) (b.2.map fun (n : Nat) => (n : Int)) else decide ((a.1 : Int) < (b.1 : Int))) = _
  unfold ltR
  by_cases e : a.1 = b.1
  · rw [if_pos (by omega), if_pos e]
    exact listLt_ltL _ _
  · rw [if_neg (by omega), if_neg e]
    exact decide_eq_decide.mpr (by omega)
/-- the greatest rank, as Python's max finds it -/
def topR (x : Nat × List Nat) (xs : List (Nat × List Nat)) : Nat × List Nat := xs.foldl (fun a y => if ltR a y = true then y else a) x
theorem topR_datum : ∀ (xs : List (Nat × List Nat)) (x : Nat × List Nat), PySem.W.maxOf (rkT x) (xs.map rkT) = rkT (topR x xs)
  | [], x => rfl
  | y :: xs, x => by
    unfold PySem.W.maxOf topR
    rw [List.map_cons, List.foldl_cons, List.foldl_cons, rk_lt]
    have := topR_datum xs (if ltR x y = true then y else x)
    unfold PySem.W.maxOf topR at this
    rw [← this]
    congr 1
    split <;> rfl
theorem rkT_inj {a b : Nat × List Nat} (h : rkT a = rkT b) : a = b := by
  obtain ⟨a1, a2⟩ := a
  obtain ⟨b1, b2⟩ := b
  have h1 : (a1 : Int) = (b1 : Int) := congrArg Prod.fst h
  have h2 : (a2.map fun (n : Nat) => (n : Int)) = b2.map fun (n : Nat) => (n : Int) := congrArg (fun p : Int × PySem.W.Tup Int => p.2.items) h
  have h3 : a2 = b2 := by
    refine List.ext_getElem? fun i => ?_
    have := congrArg (fun l => l[i]?) h2
    simp only [List.getElem?_map] at this
    cases e1 : a2[i]? with
    | none =>
      cases e2 : b2[i]? with
      | none => rfl
      | some y =>
        rw [e1, e2] at this
        cases this
    | some x =>
      cases e2 : b2[i]? with
      | none =>
        rw [e1, e2] at this
        cases this
      | some y =>
        rw [e1, e2] at this
        have t2 : (x : Int) = (y : Int) := Option.some.inj this
        rw [show x = y by omega]
  rw [show a1 = b1 by omega, h3]
end Sc
/-! A14: what holds of every state that is reached. -/
namespace Sc
open Sy90 (startOf doneAt cue thing begun count)

structure InvS (S : Sy92.St) : Prop where
  ok : Ok S.stage
  ro : RopesOk S.ropes
  rl : S.ropes.length = S.stage.things.length
  pr : ∀ p ∈ S.stage.pairs, p.1 < S.stage.things.length ∧ p.2.1 < S.stage.things.length
  p4 : S.stage.pairs.length ≤ 4
theorem fresh_thing {l : List Nat} {b : Nat} (hb : b < l.length) : Sy90.thing (Sy90.fresh l) b = ⟨l.getD b 0, l.getD b 0, none⟩ := by
  unfold Sy90.thing Sy90.fresh
  rw [List.getD_eq_getElem?_getD, List.getElem?_map, List.getElem?_eq_getElem hb, List.getD_eq_getElem?_getD, List.getElem?_eq_getElem hb]
  rfl
theorem fresh_len (l : List Nat) : (Sy90.fresh l).things.length = l.length := List.length_map ..
theorem fresh_ok {l : List Nat} (h1 : 1 ≤ l.length) (h4 : l.length ≤ 4) (h6 : ∀ m ∈ l, m ≤ 6) : Ok (Sy90.fresh l) where
  n1 := by rw [fresh_len]; exact h1
  n4 := by rw [fresh_len]; exact h4
  c5 := Nat.zero_le _
  ls := rfl
  ld := rfl
  cues := fun k hk => absurd hk (Nat.not_lt_zero _)
  le6 := fun b hb => by
    rw [fresh_len] at hb
    rw [fresh_thing hb]
    have : l.getD b 0 ≤ 6 := by
      rw [List.getD_eq_getElem?_getD, List.getElem?_eq_getElem hb]
      exact h6 _ (List.getElem_mem hb)
    exact ⟨this, this⟩
  hold := fun b hb k hk => by
    rw [fresh_len] at hb
    rw [fresh_thing hb] at hk
    cases hk
  free := fun b hb _ => by
    rw [fresh_len] at hb
    rw [fresh_thing hb]
  sle := fun k t h => by cases k <;> cases h
  dle := fun k t h => by cases k <;> cases h
  slow := fun k t0 h _ => by cases k <;> cases h
  wk := fun k t hk _ _ => absurd hk (Nat.not_lt_zero _)
  st := fun k t hk _ _ => absurd hk (Nat.not_lt_zero _)
theorem begun_none {s : Sy90.St} (h : Sy90.begun s = false) (k : Nat) : Sy90.startOf s k = none := by
  unfold Sy90.begun at h
  rw [List.any_eq_false] at h
  unfold Sy90.startOf
  rw [List.getD_eq_getElem?_getD]
  cases e : s.started[k]? with
  | none => rfl
  | some o =>
    have := h o (List.mem_of_getElem? e)
    cases o with
    | none => rfl
    | some t => exact absurd rfl this
theorem none_begun {s : Sy90.St} (W : Wf s) (h : ∀ k, k < s.cues.length → Sy90.startOf s k = none) : Sy90.begun s = false := by
  unfold Sy90.begun
  rw [List.any_eq_false]
  intro o ho
  obtain ⟨k, hk, rfl⟩ := List.getElem_of_mem ho
  have := h k (by rw [← W.ls]; exact hk)
  unfold Sy90.startOf at this
  rw [List.getD_eq_getElem?_getD, List.getElem?_eq_getElem hk] at this
  have e : s.started[k] = none := this
  rw [e]
  decide
def addQ (s : Sy90.St) (c : Sy90.Cue) : Sy90.St := { s with cues := s.cues ++ [c], started := s.started ++ [none], done := s.done ++ [none] }
theorem getD_snoc_none (l : List (Option Nat)) (k : Nat) : (l ++ [none]).getD k none = l.getD k none := by
  rw [List.getD_eq_getElem?_getD, List.getD_eq_getElem?_getD]
  by_cases h : k < l.length
  · rw [List.getElem?_append_left h]
  · rw [List.getElem?_append_right (by omega), List.getElem?_eq_none (by omega : l.length ≤ k)]
    cases hk : k - l.length with
    | zero => rfl
    | succ n => rfl
theorem addQ_ok {s : Sy90.St} {c : Sy90.Cue} (W : Ok s) (hb : Sy90.begun s = false) (h5 : s.cues.length < 5) (hc : CueOk s.things.length s.cues.length c) : Ok (addQ s c) := by
  have hs : ∀ k, Sy90.startOf (addQ s c) k = none := fun k => by
    show (s.started ++ [none]).getD k none = none
    rw [getD_snoc_none]
    exact begun_none hb k
  have hd0 : ∀ k, Sy90.doneAt s k = none := fun k => by
    cases e : Sy90.doneAt s k with
    | none => rfl
    | some t =>
      obtain ⟨t0, h1, _⟩ := W.dle k t e
      rw [begun_none hb k] at h1
      cases h1
  have hd : ∀ k, Sy90.doneAt (addQ s c) k = none := fun k => by
    show (s.done ++ [none]).getD k none = none
    rw [getD_snoc_none]
    exact hd0 k
  have hdue : ∀ k, dueOf (addQ s c) k = none := fun k => by
    unfold dueOf
    split
    · rfl
    · rw [hs, hd]
      split <;> rfl
  have hby : ∀ b, b < s.things.length → ∀ k, (Sy90.thing s b).by_ ≠ some k := fun b hb2 k hk => by
    obtain ⟨t0, h1, _⟩ := W.hold b hb2 k hk
    rw [begun_none hb k] at h1
    cases h1
  refine { n1 := W.n1, n4 := W.n4, c5 := ?_, ls := ?_, ld := ?_, cues := fun k hk => ?_, le6 := W.le6, hold := fun b hb2 k hk => absurd hk (hby b hb2 k), free := W.free, sle := fun k t h => ?_, dle := fun k t h => ?_, slow := fun k t h => ?_, wk := fun k t _ _ h => ?_, st := fun k t _ _ h => ?_ }
  · show (s.cues ++ [c]).length ≤ 5
    rw [List.length_append, List.length_singleton]
    omega
  · show (s.started ++ [none]).length = (s.cues ++ [c]).length
    rw [List.length_append, List.length_append, W.ls]
    rfl
  · show (s.done ++ [none]).length = (s.cues ++ [c]).length
    rw [List.length_append, List.length_append, W.ld]
    rfl
  · have hk' : k < (s.cues ++ [c]).length := hk
    rw [List.length_append, List.length_singleton] at hk'
    show CueOk s.things.length k ((s.cues ++ [c]).getD k ⟨[], none⟩)
    rw [List.getD_eq_getElem?_getD]
    by_cases h : k < s.cues.length
    · rw [List.getElem?_append_left h, ← List.getD_eq_getElem?_getD]
      exact W.cues k h
    · have : k = s.cues.length := by omega
      subst this
      rw [List.getElem?_append_right (Nat.le_refl _), Nat.sub_self]
      exact hc
  · rw [hs] at h
    cases h
  · rw [hd] at h
    cases h
  · rw [hs] at h
    cases h
  · rw [hdue] at h
    cases h
  · rw [hdue] at h
    cases h
theorem list_ok {s : Sy90.St} {l : List Nat} {m : List (Nat × Nat)} (h : Sy90.list s l = some m) : m ≠ [] ∧ (∀ x ∈ m, x.1 < s.things.length ∧ x.2 ≤ 6) ∧ Sy90.distinct (m.map fun (x : Nat × Nat) => x.1) = true := by
  unfold Sy90.list at h
  obtain ⟨m2, h1, h2⟩ := Option.bind_eq_some_iff.mp h
  split at h2
  · cases h2
  · rename_i hn
    have e2 := Option.some.inj h2
    subst e2
    simp only [not_or] at hn
    obtain ⟨a, b, c⟩ := hn
    refine ⟨fun e => a (by rw [e]; rfl), fun x hx => ?_, by simpa using c⟩
    have : ((m2.any fun (x : Nat × Nat) => decide (s.things.length ≤ x.1) || decide (6 < x.2)) = false) := by simpa using b
    rw [List.any_eq_false] at this
    have := this x hx
    simp only [Bool.or_eq_true, decide_eq_true_eq, not_or] at this
    omega
theorem dist_nodup : ∀ l : List Nat, Sy90.distinct l = true → l.Nodup
  | [], _ => List.nodup_nil
  | a :: l, h => by
    unfold Sy90.distinct at h
    rw [Bool.and_eq_true] at h
    rw [List.nodup_cons]
    exact ⟨by simpa using h.1, dist_nodup l h.2⟩
theorem more_inv {S : Sy92.St} (I : InvS S) {l : List Nat} {m : List (Nat × Nat)} {u : Option (Nat × Nat × Nat)} (hm : Sy90.list S.stage l = some m) (hu : ∀ e c d, u = some (e, c, d) → e ≤ 1 ∧ c < S.stage.cues.length ∧ d ≤ 5) : InvS { S with stage := (Sy90.more S.stage m u).1 } := by
  unfold Sy90.more
  split
  · exact I
  · rename_i hb
    split
    · exact I
    · rename_i h5
      obtain ⟨h1, h2, h3⟩ := list_ok hm
      have hb : Sy90.begun S.stage = false := by simpa using hb
      exact ⟨addQ_ok I.ok hb (by omega) ⟨h1, h2, dist_nodup _ h3, fun e l d he => hu e l d he⟩, I.ro, I.rl, I.pr, I.p4⟩
theorem step_inv {S : Sy92.St} (I : InvS S) (c : Sy92.Call) : InvS (Sy92.step S c).1 := by
  cases c with
  | begins l =>
    show InvS (if (Sy90.step S.stage (.begins l)).2.v < 0 then (S, (Sy90.step S.stage (.begins l)).2) else (⟨(Sy90.step S.stage (.begins l)).1, l.map fun (_ : Nat) => (0, 1)⟩, (Sy90.step S.stage (.begins l)).2)).1
    by_cases hc : l.length < 1 ∨ 4 < l.length ∨ l.any (fun (m : Nat) => decide (6 < m)) = true
    · have e : Sy90.step S.stage (.begins l) = (S.stage, Sy90.ok (-1)) := if_pos hc
      rw [e]
      exact I
    · have e : Sy90.step S.stage (.begins l) = (Sy90.fresh l, Sy90.ok (l.length : Nat)) := if_neg hc
      rw [e]
      simp only [not_or] at hc
      obtain ⟨h1, h2, h3⟩ := hc
      have h3 : (l.any fun (m : Nat) => decide (6 < m)) = false := by simpa using h3
      rw [List.any_eq_false] at h3
      rw [if_neg (by show ¬ ((l.length : Nat) : Int) < 0; omega)]
      refine ⟨fresh_ok (by omega) (by omega) fun m hm => ?_, fun x hx => ?_, ?_, fun p hp => (by cases hp), Nat.zero_le _⟩
      · have := h3 m hm
        simp only [decide_eq_true_eq] at this
        omega
      · obtain ⟨_, _, rfl⟩ := List.mem_map.mp hx
        exact ⟨Nat.zero_le _, Nat.le_refl _, by decide⟩
      · show (l.map _).length = (Sy90.fresh l).things.length
        rw [List.length_map, fresh_len]
  | rope k p n =>
    unfold Sy92.step
    dsimp only
    split
    · exact I
    · split
      · exact I
      · rename_i hk hb
        split
        · exact I
        · refine ⟨I.ok, fun x hx => ?_, ?_, I.pr, I.p4⟩
          · rcases List.mem_or_eq_of_mem_set hx with hx | rfl
            · exact I.ro x hx
            · show p ≤ 20 ∧ 1 ≤ n ∧ n ≤ 3
              omega
          · show (S.ropes.set k (p, n)).length = _
            rw [List.length_set]
            exact I.rl
  | pair a b g =>
    show InvS { S with stage := (Sy90.step S.stage (.pair a b g)).1 }
    unfold Sy90.step
    dsimp only
    split
    · exact I
    · rename_i h1
      split
      · exact I
      · split
        · exact I
        · split
          · exact I
          · rename_i h4
            refine ⟨?_, I.ro, I.rl, fun p hp => ?_, ?_⟩
            · have W := I.ok
              exact { n1 := W.n1, n4 := W.n4, c5 := W.c5, ls := W.ls, ld := W.ld, cues := W.cues, le6 := W.le6, hold := W.hold, free := W.free, sle := W.sle, dle := W.dle, slow := W.slow, wk := W.wk, st := W.st }
            · rcases List.mem_append.mp hp with hp | hp
              · exact I.pr p hp
              · rw [List.mem_singleton.mp hp]
                show a < S.stage.things.length ∧ b < S.stage.things.length
                omega
            · show (S.stage.pairs ++ [_]).length ≤ 4
              rw [List.length_append, List.length_singleton]
              omega
  | cue l =>
    show InvS { S with stage := (Sy90.step S.stage (.cue l)).1 }
    unfold Sy90.step
    dsimp only
    split
    · exact I
    · rename_i m hm
      exact more_inv I hm fun e c d h => by cases h
  | follow e c d l =>
    show InvS { S with stage := (Sy90.step S.stage (.follow e c d l)).1 }
    unfold Sy90.step
    dsimp only
    split
    · exact I
    · rename_i m hm
      split
      · exact I
      · rename_i h1
        split
        · exact I
        · rename_i h2
          exact more_inv I hm fun e2 c2 d2 h => by
            cases h
            omega
  | go k =>
    show InvS { S with stage := (Sy90.step S.stage (.go k)).1 }
    unfold Sy90.step
    dsimp only
    split
    · exact I
    · rename_i hk
      split
      · exact I
      · rename_i hu
        have hu : Sy90.startOf S.stage k = none := by simpa using hu
        have hl := called_len S.stage k
        have hp := called_pairs S.stage k
        refine ⟨called_ok I.ok.toWf (by omega) hu, I.ro, ?_, fun p h => ?_, ?_⟩
        · show S.ropes.length = (Sy90.called S.stage k).things.length
          rw [hl]
          exact I.rl
        · have h : p ∈ (Sy90.called S.stage k).pairs := h
          rw [hp] at h
          show p.1 < (Sy90.called S.stage k).things.length ∧ _
          rw [hl]
          exact I.pr p h
        · show (Sy90.called S.stage k).pairs.length ≤ 4
          rw [hp]
          exact I.p4
  | wait n =>
    show InvS { S with stage := (Sy90.step S.stage (.wait n)).1 }
    unfold Sy90.step
    dsimp only
    split
    · exact I
    · obtain ⟨e1, e2, e3, e4⟩ := after_same n S.stage
      refine ⟨after_ok n I.ok, I.ro, ?_, fun p h => ?_, ?_⟩
      · show S.ropes.length = (Sy90.after S.stage n).things.length
        rw [e4]
        exact I.rl
      · have h : p ∈ (Sy90.after S.stage n).pairs := h
        rw [e3] at h
        show p.1 < (Sy90.after S.stage n).things.length ∧ _
        rw [e4]
        exact I.pr p h
      · show (Sy90.after S.stage n).pairs.length ≤ 4
        rw [e3]
        exact I.p4
  | at_ n => exact I
  | foul => exact I
  | moves => exact I
  | hands => exact I
  | plan => exact I
  | soon h k => exact I
  | show_ h l => exact I
  | state => exact I
theorem init_inv : InvS Sy92.init := ⟨fresh_ok (l := [0]) (by decide) (by decide) (by decide), fun x hx => by rw [List.mem_singleton.mp hx]; decide, rfl, fun p hp => (by cases hp), Nat.zero_le _⟩
end Sc
set_option maxRecDepth 100000
set_option maxHeartbeats 4000000
/-! B0: words for the walk: operators by name, data by predicates, readings that give data. -/
namespace Sk
open PySem L2 Evl
open Sc (All2)
abbrev nV (n : Nat) : V := .int (n : Int)

/-! ### operators, calls by name -/
section
variable {X : Cx}
def rAddI : R2 := rI0 fun i j => .int (i + j)
def rSubI : R2 := rI0 fun i j => .int (i - j)
def rMulI : R2 := rI CMul fun i j => .int (i * j)
def rFdivI : R2 := rI CDiv fun i j => .int (i / j)
def rModI : R2 := rI (fun _ j => 0 < j) fun i j => .int (i % j)
def rLtI : R2 := rI0 fun i j => .bl (decide (i < j))
def rLeI : R2 := rI0 fun i j => .bl (decide (i ≤ j))
def rGtI : R2 := rI0 fun i j => .bl (decide (j < i))
def rGeI : R2 := rI0 fun i j => .bl (decide (j ≤ i))
def rIsN : R2 := fun x y H Q => y = .non ∧ Q (.bl (decide (x = .non))) H
def rNotN : R2 := fun x y H Q => y = .non ∧ Q (.bl (!decide (x = .non))) H
def rNeg : V → Hp → VK → Prop := rU fun i => .int (-i)
theorem oAdd : OpR X (binaryOp .Add) rAddI := op_add
theorem oSub : OpR X (binaryOp .Sub) rSubI := op_sub
theorem oMul : OpR X (binaryOp .Mult) rMulI := op_mul
theorem oFdiv : OpR X (binaryOp .FloorDiv) rFdivI := op_fdiv
theorem oMod : OpR X (binaryOp .Mod) rModI := op_mod
theorem oLt : OpR X (compareOp .Lt) rLtI := op_lt
theorem oLe : OpR X (compareOp .LtE) rLeI := op_le
theorem oGt : OpR X (compareOp .Gt) rGtI := op_gt
theorem oGe : OpR X (compareOp .GtE) rGeI := op_ge
theorem oEq : OpR X (compareOp .Eq) rEq := op_eq
theorem oNe : OpR X (compareOp .NotEq) rNe := op_ne
theorem oIsN : OpR X (compareOp .Is) rIsN := op_isN
theorem oNotN : OpR X (compareOp .IsNot) rNotN := op_notN
theorem oIn : OpR X (compareOp .In) (rIn X.K false) := op_in_seq
theorem oCat : OpR X (binaryOp .Add) rCat := op_cat
theorem oRep : OpR X (binaryOp .Mult) rRep := op_rep
theorem oCatA : OpR X (binaryOp .Add) (rCatA X.K) := op_catA
theorem uNeg : UnR X (unaryOp .USub) rNeg := un_neg
def rTupS (K : PySem.W.Frag) : List V → Hp → VK → Prop := fun xs H Q => ∃ p ys, xs = [.ref p] ∧ ((SqL K H p ys ∧ ∀ l, H l = none → Q (.ref l) (upd H l (.tup ys))) ∨ (SqT K H p ys ∧ Q (.ref p) H))
def rAbs : List V → Hp → VK → Prop := fun xs H Q => ∃ i, xs = [.int i] ∧ Q (.int (if i < 0 then -i else i)) H
def rMin2 : List V → Hp → VK → Prop := fun xs H Q => ∃ i j, xs = [.int i, .int j] ∧ Q (.int (if j < i then j else i)) H
def rIntB : List V → Hp → VK → Prop := fun xs H Q => (∃ i, xs = [.int i] ∧ Q (.int i) H) ∨ ∃ k, xs = [.bl k] ∧ Q (.int (if k then 1 else 0)) H
theorem cLen : CallR X (.builtin "len") (rLenS X.K) := call_len_seq
theorem cList : CallR X (.type "list") (rListS X.K) := call_list_of
theorem cTup : CallR X (.type "tuple") (rTupS X.K) := call_tuple_of
theorem cAbs : CallR X (.builtin "abs") rAbs := call_abs
theorem cMin2 (hc : X.calm = true) : CallR X (.builtin "min") rMin2 := call_min2 hc
theorem cInt : CallR X (.type "int") rIntB := call_int1
/-- max of a list of alike data -/
def rMaxD (K : PySem.W.Frag) : List V → Hp → VK → Prop := fun xs H Q => ∃ (a : Addr) (ys : List V) (d : PyData) (ds : List PyData), xs = [.ref a] ∧ SqL K H a ys ∧ DpAll K H ys (d :: ds) ∧ PySem.W.AlikeAll (d :: ds) ∧ PyData.depthAll (d :: ds) ≤ 10 ∧
  ∀ (i : Nat) (v : V), ys[i]? = some v → (d :: ds)[i]? = some (PySem.W.maxD d ds) → Q v H
theorem readsAll_nth {h : Heap} : ∀ {us : List Value} {ds : List PyData} {as : List Addr}, PySem.ReadsAll h us ds as → ∀ {i : Nat} {u : Value}, us[i]? = some u → ∃ d bs, ds[i]? = some d ∧ PySem.Reads h u d bs
  | _, _, _, .nil, i, u, e => by simp at e
  | _, _, _, .cons r t, 0, u, e => by
    cases e
    exact ⟨_, _, rfl, r⟩
  | _, _, _, .cons r t, i + 1, u, e => readsAll_nth t (i := i) (by simpa using e)
theorem vals_nth : ∀ {xs : List V} {us : List Value}, Vals xs us → ∀ {i : Nat} {u : Value}, us[i]? = some u → ∃ x, xs[i]? = some x ∧ RelV x u
  | _, _, .nil, i, u, e => by simp at e
  | _, _, .cons r t, 0, u, e => by
    cases e
    exact ⟨_, rfl, r⟩
  | _, _, .cons r t, i + 1, u, e => vals_nth t (i := i) (by simpa using e)
theorem cMaxD (hc : X.calm = true) (hu : X.A.units + 12 < cLine) : CallR X (.builtin "max") (rMaxD X.K) := by
  intro pins s σ H vs us Q I r h
  obtain ⟨a, ys, d, ds, rfl, hs, hd, ha, hz, q⟩ := h
  obtain ⟨its, rv, hl, _⟩ := I.list hs
  obtain ⟨as, hr⟩ := Dp.readsAll I (d :: ds) ys its hd rv
  rw [Vals.ref1 r]
  refine PySem.W.max_list_data (vs := its.toArray) (I.ok.hd hc) hl.isList (by simpa using hr) ha (by omega) fun i v h' tk bs hv r2 k => ?_
  have hv' : its[i]? = some v := by simpa using hv
  obtain ⟨d', cs, e1, r1⟩ := readsAll_nth hr hv'
  obtain ⟨x, e2, rx⟩ := vals_nth rv hv'
  have e3 := (PyProof.Rows.reads_det (fun b o e _ => k b o e) r1 r2).1
  exact ⟨x, H, I.kept k, rx, q i x e2 (by rw [e1, ← e3])⟩
theorem bLen : bootBuiltins "len" = some (.builtin "len") := by decide +kernel
theorem bAbs : bootBuiltins "abs" = some (.builtin "abs") := by decide +kernel
theorem bMin : bootBuiltins "min" = some (.builtin "min") := by decide +kernel
theorem bMax : bootBuiltins "max" = some (.builtin "max") := by decide +kernel
theorem bSum : bootBuiltins "sum" = some (.builtin "sum") := by decide +kernel
theorem bAny : bootBuiltins "any" = some (.builtin "any") := by decide +kernel
theorem bAll : bootBuiltins "all" = some (.builtin "all") := by decide +kernel
theorem bInt : bootBuiltins "int" = some (.type "int") := by decide +kernel
theorem bList : bootBuiltins "list" = some (.type "list") := by decide +kernel
theorem bTuple : bootBuiltins "tuple" = some (.type "tuple") := by decide +kernel
end

/-! ### data -/
abbrev PR (α : Type) := PySem.W.Frag → Hp → V → α → Prop
def PrV : PR (Nat × Nat) := fun K H v x => ∃ a, v = .ref a ∧ SqT K H a [nV x.1, nV x.2]
def TrV : PR (Nat × Nat × Nat) := fun K H v x => ∃ a, v = .ref a ∧ SqT K H a [nV x.1, nV x.2.1, nV x.2.2]
def TsV : PR (List Nat) := fun K H v l => ∃ a, v = .ref a ∧ SqT K H a (l.map nV)
def FrV : PR Sc.Fr := fun K H v f => ∃ a p t, v = .ref a ∧ SqT K H a [.ref p, .ref t] ∧ SqT K H p (f.1.map nV) ∧ SqT K H t (f.2.map nV)
def RkV : PR (Nat × List Nat) := fun K H v r => ∃ a t, v = .ref a ∧ SqT K H a [nV r.1, .ref t] ∧ SqT K H t (r.2.map nV)
def NumV : PR Nat := fun _ _ v n => v = nV n
def IntV : PR Int := fun _ _ v n => v = .int n
def BlV : PR Bool := fun _ _ v b => v = .bl b
/-- a list of data -/
def LsV {α : Type} (R : PR α) : PR (List α) := fun K H v ds => ∃ a xs, v = .ref a ∧ SqL K H a xs ∧ All2 (R K H) xs ds
/-- a new one, which nobody else holds -/
def LsAt {α : Type} (R : PR α) (K : PySem.W.Frag) (H : Hp) (a : Addr) (ds : List α) : Prop := ∃ xs, H a = some (.lst xs) ∧ All2 (R K H) xs ds
/-- what is never written -/
def fixO : HO → Bool
  | .tup _ => true
  | .frz _ _ => true
  | .ins _ _ ((f, _) :: r) => decide (f = "moves") && decide (r.length = 3)
  | _ => false
def Fix (H H' : Hp) : Prop := ∀ a o, H a = some o → fixO o = true → H' a = some o
theorem Fix.refl (H : Hp) : Fix H H := fun _ _ h _ => h
theorem Fix.trans {H H1 H2 : Hp} (a : Fix H H1) (b : Fix H1 H2) : Fix H H2 := fun x o h f => b x o (a x o h f) f
theorem Fix.of {H H' : Hp} (e : Ex H H') : Fix H H' := fun a o h _ => e a o h
theorem Fix.mut {H : Hp} {a : Addr} {o u : HO} (h : H a = some o) (f : fixO o = false) : Fix H (upd H a u) := fun b v hb fb => by
  have ne : b ≠ a := fun z => by
    rw [z, h] at hb
    cases hb
    rw [f] at fb
    cases fb
  rw [upd_ne ne]
  exact hb
theorem Fix.mutL {H : Hp} {a : Addr} {xs : List V} {u : HO} (h : H a = some (.lst xs)) : Fix H (upd H a u) := Fix.mut h rfl
theorem fix_t {K : PySem.W.Frag} {H H' : Hp} {a : Addr} {xs : List V} (e : Fix H H') (h : SqT K H a xs) : SqT K H' a xs := by
  rcases h with (h | ⟨o, h⟩) | h
  · exact .inl (.inl (e a _ h rfl))
  · exact .inl (.inr ⟨o, e a _ h rfl⟩)
  · exact .inr h
/-- a predicate that stands where nothing fixed is written -/
def Stab {α : Type} (R : PR α) : Prop := ∀ (K : PySem.W.Frag) (H H' : Hp) (v : V) (x : α), Fix H H' → R K H v x → R K H' v x
def StabX {α : Type} (R : PR α) : Prop := ∀ (K : PySem.W.Frag) (H H' : Hp) (v : V) (x : α), Ex H H' → R K H v x → R K H' v x
theorem Stab.x {α : Type} {R : PR α} (h : Stab R) : StabX R := fun _ _ _ _ _ e r => h _ _ _ _ _ (Fix.of e) r
theorem prV_st : Stab PrV := fun _ _ _ _ _ e ⟨a, h, t⟩ => ⟨a, h, fix_t e t⟩
theorem trV_st : Stab TrV := fun _ _ _ _ _ e ⟨a, h, t⟩ => ⟨a, h, fix_t e t⟩
theorem tsV_st : Stab TsV := fun _ _ _ _ _ e ⟨a, h, t⟩ => ⟨a, h, fix_t e t⟩
theorem frV_st : Stab FrV := fun _ _ _ _ _ e ⟨a, p, t, h, h1, h2, h3⟩ => ⟨a, p, t, h, fix_t e h1, fix_t e h2, fix_t e h3⟩
theorem rkV_st : Stab RkV := fun _ _ _ _ _ e ⟨a, t, h, h1, h2⟩ => ⟨a, t, h, fix_t e h1, fix_t e h2⟩
theorem numV_st : Stab NumV := fun _ _ _ _ _ _ h => h
theorem intV_st : Stab IntV := fun _ _ _ _ _ _ h => h
theorem blV_st : Stab BlV := fun _ _ _ _ _ _ h => h
theorem all2_mono {α β : Type} {R S : α → β → Prop} (h : ∀ x y, R x y → S x y) {l : List α} {m : List β} (a : All2 R l m) : All2 S l m := by
  induction a with
  | nil => exact .nil
  | cons r _ ih => exact .cons (h _ _ r) ih
theorem all2_st {α : Type} {R : PR α} (hR : Stab R) {K : PySem.W.Frag} {H H' : Hp} (e : Fix H H') {l : List V} {m : List α} (a : All2 (R K H) l m) : All2 (R K H') l m := all2_mono (fun _ _ r => hR _ _ _ _ _ e r) a
theorem all2_x {α : Type} {R : PR α} (hR : StabX R) {K : PySem.W.Frag} {H H' : Hp} (e : Ex H H') {l : List V} {m : List α} (a : All2 (R K H) l m) : All2 (R K H') l m := all2_mono (fun _ _ r => hR _ _ _ _ _ e r) a
theorem lsV_x {α : Type} {R : PR α} (hR : StabX R) : StabX (LsV R) := fun _ _ _ _ _ e ⟨a, xs, h, h1, h2⟩ => ⟨a, xs, h, ex_l e h1, all2_x hR e h2⟩
theorem lsAt_x {α : Type} {R : PR α} (hR : StabX R) {K : PySem.W.Frag} {H H' : Hp} {a : Addr} {ds : List α} (e : Ex H H') (h : LsAt R K H a ds) : LsAt R K H' a ds := by
  obtain ⟨xs, h1, h2⟩ := h
  exact ⟨xs, e a _ h1, all2_x hR e h2⟩
theorem LsAt.v {α : Type} {R : PR α} {K : PySem.W.Frag} {H : Hp} {a : Addr} {ds : List α} (h : LsAt R K H a ds) : LsV R K H (.ref a) ds := by
  obtain ⟨xs, h1, h2⟩ := h
  exact ⟨a, xs, rfl, sq_of h1, h2⟩
theorem all2_num {K : PySem.W.Frag} {H : Hp} : ∀ {xs : List V} {ns : List Nat}, All2 (NumV K H) xs ns → xs = ns.map nV
  | _, _, .nil => rfl
  | _, _, .cons h t => by rw [List.map_cons, ← all2_num t]; exact congrArg (· :: _) h
theorem num_all2 {K : PySem.W.Frag} {H : Hp} : ∀ (ns : List Nat), All2 (NumV K H) (ns.map nV) ns
  | [] => .nil
  | n :: r => .cons rfl (num_all2 r)
theorem all2_int {K : PySem.W.Frag} {H : Hp} : ∀ {xs : List V} {ns : List Int}, All2 (IntV K H) xs ns → xs = ns.map V.int
  | _, _, .nil => rfl
  | _, _, .cons h t => by rw [List.map_cons, ← all2_int t]; exact congrArg (· :: _) h
theorem all2_bl {K : PySem.W.Frag} {H : Hp} : ∀ {xs : List V} {ns : List Bool}, All2 (BlV K H) xs ns → xs = ns.map V.bl
  | _, _, .nil => rfl
  | _, _, .cons h t => by rw [List.map_cons, ← all2_bl t]; exact congrArg (· :: _) h
theorem All2.get {α β : Type} {R : α → β → Prop} {l : List α} {m : List β} (h : All2 R l m) {i : Nat} {x : α} (e : l[i]? = some x) : ∃ y, m[i]? = some y ∧ R x y := by
  have hi := (List.getElem?_eq_some_iff.mp e).1
  obtain ⟨x', y, h1, h2, h3⟩ := Sc.All2.at h i hi
  rw [e] at h1
  cases h1
  exact ⟨y, h2, h3⟩
theorem All2.get2 {α β : Type} {R : α → β → Prop} {l : List α} {m : List β} (h : All2 R l m) {i : Nat} {y : β} (e : m[i]? = some y) : ∃ x, l[i]? = some x ∧ R x y := by
  have hi := (List.getElem?_eq_some_iff.mp e).1
  obtain ⟨x, y', h1, h2, h3⟩ := Sc.All2.at h i (by rw [Sc.All2.len h]; exact hi)
  rw [e] at h2
  cases h2
  exact ⟨x, h1, h3⟩
theorem All2.snoc {α β : Type} {R : α → β → Prop} {l : List α} {m : List β} (h : All2 R l m) {x : α} {y : β} (r : R x y) : All2 R (l ++ [x]) (m ++ [y]) := Sc.All2.append h (.cons r .nil)
theorem nums_at {ns : List Nat} {i : Nat} (h : i < ns.length) : (ns.map nV)[i]? = some (nV (ns.getD i 0)) := by
  rw [List.getElem?_map, List.getD_eq_getElem?_getD, List.getElem?_eq_getElem h]
  rfl

/-! ### readings that give data -/
def EvD (te : TE) (σ : L2.St) (H : Hp) (P : V → Hp → Prop) : Prop := ∀ H1, Ex H H1 → ∀ Q : VK, (∀ v H2, Ex H1 H2 → P v H2 → Q v H2) → te σ H1 Q
def EvAD (ta : TA) (σ : L2.St) (H : Hp) (P : List V → Hp → Prop) : Prop := ∀ H1, Ex H H1 → ∀ Q : List V → Hp → Prop, (∀ vs H2, Ex H1 H2 → P vs H2 → Q vs H2) → ta σ H1 Q
/-- an operation, a call on values -/
def RVD (r : R2) (x y : V) (H : Hp) (P : V → Hp → Prop) : Prop := ∀ Q : VK, (∀ v H2, Ex H H2 → P v H2 → Q v H2) → r x y H Q
def RCD (r : List V → Hp → VK → Prop) (vs : List V) (H : Hp) (P : V → Hp → Prop) : Prop := ∀ Q : VK, (∀ v H2, Ex H H2 → P v H2 → Q v H2) → r vs H Q
def SpD (sp : Sp) (vs : List V) (H : Hp) (P : V → Hp → Prop) : Prop := ∀ Q : VK, (∀ v H2, Ex H H2 → P v H2 → Q v H2) → ∀ E : XK, sp vs H Q E
/-- what a promise hands back -/
def RetD (P : V → Hp → Prop) (H : Hp) (Q : VK) : Prop := ∀ v H2, Ex H H2 → P v H2 → Q v H2
section
variable {K : PySem.W.Frag} {σ : L2.St} {H H' : Hp} {ta tb te tx : TE} {t u : TT} {x y z v : V} {r : R2} {P P1 P2 : V → Hp → Prop}
theorem EvD.mono (e : Ex H H') (h : EvD te σ H P) : EvD te σ H' P := fun H1 a Q q => h H1 (e.trans a) Q q
theorem EvD.imp (h : EvD te σ H P) (k : ∀ v H1, Ex H H1 → P v H1 → P1 v H1) : EvD te σ H P1 := fun H1 e Q q => h H1 e Q fun v H2 e2 p => q v H2 e2 (k v H2 (e.trans e2) p)
theorem evd_of (h : Ev te σ H v) (p : ∀ H1, Ex H H1 → P v H1) : EvD te σ H P := fun H1 e Q q => h H1 e Q fun H2 e2 => q v H2 e2 (p H2 (e.trans e2))
theorem ev_of (h : EvD te σ H fun v' _ => v' = v) : Ev te σ H v := fun H1 e Q q => h H1 e Q fun v' H2 e2 p => by
  rw [p]
  exact q H2 e2
theorem evd_op (ha : EvD ta σ H P1) (hb : ∀ x H1, Ex H H1 → P1 x H1 → EvD tb σ H1 fun y H2 => RVD r x y H2 P) : EvD (tOp r ta tb) σ H P := fun H1 e Q q =>
  ha H1 e _ fun x H2 e2 p2 => hb x H2 (e.trans e2) p2 H2 (Ex.refl H2) _ fun y H3 e3 p3 => p3 Q fun v H4 e4 p4 => q v H4 ((e2.trans e3).trans e4) p4
theorem evad_nil : EvAD tNil σ H fun vs _ => vs = [] := fun H1 _ _ q => q [] H1 (Ex.refl H1) rfl
theorem evad_of {ta : TA} {vs : List V} (h : EvA ta σ H vs) : EvAD ta σ H fun vs' _ => vs' = vs := fun H1 e _ q => h H1 e _ fun H2 e2 => q vs H2 e2 rfl
theorem evad_cons {tr : TA} {PA : List V → Hp → Prop} (h : EvD te σ H P) (hr : ∀ x H1, Ex H H1 → P x H1 → EvAD tr σ H1 fun vs H2 => PA (x :: vs) H2) : EvAD (tCons te tr) σ H PA := fun H1 e _ q =>
  h H1 e _ fun x H2 e2 p2 => hr x H2 (e.trans e2) p2 H2 (Ex.refl H2) _ fun vs H3 e3 p3 => q (x :: vs) H3 (e2.trans e3) p3
theorem evad_one {PA : List V → Hp → Prop} (h : EvD te σ H fun v H1 => PA [v] H1) : EvAD (tCons te tNil) σ H PA := fun H1 e _ q => h H1 e _ fun x H2 e2 p2 => q [x] H2 e2 p2
theorem evad_two {PA : List V → Hp → Prop} (h : EvD te σ H P) (h2 : ∀ x H1, Ex H H1 → P x H1 → EvD tx σ H1 fun v H2 => PA [x, v] H2) : EvAD (tCons te (tCons tx tNil)) σ H PA := evad_cons h fun x H1 e1 p1 => evad_one (h2 x H1 e1 p1)
theorem evd_cb {r : List V → Hp → VK → Prop} {ta : TA} (h : EvAD ta σ H fun vs H1 => RCD r vs H1 P) : EvD (tCB r ta) σ H P := fun H1 e Q q =>
  h H1 e _ fun vs H2 e2 p2 => p2 Q fun v H3 e3 p3 => q v H3 (e2.trans e3) p3
theorem evd_call {sp : Sp} {dvs : List V} {E : XK} {ta : TA} (h : EvAD ta σ H fun vs H1 => SpD sp (vs ++ dvs) H1 P) : EvD (tCall sp dvs E ta) σ H P := fun H1 e Q q =>
  h H1 e _ fun vs H2 e2 p2 => p2 Q (fun v H3 e3 p3 => q v H3 (e2.trans e3) p3) E
theorem evd_callV {sp : Sp} {dvs vs : List V} {E : XK} {ta : TA} (h : EvA ta σ H vs) (hs : ∀ H1, Ex H H1 → SpD sp (vs ++ dvs) H1 P) : EvD (tCall sp dvs E ta) σ H P := fun H1 e Q q =>
  h H1 e _ fun H2 e2 => hs H2 (e.trans e2) Q (fun v H3 e3 p3 => q v H3 (e2.trans e3) p3) E
theorem ev_fld {a C dx : Addr} {fs : List (Str × V)} {f : Str} (h : Ev ta σ H (.ref a)) (ho : H a = some (.ins C dx fs)) (hc : Cls K C) (hn : NoAttr K C f) (hl : fs.lookup f = some v) : Ev (tFld K ta f) σ H v := fun H1 e _ q =>
  h H1 e _ fun H2 e2 => ⟨a, C, dx, fs, v, rfl, e2 a _ (e a _ ho), hc, hn, hl, q H2 e2⟩
theorem evd_tup {ta : TA} {vs : List V} (h : EvA ta σ H vs) (hl : vs.length ≤ 100000) : EvD (tTup ta) σ H fun v H1 => ∃ p, v = .ref p ∧ H1 p = some (.tup vs) := fun H1 e _ q =>
  h H1 e _ fun H2 e2 => ⟨sz_of hl, fun p hp => q (.ref p) _ (e2.trans (Ex.new hp)) ⟨p, rfl, upd_same⟩⟩
theorem evd_tupD {ta : TA} {PA : List V → Hp → Prop} (h : EvAD ta σ H PA) (hl : ∀ vs H1, PA vs H1 → vs.length ≤ 100000) (k : ∀ vs H1 p, H1 p = none → PA vs H1 → P (.ref p) (upd H1 p (.tup vs))) : EvD (tTup ta) σ H P := fun H1 e _ q =>
  h H1 e _ fun vs H2 e2 p2 => ⟨sz_of (hl vs H2 p2), fun p hp => q (.ref p) _ (e2.trans (Ex.new hp)) (k vs H2 p hp p2)⟩
theorem evd_if {b : Bool} (h : EvT t σ H b) (h1 : b = true → EvD ta σ H P) (h2 : b = false → EvD tb σ H P) : EvD (tIf t ta tb) σ H P := fun H1 e Q q => h H1 e _ fun H2 e2 => by
  cases b with
  | true =>
    show ta σ H2 Q
    exact h1 rfl H2 (e.trans e2) Q fun v H3 e3 p => q v H3 (e2.trans e3) p
  | false =>
    show tb σ H2 Q
    exact h2 rfl H2 (e.trans e2) Q fun v H3 e3 p => q v H3 (e2.trans e3) p
theorem ev_chain {r r' : R2} {tc : TE} {b c : Bool} {x y z : V} (ha : Ev ta σ H x) (hb : Ev tb σ H y) (h1 : RV r x y H (.bl b)) (hc : b = true → Ev tc σ H z ∧ RV r' y z H (.bl c)) : Ev (tChain r r' ta tb tc) σ H (.bl (b && c)) := fun H1 e Q q =>
  ha H1 e _ fun H2 e2 => hb H2 (e.trans e2) _ fun H3 e3 => h1 H3 ((e.trans e2).trans e3) _ fun H4 e4 => ⟨b, rfl, by
    cases b with
    | true =>
      obtain ⟨c1, c2⟩ := hc rfl
      show tc σ H4 fun w' H5 => r' y w' H5 Q
      exact c1 H4 (((e.trans e2).trans e3).trans e4) _ fun H5 e5 => c2 H5 ((((e.trans e2).trans e3).trans e4).trans e5) Q fun H6 e6 => q H6 ((((e2.trans e3).trans e4).trans e5).trans e6)
    | false =>
      show Q (.bl false) H4
      exact q H4 ((e2.trans e3).trans e4)⟩
theorem rv_isN : RV rIsN x .non H (.bl (decide (x = .non))) := fun H1 _ _ q => ⟨rfl, q H1 (Ex.refl H1)⟩
theorem rv_notN : RV rNotN x .non H (.bl (!decide (x = .non))) := fun H1 _ _ q => ⟨rfl, q H1 (Ex.refl H1)⟩
theorem rc_len {p : Addr} {xs : List V} (h : SqL K H p xs ∨ SqT K H p xs) : RC (rLenS K) [.ref p] H (.int (xs.length : Int)) := fun H1 e _ q => ⟨p, xs, rfl, h.imp (ex_l e) (ex_t e), q H1 (Ex.refl H1)⟩
theorem rc_abs {i : Int} : RC rAbs [.int i] H (.int (if i < 0 then -i else i)) := fun H1 _ _ q => ⟨i, rfl, q H1 (Ex.refl H1)⟩
theorem rc_min2 {i j : Int} : RC rMin2 [.int i, .int j] H (.int (if j < i then j else i)) := fun H1 _ _ q => ⟨i, j, rfl, q H1 (Ex.refl H1)⟩
theorem rc_intB {b : Bool} : RC rIntB [.bl b] H (.int (if b then 1 else 0)) := fun H1 _ _ q => .inr ⟨b, rfl, q H1 (Ex.refl H1)⟩
theorem rc_any {p : Addr} {bs : List Bool} (h : SqL K H p (bs.map V.bl)) : RC (rAny K) [.ref p] H (.bl (bs.any id)) := fun H1 e _ q => ⟨p, bs, rfl, ex_l e h, q H1 (Ex.refl H1)⟩
theorem rc_all {p : Addr} {bs : List Bool} (h : SqL K H p (bs.map V.bl)) : RC (rAll K) [.ref p] H (.bl (bs.all id)) := fun H1 e _ q => ⟨p, bs, rfl, ex_l e h, q H1 (Ex.refl H1)⟩
theorem rc_sum {p : Addr} {ns : List Int} (h : SqL K H p (ns.map V.int)) : RC (rSum K) [.ref p] H (.int ns.sum) := fun H1 e _ q => ⟨p, ns, rfl, ex_l e h, q H1 (Ex.refl H1)⟩
/-- at a value that stands -/
theorem RC.d {r : List V → Hp → VK → Prop} {vs : List V} (h : RC r vs H v) : RCD r vs H fun v' _ => v' = v := fun Q q => h H (Ex.refl H) Q fun H2 e2 => q v H2 e2 rfl
theorem RV.d (h : RV r x y H v) : RVD r x y H fun v' _ => v' = v := fun Q q => h H (Ex.refl H) Q fun H2 e2 => q v H2 e2 rfl

/-! ### statements -/
variable {D : Ends} {tu tw tz : TS} {g : TG}
theorem s_asgD {i : Nat} (h : EvD te σ H P) (k : ∀ v H1, Ex H H1 → P v H1 → D.nx (σ.set i (some v)) H1) : tAsg te (gName i) D σ H := h H (Ex.refl H) _ fun v H1 e p => k v H1 e p
theorem q_asgD {i : Nat} (h : EvD te σ H P) (k : ∀ v H1, Ex H H1 → P v H1 → tz D (σ.set i (some v)) H1) : tSeq (tAsg te (gName i)) tz D σ H := s_asgD (D := { D with nx := tz D }) h k
theorem s_retD (h : EvD te σ H P) (k : ∀ v H1, Ex H H1 → P v H1 → D.rt v H1) : tRet te D σ H := h H (Ex.refl H) _ k
theorem s_dropD (h : EvD te σ H P) (k : ∀ v H1, Ex H H1 → P v H1 → D.nx σ H1) : tDrop te D σ H := h H (Ex.refl H) _ fun v H1 e p => k v H1 e p
theorem q_dropD (h : EvD te σ H P) (k : ∀ v H1, Ex H H1 → P v H1 → tz D σ H1) : tSeq (tDrop te) tz D σ H := s_dropD (D := { D with nx := tz D }) h k
/-- xs.append(e), e any data -/
theorem s_appD {l : Addr} {xs : List V} (hl : H l = some (.lst xs)) (ha : Ev ta σ H (.ref l)) (h : EvD te σ H P) (hz : xs.length < 16000000) (k : ∀ v H1, Ex H H1 → P v H1 → D.nx σ (upd H1 l (.lst (xs ++ [v])))) :
    tDrop (tBM K "list" rAppend ta (tCons te tNil)) D σ H := ha H (Ex.refl H) _ fun H1 e1 =>
  ⟨Or.inl ⟨rfl, xs, sq_of (e1 l _ hl)⟩, h H1 e1 _ fun v H2 e2 p => ⟨l, xs, v, rfl, rfl, e2 l _ (e1 l _ hl), Nat.lt_of_lt_of_le hz (by decide), k v H2 (e1.trans e2) p⟩⟩
theorem q_appD {l : Addr} {xs : List V} (hl : H l = some (.lst xs)) (ha : Ev ta σ H (.ref l)) (h : EvD te σ H P) (hz : xs.length < 16000000) (k : ∀ v H1, Ex H H1 → P v H1 → tz D σ (upd H1 l (.lst (xs ++ [v])))) :
    tSeq (tDrop (tBM K "list" rAppend ta (tCons te tNil))) tz D σ H := s_appD (D := { D with nx := tz D }) hl ha h hz k
/-- xs.extend(e), e a new list -/
theorem s_extD {l : Addr} {xs : List V} (hl : H l = some (.lst xs)) (ha : Ev ta σ H (.ref l)) (h : EvD te σ H fun v H1 => ∃ b zs, v = .ref b ∧ H1 b = some (.lst zs) ∧ xs.length + zs.length ≤ 16000000 ∧ P v H1) (k : ∀ b zs H1, Ex H H1 → H1 b = some (.lst zs) → P (.ref b) H1 → D.nx σ (upd H1 l (.lst (xs ++ zs)))) :
    tDrop (tBM K "list" rExtend ta (tCons te tNil)) D σ H := ha H (Ex.refl H) _ fun H1 e1 =>
  ⟨Or.inl ⟨rfl, xs, sq_of (e1 l _ hl)⟩, h H1 e1 _ fun v H2 e2 p => by
    obtain ⟨b, zs, rfl, hb, hz, p⟩ := p
    exact ⟨l, b, xs, zs, rfl, rfl, e2 l _ (e1 l _ hl), hb, Nat.le_trans hz (by decide), k b zs H2 (e1.trans e2) hb p⟩⟩
end

/-! ### comprehensions -/
section
variable {K : PySem.W.Frag} {σ : L2.St} {H : Hp} {te : TE} {tt : TT} {α : Type} {R : PR α}
def givenD (n : Nat) (f : Nat → Bool) (d : Nat → α) : List α := ((List.range n).filter f).map d
theorem givenD_yes {n : Nat} {f : Nat → Bool} {d : Nat → α} (h : f n = true) : givenD (n + 1) f d = givenD n f d ++ [d n] := by
  unfold givenD
  rw [List.range_succ, List.filter_append, List.map_append, List.filter_cons, if_pos h] <;> rfl
theorem givenD_no {n : Nat} {f : Nat → Bool} {d : Nat → α} (h : f n = false) : givenD (n + 1) f d = givenD n f d := by
  unfold givenD
  rw [List.range_succ, List.filter_append, List.map_append, List.filter_cons, if_neg (by rw [h]; decide)]
  show _ ++ [] = _
  rw [List.append_nil]
theorem givenD_len (n : Nat) (f : Nat → Bool) (d : Nat → α) : (givenD n f d).length ≤ n := by
  unfold givenD
  rw [List.length_map]
  have h := List.length_filter_le f (List.range n)
  rw [List.length_range] at h
  exact h
/-- the list that is made: what is in it, so far -/
def CwD (R : PR α) (K : PySem.W.Frag) (H : Hp) (f : Nat → Bool) (d : Nat → α) (Dl : Addr) (i : Nat) (H' : Hp) : Prop := H Dl = none ∧ Ex H H' ∧ ∃ xs, H' Dl = some (.lst xs) ∧ All2 (R K H') xs (givenD i f d)
theorem cwD_turn (hR : Stab R) {H' : Hp} {f : Nat → Bool} {d : Nat → α} {Dl : Addr} {i : Nat} {σ2 : L2.St} (p : CwD R K H f d Dl i H') (hi : i < 50000) (ht : EvT tt σ2 H' (f i)) (he : f i = true → EvD te σ2 H' fun v H1 => R K H1 v (d i)) :
    tt σ2 H' fun b H3 => if b = true then te σ2 H3 fun y H4 => ∃ acc, H4 Dl = some (.lst acc) ∧ acc.length < sizeLine ∧ CwD R K H f d Dl (i + 1) (upd H4 Dl (.lst (acc ++ [y]))) else CwD R K H f d Dl (i + 1) H3 := by
  obtain ⟨p1, p2, xs, p3, p4⟩ := p
  refine ht H' (Ex.refl H') _ fun H3 e3 => ?_
  cases hf : f i with
  | true =>
    show te σ2 H3 fun y H4 => ∃ acc, H4 Dl = some (.lst acc) ∧ acc.length < sizeLine ∧ CwD R K H f d Dl (i + 1) (upd H4 Dl (.lst (acc ++ [y])))
    refine he hf H3 e3 _ fun v H4 e4 hv => ?_
    have hx := e4 Dl _ (e3 Dl _ p3)
    have e5 : Ex H' H4 := e3.trans e4
    have fx : Fix H4 (upd H4 Dl (.lst (xs ++ [v]))) := Fix.mutL hx
    refine ⟨xs, hx, sz_lt (by have := givenD_len i f d; have := Sc.All2.len p4; omega), p1, Ex.mut (p2.trans e5) p1, xs ++ [v], upd_same, ?_⟩
    rw [givenD_yes hf]
    exact All2.snoc (all2_st hR fx (all2_st hR (Fix.of e5) p4)) (hR _ _ _ _ _ fx hv)
  | false =>
    show CwD R K H f d Dl (i + 1) H3
    refine ⟨p1, p2.trans e3, xs, e3 Dl _ p3, ?_⟩
    rw [givenD_no hf]
    exact all2_st hR (Fix.of e3) p4
/-- over anything that walks -/
theorem evd_lcW {wi : TI} {g : TG} {vs : List Nat} {n : Nat} (hR : Stab R) (f : Nat → Bool) (d : Nat → α) (τ : Hp → Nat → V → L2.St) (JP : It → Hp → Prop) (Y : Nat → Hp → V → Hp → Prop)
    (hwi : ∀ H1, Ex H H1 → ∀ Rr : It → Hp → Prop, (∀ J H2, Ex H1 H2 → JP J H2 → Rr J H2) → wi σ H1 Rr) (hW : ∀ J H2, Ex H H2 → JP J H2 → Walk J n (fun H3 => Ex H2 H3) Y) (hn : n ≤ 40000)
    (hY : ∀ i x H1 H2, Ex H H1 → i < n → Y i H1 x H2 → Ex H1 H2 ∧ (∀ Q : L2.St → Hp → Prop, Q (τ H2 i x) H2 → g x (wipe σ vs) H2 Q) ∧ wipe (τ H2 i x) vs = wipe σ vs ∧ EvT tt (τ H2 i x) H2 (f i) ∧ (f i = true → EvD te (τ H2 i x) H2 fun v H3 => R K H3 v (d i))) :
    EvD (tLc wi g tt te vs) σ H fun v H1 => ∃ p, v = .ref p ∧ H p = none ∧ LsAt R K H1 p (givenD n f d) := fun H0 e Q q => hwi H0 e _ fun J H1 e1 hJ Dl hD =>
  lc_it (J := J) (n := n) (G := fun H3 => Ex H1 H3) (Y := Y) (hW J H1 (e.trans e1) hJ) (fun i H' => CwD R K H1 f d Dl i H') ⟨hD, Ex.new hD, [], upd_same, .nil⟩ (fun i H' _ p => p.2.1) (fun i x H2 H3 hi p y => by
    obtain ⟨y1, y2, y3, y4, y5⟩ := hY i x H2 H3 ((e.trans e1).trans p.2.1) hi y
    refine y2 _ ⟨y3, cwD_turn hR ?_ (by omega) y4 y5⟩
    obtain ⟨p1, p2, xs, p3, p4⟩ := p
    exact ⟨p1, p2.trans y1, xs, y1 Dl _ p3, all2_st hR (Fix.of y1) p4⟩) (fun H2 p => by
    obtain ⟨p1, p2, xs, p3, p4⟩ := p
    exact q (.ref Dl) H2 (e1.trans p2) ⟨Dl, rfl, fresh_back ((e.trans e1)) hD, xs, p3, p4⟩)
/-- over a list, the target a name -/
theorem evd_lcL {tl : TE} {j : Nat} {vs : List Nat} {xs : List V} (hR : Stab R) (f : Nat → Bool) (d : Nat → α) (hl : EvD tl σ H fun v H1 => ∃ a, v = .ref a ∧ SqL K H1 a xs) (hz : xs.length ≤ 40000) (hw : ∀ x, wipe ((wipe σ vs).set j (some x)) vs = wipe σ vs)
    (ht : ∀ i x H1, Ex H H1 → xs[i]? = some x → EvT tt ((wipe σ vs).set j (some x)) H1 (f i)) (he : ∀ i x H1, Ex H H1 → xs[i]? = some x → f i = true → EvD te ((wipe σ vs).set j (some x)) H1 fun v H3 => R K H3 v (d i)) :
    EvD (tLc (iList K tl) (gName j) tt te vs) σ H fun v H1 => ∃ p, v = .ref p ∧ H p = none ∧ LsAt R K H1 p (givenD xs.length f d) :=
  evd_lcW (R := R) (te := te) (n := xs.length) hR f d (fun _ _ x => (wipe σ vs).set j (some x)) (fun J H1 => ∃ a, J = Itl K a ∧ SqL K H1 a xs) (YAt xs)
    (fun H1 e Rr k => hl H1 e _ fun v H2 e2 p => by
      obtain ⟨a, rfl, ha⟩ := p
      exact ⟨a, rfl, ⟨xs, ha⟩, k _ H2 e2 ⟨a, rfl, ha⟩⟩)
    (fun J H2 e hJ => by
      obtain ⟨a, rfl, ha⟩ := hJ
      exact walk_list.mono (fun H3 e3 => ex_l e3 ha) fun _ _ _ _ _ _ y => y) hz
    (fun i x H1 H2 e hi y => by
      obtain ⟨rfl, hx⟩ := y
      exact ⟨Ex.refl _, fun Q q => q, hw x, ht i x H2 e hx, fun hf => he i x H2 e hx hf⟩)
/-- over a tuple -/
theorem evd_lcT {tl : TE} {j : Nat} {vs : List Nat} {xs : List V} (hR : Stab R) (f : Nat → Bool) (d : Nat → α) (hl : EvD tl σ H fun v H1 => ∃ a, v = .ref a ∧ SqT K H1 a xs) (hz : xs.length ≤ 40000) (hw : ∀ x, wipe ((wipe σ vs).set j (some x)) vs = wipe σ vs)
    (ht : ∀ i x H1, Ex H H1 → xs[i]? = some x → EvT tt ((wipe σ vs).set j (some x)) H1 (f i)) (he : ∀ i x H1, Ex H H1 → xs[i]? = some x → f i = true → EvD te ((wipe σ vs).set j (some x)) H1 fun v H3 => R K H3 v (d i)) :
    EvD (tLc (iTup K tl) (gName j) tt te vs) σ H fun v H1 => ∃ p, v = .ref p ∧ H p = none ∧ LsAt R K H1 p (givenD xs.length f d) :=
  evd_lcW (R := R) (te := te) (n := xs.length) hR f d (fun _ _ x => (wipe σ vs).set j (some x)) (fun J H1 => ∃ a, J = Itt K a ∧ SqT K H1 a xs) (YAt xs)
    (fun H1 e Rr k => hl H1 e _ fun v H2 e2 p => by
      obtain ⟨a, rfl, ha⟩ := p
      exact ⟨a, rfl, ⟨xs, ha⟩, k _ H2 e2 ⟨a, rfl, ha⟩⟩)
    (fun J H2 e hJ => by
      obtain ⟨a, rfl, ha⟩ := hJ
      exact walk_tup.mono (fun H3 e3 => ex_t e3 ha) fun _ _ _ _ _ _ y => y) hz
    (fun i x H1 H2 e hi y => by
      obtain ⟨rfl, hx⟩ := y
      exact ⟨Ex.refl _, fun Q q => q, hw x, ht i x H2 e hx, fun hf => he i x H2 e hx hf⟩)
/-- over range(n) -/
theorem evd_lcR {ta : TA} {j : Nat} {vs : List Nat} {n : Nat} (hR : Stab R) (f : Nat → Bool) (d : Nat → α) (hl : EvA ta σ H [nV n]) (hz : n ≤ 40000) (hw : ∀ x, wipe ((wipe σ vs).set j (some x)) vs = wipe σ vs)
    (ht : ∀ i H1, Ex H H1 → i < n → EvT tt ((wipe σ vs).set j (some (nV i))) H1 (f i)) (he : ∀ i H1, Ex H H1 → i < n → f i = true → EvD te ((wipe σ vs).set j (some (nV i))) H1 fun v H3 => R K H3 v (d i)) :
    EvD (tLc (iRng1 ta) (gName j) tt te vs) σ H fun v H1 => ∃ p, v = .ref p ∧ H p = none ∧ LsAt R K H1 p (givenD n f d) :=
  evd_lcW (R := R) (te := te) (n := n) hR f d (fun _ i _ => (wipe σ vs).set j (some (nV i))) (fun J _ => J = Itr 0 n) (YFn fun i => .int (0 + (i : Int)))
    (fun H1 e Rr k => hl H1 e _ fun H2 e2 => ⟨(n : Int), rfl, by omega, by omega, k _ H2 e2 (by rw [Int.toNat_natCast])⟩)
    (fun J H2 e hJ => by
      subst hJ
      exact walk_range.mono (fun _ _ => trivial) fun _ _ _ _ _ _ y => y) hz
    (fun i x H1 H2 e hi y => by
      obtain ⟨rfl, rfl⟩ := y
      refine ⟨Ex.refl _, fun Q q => ?_, hw _, ht i H2 e hi, fun hf => he i H2 e hi hf⟩
      show Q ((wipe σ vs).set j (some (.int (0 + (i : Int))))) H2
      rw [Int.zero_add]
      exact q)
/-- over enumerate(list), the targets two names -/
theorem evd_lcE {ta : TA} {j k : Nat} {vs : List Nat} {xs : List V} (hR : Stab R) (f : Nat → Bool) (d : Nat → α) (hl : EvAD ta σ H fun us H1 => ∃ a, us = [.ref a] ∧ SqL K H1 a xs) (hz : xs.length ≤ 40000) (hw : ∀ x y, wipe (((wipe σ vs).set j (some x)).set k (some y)) vs = wipe σ vs)
    (ht : ∀ i x H1, Ex H H1 → xs[i]? = some x → EvT tt (((wipe σ vs).set j (some (nV i))).set k (some x)) H1 (f i)) (he : ∀ i x H1, Ex H H1 → xs[i]? = some x → f i = true → EvD te (((wipe σ vs).set j (some (nV i))).set k (some x)) H1 fun v H3 => R K H3 v (d i)) :
    EvD (tLc (iEnum K ta) (gTup K 2 (gCons (gName j) (gCons (gName k) gNil))) tt te vs) σ H fun v H1 => ∃ p, v = .ref p ∧ H p = none ∧ LsAt R K H1 p (givenD xs.length f d) :=
  evd_lcW (R := R) (te := te) (n := xs.length) hR f d (fun _ i x => ((wipe σ vs).set j (some (nV i))).set k (some (xs.getD i .non))) (fun J H1 => ∃ a, J = Ite K a ∧ SqL K H1 a xs) (YPair (fun i => some (.int (i : Nat))) (fun i => xs[i]?))
    (fun H1 e Rr kk => hl H1 e _ fun v H2 e2 p => by
      obtain ⟨a, rfl, ha⟩ := p
      exact ⟨a, xs, rfl, ha, kk _ H2 e2 ⟨a, rfl, ha⟩⟩)
    (fun J H2 e hJ => by
      obtain ⟨a, rfl, ha⟩ := hJ
      exact walk_enum.mono (fun H3 e3 => ex_l e3 ha) fun _ _ _ _ _ _ y => y) hz
    (fun i x H1 H2 e hi y => by
      obtain ⟨T, a, b, rfl, hT, rfl, h1, h2⟩ := y
      cases h1
      have hb : xs.getD i .non = b := by
        rw [List.getD_eq_getElem?_getD, show xs[i]? = some b from h2]
        rfl
      have e2 : Ex H (upd H1 T (.tup [.int (i : Nat), b])) := e.trans (Ex.new hT)
      rw [hb]
      exact ⟨Ex.new hT, fun Q q => ⟨T, [.int (i : Nat), b], rfl, st_of upd_same, rfl, _, _, rfl, _, _, rfl, rfl, q⟩, hw _ _, ht i b _ e2 h2, fun hf => he i b _ e2 h2 hf⟩)
/-- over a list of pairs, the targets two names -/
theorem evd_lcP {tl : TE} {j k : Nat} {vs : List Nat} {xs : List V} {ys zs : Nat → V} (hR : Stab R) (f : Nat → Bool) (d : Nat → α) (hl : EvD tl σ H fun v H1 => ∃ a, v = .ref a ∧ SqL K H1 a xs ∧ ∀ i x, xs[i]? = some x → ∃ T, x = .ref T ∧ SqT K H1 T [ys i, zs i]) (hz : xs.length ≤ 40000)
    (hw : ∀ x y, wipe (((wipe σ vs).set j (some x)).set k (some y)) vs = wipe σ vs)
    (ht : ∀ i H1, Ex H H1 → i < xs.length → EvT tt (((wipe σ vs).set j (some (ys i))).set k (some (zs i))) H1 (f i)) (he : ∀ i H1, Ex H H1 → i < xs.length → f i = true → EvD te (((wipe σ vs).set j (some (ys i))).set k (some (zs i))) H1 fun v H3 => R K H3 v (d i)) :
    EvD (tLc (iList K tl) (gTup K 2 (gCons (gName j) (gCons (gName k) gNil))) tt te vs) σ H fun v H1 => ∃ p, v = .ref p ∧ H p = none ∧ LsAt R K H1 p (givenD xs.length f d) :=
  evd_lcW (R := R) (te := te) (n := xs.length) hR f d (fun _ i x => ((wipe σ vs).set j (some (ys i))).set k (some (zs i))) (fun J H1 => ∃ a, J = Itl K a ∧ SqL K H1 a xs ∧ ∀ i x, xs[i]? = some x → ∃ T, x = .ref T ∧ SqT K H1 T [ys i, zs i])
    (fun i H1 x H2 => H2 = H1 ∧ ∃ T, x = .ref T ∧ SqT K H1 T [ys i, zs i])
    (fun H1 e Rr kk => hl H1 e _ fun v H2 e2 p => by
      obtain ⟨a, rfl, ha, hb⟩ := p
      exact ⟨a, rfl, ⟨xs, ha⟩, kk _ H2 e2 ⟨a, rfl, ha, hb⟩⟩)
    (fun J H2 e hJ => by
      obtain ⟨a, rfl, ha, hb⟩ := hJ
      exact walk_list.mono (fun H3 e3 => ex_l e3 ha) fun i H3 x H4 hi e3 y => ⟨y.1, by
        obtain ⟨T, e4, h4⟩ := hb i x y.2
        exact ⟨T, e4, ex_t e3 h4⟩⟩) hz
    (fun i x H1 H2 e hi y => by
      obtain ⟨rfl, T, rfl, hT⟩ := y
      exact ⟨Ex.refl _, fun Q q => ⟨T, _, rfl, hT, rfl, _, _, rfl, _, _, rfl, rfl, q⟩, hw _ _, ht i H2 e hi, fun hf => he i H2 e hi hf⟩)
theorem et_yes : EvT tYes σ H true := fun H1 _ _ q => q H1 (Ex.refl H1)
end
end Sk
/-! BN (printed by gen.py): where the defs stand, their names by slot. -/
namespace Sk
open PySem L2 Evl
def top (i : Nat) : Stmt := PySem.Challenge.pw_scenecues_s01_answers.main.body.getD i (.Pass ⟨0, 0, 0, 0⟩)
abbrev s_are_compatible : Stmt := top 2
abbrev N_are_compatible : List Str := ["ropes", "one", "other", "far"]
theorem sc_are_compatible : FnScope N_are_compatible ["ropes", "one", "other"] (defScope s_are_compatible) := ⟨rfl, rfl, rfl, by decide +kernel, rfl, by decide +kernel, by decide +kernel⟩
abbrev s_clashes_of : Stmt := top 3
abbrev N_clashes_of : List Str := ["ropes", "movements", "found", "k", "one", "j", "other"]
theorem sc_clashes_of : FnScope N_clashes_of ["ropes", "movements"] (defScope s_clashes_of) := ⟨rfl, rfl, rfl, by decide +kernel, rfl, by decide +kernel, by decide +kernel⟩
abbrev s_crews_of : Stmt := top 4
abbrev N_crews_of : List Str := ["ropes", "movements", "movement"]
theorem sc_crews_of : FnScope N_crews_of ["ropes", "movements"] (defScope s_crews_of) := ⟨rfl, rfl, rfl, by decide +kernel, rfl, by decide +kernel, by decide +kernel⟩
abbrev s_are_few : Stmt := top 5
abbrev N_are_few : List Str := ["ropes", "movements"]
theorem sc_are_few : FnScope N_are_few ["ropes", "movements"] (defScope s_are_few) := ⟨rfl, rfl, rfl, by decide +kernel, rfl, by decide +kernel, by decide +kernel⟩
abbrev s_spots_of : Stmt := top 6
abbrev N_spots_of : List Str := ["crews", "found", "movement", "many"]
theorem sc_spots_of : FnScope N_spots_of ["crews"] (defScope s_spots_of) := ⟨rfl, rfl, rfl, by decide +kernel, rfl, by decide +kernel, by decide +kernel⟩
abbrev s_can_take : Stmt := top 7
abbrev N_can_take : List Str := ["spots", "clashes", "plan", "hand", "movement", "own_ones", "place", "other"]
theorem sc_can_take : FnScope N_can_take ["spots", "clashes", "plan", "hand"] (defScope s_can_take) := ⟨rfl, rfl, rfl, by decide +kernel, rfl, by decide +kernel, by decide +kernel⟩
abbrev s_completed : Stmt := top 8
abbrev N_completed : List Str := ["spots", "clashes", "plan", "most", "used", "hand", "found"]
theorem sc_completed : FnScope N_completed ["spots", "clashes", "plan", "most"] (defScope s_completed) := ⟨rfl, rfl, rfl, by decide +kernel, rfl, by decide +kernel, by decide +kernel⟩
abbrev s_plan_within : Stmt := top 9
abbrev N_plan_within : List Str := ["ropes", "movements", "most"]
theorem sc_plan_within : FnScope N_plan_within ["ropes", "movements", "most"] (defScope s_plan_within) := ⟨rfl, rfl, rfl, by decide +kernel, rfl, by decide +kernel, by decide +kernel⟩
abbrev s_plan_of : Stmt := top 10
abbrev N_plan_of : List Str := ["ropes", "movements", "found", "most"]
theorem sc_plan_of : FnScope N_plan_of ["ropes", "movements"] (defScope s_plan_of) := ⟨rfl, rfl, rfl, by decide +kernel, rfl, by decide +kernel, by decide +kernel⟩
abbrev s_hands_in : Stmt := top 11
abbrev N_hands_in : List Str := ["plan"]
theorem sc_hands_in : FnScope N_hands_in ["plan"] (defScope s_hands_in) := ⟨rfl, rfl, rfl, by decide +kernel, rfl, by decide +kernel, by decide +kernel⟩
abbrev s_are_feasible : Stmt := top 12
abbrev N_are_feasible : List Str := ["ropes", "movements", "hands"]
theorem sc_are_feasible : FnScope N_are_feasible ["ropes", "movements", "hands"] (defScope s_are_feasible) := ⟨rfl, rfl, rfl, by decide +kernel, rfl, by decide +kernel, by decide +kernel⟩
abbrev s_clashing_sets : Stmt := top 13
abbrev N_clashing_sets : List Str := ["clashes", "found", "movement", "more", "some", "other"]
theorem sc_clashing_sets : FnScope N_clashing_sets ["clashes"] (defScope s_clashing_sets) := ⟨rfl, rfl, rfl, by decide +kernel, rfl, by decide +kernel, by decide +kernel⟩
abbrev s_rank_of : Stmt := top 14
abbrev N_rank_of : List Str := ["some", "crews", "flags", "movement"]
theorem sc_rank_of : FnScope N_rank_of ["some", "crews"] (defScope s_rank_of) := ⟨rfl, rfl, rfl, by decide +kernel, rfl, by decide +kernel, by decide +kernel⟩
abbrev s_bottleneck_of : Stmt := top 15
abbrev N_bottleneck_of : List Str := ["ropes", "movements", "crews", "flags", "movement", "flag", "some"]
theorem sc_bottleneck_of : FnScope N_bottleneck_of ["ropes", "movements"] (defScope s_bottleneck_of) := ⟨rfl, rfl, rfl, by decide +kernel, rfl, by decide +kernel, by decide +kernel⟩
abbrev s_sign_of : Stmt := top 21
abbrev N_sign_of : List Str := ["number"]
theorem sc_sign_of : FnScope N_sign_of ["number"] (defScope s_sign_of) := ⟨rfl, rfl, rfl, by decide +kernel, rfl, by decide +kernel, by decide +kernel⟩
abbrev s_is_pair_violated : Stmt := top 22
abbrev N_is_pair_violated : List Str := ["pair", "positions"]
theorem sc_is_pair_violated : FnScope N_is_pair_violated ["pair", "positions"] (defScope s_is_pair_violated) := ⟨rfl, rfl, rfl, by decide +kernel, rfl, by decide +kernel, by decide +kernel⟩
abbrev s_first_violated : Stmt := top 23
abbrev N_first_violated : List Str := ["pairs", "positions", "number", "pair"]
theorem sc_first_violated : FnScope N_first_violated ["pairs", "positions"] (defScope s_first_violated) := ⟨rfl, rfl, rfl, by decide +kernel, rfl, by decide +kernel, by decide +kernel⟩
abbrev s_Cue___init__ : Stmt := inClass (top 24) 0
abbrev N_Cue___init__ : List Str := ["self", "moves", "event", "leader", "delay"]
theorem sc_Cue___init__ : FnScope N_Cue___init__ ["self", "moves", "event", "leader", "delay"] (defScope s_Cue___init__) := ⟨rfl, rfl, rfl, by decide +kernel, rfl, by decide +kernel, by decide +kernel⟩
abbrev s_Stage___init__ : Stmt := inClass (top 25) 0
abbrev N_Stage___init__ : List Str := ["self", "positions", "position"]
theorem sc_Stage___init__ : FnScope N_Stage___init__ ["self", "positions"] (defScope s_Stage___init__) := ⟨rfl, rfl, rfl, by decide +kernel, rfl, by decide +kernel, by decide +kernel⟩
abbrev s_Stage_copy : Stmt := inClass (top 25) 1
abbrev N_Stage_copy : List Str := ["self", "found"]
theorem sc_Stage_copy : FnScope N_Stage_copy ["self"] (defScope s_Stage_copy) := ⟨rfl, rfl, rfl, by decide +kernel, rfl, by decide +kernel, by decide +kernel⟩
abbrev s_Stage_bars : Stmt := inClass (top 25) 2
abbrev N_Stage_bars : List Str := ["self"]
theorem sc_Stage_bars : FnScope N_Stage_bars ["self"] (defScope s_Stage_bars) := ⟨rfl, rfl, rfl, by decide +kernel, rfl, by decide +kernel, by decide +kernel⟩
abbrev s_Stage_add_cue : Stmt := inClass (top 25) 3
abbrev N_Stage_add_cue : List Str := ["self", "cue"]
theorem sc_Stage_add_cue : FnScope N_Stage_add_cue ["self", "cue"] (defScope s_Stage_add_cue) := ⟨rfl, rfl, rfl, by decide +kernel, rfl, by decide +kernel, by decide +kernel⟩
abbrev s_Stage_has_started : Stmt := inClass (top 25) 4
abbrev N_Stage_has_started : List Str := ["self", "number"]
theorem sc_Stage_has_started : FnScope N_Stage_has_started ["self", "number"] (defScope s_Stage_has_started) := ⟨rfl, rfl, rfl, by decide +kernel, rfl, by decide +kernel, by decide +kernel⟩
abbrev s_Stage_many_started : Stmt := inClass (top 25) 5
abbrev N_Stage_many_started : List Str := ["self", "second"]
theorem sc_Stage_many_started : FnScope N_Stage_many_started ["self"] (defScope s_Stage_many_started) := ⟨rfl, rfl, rfl, by decide +kernel, rfl, by decide +kernel, by decide +kernel⟩
abbrev s_Stage_many_moving : Stmt := inClass (top 25) 6
abbrev N_Stage_many_moving : List Str := ["self", "bar"]
theorem sc_Stage_many_moving : FnScope N_Stage_many_moving ["self"] (defScope s_Stage_many_moving) := ⟨rfl, rfl, rfl, by decide +kernel, rfl, by decide +kernel, by decide +kernel⟩
abbrev s_Stage_move_bars : Stmt := inClass (top 25) 7
abbrev N_Stage_move_bars : List Str := ["self", "bar"]
theorem sc_Stage_move_bars : FnScope N_Stage_move_bars ["self"] (defScope s_Stage_move_bars) := ⟨rfl, rfl, rfl, by decide +kernel, rfl, by decide +kernel, by decide +kernel⟩
abbrev s_Stage_has_reached : Stmt := inClass (top 25) 8
abbrev N_Stage_has_reached : List Str := ["self", "number", "own_ones", "bar"]
theorem sc_Stage_has_reached : FnScope N_Stage_has_reached ["self", "number"] (defScope s_Stage_has_reached) := ⟨rfl, rfl, rfl, by decide +kernel, rfl, by decide +kernel, by decide +kernel⟩
abbrev s_Stage_note_ends : Stmt := inClass (top 25) 9
abbrev N_Stage_note_ends : List Str := ["self", "number"]
theorem sc_Stage_note_ends : FnScope N_Stage_note_ends ["self"] (defScope s_Stage_note_ends) := ⟨rfl, rfl, rfl, by decide +kernel, rfl, by decide +kernel, by decide +kernel⟩
abbrev s_Stage_start : Stmt := inClass (top 25) 10
abbrev N_Stage_start : List Str := ["self", "number", "bar", "target"]
theorem sc_Stage_start : FnScope N_Stage_start ["self", "number"] (defScope s_Stage_start) := ⟨rfl, rfl, rfl, by decide +kernel, rfl, by decide +kernel, by decide +kernel⟩
abbrev s_Stage_due_of : Stmt := inClass (top 25) 11
abbrev N_Stage_due_of : List Str := ["self", "number", "cue", "begun"]
theorem sc_Stage_due_of : FnScope N_Stage_due_of ["self", "number"] (defScope s_Stage_due_of) := ⟨rfl, rfl, rfl, by decide +kernel, rfl, by decide +kernel, by decide +kernel⟩
abbrev s_Stage_start_followers : Stmt := inClass (top 25) 12
abbrev N_Stage_start_followers : List Str := ["self", "number"]
theorem sc_Stage_start_followers : FnScope N_Stage_start_followers ["self"] (defScope s_Stage_start_followers) := ⟨rfl, rfl, rfl, by decide +kernel, rfl, by decide +kernel, by decide +kernel⟩
abbrev s_Stage_call : Stmt := inClass (top 25) 13
abbrev N_Stage_call : List Str := ["self", "number"]
theorem sc_Stage_call : FnScope N_Stage_call ["self", "number"] (defScope s_Stage_call) := ⟨rfl, rfl, rfl, by decide +kernel, rfl, by decide +kernel, by decide +kernel⟩
abbrev s_Stage_pass_second : Stmt := inClass (top 25) 14
abbrev N_Stage_pass_second : List Str := ["self"]
theorem sc_Stage_pass_second : FnScope N_Stage_pass_second ["self"] (defScope s_Stage_pass_second) := ⟨rfl, rfl, rfl, by decide +kernel, rfl, by decide +kernel, by decide +kernel⟩
abbrev s_Stage_is_to_come : Stmt := inClass (top 25) 15
abbrev N_Stage_is_to_come : List Str := ["self", "number", "cue"]
theorem sc_Stage_is_to_come : FnScope N_Stage_is_to_come ["self", "number"] (defScope s_Stage_is_to_come) := ⟨rfl, rfl, rfl, by decide +kernel, rfl, by decide +kernel, by decide +kernel⟩
abbrev s_Stage_is_quiet : Stmt := inClass (top 25) 16
abbrev N_Stage_is_quiet : List Str := ["self", "number"]
theorem sc_Stage_is_quiet : FnScope N_Stage_is_quiet ["self"] (defScope s_Stage_is_quiet) := ⟨rfl, rfl, rfl, by decide +kernel, rfl, by decide +kernel, by decide +kernel⟩
abbrev s_frame_of : Stmt := top 27
abbrev N_frame_of : List Str := ["stage"]
theorem sc_frame_of : FnScope N_frame_of ["stage"] (defScope s_frame_of) := ⟨rfl, rfl, rfl, by decide +kernel, rfl, by decide +kernel, by decide +kernel⟩
abbrev s_film_from : Stmt := top 28
abbrev N_film_from : List Str := ["stage", "here", "found"]
theorem sc_film_from : FnScope N_film_from ["stage"] (defScope s_film_from) := ⟨rfl, rfl, rfl, by decide +kernel, rfl, by decide +kernel, by decide +kernel⟩
abbrev s_frame_at : Stmt := top 29
abbrev N_frame_at : List Str := ["film", "time"]
theorem sc_frame_at : FnScope N_frame_at ["film", "time"] (defScope s_frame_at) := ⟨rfl, rfl, rfl, by decide +kernel, rfl, by decide +kernel, by decide +kernel⟩
abbrev s_many_moving_in : Stmt := top 30
abbrev N_many_moving_in : List Str := ["frame", "positions", "targets", "bar"]
theorem sc_many_moving_in : FnScope N_many_moving_in ["frame"] (defScope s_many_moving_in) := ⟨rfl, rfl, rfl, by decide +kernel, rfl, by decide +kernel, by decide +kernel⟩
abbrev s_violation_in : Stmt := top 31
abbrev N_violation_in : List Str := ["film", "pairs", "time", "frame", "number"]
theorem sc_violation_in : FnScope N_violation_in ["film", "pairs"] (defScope s_violation_in) := ⟨rfl, rfl, rfl, by decide +kernel, rfl, by decide +kernel, by decide +kernel⟩
abbrev s_directions_of : Stmt := top 32
abbrev N_directions_of : List Str := ["film", "bar", "positions", "targets"]
theorem sc_directions_of : FnScope N_directions_of ["film", "bar"] (defScope s_directions_of) := ⟨rfl, rfl, rfl, by decide +kernel, rfl, by decide +kernel, by decide +kernel⟩
abbrev s_runs_in : Stmt := top 33
abbrev N_runs_in : List Str := ["directions", "found", "begin", "time"]
theorem sc_runs_in : FnScope N_runs_in ["directions"] (defScope s_runs_in) := ⟨rfl, rfl, rfl, by decide +kernel, rfl, by decide +kernel, by decide +kernel⟩
abbrev s_movements_in : Stmt := top 34
abbrev N_movements_in : List Str := ["film", "found", "bar", "begin", "end"]
theorem sc_movements_in : FnScope N_movements_in ["film"] (defScope s_movements_in) := ⟨rfl, rfl, rfl, by decide +kernel, rfl, by decide +kernel, by decide +kernel⟩
abbrev s_Course___init__ : Stmt := inClass (top 37) 0
abbrev N_Course___init__ : List Str := ["self", "frames", "stage"]
theorem sc_Course___init__ : FnScope N_Course___init__ ["self", "frames", "stage"] (defScope s_Course___init__) := ⟨rfl, rfl, rfl, by decide +kernel, rfl, by decide +kernel, by decide +kernel⟩
abbrev s_Course_time : Stmt := inClass (top 37) 1
abbrev N_Course_time : List Str := ["self"]
theorem sc_Course_time : FnScope N_Course_time ["self"] (defScope s_Course_time) := ⟨rfl, rfl, rfl, by decide +kernel, rfl, by decide +kernel, by decide +kernel⟩
abbrev s_Course_whole_film : Stmt := inClass (top 37) 2
abbrev N_Course_whole_film : List Str := ["self"]
theorem sc_Course_whole_film : FnScope N_Course_whole_film ["self"] (defScope s_Course_whole_film) := ⟨rfl, rfl, rfl, by decide +kernel, rfl, by decide +kernel, by decide +kernel⟩
abbrev s_called_in : Stmt := top 38
abbrev N_called_in : List Str := ["course", "cue", "later"]
theorem sc_called_in : FnScope N_called_in ["course", "cue"] (defScope s_called_in) := ⟨rfl, rfl, rfl, by decide +kernel, rfl, by decide +kernel, by decide +kernel⟩
abbrev s_second_later : Stmt := top 39
abbrev N_second_later : List Str := ["course", "later"]
theorem sc_second_later : FnScope N_second_later ["course"] (defScope s_second_later) := ⟨rfl, rfl, rfl, by decide +kernel, rfl, by decide +kernel, by decide +kernel⟩
abbrev s_is_safe_now : Stmt := top 40
abbrev N_is_safe_now : List Str := ["course", "hands", "rest"]
theorem sc_is_safe_now : FnScope N_is_safe_now ["course", "hands"] (defScope s_is_safe_now) := ⟨rfl, rfl, rfl, by decide +kernel, rfl, by decide +kernel, by decide +kernel⟩
abbrev s_first_safe : Stmt := top 41
abbrev N_first_safe : List Str := ["course", "cue", "hands", "here", "quiet_ones", "later"]
theorem sc_first_safe : FnScope N_first_safe ["course", "cue", "hands"] (defScope s_first_safe) := ⟨rfl, rfl, rfl, by decide +kernel, rfl, by decide +kernel, by decide +kernel⟩
abbrev s_scheduled : Stmt := top 42
abbrev N_scheduled : List Str := ["stage", "cues", "hands", "here", "times", "cue"]
theorem sc_scheduled : FnScope N_scheduled ["stage", "cues", "hands"] (defScope s_scheduled) := ⟨rfl, rfl, rfl, by decide +kernel, rfl, by decide +kernel, by decide +kernel⟩
abbrev s_Refused___init__ : Stmt := inClass (top 61) 0
abbrev N_Refused___init__ : List Str := ["self", "code"]
theorem sc_Refused___init__ : FnScope N_Refused___init__ ["self", "code"] (defScope s_Refused___init__) := ⟨rfl, rfl, rfl, by decide +kernel, rfl, by decide +kernel, by decide +kernel⟩
abbrev s_want : Stmt := top 62
abbrev N_want : List Str := ["is_so", "code"]
theorem sc_want : FnScope N_want ["is_so", "code"] (defScope s_want) := ⟨rfl, rfl, rfl, by decide +kernel, rfl, by decide +kernel, by decide +kernel⟩
abbrev s_listed : Stmt := top 63
abbrev N_listed : List Str := ["row"]
theorem sc_listed : FnScope N_listed ["row"] (defScope s_listed) := ⟨rfl, rfl, rfl, by decide +kernel, rfl, by decide +kernel, by decide +kernel⟩
abbrev s_joined : Stmt := top 64
abbrev N_joined : List Str := ["rows", "found", "row"]
theorem sc_joined : FnScope N_joined ["rows"] (defScope s_joined) := ⟨rfl, rfl, rfl, by decide +kernel, rfl, by decide +kernel, by decide +kernel⟩
abbrev s_are_unlike : Stmt := top 65
abbrev N_are_unlike : List Str := ["row"]
theorem sc_are_unlike : FnScope N_are_unlike ["row"] (defScope s_are_unlike) := ⟨rfl, rfl, rfl, by decide +kernel, rfl, by decide +kernel, by decide +kernel⟩
abbrev s_moves_of : Stmt := top 66
abbrev N_moves_of : List Str := ["row", "k"]
theorem sc_moves_of : FnScope N_moves_of ["row"] (defScope s_moves_of) := ⟨rfl, rfl, rfl, by decide +kernel, rfl, by decide +kernel, by decide +kernel⟩
abbrev s_are_moves : Stmt := top 67
abbrev N_are_moves : List Str := ["stage", "row", "moves", "bar", "target"]
theorem sc_are_moves : FnScope N_are_moves ["stage", "row"] (defScope s_are_moves) := ⟨rfl, rfl, rfl, by decide +kernel, rfl, by decide +kernel, by decide +kernel⟩
abbrev s_Loft___init__ : Stmt := inClass (top 68) 0
abbrev N_Loft___init__ : List Str := ["self"]
theorem sc_Loft___init__ : FnScope N_Loft___init__ ["self"] (defScope s_Loft___init__) := ⟨rfl, rfl, rfl, by decide +kernel, rfl, by decide +kernel, by decide +kernel⟩
abbrev s_Loft_want_bar : Stmt := inClass (top 68) 1
abbrev N_Loft_want_bar : List Str := ["self", "bar"]
theorem sc_Loft_want_bar : FnScope N_Loft_want_bar ["self", "bar"] (defScope s_Loft_want_bar) := ⟨rfl, rfl, rfl, by decide +kernel, rfl, by decide +kernel, by decide +kernel⟩
abbrev s_Loft_want_cue : Stmt := inClass (top 68) 2
abbrev N_Loft_want_cue : List Str := ["self", "cue"]
theorem sc_Loft_want_cue : FnScope N_Loft_want_cue ["self", "cue"] (defScope s_Loft_want_cue) := ⟨rfl, rfl, rfl, by decide +kernel, rfl, by decide +kernel, by decide +kernel⟩
abbrev s_Loft_want_none_started : Stmt := inClass (top 68) 3
abbrev N_Loft_want_none_started : List Str := ["self"]
theorem sc_Loft_want_none_started : FnScope N_Loft_want_none_started ["self"] (defScope s_Loft_want_none_started) := ⟨rfl, rfl, rfl, by decide +kernel, rfl, by decide +kernel, by decide +kernel⟩
abbrev s_Loft_begin : Stmt := inClass (top 68) 4
abbrev N_Loft_begin : List Str := ["self", "row", "position"]
theorem sc_Loft_begin : FnScope N_Loft_begin ["self", "row"] (defScope s_Loft_begin) := ⟨rfl, rfl, rfl, by decide +kernel, rfl, by decide +kernel, by decide +kernel⟩
abbrev s_Loft_set_rope : Stmt := inClass (top 68) 5
abbrev N_Loft_set_rope : List Str := ["self", "bar", "position", "crew", "place", "own_crew"]
theorem sc_Loft_set_rope : FnScope N_Loft_set_rope ["self", "bar", "position", "crew"] (defScope s_Loft_set_rope) := ⟨rfl, rfl, rfl, by decide +kernel, rfl, by decide +kernel, by decide +kernel⟩
abbrev s_Loft_add_pair : Stmt := inClass (top 68) 6
abbrev N_Loft_add_pair : List Str := ["self", "bar", "other", "clearance", "pair"]
theorem sc_Loft_add_pair : FnScope N_Loft_add_pair ["self", "bar", "other", "clearance"] (defScope s_Loft_add_pair) := ⟨rfl, rfl, rfl, by decide +kernel, rfl, by decide +kernel, by decide +kernel⟩
abbrev s_Loft_put_cue : Stmt := inClass (top 68) 7
abbrev N_Loft_put_cue : List Str := ["self", "event", "leader", "delay", "row"]
theorem sc_Loft_put_cue : FnScope N_Loft_put_cue ["self", "event", "leader", "delay", "row"] (defScope s_Loft_put_cue) := ⟨rfl, rfl, rfl, by decide +kernel, rfl, by decide +kernel, by decide +kernel⟩
abbrev s_Loft_add_cue : Stmt := inClass (top 68) 8
abbrev N_Loft_add_cue : List Str := ["self", "row"]
theorem sc_Loft_add_cue : FnScope N_Loft_add_cue ["self", "row"] (defScope s_Loft_add_cue) := ⟨rfl, rfl, rfl, by decide +kernel, rfl, by decide +kernel, by decide +kernel⟩
abbrev s_Loft_add_follow : Stmt := inClass (top 68) 9
abbrev N_Loft_add_follow : List Str := ["self", "event", "cue", "delay", "row"]
theorem sc_Loft_add_follow : FnScope N_Loft_add_follow ["self", "event", "cue", "delay", "row"] (defScope s_Loft_add_follow) := ⟨rfl, rfl, rfl, by decide +kernel, rfl, by decide +kernel, by decide +kernel⟩
abbrev s_Loft_call : Stmt := inClass (top 68) 10
abbrev N_Loft_call : List Str := ["self", "cue"]
theorem sc_Loft_call : FnScope N_Loft_call ["self", "cue"] (defScope s_Loft_call) := ⟨rfl, rfl, rfl, by decide +kernel, rfl, by decide +kernel, by decide +kernel⟩
abbrev s_Loft_wait : Stmt := inClass (top 68) 11
abbrev N_Loft_wait : List Str := ["self", "many", "turn"]
theorem sc_Loft_wait : FnScope N_Loft_wait ["self", "many"] (defScope s_Loft_wait) := ⟨rfl, rfl, rfl, by decide +kernel, rfl, by decide +kernel, by decide +kernel⟩
abbrev s_Loft_positions_at : Stmt := inClass (top 68) 12
abbrev N_Loft_positions_at : List Str := ["self", "time", "frame"]
theorem sc_Loft_positions_at : FnScope N_Loft_positions_at ["self", "time"] (defScope s_Loft_positions_at) := ⟨rfl, rfl, rfl, by decide +kernel, rfl, by decide +kernel, by decide +kernel⟩
abbrev s_Loft_first_violation : Stmt := inClass (top 68) 13
abbrev N_Loft_first_violation : List Str := ["self", "found"]
theorem sc_Loft_first_violation : FnScope N_Loft_first_violation ["self"] (defScope s_Loft_first_violation) := ⟨rfl, rfl, rfl, by decide +kernel, rfl, by decide +kernel, by decide +kernel⟩
abbrev s_Loft_movements_now : Stmt := inClass (top 68) 14
abbrev N_Loft_movements_now : List Str := ["self"]
theorem sc_Loft_movements_now : FnScope N_Loft_movements_now ["self"] (defScope s_Loft_movements_now) := ⟨rfl, rfl, rfl, by decide +kernel, rfl, by decide +kernel, by decide +kernel⟩
abbrev s_Loft_few_movements : Stmt := inClass (top 68) 15
abbrev N_Loft_few_movements : List Str := ["self", "found"]
theorem sc_Loft_few_movements : FnScope N_Loft_few_movements ["self"] (defScope s_Loft_few_movements) := ⟨rfl, rfl, rfl, by decide +kernel, rfl, by decide +kernel, by decide +kernel⟩
abbrev s_Loft_movements : Stmt := inClass (top 68) 16
abbrev N_Loft_movements : List Str := ["self", "found"]
theorem sc_Loft_movements : FnScope N_Loft_movements ["self"] (defScope s_Loft_movements) := ⟨rfl, rfl, rfl, by decide +kernel, rfl, by decide +kernel, by decide +kernel⟩
abbrev s_Loft_stagehands : Stmt := inClass (top 68) 17
abbrev N_Loft_stagehands : List Str := ["self", "found"]
theorem sc_Loft_stagehands : FnScope N_Loft_stagehands ["self"] (defScope s_Loft_stagehands) := ⟨rfl, rfl, rfl, by decide +kernel, rfl, by decide +kernel, by decide +kernel⟩
abbrev s_Loft_plan : Stmt := inClass (top 68) 18
abbrev N_Loft_plan : List Str := ["self", "found"]
theorem sc_Loft_plan : FnScope N_Loft_plan ["self"] (defScope s_Loft_plan) := ⟨rfl, rfl, rfl, by decide +kernel, rfl, by decide +kernel, by decide +kernel⟩
abbrev s_Loft_earliest : Stmt := inClass (top 68) 19
abbrev N_Loft_earliest : List Str := ["self", "hands", "cue", "found"]
theorem sc_Loft_earliest : FnScope N_Loft_earliest ["self", "hands", "cue"] (defScope s_Loft_earliest) := ⟨rfl, rfl, rfl, by decide +kernel, rfl, by decide +kernel, by decide +kernel⟩
abbrev s_Loft_schedule : Stmt := inClass (top 68) 20
abbrev N_Loft_schedule : List Str := ["self", "hands", "cues", "found", "times", "course", "film", "movements", "plan", "cue"]
theorem sc_Loft_schedule : FnScope N_Loft_schedule ["self", "hands", "cues"] (defScope s_Loft_schedule) := ⟨rfl, rfl, rfl, by decide +kernel, rfl, by decide +kernel, by decide +kernel⟩
abbrev s_Loft_state : Stmt := inClass (top 68) 21
abbrev N_Loft_state : List Str := ["self", "stage", "bars", "begun", "ended", "found", "second", "bar"]
theorem sc_Loft_state : FnScope N_Loft_state ["self"] (defScope s_Loft_state) := ⟨rfl, rfl, rfl, by decide +kernel, rfl, by decide +kernel, by decide +kernel⟩
abbrev s_Loft_told_of_setting : Stmt := inClass (top 68) 22
abbrev N_Loft_told_of_setting : List Str := ["self", "call", "given", "row"]
theorem sc_Loft_told_of_setting : FnScope N_Loft_told_of_setting ["self", "call", "given", "row"] (defScope s_Loft_told_of_setting) := ⟨rfl, rfl, rfl, by decide +kernel, rfl, by decide +kernel, by decide +kernel⟩
abbrev s_Loft_told_of_asking : Stmt := inClass (top 68) 23
abbrev N_Loft_told_of_asking : List Str := ["self", "call", "given", "row"]
theorem sc_Loft_told_of_asking : FnScope N_Loft_told_of_asking ["self", "call", "given", "row"] (defScope s_Loft_told_of_asking) := ⟨rfl, rfl, rfl, by decide +kernel, rfl, by decide +kernel, by decide +kernel⟩
abbrev s_Loft_answer : Stmt := inClass (top 68) 24
abbrev N_Loft_answer : List Str := ["self", "call", "given", "row", "e"]
theorem sc_Loft_answer : FnScope N_Loft_answer ["self", "call", "given", "row"] (defScope s_Loft_answer) := ⟨rfl, rfl, rfl, by decide +kernel, rfl, by decide +kernel, by decide +kernel⟩
abbrev s_answers : Stmt := top 69
abbrev N_answers : List Str := ["calls", "loft", "found", "place", "call", "many", "has_list", "end", "given", "row", "told"]
theorem sc_answers : FnScope N_answers ["calls"] (defScope s_answers) := ⟨rfl, rfl, rfl, by decide +kernel, rfl, by decide +kernel, by decide +kernel⟩
def fa : List He.Fa := [.glo "are_compatible",
  .glo "clashes_of",
  .glo "crews_of",
  .glo "are_few",
  .glo "spots_of",
  .glo "can_take",
  .glo "completed",
  .glo "plan_within",
  .glo "plan_of",
  .glo "hands_in",
  .glo "are_feasible",
  .glo "clashing_sets",
  .glo "rank_of",
  .glo "bottleneck_of",
  .glo "sign_of",
  .glo "is_pair_violated",
  .glo "first_violated",
  .glo "frame_of",
  .glo "film_from",
  .glo "frame_at",
  .glo "many_moving_in",
  .glo "violation_in",
  .glo "directions_of",
  .glo "runs_in",
  .glo "movements_in",
  .glo "called_in",
  .glo "second_later",
  .glo "is_safe_now",
  .glo "first_safe",
  .glo "scheduled",
  .glo "want",
  .glo "listed",
  .glo "joined",
  .glo "are_unlike",
  .glo "moves_of",
  .glo "are_moves",
  .glo "answers",
  .glo "Cue",
  .glo "Stage",
  .glo "Course",
  .glo "Refused",
  .glo "Loft",
  .glo "SHAPES",
  .free "abs",
  .free "enumerate",
  .free "sum",
  .free "len",
  .free "any",
  .free "all",
  .free "max",
  .free "min",
  .free "range",
  .free "int",
  .free "list",
  .free "tuple",
  .free "set",
  .free "ValueError",
  .int "MOST_SPOTS" 8,
  .int "CALLED" (-1),
  .int "STARTED" 0,
  .int "DONE" 1,
  .int "NOBODY" (-1),
  .int "LONGEST_WALK" 20,
  .int "WRONG" (-1),
  .int "MISSING" (-2),
  .int "IS_STARTED" (-3),
  .int "TOO_LATE" (-4),
  .int "TOO_MANY" (-5),
  .int "NEVER" (-6),
  .int "MOST_BARS" 4,
  .int "MOST_PLACE" 6,
  .int "MOST_ROPE" 20,
  .int "MOST_CREW" 3,
  .int "LEAST_CLEARANCE" 2,
  .int "MOST_CLEARANCE" 5,
  .int "MOST_PAIRS" 4,
  .int "MOST_CUES" 5,
  .int "MOST_DELAY" 5,
  .int "MOST_WAIT" 200,
  .cls "Cue",
  .mkr "Cue",
  .noat "Cue" "moves",
  .noat "Cue" "event",
  .noat "Cue" "leader",
  .noat "Cue" "delay",
  .cls "Stage",
  .mkr "Stage",
  .noat "Stage" "positions",
  .noat "Stage" "targets",
  .noat "Stage" "holders",
  .noat "Stage" "ropes",
  .noat "Stage" "pairs",
  .noat "Stage" "cues",
  .noat "Stage" "starts",
  .noat "Stage" "ends",
  .noat "Stage" "now",
  .meth "Stage" "copy",
  .meth "Stage" "bars",
  .meth "Stage" "add_cue",
  .meth "Stage" "has_started",
  .meth "Stage" "many_started",
  .meth "Stage" "many_moving",
  .meth "Stage" "move_bars",
  .meth "Stage" "has_reached",
  .meth "Stage" "note_ends",
  .meth "Stage" "start",
  .meth "Stage" "due_of",
  .meth "Stage" "start_followers",
  .meth "Stage" "call",
  .meth "Stage" "pass_second",
  .meth "Stage" "is_to_come",
  .meth "Stage" "is_quiet",
  .cls "Course",
  .mkr "Course",
  .noat "Course" "frames",
  .noat "Course" "stage",
  .meth "Course" "time",
  .meth "Course" "whole_film",
  .cls "Loft",
  .mkr "Loft",
  .noat "Loft" "stage",
  .meth "Loft" "want_bar",
  .meth "Loft" "want_cue",
  .meth "Loft" "want_none_started",
  .meth "Loft" "begin",
  .meth "Loft" "set_rope",
  .meth "Loft" "add_pair",
  .meth "Loft" "put_cue",
  .meth "Loft" "add_cue",
  .meth "Loft" "add_follow",
  .meth "Loft" "call",
  .meth "Loft" "wait",
  .meth "Loft" "positions_at",
  .meth "Loft" "first_violation",
  .meth "Loft" "movements_now",
  .meth "Loft" "few_movements",
  .meth "Loft" "movements",
  .meth "Loft" "stagehands",
  .meth "Loft" "plan",
  .meth "Loft" "earliest",
  .meth "Loft" "schedule",
  .meth "Loft" "state",
  .meth "Loft" "told_of_setting",
  .meth "Loft" "told_of_asking",
  .meth "Loft" "answer",
  .noat "Refused" "code",
  .exm "Refused" "Refused" true,
  .keep "Refused",
  .keep "are_compatible",
  .keep "clashes_of",
  .keep "crews_of",
  .keep "are_few",
  .keep "spots_of",
  .keep "can_take",
  .keep "completed",
  .keep "plan_within",
  .keep "plan_of",
  .keep "hands_in",
  .keep "are_feasible",
  .keep "clashing_sets",
  .keep "rank_of",
  .keep "bottleneck_of",
  .keep "sign_of",
  .keep "is_pair_violated",
  .keep "first_violated",
  .keep "frame_of",
  .keep "film_from",
  .keep "frame_at",
  .keep "many_moving_in",
  .keep "violation_in",
  .keep "directions_of",
  .keep "runs_in",
  .keep "movements_in",
  .keep "called_in",
  .keep "second_later",
  .keep "is_safe_now",
  .keep "first_safe",
  .keep "scheduled",
  .keep "want",
  .keep "listed",
  .keep "joined",
  .keep "are_unlike",
  .keep "moves_of",
  .keep "are_moves",
  .keep "answers"]
def fn : List He.DefD := [
  ⟨("are_compatible", none), "are_compatible", "are_compatible", defArgs s_are_compatible, defBody s_are_compatible, defScope s_are_compatible, [], []⟩,
  ⟨("clashes_of", none), "clashes_of", "clashes_of", defArgs s_clashes_of, defBody s_clashes_of, defScope s_clashes_of, [], []⟩,
  ⟨("crews_of", none), "crews_of", "crews_of", defArgs s_crews_of, defBody s_crews_of, defScope s_crews_of, [], []⟩,
  ⟨("are_few", none), "are_few", "are_few", defArgs s_are_few, defBody s_are_few, defScope s_are_few, [], []⟩,
  ⟨("spots_of", none), "spots_of", "spots_of", defArgs s_spots_of, defBody s_spots_of, defScope s_spots_of, [], []⟩,
  ⟨("can_take", none), "can_take", "can_take", defArgs s_can_take, defBody s_can_take, defScope s_can_take, [], []⟩,
  ⟨("completed", none), "completed", "completed", defArgs s_completed, defBody s_completed, defScope s_completed, [], []⟩,
  ⟨("plan_within", none), "plan_within", "plan_within", defArgs s_plan_within, defBody s_plan_within, defScope s_plan_within, [], []⟩,
  ⟨("plan_of", none), "plan_of", "plan_of", defArgs s_plan_of, defBody s_plan_of, defScope s_plan_of, [], []⟩,
  ⟨("hands_in", none), "hands_in", "hands_in", defArgs s_hands_in, defBody s_hands_in, defScope s_hands_in, [], []⟩,
  ⟨("are_feasible", none), "are_feasible", "are_feasible", defArgs s_are_feasible, defBody s_are_feasible, defScope s_are_feasible, [], []⟩,
  ⟨("clashing_sets", none), "clashing_sets", "clashing_sets", defArgs s_clashing_sets, defBody s_clashing_sets, defScope s_clashing_sets, [], []⟩,
  ⟨("rank_of", none), "rank_of", "rank_of", defArgs s_rank_of, defBody s_rank_of, defScope s_rank_of, [], []⟩,
  ⟨("bottleneck_of", none), "bottleneck_of", "bottleneck_of", defArgs s_bottleneck_of, defBody s_bottleneck_of, defScope s_bottleneck_of, [], []⟩,
  ⟨("sign_of", none), "sign_of", "sign_of", defArgs s_sign_of, defBody s_sign_of, defScope s_sign_of, [], []⟩,
  ⟨("is_pair_violated", none), "is_pair_violated", "is_pair_violated", defArgs s_is_pair_violated, defBody s_is_pair_violated, defScope s_is_pair_violated, [], []⟩,
  ⟨("first_violated", none), "first_violated", "first_violated", defArgs s_first_violated, defBody s_first_violated, defScope s_first_violated, [], []⟩,
  ⟨("Cue", some "__init__"), "__init__", "Cue.__init__", defArgs s_Cue___init__, defBody s_Cue___init__, defScope s_Cue___init__, [], []⟩,
  ⟨("Stage", some "__init__"), "__init__", "Stage.__init__", defArgs s_Stage___init__, defBody s_Stage___init__, defScope s_Stage___init__, [], []⟩,
  ⟨("Stage", some "copy"), "copy", "Stage.copy", defArgs s_Stage_copy, defBody s_Stage_copy, defScope s_Stage_copy, [], []⟩,
  ⟨("Stage", some "bars"), "bars", "Stage.bars", defArgs s_Stage_bars, defBody s_Stage_bars, defScope s_Stage_bars, [], []⟩,
  ⟨("Stage", some "add_cue"), "add_cue", "Stage.add_cue", defArgs s_Stage_add_cue, defBody s_Stage_add_cue, defScope s_Stage_add_cue, [], []⟩,
  ⟨("Stage", some "has_started"), "has_started", "Stage.has_started", defArgs s_Stage_has_started, defBody s_Stage_has_started, defScope s_Stage_has_started, [], []⟩,
  ⟨("Stage", some "many_started"), "many_started", "Stage.many_started", defArgs s_Stage_many_started, defBody s_Stage_many_started, defScope s_Stage_many_started, [], []⟩,
  ⟨("Stage", some "many_moving"), "many_moving", "Stage.many_moving", defArgs s_Stage_many_moving, defBody s_Stage_many_moving, defScope s_Stage_many_moving, [], []⟩,
  ⟨("Stage", some "move_bars"), "move_bars", "Stage.move_bars", defArgs s_Stage_move_bars, defBody s_Stage_move_bars, defScope s_Stage_move_bars, [], []⟩,
  ⟨("Stage", some "has_reached"), "has_reached", "Stage.has_reached", defArgs s_Stage_has_reached, defBody s_Stage_has_reached, defScope s_Stage_has_reached, [], []⟩,
  ⟨("Stage", some "note_ends"), "note_ends", "Stage.note_ends", defArgs s_Stage_note_ends, defBody s_Stage_note_ends, defScope s_Stage_note_ends, [], []⟩,
  ⟨("Stage", some "start"), "start", "Stage.start", defArgs s_Stage_start, defBody s_Stage_start, defScope s_Stage_start, [], []⟩,
  ⟨("Stage", some "due_of"), "due_of", "Stage.due_of", defArgs s_Stage_due_of, defBody s_Stage_due_of, defScope s_Stage_due_of, [], []⟩,
  ⟨("Stage", some "start_followers"), "start_followers", "Stage.start_followers", defArgs s_Stage_start_followers, defBody s_Stage_start_followers, defScope s_Stage_start_followers, [], []⟩,
  ⟨("Stage", some "call"), "call", "Stage.call", defArgs s_Stage_call, defBody s_Stage_call, defScope s_Stage_call, [], []⟩,
  ⟨("Stage", some "pass_second"), "pass_second", "Stage.pass_second", defArgs s_Stage_pass_second, defBody s_Stage_pass_second, defScope s_Stage_pass_second, [], []⟩,
  ⟨("Stage", some "is_to_come"), "is_to_come", "Stage.is_to_come", defArgs s_Stage_is_to_come, defBody s_Stage_is_to_come, defScope s_Stage_is_to_come, [], []⟩,
  ⟨("Stage", some "is_quiet"), "is_quiet", "Stage.is_quiet", defArgs s_Stage_is_quiet, defBody s_Stage_is_quiet, defScope s_Stage_is_quiet, [], []⟩,
  ⟨("frame_of", none), "frame_of", "frame_of", defArgs s_frame_of, defBody s_frame_of, defScope s_frame_of, [], []⟩,
  ⟨("film_from", none), "film_from", "film_from", defArgs s_film_from, defBody s_film_from, defScope s_film_from, [], []⟩,
  ⟨("frame_at", none), "frame_at", "frame_at", defArgs s_frame_at, defBody s_frame_at, defScope s_frame_at, [], []⟩,
  ⟨("many_moving_in", none), "many_moving_in", "many_moving_in", defArgs s_many_moving_in, defBody s_many_moving_in, defScope s_many_moving_in, [], []⟩,
  ⟨("violation_in", none), "violation_in", "violation_in", defArgs s_violation_in, defBody s_violation_in, defScope s_violation_in, [], []⟩,
  ⟨("directions_of", none), "directions_of", "directions_of", defArgs s_directions_of, defBody s_directions_of, defScope s_directions_of, [], []⟩,
  ⟨("runs_in", none), "runs_in", "runs_in", defArgs s_runs_in, defBody s_runs_in, defScope s_runs_in, [], []⟩,
  ⟨("movements_in", none), "movements_in", "movements_in", defArgs s_movements_in, defBody s_movements_in, defScope s_movements_in, [], []⟩,
  ⟨("Course", some "__init__"), "__init__", "Course.__init__", defArgs s_Course___init__, defBody s_Course___init__, defScope s_Course___init__, [], []⟩,
  ⟨("Course", some "time"), "time", "Course.time", defArgs s_Course_time, defBody s_Course_time, defScope s_Course_time, [], []⟩,
  ⟨("Course", some "whole_film"), "whole_film", "Course.whole_film", defArgs s_Course_whole_film, defBody s_Course_whole_film, defScope s_Course_whole_film, [], []⟩,
  ⟨("called_in", none), "called_in", "called_in", defArgs s_called_in, defBody s_called_in, defScope s_called_in, [], []⟩,
  ⟨("second_later", none), "second_later", "second_later", defArgs s_second_later, defBody s_second_later, defScope s_second_later, [], []⟩,
  ⟨("is_safe_now", none), "is_safe_now", "is_safe_now", defArgs s_is_safe_now, defBody s_is_safe_now, defScope s_is_safe_now, [], []⟩,
  ⟨("first_safe", none), "first_safe", "first_safe", defArgs s_first_safe, defBody s_first_safe, defScope s_first_safe, [], []⟩,
  ⟨("scheduled", none), "scheduled", "scheduled", defArgs s_scheduled, defBody s_scheduled, defScope s_scheduled, [], []⟩,
  ⟨("Refused", some "__init__"), "__init__", "Refused.__init__", defArgs s_Refused___init__, defBody s_Refused___init__, defScope s_Refused___init__, [], []⟩,
  ⟨("want", none), "want", "want", defArgs s_want, defBody s_want, defScope s_want, [], []⟩,
  ⟨("listed", none), "listed", "listed", defArgs s_listed, defBody s_listed, defScope s_listed, [], []⟩,
  ⟨("joined", none), "joined", "joined", defArgs s_joined, defBody s_joined, defScope s_joined, [], []⟩,
  ⟨("are_unlike", none), "are_unlike", "are_unlike", defArgs s_are_unlike, defBody s_are_unlike, defScope s_are_unlike, [], []⟩,
  ⟨("moves_of", none), "moves_of", "moves_of", defArgs s_moves_of, defBody s_moves_of, defScope s_moves_of, [], []⟩,
  ⟨("are_moves", none), "are_moves", "are_moves", defArgs s_are_moves, defBody s_are_moves, defScope s_are_moves, [], []⟩,
  ⟨("Loft", some "__init__"), "__init__", "Loft.__init__", defArgs s_Loft___init__, defBody s_Loft___init__, defScope s_Loft___init__, [], []⟩,
  ⟨("Loft", some "want_bar"), "want_bar", "Loft.want_bar", defArgs s_Loft_want_bar, defBody s_Loft_want_bar, defScope s_Loft_want_bar, [], []⟩,
  ⟨("Loft", some "want_cue"), "want_cue", "Loft.want_cue", defArgs s_Loft_want_cue, defBody s_Loft_want_cue, defScope s_Loft_want_cue, [], []⟩,
  ⟨("Loft", some "want_none_started"), "want_none_started", "Loft.want_none_started", defArgs s_Loft_want_none_started, defBody s_Loft_want_none_started, defScope s_Loft_want_none_started, [], []⟩,
  ⟨("Loft", some "begin"), "begin", "Loft.begin", defArgs s_Loft_begin, defBody s_Loft_begin, defScope s_Loft_begin, [], []⟩,
  ⟨("Loft", some "set_rope"), "set_rope", "Loft.set_rope", defArgs s_Loft_set_rope, defBody s_Loft_set_rope, defScope s_Loft_set_rope, [], []⟩,
  ⟨("Loft", some "add_pair"), "add_pair", "Loft.add_pair", defArgs s_Loft_add_pair, defBody s_Loft_add_pair, defScope s_Loft_add_pair, [], []⟩,
  ⟨("Loft", some "put_cue"), "put_cue", "Loft.put_cue", defArgs s_Loft_put_cue, defBody s_Loft_put_cue, defScope s_Loft_put_cue, [], []⟩,
  ⟨("Loft", some "add_cue"), "add_cue", "Loft.add_cue", defArgs s_Loft_add_cue, defBody s_Loft_add_cue, defScope s_Loft_add_cue, [], []⟩,
  ⟨("Loft", some "add_follow"), "add_follow", "Loft.add_follow", defArgs s_Loft_add_follow, defBody s_Loft_add_follow, defScope s_Loft_add_follow, [], []⟩,
  ⟨("Loft", some "call"), "call", "Loft.call", defArgs s_Loft_call, defBody s_Loft_call, defScope s_Loft_call, [], []⟩,
  ⟨("Loft", some "wait"), "wait", "Loft.wait", defArgs s_Loft_wait, defBody s_Loft_wait, defScope s_Loft_wait, [], []⟩,
  ⟨("Loft", some "positions_at"), "positions_at", "Loft.positions_at", defArgs s_Loft_positions_at, defBody s_Loft_positions_at, defScope s_Loft_positions_at, [], []⟩,
  ⟨("Loft", some "first_violation"), "first_violation", "Loft.first_violation", defArgs s_Loft_first_violation, defBody s_Loft_first_violation, defScope s_Loft_first_violation, [], []⟩,
  ⟨("Loft", some "movements_now"), "movements_now", "Loft.movements_now", defArgs s_Loft_movements_now, defBody s_Loft_movements_now, defScope s_Loft_movements_now, [], []⟩,
  ⟨("Loft", some "few_movements"), "few_movements", "Loft.few_movements", defArgs s_Loft_few_movements, defBody s_Loft_few_movements, defScope s_Loft_few_movements, [], []⟩,
  ⟨("Loft", some "movements"), "movements", "Loft.movements", defArgs s_Loft_movements, defBody s_Loft_movements, defScope s_Loft_movements, [], []⟩,
  ⟨("Loft", some "stagehands"), "stagehands", "Loft.stagehands", defArgs s_Loft_stagehands, defBody s_Loft_stagehands, defScope s_Loft_stagehands, [], []⟩,
  ⟨("Loft", some "plan"), "plan", "Loft.plan", defArgs s_Loft_plan, defBody s_Loft_plan, defScope s_Loft_plan, [], []⟩,
  ⟨("Loft", some "earliest"), "earliest", "Loft.earliest", defArgs s_Loft_earliest, defBody s_Loft_earliest, defScope s_Loft_earliest, [], []⟩,
  ⟨("Loft", some "schedule"), "schedule", "Loft.schedule", defArgs s_Loft_schedule, defBody s_Loft_schedule, defScope s_Loft_schedule, [], []⟩,
  ⟨("Loft", some "state"), "state", "Loft.state", defArgs s_Loft_state, defBody s_Loft_state, defScope s_Loft_state, [], []⟩,
  ⟨("Loft", some "told_of_setting"), "told_of_setting", "Loft.told_of_setting", defArgs s_Loft_told_of_setting, defBody s_Loft_told_of_setting, defScope s_Loft_told_of_setting, [], []⟩,
  ⟨("Loft", some "told_of_asking"), "told_of_asking", "Loft.told_of_asking", defArgs s_Loft_told_of_asking, defBody s_Loft_told_of_asking, defScope s_Loft_told_of_asking, [], []⟩,
  ⟨("Loft", some "answer"), "answer", "Loft.answer", defArgs s_Loft_answer, defBody s_Loft_answer, defScope s_Loft_answer, [], []⟩,
  ⟨("answers", none), "answers", "answers", defArgs s_answers, defBody s_answers, defScope s_answers, [], []⟩]
end Sk
/-! BX: what the end is asked besides: the exception's class, the table of the shapes. -/
namespace Sk
open PySem L2 Evl
def seqB (K : PySem.W.Frag) (a : Addr) (vs : List V) : Bool := match K.lookup a with
  | some ⟨.type c, _, .seq its _, _⟩ => decide (c = "tuple") && (decide (its.size ≤ sizeLine) && He.relAll vs its.toList)
  | _ => false
theorem seqB_ok {K : PySem.W.Frag} {a : Addr} {vs : List V} (h : seqB K a vs = true) (H : Hp) : SqT K H a vs := by
  unfold seqB at h
  split at h
  · rename_i c od its n osl q
    obtain ⟨h1, h2⟩ := He.ba h
    obtain ⟨h3, h4⟩ := He.ba h2
    exact .inr ⟨_, its, n, q, congrArg Value.type (of_decide_eq_true h1), rfl, of_decide_eq_true h3, He.relAll_ok h4⟩
  · cases h
def shAt (K : PySem.W.Frag) (i : Nat) : Addr := match K.lookup (He.ga K "SHAPES") with
  | some ⟨_, _, .seq its _, _⟩ => (match its.toList[i]? with
    | some (.ref a) => a
    | _ => 0)
  | _ => 0
def shapeL : List (Nat × Bool) := [(0, true), (3, false), (3, false), (0, true), (3, true), (1, false), (1, false), (1, false), (0, false), (0, false), (0, false), (0, false), (2, false), (1, true), (0, false)]
def shapesB (K : PySem.W.Frag) : Bool := seqB K (He.ga K "SHAPES") ((List.range 15).map fun i => V.ref (shAt K i)) && (List.range 15).all fun i => seqB K (shAt K i) [nV (shapeL.getD i (0, false)).1, .bl (shapeL.getD i (0, false)).2]
def excB (K : PySem.W.Frag) (C : Addr) : Bool := match K.lookup C with
  | some ⟨.type t, _, .cls cd, sl⟩ => decide (t = "type") && (match cd.mro, sl.toList with
    | .ref b :: bm, [_, _, _, _, some (.builtin n), _] => decide (b = C) && (decide (n = "ValueError.__new__") && (!cd.hasDel && (cd.hasDict && PySem.HandSPX.refsVE bm)))
    | _, _ => false)
  | _ => false
theorem excB_ok {K : PySem.W.Frag} {C : Addr} (h : excB K C = true) : ∃ nm q N bs bm sn sub ab col dd k0 k1 k2 k3 k5, K.lookup C = some (excClassObj nm q C N bs bm true sn sub ab col dd k0 k1 k2 k3 k5 "ValueError.__new__") ∧ PySem.HandSPX.refsVE bm = true := by
  unfold excB at h
  split at h
  · rename_i t dd cd sl ho
    obtain ⟨ht, h⟩ := He.ba h
    have ht := of_decide_eq_true ht
    split at h
    · rename_i b bm k0 k1 k2 k3 n k5 hm hs
      obtain ⟨h1, h⟩ := He.ba h
      obtain ⟨h2, h⟩ := He.ba h
      obtain ⟨h3, h⟩ := He.ba h
      obtain ⟨h4, h5⟩ := He.ba h
      have h1 := of_decide_eq_true h1
      have h2 := of_decide_eq_true h2
      subst h1 h2 ht
      obtain ⟨nm, bs, mro, ns, qn, hd, sn, sub, ab, col, dl⟩ := cd
      dsimp only at hm h3 h4
      subst hm h4
      have h3 : dl = false := by cases dl <;> simp_all
      subst h3
      have hsl : sl = #[k0, k1, k2, k3, some (.builtin "ValueError.__new__"), k5] := by
        obtain ⟨l⟩ := sl
        simp only at hs
        rw [hs]
      subst hsl
      exact ⟨nm, qn, ns, bs, bm, sn, sub, ab, col, dd, k0, k1, k2, k3, k5, ho, h5⟩
    · cases h
  · cases h
def refB (K : PySem.W.Frag) : Bool := excB K (He.ga K "Refused") && (decide (PySem.W.findIn K (.ref (He.ga K "Refused")) "__setattr__" = some (some (.builtin "object.__setattr__"))) && (decide (PySem.W.subIn K (.ref (He.ga K "Refused")) (.type "BaseException") = some true) &&
  (decide (PySem.W.typeIn K (.ref (He.ga K "Refused")) = some (.type "type")) && (PySem.W.keepIn K (.ref (He.ga K "Refused")) && (decide (PySem.W.findIn K (.ref (He.ga K "Refused")) "__init__" = some (some (.ref (He.ma K (He.ga K "Refused") "__init__")))) &&
  (decide (PySem.W.typeIn K (.ref (He.ma K (He.ga K "Refused") "__init__")) = some (.type "function")) && (xfB K (He.ga K "Refused") && shapesB K)))))))
structure RefTxt (K : PySem.W.Frag) : Prop where
  x : OexC K (He.ga K "Refused")
  i : PySem.W.findIn K (.ref (He.ga K "Refused")) "__init__" = some (some (.ref (He.ma K (He.ga K "Refused") "__init__")))
  t : PySem.W.typeIn K (.ref (He.ma K (He.ga K "Refused") "__init__")) = some (.type "function")
  f : XfC K (He.ga K "Refused")
  s : ∀ H, SqT K H (He.ga K "SHAPES") ((List.range 15).map fun i => V.ref (shAt K i))
  e : ∀ H i, i < 15 → SqT K H (shAt K i) [nV (shapeL.getD i (0, false)).1, .bl (shapeL.getD i (0, false)).2]
theorem refB_ok {K : PySem.W.Frag} (h : refB K = true) : RefTxt K := by
  obtain ⟨h1, h⟩ := He.ba h
  obtain ⟨h2, h⟩ := He.ba h
  obtain ⟨h3, h⟩ := He.ba h
  obtain ⟨h4, h⟩ := He.ba h
  obtain ⟨h5, h⟩ := He.ba h
  obtain ⟨h6, h⟩ := He.ba h
  obtain ⟨h7, h⟩ := He.ba h
  obtain ⟨h8, h9⟩ := He.ba h
  obtain ⟨h10, h11⟩ := He.ba h9
  exact ⟨⟨excB_ok h1, of_decide_eq_true h2, of_decide_eq_true h3, of_decide_eq_true h4, h5⟩, of_decide_eq_true h6, of_decide_eq_true h7, xfB_ok h8, seqB_ok h10, fun H i hi => seqB_ok (List.all_eq_true.mp h11 i (List.mem_range.mpr hi)) H⟩
theorem ve_init (K : PySem.W.Frag) : PySem.W.findCls K (.type "ValueError") (.type "type") "__init__" = some (.val (.builtin "ValueError.__init__")) := by
  first | rfl | decide +kernel | (unfold PySem.W.findCls; rfl)
end Sk
set_option maxHeartbeats 0
/-! D0: the head: one run of the top. -/
namespace Sk
open PySem PySem.W PySem.Calls PyProof.Rows
abbrev prg : Program := PySem.Challenge.rw_scenecues_s01_answers.prog
abbrev qv : Program := view prg [69]
def loN1 : List PySem.Str := ["__name__", "MOST_SPOTS", "are_compatible", "clashes_of", "crews_of", "are_few", "spots_of", "can_take", "completed", "plan_within", "plan_of", "hands_in", "are_feasible", "clashing_sets", "rank_of", "bottleneck_of", "CALLED", "STARTED", "DONE", "NOBODY", "sign_of", "is_pair_violated", "first_violated", "Cue", "Stage"]
def loN2 : List PySem.Str := ["frame_of", "film_from", "frame_at", "many_moving_in", "violation_in", "directions_of", "runs_in", "movements_in", "LONGEST_WALK", "Course", "called_in", "second_later", "is_safe_now", "first_safe", "scheduled"]
def loN3 : List PySem.Str := ["WRONG", "MISSING", "IS_STARTED", "TOO_LATE", "TOO_MANY", "NEVER", "MOST_BARS", "MOST_PLACE", "MOST_ROPE", "MOST_CREW", "LEAST_CLEARANCE", "MOST_CLEARANCE", "MOST_PAIRS", "MOST_CUES", "MOST_DELAY", "MOST_WAIT", "SHAPES", "Refused", "want", "listed", "joined", "are_unlike", "moves_of", "are_moves", "Loft"]
def loNs : List PySem.Str := loN1 ++ (loN2 ++ loN3)
abbrev dep : Nat := 4
abbrev hk : PySem.W.Hook := He.hookX dep fa fn [] [] refB
def ob (s : PySem.W.SharedT) : He.AlX := He.obsX dep fa fn [] [] refB (HandSHeadRun.getT s)
theorem ob_eq (s : PySem.W.SharedT) : ob s = hk.obs s.abs := He.obsX_eq (HandSHeadRun.getT_eq s)
theorem runTop (w : World) (os : OsState) : (HandSHeadRun.endF (HandSHeadRun.stepQ (HandSHeadRun.denQ HandSHeadRun.tabQ) prg w) 6000 prg w os).map (fun s => (HandSHeadRun.looksF prg (boot_heap w.params) s.abs, HandSHeadRun.seenQ qv loNs (importedModules prg.main.body) (fun s => xlAt qv [] s && recOk [] s) s.abs, ob s)) = some (true, openGood qv loNs, hk.val w) := by
  kernel_rfl
end Sk
set_option maxHeartbeats 4000000
/-! BT (printed by gen.py): what the top has written, by name. -/
namespace Sk
open PySem L2 Evl
structure Tx (K : PySem.W.Frag) (mg : Str → Option Value) : Prop where
  c : He.SaysD fa fn K
  hp : ∃ h : Heap, K.In h ∧ h.Ns mainGlobals mg
  r : RefTxt K
section
variable {K : PySem.W.Frag} {mg : Str → Option Value}
theorem Tx.g_are_compatible (T : Tx K mg) : mg "are_compatible" = some (.ref (He.ga K "are_compatible")) := by
  obtain ⟨h, X, G⟩ := T.hp
  exact He.glo_ok X G (T.c.fact 0 (f := .glo "are_compatible") rfl)
theorem Tx.g_clashes_of (T : Tx K mg) : mg "clashes_of" = some (.ref (He.ga K "clashes_of")) := by
  obtain ⟨h, X, G⟩ := T.hp
  exact He.glo_ok X G (T.c.fact 1 (f := .glo "clashes_of") rfl)
theorem Tx.g_crews_of (T : Tx K mg) : mg "crews_of" = some (.ref (He.ga K "crews_of")) := by
  obtain ⟨h, X, G⟩ := T.hp
  exact He.glo_ok X G (T.c.fact 2 (f := .glo "crews_of") rfl)
theorem Tx.g_are_few (T : Tx K mg) : mg "are_few" = some (.ref (He.ga K "are_few")) := by
  obtain ⟨h, X, G⟩ := T.hp
  exact He.glo_ok X G (T.c.fact 3 (f := .glo "are_few") rfl)
theorem Tx.g_spots_of (T : Tx K mg) : mg "spots_of" = some (.ref (He.ga K "spots_of")) := by
  obtain ⟨h, X, G⟩ := T.hp
  exact He.glo_ok X G (T.c.fact 4 (f := .glo "spots_of") rfl)
theorem Tx.g_can_take (T : Tx K mg) : mg "can_take" = some (.ref (He.ga K "can_take")) := by
  obtain ⟨h, X, G⟩ := T.hp
  exact He.glo_ok X G (T.c.fact 5 (f := .glo "can_take") rfl)
theorem Tx.g_completed (T : Tx K mg) : mg "completed" = some (.ref (He.ga K "completed")) := by
  obtain ⟨h, X, G⟩ := T.hp
  exact He.glo_ok X G (T.c.fact 6 (f := .glo "completed") rfl)
theorem Tx.g_plan_within (T : Tx K mg) : mg "plan_within" = some (.ref (He.ga K "plan_within")) := by
  obtain ⟨h, X, G⟩ := T.hp
  exact He.glo_ok X G (T.c.fact 7 (f := .glo "plan_within") rfl)
theorem Tx.g_plan_of (T : Tx K mg) : mg "plan_of" = some (.ref (He.ga K "plan_of")) := by
  obtain ⟨h, X, G⟩ := T.hp
  exact He.glo_ok X G (T.c.fact 8 (f := .glo "plan_of") rfl)
theorem Tx.g_hands_in (T : Tx K mg) : mg "hands_in" = some (.ref (He.ga K "hands_in")) := by
  obtain ⟨h, X, G⟩ := T.hp
  exact He.glo_ok X G (T.c.fact 9 (f := .glo "hands_in") rfl)
theorem Tx.g_are_feasible (T : Tx K mg) : mg "are_feasible" = some (.ref (He.ga K "are_feasible")) := by
  obtain ⟨h, X, G⟩ := T.hp
  exact He.glo_ok X G (T.c.fact 10 (f := .glo "are_feasible") rfl)
theorem Tx.g_clashing_sets (T : Tx K mg) : mg "clashing_sets" = some (.ref (He.ga K "clashing_sets")) := by
  obtain ⟨h, X, G⟩ := T.hp
  exact He.glo_ok X G (T.c.fact 11 (f := .glo "clashing_sets") rfl)
theorem Tx.g_rank_of (T : Tx K mg) : mg "rank_of" = some (.ref (He.ga K "rank_of")) := by
  obtain ⟨h, X, G⟩ := T.hp
  exact He.glo_ok X G (T.c.fact 12 (f := .glo "rank_of") rfl)
theorem Tx.g_bottleneck_of (T : Tx K mg) : mg "bottleneck_of" = some (.ref (He.ga K "bottleneck_of")) := by
  obtain ⟨h, X, G⟩ := T.hp
  exact He.glo_ok X G (T.c.fact 13 (f := .glo "bottleneck_of") rfl)
theorem Tx.g_sign_of (T : Tx K mg) : mg "sign_of" = some (.ref (He.ga K "sign_of")) := by
  obtain ⟨h, X, G⟩ := T.hp
  exact He.glo_ok X G (T.c.fact 14 (f := .glo "sign_of") rfl)
theorem Tx.g_is_pair_violated (T : Tx K mg) : mg "is_pair_violated" = some (.ref (He.ga K "is_pair_violated")) := by
  obtain ⟨h, X, G⟩ := T.hp
  exact He.glo_ok X G (T.c.fact 15 (f := .glo "is_pair_violated") rfl)
theorem Tx.g_first_violated (T : Tx K mg) : mg "first_violated" = some (.ref (He.ga K "first_violated")) := by
  obtain ⟨h, X, G⟩ := T.hp
  exact He.glo_ok X G (T.c.fact 16 (f := .glo "first_violated") rfl)
theorem Tx.g_frame_of (T : Tx K mg) : mg "frame_of" = some (.ref (He.ga K "frame_of")) := by
  obtain ⟨h, X, G⟩ := T.hp
  exact He.glo_ok X G (T.c.fact 17 (f := .glo "frame_of") rfl)
theorem Tx.g_film_from (T : Tx K mg) : mg "film_from" = some (.ref (He.ga K "film_from")) := by
  obtain ⟨h, X, G⟩ := T.hp
  exact He.glo_ok X G (T.c.fact 18 (f := .glo "film_from") rfl)
theorem Tx.g_frame_at (T : Tx K mg) : mg "frame_at" = some (.ref (He.ga K "frame_at")) := by
  obtain ⟨h, X, G⟩ := T.hp
  exact He.glo_ok X G (T.c.fact 19 (f := .glo "frame_at") rfl)
theorem Tx.g_many_moving_in (T : Tx K mg) : mg "many_moving_in" = some (.ref (He.ga K "many_moving_in")) := by
  obtain ⟨h, X, G⟩ := T.hp
  exact He.glo_ok X G (T.c.fact 20 (f := .glo "many_moving_in") rfl)
theorem Tx.g_violation_in (T : Tx K mg) : mg "violation_in" = some (.ref (He.ga K "violation_in")) := by
  obtain ⟨h, X, G⟩ := T.hp
  exact He.glo_ok X G (T.c.fact 21 (f := .glo "violation_in") rfl)
theorem Tx.g_directions_of (T : Tx K mg) : mg "directions_of" = some (.ref (He.ga K "directions_of")) := by
  obtain ⟨h, X, G⟩ := T.hp
  exact He.glo_ok X G (T.c.fact 22 (f := .glo "directions_of") rfl)
theorem Tx.g_runs_in (T : Tx K mg) : mg "runs_in" = some (.ref (He.ga K "runs_in")) := by
  obtain ⟨h, X, G⟩ := T.hp
  exact He.glo_ok X G (T.c.fact 23 (f := .glo "runs_in") rfl)
theorem Tx.g_movements_in (T : Tx K mg) : mg "movements_in" = some (.ref (He.ga K "movements_in")) := by
  obtain ⟨h, X, G⟩ := T.hp
  exact He.glo_ok X G (T.c.fact 24 (f := .glo "movements_in") rfl)
theorem Tx.g_called_in (T : Tx K mg) : mg "called_in" = some (.ref (He.ga K "called_in")) := by
  obtain ⟨h, X, G⟩ := T.hp
  exact He.glo_ok X G (T.c.fact 25 (f := .glo "called_in") rfl)
theorem Tx.g_second_later (T : Tx K mg) : mg "second_later" = some (.ref (He.ga K "second_later")) := by
  obtain ⟨h, X, G⟩ := T.hp
  exact He.glo_ok X G (T.c.fact 26 (f := .glo "second_later") rfl)
theorem Tx.g_is_safe_now (T : Tx K mg) : mg "is_safe_now" = some (.ref (He.ga K "is_safe_now")) := by
  obtain ⟨h, X, G⟩ := T.hp
  exact He.glo_ok X G (T.c.fact 27 (f := .glo "is_safe_now") rfl)
theorem Tx.g_first_safe (T : Tx K mg) : mg "first_safe" = some (.ref (He.ga K "first_safe")) := by
  obtain ⟨h, X, G⟩ := T.hp
  exact He.glo_ok X G (T.c.fact 28 (f := .glo "first_safe") rfl)
theorem Tx.g_scheduled (T : Tx K mg) : mg "scheduled" = some (.ref (He.ga K "scheduled")) := by
  obtain ⟨h, X, G⟩ := T.hp
  exact He.glo_ok X G (T.c.fact 29 (f := .glo "scheduled") rfl)
theorem Tx.g_want (T : Tx K mg) : mg "want" = some (.ref (He.ga K "want")) := by
  obtain ⟨h, X, G⟩ := T.hp
  exact He.glo_ok X G (T.c.fact 30 (f := .glo "want") rfl)
theorem Tx.g_listed (T : Tx K mg) : mg "listed" = some (.ref (He.ga K "listed")) := by
  obtain ⟨h, X, G⟩ := T.hp
  exact He.glo_ok X G (T.c.fact 31 (f := .glo "listed") rfl)
theorem Tx.g_joined (T : Tx K mg) : mg "joined" = some (.ref (He.ga K "joined")) := by
  obtain ⟨h, X, G⟩ := T.hp
  exact He.glo_ok X G (T.c.fact 32 (f := .glo "joined") rfl)
theorem Tx.g_are_unlike (T : Tx K mg) : mg "are_unlike" = some (.ref (He.ga K "are_unlike")) := by
  obtain ⟨h, X, G⟩ := T.hp
  exact He.glo_ok X G (T.c.fact 33 (f := .glo "are_unlike") rfl)
theorem Tx.g_moves_of (T : Tx K mg) : mg "moves_of" = some (.ref (He.ga K "moves_of")) := by
  obtain ⟨h, X, G⟩ := T.hp
  exact He.glo_ok X G (T.c.fact 34 (f := .glo "moves_of") rfl)
theorem Tx.g_are_moves (T : Tx K mg) : mg "are_moves" = some (.ref (He.ga K "are_moves")) := by
  obtain ⟨h, X, G⟩ := T.hp
  exact He.glo_ok X G (T.c.fact 35 (f := .glo "are_moves") rfl)
theorem Tx.g_answers (T : Tx K mg) : mg "answers" = some (.ref (He.ga K "answers")) := by
  obtain ⟨h, X, G⟩ := T.hp
  exact He.glo_ok X G (T.c.fact 36 (f := .glo "answers") rfl)
theorem Tx.g_Cue (T : Tx K mg) : mg "Cue" = some (.ref (He.ga K "Cue")) := by
  obtain ⟨h, X, G⟩ := T.hp
  exact He.glo_ok X G (T.c.fact 37 (f := .glo "Cue") rfl)
theorem Tx.g_Stage (T : Tx K mg) : mg "Stage" = some (.ref (He.ga K "Stage")) := by
  obtain ⟨h, X, G⟩ := T.hp
  exact He.glo_ok X G (T.c.fact 38 (f := .glo "Stage") rfl)
theorem Tx.g_Course (T : Tx K mg) : mg "Course" = some (.ref (He.ga K "Course")) := by
  obtain ⟨h, X, G⟩ := T.hp
  exact He.glo_ok X G (T.c.fact 39 (f := .glo "Course") rfl)
theorem Tx.g_Refused (T : Tx K mg) : mg "Refused" = some (.ref (He.ga K "Refused")) := by
  obtain ⟨h, X, G⟩ := T.hp
  exact He.glo_ok X G (T.c.fact 40 (f := .glo "Refused") rfl)
theorem Tx.g_Loft (T : Tx K mg) : mg "Loft" = some (.ref (He.ga K "Loft")) := by
  obtain ⟨h, X, G⟩ := T.hp
  exact He.glo_ok X G (T.c.fact 41 (f := .glo "Loft") rfl)
theorem Tx.m_SHAPES (T : Tx K mg) : mg "SHAPES" = some (.ref (He.ga K "SHAPES")) := by
  obtain ⟨h, X, G⟩ := T.hp
  exact He.glo_ok X G (T.c.fact 42 (f := .glo "SHAPES") rfl)
theorem Tx.f_abs (T : Tx K mg) : mg "abs" = none := by
  obtain ⟨h, X, G⟩ := T.hp
  exact He.free_ok X G (T.c.fact 43 (f := .free "abs") rfl)
theorem Tx.f_enumerate (T : Tx K mg) : mg "enumerate" = none := by
  obtain ⟨h, X, G⟩ := T.hp
  exact He.free_ok X G (T.c.fact 44 (f := .free "enumerate") rfl)
theorem Tx.f_sum (T : Tx K mg) : mg "sum" = none := by
  obtain ⟨h, X, G⟩ := T.hp
  exact He.free_ok X G (T.c.fact 45 (f := .free "sum") rfl)
theorem Tx.f_len (T : Tx K mg) : mg "len" = none := by
  obtain ⟨h, X, G⟩ := T.hp
  exact He.free_ok X G (T.c.fact 46 (f := .free "len") rfl)
theorem Tx.f_any (T : Tx K mg) : mg "any" = none := by
  obtain ⟨h, X, G⟩ := T.hp
  exact He.free_ok X G (T.c.fact 47 (f := .free "any") rfl)
theorem Tx.f_all (T : Tx K mg) : mg "all" = none := by
  obtain ⟨h, X, G⟩ := T.hp
  exact He.free_ok X G (T.c.fact 48 (f := .free "all") rfl)
theorem Tx.f_max (T : Tx K mg) : mg "max" = none := by
  obtain ⟨h, X, G⟩ := T.hp
  exact He.free_ok X G (T.c.fact 49 (f := .free "max") rfl)
theorem Tx.f_min (T : Tx K mg) : mg "min" = none := by
  obtain ⟨h, X, G⟩ := T.hp
  exact He.free_ok X G (T.c.fact 50 (f := .free "min") rfl)
theorem Tx.f_range (T : Tx K mg) : mg "range" = none := by
  obtain ⟨h, X, G⟩ := T.hp
  exact He.free_ok X G (T.c.fact 51 (f := .free "range") rfl)
theorem Tx.f_int (T : Tx K mg) : mg "int" = none := by
  obtain ⟨h, X, G⟩ := T.hp
  exact He.free_ok X G (T.c.fact 52 (f := .free "int") rfl)
theorem Tx.f_list (T : Tx K mg) : mg "list" = none := by
  obtain ⟨h, X, G⟩ := T.hp
  exact He.free_ok X G (T.c.fact 53 (f := .free "list") rfl)
theorem Tx.f_tuple (T : Tx K mg) : mg "tuple" = none := by
  obtain ⟨h, X, G⟩ := T.hp
  exact He.free_ok X G (T.c.fact 54 (f := .free "tuple") rfl)
theorem Tx.f_set (T : Tx K mg) : mg "set" = none := by
  obtain ⟨h, X, G⟩ := T.hp
  exact He.free_ok X G (T.c.fact 55 (f := .free "set") rfl)
theorem Tx.f_ValueError (T : Tx K mg) : mg "ValueError" = none := by
  obtain ⟨h, X, G⟩ := T.hp
  exact He.free_ok X G (T.c.fact 56 (f := .free "ValueError") rfl)
theorem Tx.i_MOST_SPOTS (T : Tx K mg) : ∃ t, mg "MOST_SPOTS" = some (.int 8 t) := by
  obtain ⟨h, X, G⟩ := T.hp
  exact He.int_ok X G (T.c.fact 57 (f := .int "MOST_SPOTS" 8) rfl)
theorem Tx.m_MOST_SPOTS (T : Tx K mg) : (∃ t, mg "MOST_SPOTS" = some (.int 8 t)) ∧ mg "MOST_SPOTS" = some (.int 8 (Classical.choose T.i_MOST_SPOTS)) := ⟨T.i_MOST_SPOTS, Classical.choose_spec T.i_MOST_SPOTS⟩
theorem Tx.i_CALLED (T : Tx K mg) : ∃ t, mg "CALLED" = some (.int (-1) t) := by
  obtain ⟨h, X, G⟩ := T.hp
  exact He.int_ok X G (T.c.fact 58 (f := .int "CALLED" (-1)) rfl)
theorem Tx.m_CALLED (T : Tx K mg) : (∃ t, mg "CALLED" = some (.int (-1) t)) ∧ mg "CALLED" = some (.int (-1) (Classical.choose T.i_CALLED)) := ⟨T.i_CALLED, Classical.choose_spec T.i_CALLED⟩
theorem Tx.i_STARTED (T : Tx K mg) : ∃ t, mg "STARTED" = some (.int 0 t) := by
  obtain ⟨h, X, G⟩ := T.hp
  exact He.int_ok X G (T.c.fact 59 (f := .int "STARTED" 0) rfl)
theorem Tx.m_STARTED (T : Tx K mg) : (∃ t, mg "STARTED" = some (.int 0 t)) ∧ mg "STARTED" = some (.int 0 (Classical.choose T.i_STARTED)) := ⟨T.i_STARTED, Classical.choose_spec T.i_STARTED⟩
theorem Tx.i_DONE (T : Tx K mg) : ∃ t, mg "DONE" = some (.int 1 t) := by
  obtain ⟨h, X, G⟩ := T.hp
  exact He.int_ok X G (T.c.fact 60 (f := .int "DONE" 1) rfl)
theorem Tx.m_DONE (T : Tx K mg) : (∃ t, mg "DONE" = some (.int 1 t)) ∧ mg "DONE" = some (.int 1 (Classical.choose T.i_DONE)) := ⟨T.i_DONE, Classical.choose_spec T.i_DONE⟩
theorem Tx.i_NOBODY (T : Tx K mg) : ∃ t, mg "NOBODY" = some (.int (-1) t) := by
  obtain ⟨h, X, G⟩ := T.hp
  exact He.int_ok X G (T.c.fact 61 (f := .int "NOBODY" (-1)) rfl)
theorem Tx.m_NOBODY (T : Tx K mg) : (∃ t, mg "NOBODY" = some (.int (-1) t)) ∧ mg "NOBODY" = some (.int (-1) (Classical.choose T.i_NOBODY)) := ⟨T.i_NOBODY, Classical.choose_spec T.i_NOBODY⟩
theorem Tx.i_LONGEST_WALK (T : Tx K mg) : ∃ t, mg "LONGEST_WALK" = some (.int 20 t) := by
  obtain ⟨h, X, G⟩ := T.hp
  exact He.int_ok X G (T.c.fact 62 (f := .int "LONGEST_WALK" 20) rfl)
theorem Tx.m_LONGEST_WALK (T : Tx K mg) : (∃ t, mg "LONGEST_WALK" = some (.int 20 t)) ∧ mg "LONGEST_WALK" = some (.int 20 (Classical.choose T.i_LONGEST_WALK)) := ⟨T.i_LONGEST_WALK, Classical.choose_spec T.i_LONGEST_WALK⟩
theorem Tx.i_WRONG (T : Tx K mg) : ∃ t, mg "WRONG" = some (.int (-1) t) := by
  obtain ⟨h, X, G⟩ := T.hp
  exact He.int_ok X G (T.c.fact 63 (f := .int "WRONG" (-1)) rfl)
theorem Tx.m_WRONG (T : Tx K mg) : (∃ t, mg "WRONG" = some (.int (-1) t)) ∧ mg "WRONG" = some (.int (-1) (Classical.choose T.i_WRONG)) := ⟨T.i_WRONG, Classical.choose_spec T.i_WRONG⟩
theorem Tx.i_MISSING (T : Tx K mg) : ∃ t, mg "MISSING" = some (.int (-2) t) := by
  obtain ⟨h, X, G⟩ := T.hp
  exact He.int_ok X G (T.c.fact 64 (f := .int "MISSING" (-2)) rfl)
theorem Tx.m_MISSING (T : Tx K mg) : (∃ t, mg "MISSING" = some (.int (-2) t)) ∧ mg "MISSING" = some (.int (-2) (Classical.choose T.i_MISSING)) := ⟨T.i_MISSING, Classical.choose_spec T.i_MISSING⟩
theorem Tx.i_IS_STARTED (T : Tx K mg) : ∃ t, mg "IS_STARTED" = some (.int (-3) t) := by
  obtain ⟨h, X, G⟩ := T.hp
  exact He.int_ok X G (T.c.fact 65 (f := .int "IS_STARTED" (-3)) rfl)
theorem Tx.m_IS_STARTED (T : Tx K mg) : (∃ t, mg "IS_STARTED" = some (.int (-3) t)) ∧ mg "IS_STARTED" = some (.int (-3) (Classical.choose T.i_IS_STARTED)) := ⟨T.i_IS_STARTED, Classical.choose_spec T.i_IS_STARTED⟩
theorem Tx.i_TOO_LATE (T : Tx K mg) : ∃ t, mg "TOO_LATE" = some (.int (-4) t) := by
  obtain ⟨h, X, G⟩ := T.hp
  exact He.int_ok X G (T.c.fact 66 (f := .int "TOO_LATE" (-4)) rfl)
theorem Tx.m_TOO_LATE (T : Tx K mg) : (∃ t, mg "TOO_LATE" = some (.int (-4) t)) ∧ mg "TOO_LATE" = some (.int (-4) (Classical.choose T.i_TOO_LATE)) := ⟨T.i_TOO_LATE, Classical.choose_spec T.i_TOO_LATE⟩
theorem Tx.i_TOO_MANY (T : Tx K mg) : ∃ t, mg "TOO_MANY" = some (.int (-5) t) := by
  obtain ⟨h, X, G⟩ := T.hp
  exact He.int_ok X G (T.c.fact 67 (f := .int "TOO_MANY" (-5)) rfl)
theorem Tx.m_TOO_MANY (T : Tx K mg) : (∃ t, mg "TOO_MANY" = some (.int (-5) t)) ∧ mg "TOO_MANY" = some (.int (-5) (Classical.choose T.i_TOO_MANY)) := ⟨T.i_TOO_MANY, Classical.choose_spec T.i_TOO_MANY⟩
theorem Tx.i_NEVER (T : Tx K mg) : ∃ t, mg "NEVER" = some (.int (-6) t) := by
  obtain ⟨h, X, G⟩ := T.hp
  exact He.int_ok X G (T.c.fact 68 (f := .int "NEVER" (-6)) rfl)
theorem Tx.m_NEVER (T : Tx K mg) : (∃ t, mg "NEVER" = some (.int (-6) t)) ∧ mg "NEVER" = some (.int (-6) (Classical.choose T.i_NEVER)) := ⟨T.i_NEVER, Classical.choose_spec T.i_NEVER⟩
theorem Tx.i_MOST_BARS (T : Tx K mg) : ∃ t, mg "MOST_BARS" = some (.int 4 t) := by
  obtain ⟨h, X, G⟩ := T.hp
  exact He.int_ok X G (T.c.fact 69 (f := .int "MOST_BARS" 4) rfl)
theorem Tx.m_MOST_BARS (T : Tx K mg) : (∃ t, mg "MOST_BARS" = some (.int 4 t)) ∧ mg "MOST_BARS" = some (.int 4 (Classical.choose T.i_MOST_BARS)) := ⟨T.i_MOST_BARS, Classical.choose_spec T.i_MOST_BARS⟩
theorem Tx.i_MOST_PLACE (T : Tx K mg) : ∃ t, mg "MOST_PLACE" = some (.int 6 t) := by
  obtain ⟨h, X, G⟩ := T.hp
  exact He.int_ok X G (T.c.fact 70 (f := .int "MOST_PLACE" 6) rfl)
theorem Tx.m_MOST_PLACE (T : Tx K mg) : (∃ t, mg "MOST_PLACE" = some (.int 6 t)) ∧ mg "MOST_PLACE" = some (.int 6 (Classical.choose T.i_MOST_PLACE)) := ⟨T.i_MOST_PLACE, Classical.choose_spec T.i_MOST_PLACE⟩
theorem Tx.i_MOST_ROPE (T : Tx K mg) : ∃ t, mg "MOST_ROPE" = some (.int 20 t) := by
  obtain ⟨h, X, G⟩ := T.hp
  exact He.int_ok X G (T.c.fact 71 (f := .int "MOST_ROPE" 20) rfl)
theorem Tx.m_MOST_ROPE (T : Tx K mg) : (∃ t, mg "MOST_ROPE" = some (.int 20 t)) ∧ mg "MOST_ROPE" = some (.int 20 (Classical.choose T.i_MOST_ROPE)) := ⟨T.i_MOST_ROPE, Classical.choose_spec T.i_MOST_ROPE⟩
theorem Tx.i_MOST_CREW (T : Tx K mg) : ∃ t, mg "MOST_CREW" = some (.int 3 t) := by
  obtain ⟨h, X, G⟩ := T.hp
  exact He.int_ok X G (T.c.fact 72 (f := .int "MOST_CREW" 3) rfl)
theorem Tx.m_MOST_CREW (T : Tx K mg) : (∃ t, mg "MOST_CREW" = some (.int 3 t)) ∧ mg "MOST_CREW" = some (.int 3 (Classical.choose T.i_MOST_CREW)) := ⟨T.i_MOST_CREW, Classical.choose_spec T.i_MOST_CREW⟩
theorem Tx.i_LEAST_CLEARANCE (T : Tx K mg) : ∃ t, mg "LEAST_CLEARANCE" = some (.int 2 t) := by
  obtain ⟨h, X, G⟩ := T.hp
  exact He.int_ok X G (T.c.fact 73 (f := .int "LEAST_CLEARANCE" 2) rfl)
theorem Tx.m_LEAST_CLEARANCE (T : Tx K mg) : (∃ t, mg "LEAST_CLEARANCE" = some (.int 2 t)) ∧ mg "LEAST_CLEARANCE" = some (.int 2 (Classical.choose T.i_LEAST_CLEARANCE)) := ⟨T.i_LEAST_CLEARANCE, Classical.choose_spec T.i_LEAST_CLEARANCE⟩
theorem Tx.i_MOST_CLEARANCE (T : Tx K mg) : ∃ t, mg "MOST_CLEARANCE" = some (.int 5 t) := by
  obtain ⟨h, X, G⟩ := T.hp
  exact He.int_ok X G (T.c.fact 74 (f := .int "MOST_CLEARANCE" 5) rfl)
theorem Tx.m_MOST_CLEARANCE (T : Tx K mg) : (∃ t, mg "MOST_CLEARANCE" = some (.int 5 t)) ∧ mg "MOST_CLEARANCE" = some (.int 5 (Classical.choose T.i_MOST_CLEARANCE)) := ⟨T.i_MOST_CLEARANCE, Classical.choose_spec T.i_MOST_CLEARANCE⟩
theorem Tx.i_MOST_PAIRS (T : Tx K mg) : ∃ t, mg "MOST_PAIRS" = some (.int 4 t) := by
  obtain ⟨h, X, G⟩ := T.hp
  exact He.int_ok X G (T.c.fact 75 (f := .int "MOST_PAIRS" 4) rfl)
theorem Tx.m_MOST_PAIRS (T : Tx K mg) : (∃ t, mg "MOST_PAIRS" = some (.int 4 t)) ∧ mg "MOST_PAIRS" = some (.int 4 (Classical.choose T.i_MOST_PAIRS)) := ⟨T.i_MOST_PAIRS, Classical.choose_spec T.i_MOST_PAIRS⟩
theorem Tx.i_MOST_CUES (T : Tx K mg) : ∃ t, mg "MOST_CUES" = some (.int 5 t) := by
  obtain ⟨h, X, G⟩ := T.hp
  exact He.int_ok X G (T.c.fact 76 (f := .int "MOST_CUES" 5) rfl)
theorem Tx.m_MOST_CUES (T : Tx K mg) : (∃ t, mg "MOST_CUES" = some (.int 5 t)) ∧ mg "MOST_CUES" = some (.int 5 (Classical.choose T.i_MOST_CUES)) := ⟨T.i_MOST_CUES, Classical.choose_spec T.i_MOST_CUES⟩
theorem Tx.i_MOST_DELAY (T : Tx K mg) : ∃ t, mg "MOST_DELAY" = some (.int 5 t) := by
  obtain ⟨h, X, G⟩ := T.hp
  exact He.int_ok X G (T.c.fact 77 (f := .int "MOST_DELAY" 5) rfl)
theorem Tx.m_MOST_DELAY (T : Tx K mg) : (∃ t, mg "MOST_DELAY" = some (.int 5 t)) ∧ mg "MOST_DELAY" = some (.int 5 (Classical.choose T.i_MOST_DELAY)) := ⟨T.i_MOST_DELAY, Classical.choose_spec T.i_MOST_DELAY⟩
theorem Tx.i_MOST_WAIT (T : Tx K mg) : ∃ t, mg "MOST_WAIT" = some (.int 200 t) := by
  obtain ⟨h, X, G⟩ := T.hp
  exact He.int_ok X G (T.c.fact 78 (f := .int "MOST_WAIT" 200) rfl)
theorem Tx.m_MOST_WAIT (T : Tx K mg) : (∃ t, mg "MOST_WAIT" = some (.int 200 t)) ∧ mg "MOST_WAIT" = some (.int 200 (Classical.choose T.i_MOST_WAIT)) := ⟨T.i_MOST_WAIT, Classical.choose_spec T.i_MOST_WAIT⟩
theorem Tx.c_Cue (T : Tx K mg) : Cls K (He.ga K "Cue") := He.cls_ok (T.c.fact 79 (f := .cls "Cue") rfl)
theorem Tx.k_Cue (T : Tx K mg) : Mk K (He.ga K "Cue") (He.ma K (He.ga K "Cue") "__init__") := He.mkr_ok (T.c.fact 80 (f := .mkr "Cue") rfl)
theorem Tx.n_Cue_moves (T : Tx K mg) : NoAttr K (He.ga K "Cue") "moves" := He.noat_ok (T.c.fact 81 (f := .noat "Cue" "moves") rfl)
theorem Tx.n_Cue_event (T : Tx K mg) : NoAttr K (He.ga K "Cue") "event" := He.noat_ok (T.c.fact 82 (f := .noat "Cue" "event") rfl)
theorem Tx.n_Cue_leader (T : Tx K mg) : NoAttr K (He.ga K "Cue") "leader" := He.noat_ok (T.c.fact 83 (f := .noat "Cue" "leader") rfl)
theorem Tx.n_Cue_delay (T : Tx K mg) : NoAttr K (He.ga K "Cue") "delay" := He.noat_ok (T.c.fact 84 (f := .noat "Cue" "delay") rfl)
theorem Tx.c_Stage (T : Tx K mg) : Cls K (He.ga K "Stage") := He.cls_ok (T.c.fact 85 (f := .cls "Stage") rfl)
theorem Tx.k_Stage (T : Tx K mg) : Mk K (He.ga K "Stage") (He.ma K (He.ga K "Stage") "__init__") := He.mkr_ok (T.c.fact 86 (f := .mkr "Stage") rfl)
theorem Tx.n_Stage_positions (T : Tx K mg) : NoAttr K (He.ga K "Stage") "positions" := He.noat_ok (T.c.fact 87 (f := .noat "Stage" "positions") rfl)
theorem Tx.n_Stage_targets (T : Tx K mg) : NoAttr K (He.ga K "Stage") "targets" := He.noat_ok (T.c.fact 88 (f := .noat "Stage" "targets") rfl)
theorem Tx.n_Stage_holders (T : Tx K mg) : NoAttr K (He.ga K "Stage") "holders" := He.noat_ok (T.c.fact 89 (f := .noat "Stage" "holders") rfl)
theorem Tx.n_Stage_ropes (T : Tx K mg) : NoAttr K (He.ga K "Stage") "ropes" := He.noat_ok (T.c.fact 90 (f := .noat "Stage" "ropes") rfl)
theorem Tx.n_Stage_pairs (T : Tx K mg) : NoAttr K (He.ga K "Stage") "pairs" := He.noat_ok (T.c.fact 91 (f := .noat "Stage" "pairs") rfl)
theorem Tx.n_Stage_cues (T : Tx K mg) : NoAttr K (He.ga K "Stage") "cues" := He.noat_ok (T.c.fact 92 (f := .noat "Stage" "cues") rfl)
theorem Tx.n_Stage_starts (T : Tx K mg) : NoAttr K (He.ga K "Stage") "starts" := He.noat_ok (T.c.fact 93 (f := .noat "Stage" "starts") rfl)
theorem Tx.n_Stage_ends (T : Tx K mg) : NoAttr K (He.ga K "Stage") "ends" := He.noat_ok (T.c.fact 94 (f := .noat "Stage" "ends") rfl)
theorem Tx.n_Stage_now (T : Tx K mg) : NoAttr K (He.ga K "Stage") "now" := He.noat_ok (T.c.fact 95 (f := .noat "Stage" "now") rfl)
theorem Tx.e_Stage_copy (T : Tx K mg) : Meth K (He.ga K "Stage") "copy" (He.ma K (He.ga K "Stage") "copy") := He.meth_ok (T.c.fact 96 (f := .meth "Stage" "copy") rfl)
theorem Tx.e_Stage_bars (T : Tx K mg) : Meth K (He.ga K "Stage") "bars" (He.ma K (He.ga K "Stage") "bars") := He.meth_ok (T.c.fact 97 (f := .meth "Stage" "bars") rfl)
theorem Tx.e_Stage_add_cue (T : Tx K mg) : Meth K (He.ga K "Stage") "add_cue" (He.ma K (He.ga K "Stage") "add_cue") := He.meth_ok (T.c.fact 98 (f := .meth "Stage" "add_cue") rfl)
theorem Tx.e_Stage_has_started (T : Tx K mg) : Meth K (He.ga K "Stage") "has_started" (He.ma K (He.ga K "Stage") "has_started") := He.meth_ok (T.c.fact 99 (f := .meth "Stage" "has_started") rfl)
theorem Tx.e_Stage_many_started (T : Tx K mg) : Meth K (He.ga K "Stage") "many_started" (He.ma K (He.ga K "Stage") "many_started") := He.meth_ok (T.c.fact 100 (f := .meth "Stage" "many_started") rfl)
theorem Tx.e_Stage_many_moving (T : Tx K mg) : Meth K (He.ga K "Stage") "many_moving" (He.ma K (He.ga K "Stage") "many_moving") := He.meth_ok (T.c.fact 101 (f := .meth "Stage" "many_moving") rfl)
theorem Tx.e_Stage_move_bars (T : Tx K mg) : Meth K (He.ga K "Stage") "move_bars" (He.ma K (He.ga K "Stage") "move_bars") := He.meth_ok (T.c.fact 102 (f := .meth "Stage" "move_bars") rfl)
theorem Tx.e_Stage_has_reached (T : Tx K mg) : Meth K (He.ga K "Stage") "has_reached" (He.ma K (He.ga K "Stage") "has_reached") := He.meth_ok (T.c.fact 103 (f := .meth "Stage" "has_reached") rfl)
theorem Tx.e_Stage_note_ends (T : Tx K mg) : Meth K (He.ga K "Stage") "note_ends" (He.ma K (He.ga K "Stage") "note_ends") := He.meth_ok (T.c.fact 104 (f := .meth "Stage" "note_ends") rfl)
theorem Tx.e_Stage_start (T : Tx K mg) : Meth K (He.ga K "Stage") "start" (He.ma K (He.ga K "Stage") "start") := He.meth_ok (T.c.fact 105 (f := .meth "Stage" "start") rfl)
theorem Tx.e_Stage_due_of (T : Tx K mg) : Meth K (He.ga K "Stage") "due_of" (He.ma K (He.ga K "Stage") "due_of") := He.meth_ok (T.c.fact 106 (f := .meth "Stage" "due_of") rfl)
theorem Tx.e_Stage_start_followers (T : Tx K mg) : Meth K (He.ga K "Stage") "start_followers" (He.ma K (He.ga K "Stage") "start_followers") := He.meth_ok (T.c.fact 107 (f := .meth "Stage" "start_followers") rfl)
theorem Tx.e_Stage_call (T : Tx K mg) : Meth K (He.ga K "Stage") "call" (He.ma K (He.ga K "Stage") "call") := He.meth_ok (T.c.fact 108 (f := .meth "Stage" "call") rfl)
theorem Tx.e_Stage_pass_second (T : Tx K mg) : Meth K (He.ga K "Stage") "pass_second" (He.ma K (He.ga K "Stage") "pass_second") := He.meth_ok (T.c.fact 109 (f := .meth "Stage" "pass_second") rfl)
theorem Tx.e_Stage_is_to_come (T : Tx K mg) : Meth K (He.ga K "Stage") "is_to_come" (He.ma K (He.ga K "Stage") "is_to_come") := He.meth_ok (T.c.fact 110 (f := .meth "Stage" "is_to_come") rfl)
theorem Tx.e_Stage_is_quiet (T : Tx K mg) : Meth K (He.ga K "Stage") "is_quiet" (He.ma K (He.ga K "Stage") "is_quiet") := He.meth_ok (T.c.fact 111 (f := .meth "Stage" "is_quiet") rfl)
theorem Tx.c_Course (T : Tx K mg) : Cls K (He.ga K "Course") := He.cls_ok (T.c.fact 112 (f := .cls "Course") rfl)
theorem Tx.k_Course (T : Tx K mg) : Mk K (He.ga K "Course") (He.ma K (He.ga K "Course") "__init__") := He.mkr_ok (T.c.fact 113 (f := .mkr "Course") rfl)
theorem Tx.n_Course_frames (T : Tx K mg) : NoAttr K (He.ga K "Course") "frames" := He.noat_ok (T.c.fact 114 (f := .noat "Course" "frames") rfl)
theorem Tx.n_Course_stage (T : Tx K mg) : NoAttr K (He.ga K "Course") "stage" := He.noat_ok (T.c.fact 115 (f := .noat "Course" "stage") rfl)
theorem Tx.e_Course_time (T : Tx K mg) : Meth K (He.ga K "Course") "time" (He.ma K (He.ga K "Course") "time") := He.meth_ok (T.c.fact 116 (f := .meth "Course" "time") rfl)
theorem Tx.e_Course_whole_film (T : Tx K mg) : Meth K (He.ga K "Course") "whole_film" (He.ma K (He.ga K "Course") "whole_film") := He.meth_ok (T.c.fact 117 (f := .meth "Course" "whole_film") rfl)
theorem Tx.c_Loft (T : Tx K mg) : Cls K (He.ga K "Loft") := He.cls_ok (T.c.fact 118 (f := .cls "Loft") rfl)
theorem Tx.k_Loft (T : Tx K mg) : Mk K (He.ga K "Loft") (He.ma K (He.ga K "Loft") "__init__") := He.mkr_ok (T.c.fact 119 (f := .mkr "Loft") rfl)
theorem Tx.n_Loft_stage (T : Tx K mg) : NoAttr K (He.ga K "Loft") "stage" := He.noat_ok (T.c.fact 120 (f := .noat "Loft" "stage") rfl)
theorem Tx.e_Loft_want_bar (T : Tx K mg) : Meth K (He.ga K "Loft") "want_bar" (He.ma K (He.ga K "Loft") "want_bar") := He.meth_ok (T.c.fact 121 (f := .meth "Loft" "want_bar") rfl)
theorem Tx.e_Loft_want_cue (T : Tx K mg) : Meth K (He.ga K "Loft") "want_cue" (He.ma K (He.ga K "Loft") "want_cue") := He.meth_ok (T.c.fact 122 (f := .meth "Loft" "want_cue") rfl)
theorem Tx.e_Loft_want_none_started (T : Tx K mg) : Meth K (He.ga K "Loft") "want_none_started" (He.ma K (He.ga K "Loft") "want_none_started") := He.meth_ok (T.c.fact 123 (f := .meth "Loft" "want_none_started") rfl)
theorem Tx.e_Loft_begin (T : Tx K mg) : Meth K (He.ga K "Loft") "begin" (He.ma K (He.ga K "Loft") "begin") := He.meth_ok (T.c.fact 124 (f := .meth "Loft" "begin") rfl)
theorem Tx.e_Loft_set_rope (T : Tx K mg) : Meth K (He.ga K "Loft") "set_rope" (He.ma K (He.ga K "Loft") "set_rope") := He.meth_ok (T.c.fact 125 (f := .meth "Loft" "set_rope") rfl)
theorem Tx.e_Loft_add_pair (T : Tx K mg) : Meth K (He.ga K "Loft") "add_pair" (He.ma K (He.ga K "Loft") "add_pair") := He.meth_ok (T.c.fact 126 (f := .meth "Loft" "add_pair") rfl)
theorem Tx.e_Loft_put_cue (T : Tx K mg) : Meth K (He.ga K "Loft") "put_cue" (He.ma K (He.ga K "Loft") "put_cue") := He.meth_ok (T.c.fact 127 (f := .meth "Loft" "put_cue") rfl)
theorem Tx.e_Loft_add_cue (T : Tx K mg) : Meth K (He.ga K "Loft") "add_cue" (He.ma K (He.ga K "Loft") "add_cue") := He.meth_ok (T.c.fact 128 (f := .meth "Loft" "add_cue") rfl)
theorem Tx.e_Loft_add_follow (T : Tx K mg) : Meth K (He.ga K "Loft") "add_follow" (He.ma K (He.ga K "Loft") "add_follow") := He.meth_ok (T.c.fact 129 (f := .meth "Loft" "add_follow") rfl)
theorem Tx.e_Loft_call (T : Tx K mg) : Meth K (He.ga K "Loft") "call" (He.ma K (He.ga K "Loft") "call") := He.meth_ok (T.c.fact 130 (f := .meth "Loft" "call") rfl)
theorem Tx.e_Loft_wait (T : Tx K mg) : Meth K (He.ga K "Loft") "wait" (He.ma K (He.ga K "Loft") "wait") := He.meth_ok (T.c.fact 131 (f := .meth "Loft" "wait") rfl)
theorem Tx.e_Loft_positions_at (T : Tx K mg) : Meth K (He.ga K "Loft") "positions_at" (He.ma K (He.ga K "Loft") "positions_at") := He.meth_ok (T.c.fact 132 (f := .meth "Loft" "positions_at") rfl)
theorem Tx.e_Loft_first_violation (T : Tx K mg) : Meth K (He.ga K "Loft") "first_violation" (He.ma K (He.ga K "Loft") "first_violation") := He.meth_ok (T.c.fact 133 (f := .meth "Loft" "first_violation") rfl)
theorem Tx.e_Loft_movements_now (T : Tx K mg) : Meth K (He.ga K "Loft") "movements_now" (He.ma K (He.ga K "Loft") "movements_now") := He.meth_ok (T.c.fact 134 (f := .meth "Loft" "movements_now") rfl)
theorem Tx.e_Loft_few_movements (T : Tx K mg) : Meth K (He.ga K "Loft") "few_movements" (He.ma K (He.ga K "Loft") "few_movements") := He.meth_ok (T.c.fact 135 (f := .meth "Loft" "few_movements") rfl)
theorem Tx.e_Loft_movements (T : Tx K mg) : Meth K (He.ga K "Loft") "movements" (He.ma K (He.ga K "Loft") "movements") := He.meth_ok (T.c.fact 136 (f := .meth "Loft" "movements") rfl)
theorem Tx.e_Loft_stagehands (T : Tx K mg) : Meth K (He.ga K "Loft") "stagehands" (He.ma K (He.ga K "Loft") "stagehands") := He.meth_ok (T.c.fact 137 (f := .meth "Loft" "stagehands") rfl)
theorem Tx.e_Loft_plan (T : Tx K mg) : Meth K (He.ga K "Loft") "plan" (He.ma K (He.ga K "Loft") "plan") := He.meth_ok (T.c.fact 138 (f := .meth "Loft" "plan") rfl)
theorem Tx.e_Loft_earliest (T : Tx K mg) : Meth K (He.ga K "Loft") "earliest" (He.ma K (He.ga K "Loft") "earliest") := He.meth_ok (T.c.fact 139 (f := .meth "Loft" "earliest") rfl)
theorem Tx.e_Loft_schedule (T : Tx K mg) : Meth K (He.ga K "Loft") "schedule" (He.ma K (He.ga K "Loft") "schedule") := He.meth_ok (T.c.fact 140 (f := .meth "Loft" "schedule") rfl)
theorem Tx.e_Loft_state (T : Tx K mg) : Meth K (He.ga K "Loft") "state" (He.ma K (He.ga K "Loft") "state") := He.meth_ok (T.c.fact 141 (f := .meth "Loft" "state") rfl)
theorem Tx.e_Loft_told_of_setting (T : Tx K mg) : Meth K (He.ga K "Loft") "told_of_setting" (He.ma K (He.ga K "Loft") "told_of_setting") := He.meth_ok (T.c.fact 142 (f := .meth "Loft" "told_of_setting") rfl)
theorem Tx.e_Loft_told_of_asking (T : Tx K mg) : Meth K (He.ga K "Loft") "told_of_asking" (He.ma K (He.ga K "Loft") "told_of_asking") := He.meth_ok (T.c.fact 143 (f := .meth "Loft" "told_of_asking") rfl)
theorem Tx.e_Loft_answer (T : Tx K mg) : Meth K (He.ga K "Loft") "answer" (He.ma K (He.ga K "Loft") "answer") := He.meth_ok (T.c.fact 144 (f := .meth "Loft" "answer") rfl)
theorem Tx.n_Refused_code (T : Tx K mg) : NoAttr K (He.ga K "Refused") "code" := He.noat_ok (T.c.fact 145 (f := .noat "Refused" "code") rfl)
theorem Tx.x_Refused (T : Tx K mg) : PySem.W.exmOne K (.ref (He.ga K "Refused")) (.ref (He.ga K "Refused")) = some true := He.exm_ok (T.c.fact 146 (f := .exm "Refused" "Refused" true) rfl)
theorem Tx.p_Refused (T : Tx K mg) : PySem.W.keepIn K (.ref (He.ga K "Refused")) = true := T.c.fact 147 (f := .keep "Refused") rfl
theorem Tx.p_are_compatible (T : Tx K mg) : PySem.W.keepIn K (.ref (He.ga K "are_compatible")) = true := T.c.fact 148 (f := .keep "are_compatible") rfl
theorem Tx.p_clashes_of (T : Tx K mg) : PySem.W.keepIn K (.ref (He.ga K "clashes_of")) = true := T.c.fact 149 (f := .keep "clashes_of") rfl
theorem Tx.p_crews_of (T : Tx K mg) : PySem.W.keepIn K (.ref (He.ga K "crews_of")) = true := T.c.fact 150 (f := .keep "crews_of") rfl
theorem Tx.p_are_few (T : Tx K mg) : PySem.W.keepIn K (.ref (He.ga K "are_few")) = true := T.c.fact 151 (f := .keep "are_few") rfl
theorem Tx.p_spots_of (T : Tx K mg) : PySem.W.keepIn K (.ref (He.ga K "spots_of")) = true := T.c.fact 152 (f := .keep "spots_of") rfl
theorem Tx.p_can_take (T : Tx K mg) : PySem.W.keepIn K (.ref (He.ga K "can_take")) = true := T.c.fact 153 (f := .keep "can_take") rfl
theorem Tx.p_completed (T : Tx K mg) : PySem.W.keepIn K (.ref (He.ga K "completed")) = true := T.c.fact 154 (f := .keep "completed") rfl
theorem Tx.p_plan_within (T : Tx K mg) : PySem.W.keepIn K (.ref (He.ga K "plan_within")) = true := T.c.fact 155 (f := .keep "plan_within") rfl
theorem Tx.p_plan_of (T : Tx K mg) : PySem.W.keepIn K (.ref (He.ga K "plan_of")) = true := T.c.fact 156 (f := .keep "plan_of") rfl
theorem Tx.p_hands_in (T : Tx K mg) : PySem.W.keepIn K (.ref (He.ga K "hands_in")) = true := T.c.fact 157 (f := .keep "hands_in") rfl
theorem Tx.p_are_feasible (T : Tx K mg) : PySem.W.keepIn K (.ref (He.ga K "are_feasible")) = true := T.c.fact 158 (f := .keep "are_feasible") rfl
theorem Tx.p_clashing_sets (T : Tx K mg) : PySem.W.keepIn K (.ref (He.ga K "clashing_sets")) = true := T.c.fact 159 (f := .keep "clashing_sets") rfl
theorem Tx.p_rank_of (T : Tx K mg) : PySem.W.keepIn K (.ref (He.ga K "rank_of")) = true := T.c.fact 160 (f := .keep "rank_of") rfl
theorem Tx.p_bottleneck_of (T : Tx K mg) : PySem.W.keepIn K (.ref (He.ga K "bottleneck_of")) = true := T.c.fact 161 (f := .keep "bottleneck_of") rfl
theorem Tx.p_sign_of (T : Tx K mg) : PySem.W.keepIn K (.ref (He.ga K "sign_of")) = true := T.c.fact 162 (f := .keep "sign_of") rfl
theorem Tx.p_is_pair_violated (T : Tx K mg) : PySem.W.keepIn K (.ref (He.ga K "is_pair_violated")) = true := T.c.fact 163 (f := .keep "is_pair_violated") rfl
theorem Tx.p_first_violated (T : Tx K mg) : PySem.W.keepIn K (.ref (He.ga K "first_violated")) = true := T.c.fact 164 (f := .keep "first_violated") rfl
theorem Tx.p_frame_of (T : Tx K mg) : PySem.W.keepIn K (.ref (He.ga K "frame_of")) = true := T.c.fact 165 (f := .keep "frame_of") rfl
theorem Tx.p_film_from (T : Tx K mg) : PySem.W.keepIn K (.ref (He.ga K "film_from")) = true := T.c.fact 166 (f := .keep "film_from") rfl
theorem Tx.p_frame_at (T : Tx K mg) : PySem.W.keepIn K (.ref (He.ga K "frame_at")) = true := T.c.fact 167 (f := .keep "frame_at") rfl
theorem Tx.p_many_moving_in (T : Tx K mg) : PySem.W.keepIn K (.ref (He.ga K "many_moving_in")) = true := T.c.fact 168 (f := .keep "many_moving_in") rfl
theorem Tx.p_violation_in (T : Tx K mg) : PySem.W.keepIn K (.ref (He.ga K "violation_in")) = true := T.c.fact 169 (f := .keep "violation_in") rfl
theorem Tx.p_directions_of (T : Tx K mg) : PySem.W.keepIn K (.ref (He.ga K "directions_of")) = true := T.c.fact 170 (f := .keep "directions_of") rfl
theorem Tx.p_runs_in (T : Tx K mg) : PySem.W.keepIn K (.ref (He.ga K "runs_in")) = true := T.c.fact 171 (f := .keep "runs_in") rfl
theorem Tx.p_movements_in (T : Tx K mg) : PySem.W.keepIn K (.ref (He.ga K "movements_in")) = true := T.c.fact 172 (f := .keep "movements_in") rfl
theorem Tx.p_called_in (T : Tx K mg) : PySem.W.keepIn K (.ref (He.ga K "called_in")) = true := T.c.fact 173 (f := .keep "called_in") rfl
theorem Tx.p_second_later (T : Tx K mg) : PySem.W.keepIn K (.ref (He.ga K "second_later")) = true := T.c.fact 174 (f := .keep "second_later") rfl
theorem Tx.p_is_safe_now (T : Tx K mg) : PySem.W.keepIn K (.ref (He.ga K "is_safe_now")) = true := T.c.fact 175 (f := .keep "is_safe_now") rfl
theorem Tx.p_first_safe (T : Tx K mg) : PySem.W.keepIn K (.ref (He.ga K "first_safe")) = true := T.c.fact 176 (f := .keep "first_safe") rfl
theorem Tx.p_scheduled (T : Tx K mg) : PySem.W.keepIn K (.ref (He.ga K "scheduled")) = true := T.c.fact 177 (f := .keep "scheduled") rfl
theorem Tx.p_want (T : Tx K mg) : PySem.W.keepIn K (.ref (He.ga K "want")) = true := T.c.fact 178 (f := .keep "want") rfl
theorem Tx.p_listed (T : Tx K mg) : PySem.W.keepIn K (.ref (He.ga K "listed")) = true := T.c.fact 179 (f := .keep "listed") rfl
theorem Tx.p_joined (T : Tx K mg) : PySem.W.keepIn K (.ref (He.ga K "joined")) = true := T.c.fact 180 (f := .keep "joined") rfl
theorem Tx.p_are_unlike (T : Tx K mg) : PySem.W.keepIn K (.ref (He.ga K "are_unlike")) = true := T.c.fact 181 (f := .keep "are_unlike") rfl
theorem Tx.p_moves_of (T : Tx K mg) : PySem.W.keepIn K (.ref (He.ga K "moves_of")) = true := T.c.fact 182 (f := .keep "moves_of") rfl
theorem Tx.p_are_moves (T : Tx K mg) : PySem.W.keepIn K (.ref (He.ga K "are_moves")) = true := T.c.fact 183 (f := .keep "are_moves") rfl
theorem Tx.p_answers (T : Tx K mg) : PySem.W.keepIn K (.ref (He.ga K "answers")) = true := T.c.fact 184 (f := .keep "answers") rfl
theorem Tx.d_are_compatible (T : Tx K mg) : ∃ fd, FunD K "are_compatible" "are_compatible" (defArgs s_are_compatible) (defBody s_are_compatible) (defScope s_are_compatible) [] [] (He.ga K "are_compatible") fd := T.c.def_ 0 (d := ⟨("are_compatible", none), "are_compatible", "are_compatible", defArgs s_are_compatible, defBody s_are_compatible, defScope s_are_compatible, [], []⟩) rfl
theorem Tx.d_clashes_of (T : Tx K mg) : ∃ fd, FunD K "clashes_of" "clashes_of" (defArgs s_clashes_of) (defBody s_clashes_of) (defScope s_clashes_of) [] [] (He.ga K "clashes_of") fd := T.c.def_ 1 (d := ⟨("clashes_of", none), "clashes_of", "clashes_of", defArgs s_clashes_of, defBody s_clashes_of, defScope s_clashes_of, [], []⟩) rfl
theorem Tx.d_crews_of (T : Tx K mg) : ∃ fd, FunD K "crews_of" "crews_of" (defArgs s_crews_of) (defBody s_crews_of) (defScope s_crews_of) [] [] (He.ga K "crews_of") fd := T.c.def_ 2 (d := ⟨("crews_of", none), "crews_of", "crews_of", defArgs s_crews_of, defBody s_crews_of, defScope s_crews_of, [], []⟩) rfl
theorem Tx.d_are_few (T : Tx K mg) : ∃ fd, FunD K "are_few" "are_few" (defArgs s_are_few) (defBody s_are_few) (defScope s_are_few) [] [] (He.ga K "are_few") fd := T.c.def_ 3 (d := ⟨("are_few", none), "are_few", "are_few", defArgs s_are_few, defBody s_are_few, defScope s_are_few, [], []⟩) rfl
theorem Tx.d_spots_of (T : Tx K mg) : ∃ fd, FunD K "spots_of" "spots_of" (defArgs s_spots_of) (defBody s_spots_of) (defScope s_spots_of) [] [] (He.ga K "spots_of") fd := T.c.def_ 4 (d := ⟨("spots_of", none), "spots_of", "spots_of", defArgs s_spots_of, defBody s_spots_of, defScope s_spots_of, [], []⟩) rfl
theorem Tx.d_can_take (T : Tx K mg) : ∃ fd, FunD K "can_take" "can_take" (defArgs s_can_take) (defBody s_can_take) (defScope s_can_take) [] [] (He.ga K "can_take") fd := T.c.def_ 5 (d := ⟨("can_take", none), "can_take", "can_take", defArgs s_can_take, defBody s_can_take, defScope s_can_take, [], []⟩) rfl
theorem Tx.d_completed (T : Tx K mg) : ∃ fd, FunD K "completed" "completed" (defArgs s_completed) (defBody s_completed) (defScope s_completed) [] [] (He.ga K "completed") fd := T.c.def_ 6 (d := ⟨("completed", none), "completed", "completed", defArgs s_completed, defBody s_completed, defScope s_completed, [], []⟩) rfl
theorem Tx.d_plan_within (T : Tx K mg) : ∃ fd, FunD K "plan_within" "plan_within" (defArgs s_plan_within) (defBody s_plan_within) (defScope s_plan_within) [] [] (He.ga K "plan_within") fd := T.c.def_ 7 (d := ⟨("plan_within", none), "plan_within", "plan_within", defArgs s_plan_within, defBody s_plan_within, defScope s_plan_within, [], []⟩) rfl
theorem Tx.d_plan_of (T : Tx K mg) : ∃ fd, FunD K "plan_of" "plan_of" (defArgs s_plan_of) (defBody s_plan_of) (defScope s_plan_of) [] [] (He.ga K "plan_of") fd := T.c.def_ 8 (d := ⟨("plan_of", none), "plan_of", "plan_of", defArgs s_plan_of, defBody s_plan_of, defScope s_plan_of, [], []⟩) rfl
theorem Tx.d_hands_in (T : Tx K mg) : ∃ fd, FunD K "hands_in" "hands_in" (defArgs s_hands_in) (defBody s_hands_in) (defScope s_hands_in) [] [] (He.ga K "hands_in") fd := T.c.def_ 9 (d := ⟨("hands_in", none), "hands_in", "hands_in", defArgs s_hands_in, defBody s_hands_in, defScope s_hands_in, [], []⟩) rfl
theorem Tx.d_are_feasible (T : Tx K mg) : ∃ fd, FunD K "are_feasible" "are_feasible" (defArgs s_are_feasible) (defBody s_are_feasible) (defScope s_are_feasible) [] [] (He.ga K "are_feasible") fd := T.c.def_ 10 (d := ⟨("are_feasible", none), "are_feasible", "are_feasible", defArgs s_are_feasible, defBody s_are_feasible, defScope s_are_feasible, [], []⟩) rfl
theorem Tx.d_clashing_sets (T : Tx K mg) : ∃ fd, FunD K "clashing_sets" "clashing_sets" (defArgs s_clashing_sets) (defBody s_clashing_sets) (defScope s_clashing_sets) [] [] (He.ga K "clashing_sets") fd := T.c.def_ 11 (d := ⟨("clashing_sets", none), "clashing_sets", "clashing_sets", defArgs s_clashing_sets, defBody s_clashing_sets, defScope s_clashing_sets, [], []⟩) rfl
theorem Tx.d_rank_of (T : Tx K mg) : ∃ fd, FunD K "rank_of" "rank_of" (defArgs s_rank_of) (defBody s_rank_of) (defScope s_rank_of) [] [] (He.ga K "rank_of") fd := T.c.def_ 12 (d := ⟨("rank_of", none), "rank_of", "rank_of", defArgs s_rank_of, defBody s_rank_of, defScope s_rank_of, [], []⟩) rfl
theorem Tx.d_bottleneck_of (T : Tx K mg) : ∃ fd, FunD K "bottleneck_of" "bottleneck_of" (defArgs s_bottleneck_of) (defBody s_bottleneck_of) (defScope s_bottleneck_of) [] [] (He.ga K "bottleneck_of") fd := T.c.def_ 13 (d := ⟨("bottleneck_of", none), "bottleneck_of", "bottleneck_of", defArgs s_bottleneck_of, defBody s_bottleneck_of, defScope s_bottleneck_of, [], []⟩) rfl
theorem Tx.d_sign_of (T : Tx K mg) : ∃ fd, FunD K "sign_of" "sign_of" (defArgs s_sign_of) (defBody s_sign_of) (defScope s_sign_of) [] [] (He.ga K "sign_of") fd := T.c.def_ 14 (d := ⟨("sign_of", none), "sign_of", "sign_of", defArgs s_sign_of, defBody s_sign_of, defScope s_sign_of, [], []⟩) rfl
theorem Tx.d_is_pair_violated (T : Tx K mg) : ∃ fd, FunD K "is_pair_violated" "is_pair_violated" (defArgs s_is_pair_violated) (defBody s_is_pair_violated) (defScope s_is_pair_violated) [] [] (He.ga K "is_pair_violated") fd := T.c.def_ 15 (d := ⟨("is_pair_violated", none), "is_pair_violated", "is_pair_violated", defArgs s_is_pair_violated, defBody s_is_pair_violated, defScope s_is_pair_violated, [], []⟩) rfl
theorem Tx.d_first_violated (T : Tx K mg) : ∃ fd, FunD K "first_violated" "first_violated" (defArgs s_first_violated) (defBody s_first_violated) (defScope s_first_violated) [] [] (He.ga K "first_violated") fd := T.c.def_ 16 (d := ⟨("first_violated", none), "first_violated", "first_violated", defArgs s_first_violated, defBody s_first_violated, defScope s_first_violated, [], []⟩) rfl
theorem Tx.d_Cue___init__ (T : Tx K mg) : ∃ fd, FunD K "__init__" "Cue.__init__" (defArgs s_Cue___init__) (defBody s_Cue___init__) (defScope s_Cue___init__) [] [] (He.ma K (He.ga K "Cue") "__init__") fd := T.c.def_ 17 (d := ⟨("Cue", some "__init__"), "__init__", "Cue.__init__", defArgs s_Cue___init__, defBody s_Cue___init__, defScope s_Cue___init__, [], []⟩) rfl
theorem Tx.d_Stage___init__ (T : Tx K mg) : ∃ fd, FunD K "__init__" "Stage.__init__" (defArgs s_Stage___init__) (defBody s_Stage___init__) (defScope s_Stage___init__) [] [] (He.ma K (He.ga K "Stage") "__init__") fd := T.c.def_ 18 (d := ⟨("Stage", some "__init__"), "__init__", "Stage.__init__", defArgs s_Stage___init__, defBody s_Stage___init__, defScope s_Stage___init__, [], []⟩) rfl
theorem Tx.d_Stage_copy (T : Tx K mg) : ∃ fd, FunD K "copy" "Stage.copy" (defArgs s_Stage_copy) (defBody s_Stage_copy) (defScope s_Stage_copy) [] [] (He.ma K (He.ga K "Stage") "copy") fd := T.c.def_ 19 (d := ⟨("Stage", some "copy"), "copy", "Stage.copy", defArgs s_Stage_copy, defBody s_Stage_copy, defScope s_Stage_copy, [], []⟩) rfl
theorem Tx.d_Stage_bars (T : Tx K mg) : ∃ fd, FunD K "bars" "Stage.bars" (defArgs s_Stage_bars) (defBody s_Stage_bars) (defScope s_Stage_bars) [] [] (He.ma K (He.ga K "Stage") "bars") fd := T.c.def_ 20 (d := ⟨("Stage", some "bars"), "bars", "Stage.bars", defArgs s_Stage_bars, defBody s_Stage_bars, defScope s_Stage_bars, [], []⟩) rfl
theorem Tx.d_Stage_add_cue (T : Tx K mg) : ∃ fd, FunD K "add_cue" "Stage.add_cue" (defArgs s_Stage_add_cue) (defBody s_Stage_add_cue) (defScope s_Stage_add_cue) [] [] (He.ma K (He.ga K "Stage") "add_cue") fd := T.c.def_ 21 (d := ⟨("Stage", some "add_cue"), "add_cue", "Stage.add_cue", defArgs s_Stage_add_cue, defBody s_Stage_add_cue, defScope s_Stage_add_cue, [], []⟩) rfl
theorem Tx.d_Stage_has_started (T : Tx K mg) : ∃ fd, FunD K "has_started" "Stage.has_started" (defArgs s_Stage_has_started) (defBody s_Stage_has_started) (defScope s_Stage_has_started) [] [] (He.ma K (He.ga K "Stage") "has_started") fd := T.c.def_ 22 (d := ⟨("Stage", some "has_started"), "has_started", "Stage.has_started", defArgs s_Stage_has_started, defBody s_Stage_has_started, defScope s_Stage_has_started, [], []⟩) rfl
theorem Tx.d_Stage_many_started (T : Tx K mg) : ∃ fd, FunD K "many_started" "Stage.many_started" (defArgs s_Stage_many_started) (defBody s_Stage_many_started) (defScope s_Stage_many_started) [] [] (He.ma K (He.ga K "Stage") "many_started") fd := T.c.def_ 23 (d := ⟨("Stage", some "many_started"), "many_started", "Stage.many_started", defArgs s_Stage_many_started, defBody s_Stage_many_started, defScope s_Stage_many_started, [], []⟩) rfl
theorem Tx.d_Stage_many_moving (T : Tx K mg) : ∃ fd, FunD K "many_moving" "Stage.many_moving" (defArgs s_Stage_many_moving) (defBody s_Stage_many_moving) (defScope s_Stage_many_moving) [] [] (He.ma K (He.ga K "Stage") "many_moving") fd := T.c.def_ 24 (d := ⟨("Stage", some "many_moving"), "many_moving", "Stage.many_moving", defArgs s_Stage_many_moving, defBody s_Stage_many_moving, defScope s_Stage_many_moving, [], []⟩) rfl
theorem Tx.d_Stage_move_bars (T : Tx K mg) : ∃ fd, FunD K "move_bars" "Stage.move_bars" (defArgs s_Stage_move_bars) (defBody s_Stage_move_bars) (defScope s_Stage_move_bars) [] [] (He.ma K (He.ga K "Stage") "move_bars") fd := T.c.def_ 25 (d := ⟨("Stage", some "move_bars"), "move_bars", "Stage.move_bars", defArgs s_Stage_move_bars, defBody s_Stage_move_bars, defScope s_Stage_move_bars, [], []⟩) rfl
theorem Tx.d_Stage_has_reached (T : Tx K mg) : ∃ fd, FunD K "has_reached" "Stage.has_reached" (defArgs s_Stage_has_reached) (defBody s_Stage_has_reached) (defScope s_Stage_has_reached) [] [] (He.ma K (He.ga K "Stage") "has_reached") fd := T.c.def_ 26 (d := ⟨("Stage", some "has_reached"), "has_reached", "Stage.has_reached", defArgs s_Stage_has_reached, defBody s_Stage_has_reached, defScope s_Stage_has_reached, [], []⟩) rfl
theorem Tx.d_Stage_note_ends (T : Tx K mg) : ∃ fd, FunD K "note_ends" "Stage.note_ends" (defArgs s_Stage_note_ends) (defBody s_Stage_note_ends) (defScope s_Stage_note_ends) [] [] (He.ma K (He.ga K "Stage") "note_ends") fd := T.c.def_ 27 (d := ⟨("Stage", some "note_ends"), "note_ends", "Stage.note_ends", defArgs s_Stage_note_ends, defBody s_Stage_note_ends, defScope s_Stage_note_ends, [], []⟩) rfl
theorem Tx.d_Stage_start (T : Tx K mg) : ∃ fd, FunD K "start" "Stage.start" (defArgs s_Stage_start) (defBody s_Stage_start) (defScope s_Stage_start) [] [] (He.ma K (He.ga K "Stage") "start") fd := T.c.def_ 28 (d := ⟨("Stage", some "start"), "start", "Stage.start", defArgs s_Stage_start, defBody s_Stage_start, defScope s_Stage_start, [], []⟩) rfl
theorem Tx.d_Stage_due_of (T : Tx K mg) : ∃ fd, FunD K "due_of" "Stage.due_of" (defArgs s_Stage_due_of) (defBody s_Stage_due_of) (defScope s_Stage_due_of) [] [] (He.ma K (He.ga K "Stage") "due_of") fd := T.c.def_ 29 (d := ⟨("Stage", some "due_of"), "due_of", "Stage.due_of", defArgs s_Stage_due_of, defBody s_Stage_due_of, defScope s_Stage_due_of, [], []⟩) rfl
theorem Tx.d_Stage_start_followers (T : Tx K mg) : ∃ fd, FunD K "start_followers" "Stage.start_followers" (defArgs s_Stage_start_followers) (defBody s_Stage_start_followers) (defScope s_Stage_start_followers) [] [] (He.ma K (He.ga K "Stage") "start_followers") fd := T.c.def_ 30 (d := ⟨("Stage", some "start_followers"), "start_followers", "Stage.start_followers", defArgs s_Stage_start_followers, defBody s_Stage_start_followers, defScope s_Stage_start_followers, [], []⟩) rfl
theorem Tx.d_Stage_call (T : Tx K mg) : ∃ fd, FunD K "call" "Stage.call" (defArgs s_Stage_call) (defBody s_Stage_call) (defScope s_Stage_call) [] [] (He.ma K (He.ga K "Stage") "call") fd := T.c.def_ 31 (d := ⟨("Stage", some "call"), "call", "Stage.call", defArgs s_Stage_call, defBody s_Stage_call, defScope s_Stage_call, [], []⟩) rfl
theorem Tx.d_Stage_pass_second (T : Tx K mg) : ∃ fd, FunD K "pass_second" "Stage.pass_second" (defArgs s_Stage_pass_second) (defBody s_Stage_pass_second) (defScope s_Stage_pass_second) [] [] (He.ma K (He.ga K "Stage") "pass_second") fd := T.c.def_ 32 (d := ⟨("Stage", some "pass_second"), "pass_second", "Stage.pass_second", defArgs s_Stage_pass_second, defBody s_Stage_pass_second, defScope s_Stage_pass_second, [], []⟩) rfl
theorem Tx.d_Stage_is_to_come (T : Tx K mg) : ∃ fd, FunD K "is_to_come" "Stage.is_to_come" (defArgs s_Stage_is_to_come) (defBody s_Stage_is_to_come) (defScope s_Stage_is_to_come) [] [] (He.ma K (He.ga K "Stage") "is_to_come") fd := T.c.def_ 33 (d := ⟨("Stage", some "is_to_come"), "is_to_come", "Stage.is_to_come", defArgs s_Stage_is_to_come, defBody s_Stage_is_to_come, defScope s_Stage_is_to_come, [], []⟩) rfl
theorem Tx.d_Stage_is_quiet (T : Tx K mg) : ∃ fd, FunD K "is_quiet" "Stage.is_quiet" (defArgs s_Stage_is_quiet) (defBody s_Stage_is_quiet) (defScope s_Stage_is_quiet) [] [] (He.ma K (He.ga K "Stage") "is_quiet") fd := T.c.def_ 34 (d := ⟨("Stage", some "is_quiet"), "is_quiet", "Stage.is_quiet", defArgs s_Stage_is_quiet, defBody s_Stage_is_quiet, defScope s_Stage_is_quiet, [], []⟩) rfl
theorem Tx.d_frame_of (T : Tx K mg) : ∃ fd, FunD K "frame_of" "frame_of" (defArgs s_frame_of) (defBody s_frame_of) (defScope s_frame_of) [] [] (He.ga K "frame_of") fd := T.c.def_ 35 (d := ⟨("frame_of", none), "frame_of", "frame_of", defArgs s_frame_of, defBody s_frame_of, defScope s_frame_of, [], []⟩) rfl
theorem Tx.d_film_from (T : Tx K mg) : ∃ fd, FunD K "film_from" "film_from" (defArgs s_film_from) (defBody s_film_from) (defScope s_film_from) [] [] (He.ga K "film_from") fd := T.c.def_ 36 (d := ⟨("film_from", none), "film_from", "film_from", defArgs s_film_from, defBody s_film_from, defScope s_film_from, [], []⟩) rfl
theorem Tx.d_frame_at (T : Tx K mg) : ∃ fd, FunD K "frame_at" "frame_at" (defArgs s_frame_at) (defBody s_frame_at) (defScope s_frame_at) [] [] (He.ga K "frame_at") fd := T.c.def_ 37 (d := ⟨("frame_at", none), "frame_at", "frame_at", defArgs s_frame_at, defBody s_frame_at, defScope s_frame_at, [], []⟩) rfl
theorem Tx.d_many_moving_in (T : Tx K mg) : ∃ fd, FunD K "many_moving_in" "many_moving_in" (defArgs s_many_moving_in) (defBody s_many_moving_in) (defScope s_many_moving_in) [] [] (He.ga K "many_moving_in") fd := T.c.def_ 38 (d := ⟨("many_moving_in", none), "many_moving_in", "many_moving_in", defArgs s_many_moving_in, defBody s_many_moving_in, defScope s_many_moving_in, [], []⟩) rfl
theorem Tx.d_violation_in (T : Tx K mg) : ∃ fd, FunD K "violation_in" "violation_in" (defArgs s_violation_in) (defBody s_violation_in) (defScope s_violation_in) [] [] (He.ga K "violation_in") fd := T.c.def_ 39 (d := ⟨("violation_in", none), "violation_in", "violation_in", defArgs s_violation_in, defBody s_violation_in, defScope s_violation_in, [], []⟩) rfl
theorem Tx.d_directions_of (T : Tx K mg) : ∃ fd, FunD K "directions_of" "directions_of" (defArgs s_directions_of) (defBody s_directions_of) (defScope s_directions_of) [] [] (He.ga K "directions_of") fd := T.c.def_ 40 (d := ⟨("directions_of", none), "directions_of", "directions_of", defArgs s_directions_of, defBody s_directions_of, defScope s_directions_of, [], []⟩) rfl
theorem Tx.d_runs_in (T : Tx K mg) : ∃ fd, FunD K "runs_in" "runs_in" (defArgs s_runs_in) (defBody s_runs_in) (defScope s_runs_in) [] [] (He.ga K "runs_in") fd := T.c.def_ 41 (d := ⟨("runs_in", none), "runs_in", "runs_in", defArgs s_runs_in, defBody s_runs_in, defScope s_runs_in, [], []⟩) rfl
theorem Tx.d_movements_in (T : Tx K mg) : ∃ fd, FunD K "movements_in" "movements_in" (defArgs s_movements_in) (defBody s_movements_in) (defScope s_movements_in) [] [] (He.ga K "movements_in") fd := T.c.def_ 42 (d := ⟨("movements_in", none), "movements_in", "movements_in", defArgs s_movements_in, defBody s_movements_in, defScope s_movements_in, [], []⟩) rfl
theorem Tx.d_Course___init__ (T : Tx K mg) : ∃ fd, FunD K "__init__" "Course.__init__" (defArgs s_Course___init__) (defBody s_Course___init__) (defScope s_Course___init__) [] [] (He.ma K (He.ga K "Course") "__init__") fd := T.c.def_ 43 (d := ⟨("Course", some "__init__"), "__init__", "Course.__init__", defArgs s_Course___init__, defBody s_Course___init__, defScope s_Course___init__, [], []⟩) rfl
theorem Tx.d_Course_time (T : Tx K mg) : ∃ fd, FunD K "time" "Course.time" (defArgs s_Course_time) (defBody s_Course_time) (defScope s_Course_time) [] [] (He.ma K (He.ga K "Course") "time") fd := T.c.def_ 44 (d := ⟨("Course", some "time"), "time", "Course.time", defArgs s_Course_time, defBody s_Course_time, defScope s_Course_time, [], []⟩) rfl
theorem Tx.d_Course_whole_film (T : Tx K mg) : ∃ fd, FunD K "whole_film" "Course.whole_film" (defArgs s_Course_whole_film) (defBody s_Course_whole_film) (defScope s_Course_whole_film) [] [] (He.ma K (He.ga K "Course") "whole_film") fd := T.c.def_ 45 (d := ⟨("Course", some "whole_film"), "whole_film", "Course.whole_film", defArgs s_Course_whole_film, defBody s_Course_whole_film, defScope s_Course_whole_film, [], []⟩) rfl
theorem Tx.d_called_in (T : Tx K mg) : ∃ fd, FunD K "called_in" "called_in" (defArgs s_called_in) (defBody s_called_in) (defScope s_called_in) [] [] (He.ga K "called_in") fd := T.c.def_ 46 (d := ⟨("called_in", none), "called_in", "called_in", defArgs s_called_in, defBody s_called_in, defScope s_called_in, [], []⟩) rfl
theorem Tx.d_second_later (T : Tx K mg) : ∃ fd, FunD K "second_later" "second_later" (defArgs s_second_later) (defBody s_second_later) (defScope s_second_later) [] [] (He.ga K "second_later") fd := T.c.def_ 47 (d := ⟨("second_later", none), "second_later", "second_later", defArgs s_second_later, defBody s_second_later, defScope s_second_later, [], []⟩) rfl
theorem Tx.d_is_safe_now (T : Tx K mg) : ∃ fd, FunD K "is_safe_now" "is_safe_now" (defArgs s_is_safe_now) (defBody s_is_safe_now) (defScope s_is_safe_now) [] [] (He.ga K "is_safe_now") fd := T.c.def_ 48 (d := ⟨("is_safe_now", none), "is_safe_now", "is_safe_now", defArgs s_is_safe_now, defBody s_is_safe_now, defScope s_is_safe_now, [], []⟩) rfl
theorem Tx.d_first_safe (T : Tx K mg) : ∃ fd, FunD K "first_safe" "first_safe" (defArgs s_first_safe) (defBody s_first_safe) (defScope s_first_safe) [] [] (He.ga K "first_safe") fd := T.c.def_ 49 (d := ⟨("first_safe", none), "first_safe", "first_safe", defArgs s_first_safe, defBody s_first_safe, defScope s_first_safe, [], []⟩) rfl
theorem Tx.d_scheduled (T : Tx K mg) : ∃ fd, FunD K "scheduled" "scheduled" (defArgs s_scheduled) (defBody s_scheduled) (defScope s_scheduled) [] [] (He.ga K "scheduled") fd := T.c.def_ 50 (d := ⟨("scheduled", none), "scheduled", "scheduled", defArgs s_scheduled, defBody s_scheduled, defScope s_scheduled, [], []⟩) rfl
theorem Tx.d_Refused___init__ (T : Tx K mg) : ∃ fd, FunD K "__init__" "Refused.__init__" (defArgs s_Refused___init__) (defBody s_Refused___init__) (defScope s_Refused___init__) [] [] (He.ma K (He.ga K "Refused") "__init__") fd := T.c.def_ 51 (d := ⟨("Refused", some "__init__"), "__init__", "Refused.__init__", defArgs s_Refused___init__, defBody s_Refused___init__, defScope s_Refused___init__, [], []⟩) rfl
theorem Tx.d_want (T : Tx K mg) : ∃ fd, FunD K "want" "want" (defArgs s_want) (defBody s_want) (defScope s_want) [] [] (He.ga K "want") fd := T.c.def_ 52 (d := ⟨("want", none), "want", "want", defArgs s_want, defBody s_want, defScope s_want, [], []⟩) rfl
theorem Tx.d_listed (T : Tx K mg) : ∃ fd, FunD K "listed" "listed" (defArgs s_listed) (defBody s_listed) (defScope s_listed) [] [] (He.ga K "listed") fd := T.c.def_ 53 (d := ⟨("listed", none), "listed", "listed", defArgs s_listed, defBody s_listed, defScope s_listed, [], []⟩) rfl
theorem Tx.d_joined (T : Tx K mg) : ∃ fd, FunD K "joined" "joined" (defArgs s_joined) (defBody s_joined) (defScope s_joined) [] [] (He.ga K "joined") fd := T.c.def_ 54 (d := ⟨("joined", none), "joined", "joined", defArgs s_joined, defBody s_joined, defScope s_joined, [], []⟩) rfl
theorem Tx.d_are_unlike (T : Tx K mg) : ∃ fd, FunD K "are_unlike" "are_unlike" (defArgs s_are_unlike) (defBody s_are_unlike) (defScope s_are_unlike) [] [] (He.ga K "are_unlike") fd := T.c.def_ 55 (d := ⟨("are_unlike", none), "are_unlike", "are_unlike", defArgs s_are_unlike, defBody s_are_unlike, defScope s_are_unlike, [], []⟩) rfl
theorem Tx.d_moves_of (T : Tx K mg) : ∃ fd, FunD K "moves_of" "moves_of" (defArgs s_moves_of) (defBody s_moves_of) (defScope s_moves_of) [] [] (He.ga K "moves_of") fd := T.c.def_ 56 (d := ⟨("moves_of", none), "moves_of", "moves_of", defArgs s_moves_of, defBody s_moves_of, defScope s_moves_of, [], []⟩) rfl
theorem Tx.d_are_moves (T : Tx K mg) : ∃ fd, FunD K "are_moves" "are_moves" (defArgs s_are_moves) (defBody s_are_moves) (defScope s_are_moves) [] [] (He.ga K "are_moves") fd := T.c.def_ 57 (d := ⟨("are_moves", none), "are_moves", "are_moves", defArgs s_are_moves, defBody s_are_moves, defScope s_are_moves, [], []⟩) rfl
theorem Tx.d_Loft___init__ (T : Tx K mg) : ∃ fd, FunD K "__init__" "Loft.__init__" (defArgs s_Loft___init__) (defBody s_Loft___init__) (defScope s_Loft___init__) [] [] (He.ma K (He.ga K "Loft") "__init__") fd := T.c.def_ 58 (d := ⟨("Loft", some "__init__"), "__init__", "Loft.__init__", defArgs s_Loft___init__, defBody s_Loft___init__, defScope s_Loft___init__, [], []⟩) rfl
theorem Tx.d_Loft_want_bar (T : Tx K mg) : ∃ fd, FunD K "want_bar" "Loft.want_bar" (defArgs s_Loft_want_bar) (defBody s_Loft_want_bar) (defScope s_Loft_want_bar) [] [] (He.ma K (He.ga K "Loft") "want_bar") fd := T.c.def_ 59 (d := ⟨("Loft", some "want_bar"), "want_bar", "Loft.want_bar", defArgs s_Loft_want_bar, defBody s_Loft_want_bar, defScope s_Loft_want_bar, [], []⟩) rfl
theorem Tx.d_Loft_want_cue (T : Tx K mg) : ∃ fd, FunD K "want_cue" "Loft.want_cue" (defArgs s_Loft_want_cue) (defBody s_Loft_want_cue) (defScope s_Loft_want_cue) [] [] (He.ma K (He.ga K "Loft") "want_cue") fd := T.c.def_ 60 (d := ⟨("Loft", some "want_cue"), "want_cue", "Loft.want_cue", defArgs s_Loft_want_cue, defBody s_Loft_want_cue, defScope s_Loft_want_cue, [], []⟩) rfl
theorem Tx.d_Loft_want_none_started (T : Tx K mg) : ∃ fd, FunD K "want_none_started" "Loft.want_none_started" (defArgs s_Loft_want_none_started) (defBody s_Loft_want_none_started) (defScope s_Loft_want_none_started) [] [] (He.ma K (He.ga K "Loft") "want_none_started") fd := T.c.def_ 61 (d := ⟨("Loft", some "want_none_started"), "want_none_started", "Loft.want_none_started", defArgs s_Loft_want_none_started, defBody s_Loft_want_none_started, defScope s_Loft_want_none_started, [], []⟩) rfl
theorem Tx.d_Loft_begin (T : Tx K mg) : ∃ fd, FunD K "begin" "Loft.begin" (defArgs s_Loft_begin) (defBody s_Loft_begin) (defScope s_Loft_begin) [] [] (He.ma K (He.ga K "Loft") "begin") fd := T.c.def_ 62 (d := ⟨("Loft", some "begin"), "begin", "Loft.begin", defArgs s_Loft_begin, defBody s_Loft_begin, defScope s_Loft_begin, [], []⟩) rfl
theorem Tx.d_Loft_set_rope (T : Tx K mg) : ∃ fd, FunD K "set_rope" "Loft.set_rope" (defArgs s_Loft_set_rope) (defBody s_Loft_set_rope) (defScope s_Loft_set_rope) [] [] (He.ma K (He.ga K "Loft") "set_rope") fd := T.c.def_ 63 (d := ⟨("Loft", some "set_rope"), "set_rope", "Loft.set_rope", defArgs s_Loft_set_rope, defBody s_Loft_set_rope, defScope s_Loft_set_rope, [], []⟩) rfl
theorem Tx.d_Loft_add_pair (T : Tx K mg) : ∃ fd, FunD K "add_pair" "Loft.add_pair" (defArgs s_Loft_add_pair) (defBody s_Loft_add_pair) (defScope s_Loft_add_pair) [] [] (He.ma K (He.ga K "Loft") "add_pair") fd := T.c.def_ 64 (d := ⟨("Loft", some "add_pair"), "add_pair", "Loft.add_pair", defArgs s_Loft_add_pair, defBody s_Loft_add_pair, defScope s_Loft_add_pair, [], []⟩) rfl
theorem Tx.d_Loft_put_cue (T : Tx K mg) : ∃ fd, FunD K "put_cue" "Loft.put_cue" (defArgs s_Loft_put_cue) (defBody s_Loft_put_cue) (defScope s_Loft_put_cue) [] [] (He.ma K (He.ga K "Loft") "put_cue") fd := T.c.def_ 65 (d := ⟨("Loft", some "put_cue"), "put_cue", "Loft.put_cue", defArgs s_Loft_put_cue, defBody s_Loft_put_cue, defScope s_Loft_put_cue, [], []⟩) rfl
theorem Tx.d_Loft_add_cue (T : Tx K mg) : ∃ fd, FunD K "add_cue" "Loft.add_cue" (defArgs s_Loft_add_cue) (defBody s_Loft_add_cue) (defScope s_Loft_add_cue) [] [] (He.ma K (He.ga K "Loft") "add_cue") fd := T.c.def_ 66 (d := ⟨("Loft", some "add_cue"), "add_cue", "Loft.add_cue", defArgs s_Loft_add_cue, defBody s_Loft_add_cue, defScope s_Loft_add_cue, [], []⟩) rfl
theorem Tx.d_Loft_add_follow (T : Tx K mg) : ∃ fd, FunD K "add_follow" "Loft.add_follow" (defArgs s_Loft_add_follow) (defBody s_Loft_add_follow) (defScope s_Loft_add_follow) [] [] (He.ma K (He.ga K "Loft") "add_follow") fd := T.c.def_ 67 (d := ⟨("Loft", some "add_follow"), "add_follow", "Loft.add_follow", defArgs s_Loft_add_follow, defBody s_Loft_add_follow, defScope s_Loft_add_follow, [], []⟩) rfl
theorem Tx.d_Loft_call (T : Tx K mg) : ∃ fd, FunD K "call" "Loft.call" (defArgs s_Loft_call) (defBody s_Loft_call) (defScope s_Loft_call) [] [] (He.ma K (He.ga K "Loft") "call") fd := T.c.def_ 68 (d := ⟨("Loft", some "call"), "call", "Loft.call", defArgs s_Loft_call, defBody s_Loft_call, defScope s_Loft_call, [], []⟩) rfl
theorem Tx.d_Loft_wait (T : Tx K mg) : ∃ fd, FunD K "wait" "Loft.wait" (defArgs s_Loft_wait) (defBody s_Loft_wait) (defScope s_Loft_wait) [] [] (He.ma K (He.ga K "Loft") "wait") fd := T.c.def_ 69 (d := ⟨("Loft", some "wait"), "wait", "Loft.wait", defArgs s_Loft_wait, defBody s_Loft_wait, defScope s_Loft_wait, [], []⟩) rfl
theorem Tx.d_Loft_positions_at (T : Tx K mg) : ∃ fd, FunD K "positions_at" "Loft.positions_at" (defArgs s_Loft_positions_at) (defBody s_Loft_positions_at) (defScope s_Loft_positions_at) [] [] (He.ma K (He.ga K "Loft") "positions_at") fd := T.c.def_ 70 (d := ⟨("Loft", some "positions_at"), "positions_at", "Loft.positions_at", defArgs s_Loft_positions_at, defBody s_Loft_positions_at, defScope s_Loft_positions_at, [], []⟩) rfl
theorem Tx.d_Loft_first_violation (T : Tx K mg) : ∃ fd, FunD K "first_violation" "Loft.first_violation" (defArgs s_Loft_first_violation) (defBody s_Loft_first_violation) (defScope s_Loft_first_violation) [] [] (He.ma K (He.ga K "Loft") "first_violation") fd := T.c.def_ 71 (d := ⟨("Loft", some "first_violation"), "first_violation", "Loft.first_violation", defArgs s_Loft_first_violation, defBody s_Loft_first_violation, defScope s_Loft_first_violation, [], []⟩) rfl
theorem Tx.d_Loft_movements_now (T : Tx K mg) : ∃ fd, FunD K "movements_now" "Loft.movements_now" (defArgs s_Loft_movements_now) (defBody s_Loft_movements_now) (defScope s_Loft_movements_now) [] [] (He.ma K (He.ga K "Loft") "movements_now") fd := T.c.def_ 72 (d := ⟨("Loft", some "movements_now"), "movements_now", "Loft.movements_now", defArgs s_Loft_movements_now, defBody s_Loft_movements_now, defScope s_Loft_movements_now, [], []⟩) rfl
theorem Tx.d_Loft_few_movements (T : Tx K mg) : ∃ fd, FunD K "few_movements" "Loft.few_movements" (defArgs s_Loft_few_movements) (defBody s_Loft_few_movements) (defScope s_Loft_few_movements) [] [] (He.ma K (He.ga K "Loft") "few_movements") fd := T.c.def_ 73 (d := ⟨("Loft", some "few_movements"), "few_movements", "Loft.few_movements", defArgs s_Loft_few_movements, defBody s_Loft_few_movements, defScope s_Loft_few_movements, [], []⟩) rfl
theorem Tx.d_Loft_movements (T : Tx K mg) : ∃ fd, FunD K "movements" "Loft.movements" (defArgs s_Loft_movements) (defBody s_Loft_movements) (defScope s_Loft_movements) [] [] (He.ma K (He.ga K "Loft") "movements") fd := T.c.def_ 74 (d := ⟨("Loft", some "movements"), "movements", "Loft.movements", defArgs s_Loft_movements, defBody s_Loft_movements, defScope s_Loft_movements, [], []⟩) rfl
theorem Tx.d_Loft_stagehands (T : Tx K mg) : ∃ fd, FunD K "stagehands" "Loft.stagehands" (defArgs s_Loft_stagehands) (defBody s_Loft_stagehands) (defScope s_Loft_stagehands) [] [] (He.ma K (He.ga K "Loft") "stagehands") fd := T.c.def_ 75 (d := ⟨("Loft", some "stagehands"), "stagehands", "Loft.stagehands", defArgs s_Loft_stagehands, defBody s_Loft_stagehands, defScope s_Loft_stagehands, [], []⟩) rfl
theorem Tx.d_Loft_plan (T : Tx K mg) : ∃ fd, FunD K "plan" "Loft.plan" (defArgs s_Loft_plan) (defBody s_Loft_plan) (defScope s_Loft_plan) [] [] (He.ma K (He.ga K "Loft") "plan") fd := T.c.def_ 76 (d := ⟨("Loft", some "plan"), "plan", "Loft.plan", defArgs s_Loft_plan, defBody s_Loft_plan, defScope s_Loft_plan, [], []⟩) rfl
theorem Tx.d_Loft_earliest (T : Tx K mg) : ∃ fd, FunD K "earliest" "Loft.earliest" (defArgs s_Loft_earliest) (defBody s_Loft_earliest) (defScope s_Loft_earliest) [] [] (He.ma K (He.ga K "Loft") "earliest") fd := T.c.def_ 77 (d := ⟨("Loft", some "earliest"), "earliest", "Loft.earliest", defArgs s_Loft_earliest, defBody s_Loft_earliest, defScope s_Loft_earliest, [], []⟩) rfl
theorem Tx.d_Loft_schedule (T : Tx K mg) : ∃ fd, FunD K "schedule" "Loft.schedule" (defArgs s_Loft_schedule) (defBody s_Loft_schedule) (defScope s_Loft_schedule) [] [] (He.ma K (He.ga K "Loft") "schedule") fd := T.c.def_ 78 (d := ⟨("Loft", some "schedule"), "schedule", "Loft.schedule", defArgs s_Loft_schedule, defBody s_Loft_schedule, defScope s_Loft_schedule, [], []⟩) rfl
theorem Tx.d_Loft_state (T : Tx K mg) : ∃ fd, FunD K "state" "Loft.state" (defArgs s_Loft_state) (defBody s_Loft_state) (defScope s_Loft_state) [] [] (He.ma K (He.ga K "Loft") "state") fd := T.c.def_ 79 (d := ⟨("Loft", some "state"), "state", "Loft.state", defArgs s_Loft_state, defBody s_Loft_state, defScope s_Loft_state, [], []⟩) rfl
theorem Tx.d_Loft_told_of_setting (T : Tx K mg) : ∃ fd, FunD K "told_of_setting" "Loft.told_of_setting" (defArgs s_Loft_told_of_setting) (defBody s_Loft_told_of_setting) (defScope s_Loft_told_of_setting) [] [] (He.ma K (He.ga K "Loft") "told_of_setting") fd := T.c.def_ 80 (d := ⟨("Loft", some "told_of_setting"), "told_of_setting", "Loft.told_of_setting", defArgs s_Loft_told_of_setting, defBody s_Loft_told_of_setting, defScope s_Loft_told_of_setting, [], []⟩) rfl
theorem Tx.d_Loft_told_of_asking (T : Tx K mg) : ∃ fd, FunD K "told_of_asking" "Loft.told_of_asking" (defArgs s_Loft_told_of_asking) (defBody s_Loft_told_of_asking) (defScope s_Loft_told_of_asking) [] [] (He.ma K (He.ga K "Loft") "told_of_asking") fd := T.c.def_ 81 (d := ⟨("Loft", some "told_of_asking"), "told_of_asking", "Loft.told_of_asking", defArgs s_Loft_told_of_asking, defBody s_Loft_told_of_asking, defScope s_Loft_told_of_asking, [], []⟩) rfl
theorem Tx.d_Loft_answer (T : Tx K mg) : ∃ fd, FunD K "answer" "Loft.answer" (defArgs s_Loft_answer) (defBody s_Loft_answer) (defScope s_Loft_answer) [] [] (He.ma K (He.ga K "Loft") "answer") fd := T.c.def_ 82 (d := ⟨("Loft", some "answer"), "answer", "Loft.answer", defArgs s_Loft_answer, defBody s_Loft_answer, defScope s_Loft_answer, [], []⟩) rfl
theorem Tx.d_answers (T : Tx K mg) : ∃ fd, FunD K "answers" "answers" (defArgs s_answers) (defBody s_answers) (defScope s_answers) [] [] (He.ga K "answers") fd := T.c.def_ 83 (d := ⟨("answers", none), "answers", "answers", defArgs s_answers, defBody s_answers, defScope s_answers, [], []⟩) rfl
end
end Sk
/-! B1: calls of the program's own defs, methods, classes by name; len(set(xs)). -/
namespace Sk
open PySem L2 Evl PyProof.Rows
section
variable (P : Program) (w : World) (K : PySem.W.Frag) (mg : Str → Option Value) (base : Heap) (CX : CXT)
/-- the module's def x keeps its promise -/
structure DefE (k : Nat) (x : Str) (ps : List Str) (sp : Sp) : Prop where
  ex : ∃ fd, FnOk P w K mg base CX k (He.ga K x) fd ps sp ∧ Binds K fd ps []
  g : mg x = some (.ref (He.ga K x))
  kp : PySem.W.keepIn K (.ref (He.ga K x)) = true
/-- the class's method -/
structure MethE (k : Nat) (C m : Str) (ps : List Str) (sp : Sp) : Prop where
  ex : ∃ fd, FnOk P w K mg base CX k (He.ma K (He.ga K C) m) fd ps sp ∧ Binds K fd ps []
  cl : Cls K (He.ga K C)
  me : Meth K (He.ga K C) m (He.ma K (He.ga K C) m)
/-- the class's making -/
structure MakeE (k : Nat) (C : Str) (ps : List Str) (sp : Sp) : Prop where
  ex : ∃ fd, FnOk P w K mg base CX k (He.ma K (He.ga K C) "__init__") fd ps sp ∧ Binds K fd ps []
  made : Mk K (He.ga K C) (He.ma K (He.ga K C) "__init__")
  g : mg C = some (.ref (He.ga K C))
end
section
variable {X : Cx} {CX : CXT} {k : Nat} {C x m : Str} {ps : List Str} {sp : Sp} {E : XK} {p pos apos : Pos} {e o : Expr} {es : List Expr} {ta : TE} {t : TA}
theorem pe_callE (h : DefE X.prog X.w X.K X.mg X.base CX k x ps sp) (hr : Room k X.A) (hg : Gl X x) (hx : Passes CX X E) (ha : PA X (e :: es) t) (hdb : (x == ("__debug__" : Str)) = false := by decide)
    (he : starEach (e :: es) X.env = (false, eval e X.env) :: starEach es X.env := by rfl) (hpl : (backTo pos (starEach es X.env)).any (·.1) = false := by rfl) : PE X (.Call (.Name x p) (e :: es) [] pos) (tCall sp [] E t) := by
  obtain ⟨fd, F, b⟩ := h.ex
  exact pe_call F hr hg h.g h.kp b .nil hx ha hdb he hpl
theorem pe_methE {pl : Sem Bool} (he : PE X o ta) (h : MethE X.prog X.w X.K X.mg X.base CX k C m ps sp) (hr : Room k X.A) (hx : Passes CX X E) (ha : PA X (e :: es) t)
    (hst : starEach (e :: es) X.env = (false, eval e X.env) :: starEach es X.env := by rfl) (hpl : (backTo pos (starEach es X.env)).any (·.1) = false := by rfl)
    (ht : eval (.Call (.Attribute o m apos) (e :: es) [] pos) X.env = (do
      let ov ← eval o X.env
      standAt apos.atName
      let (f, first) ← holding [ov] (getMethod ov m pl)
      callWith pos f first (backTo pos (starEach (e :: es) X.env)) (backToKw pos (keywordEach [] X.env))) := by rfl) :
    PE X (.Call (.Attribute o m apos) (e :: es) [] pos) (tMeth (He.ga X.K C) m sp [] E ta t) := by
  obtain ⟨fd, F, b⟩ := h.ex
  exact pe_meth (pl := pl) he h.cl h.me F hr b .nil hx ha hst hpl ht
theorem pe_methE0 {pl : Sem Bool} (he : PE X o ta) (h : MethE X.prog X.w X.K X.mg X.base CX k C m ps sp) (hr : Room k X.A) (hx : Passes CX X E)
    (ht : eval (.Call (.Attribute o m apos) [] [] pos) X.env = (do
      let ov ← eval o X.env
      standAt apos.atName
      let (f, first) ← holding [ov] (getMethod ov m pl)
      callWith pos f first (backTo pos (starEach [] X.env)) (backToKw pos (keywordEach [] X.env))) := by rfl) :
    PE X (.Call (.Attribute o m apos) [] [] pos) (tMeth (He.ga X.K C) m sp [] E ta tNil) := by
  obtain ⟨fd, F, b⟩ := h.ex
  exact pe_meth0 (pl := pl) he h.cl h.me F hr b .nil hx ht
theorem pe_makeE (h : MakeE X.prog X.w X.K X.mg X.base CX k C ps sp) (hr : Room (k + 1) X.A) (hg : Gl X C) (hx : Passes CX X E) (ha : PA X (e :: es) t) (hdb : (C == ("__debug__" : Str)) = false := by decide)
    (he : starEach (e :: es) X.env = (false, eval e X.env) :: starEach es X.env := by rfl) (hpl : (backTo pos (starEach es X.env)).any (·.1) = false := by rfl) : PE X (.Call (.Name C p) (e :: es) [] pos) (tMake (He.ga X.K C) sp [] E t) := by
  obtain ⟨fd, F, b⟩ := h.ex
  exact pe_make h.made F hr hg h.g b .nil hx ha hdb he hpl
theorem pe_makeE0 (h : MakeE X.prog X.w X.K X.mg X.base CX k C ps sp) (hr : Room (k + 1) X.A) (hg : Gl X C) (hx : Passes CX X E) (hdb : (C == ("__debug__" : Str)) = false := by decide) : PE X (.Call (.Name C p) [] [] pos) (tMake (He.ga X.K C) sp [] E tNil) := by
  obtain ⟨fd, F, b⟩ := h.ex
  exact pe_make0 h.made F hr hg h.g b .nil hx hdb
end
theorem hu64 {A : Around} {k : Nat} (hr : Room k A) : A.units + 64 < cLine := hr.units
theorem hu12 {A : Around} {k : Nat} (hr : Room k A) : A.units + 12 < cLine := by have := hr.units; omega

/-! ### len(set(xs)) of ints -/
/-- how many unlike numbers -/
def unlike : List Int → Nat
  | [] => 0
  | x :: r => if x ∈ r then unlike r else unlike r + 1
def tLenSet (K : PySem.W.Frag) (ta : TE) : TE := fun σ H Q => ta σ H fun x H1 => ∃ (l : Addr) (ns : List Int), x = .ref l ∧ SqL K H1 l (ns.map V.int) ∧ ns.length ≤ 4000 ∧ ∀ m : Nat, (m = ns.length ↔ ns.Nodup) → Q (.int (m : Int)) H1
theorem dedup_len : ∀ (ns : List Int) (acc : List Int), acc.Nodup → (ns.foldl PyProof.Rows.step_dedup acc).length ≤ acc.length + ns.length ∧ ((ns.foldl PyProof.Rows.step_dedup acc).length = acc.length + ns.length ↔ ns.Nodup ∧ ∀ x ∈ ns, x ∉ acc)
  | [], acc, _ => by simp
  | x :: r, acc, hn => by
    rw [List.foldl_cons]
    by_cases hx : x ∈ acc
    · have e : PyProof.Rows.step_dedup acc x = acc := by
        unfold PyProof.Rows.step_dedup
        rw [if_pos (by rw [List.any_eq_true]; exact ⟨x, hx, beq_self_eq_true x⟩)]
      rw [e]
      obtain ⟨h1, h2⟩ := dedup_len r acc hn
      rw [List.length_cons]
      refine ⟨by omega, ⟨fun h => by omega, fun h => absurd hx (h.2 x List.mem_cons_self)⟩⟩
    · have e : PyProof.Rows.step_dedup acc x = acc ++ [x] := by
        unfold PyProof.Rows.step_dedup
        rw [if_neg (by
          intro h
          obtain ⟨y, hy, ey⟩ := List.any_eq_true.mp h
          rw [eq_of_beq ey] at hy
          exact hx hy)]
      rw [e]
      have hn2 : (acc ++ [x]).Nodup := by
        rw [List.nodup_append]
        refine ⟨hn, List.nodup_cons.mpr ⟨fun z => (by cases z), List.nodup_nil⟩, fun a ha b hb => ?_⟩
        rw [List.mem_singleton.mp hb]
        exact fun z => hx (z ▸ ha)
      obtain ⟨h1, h2⟩ := dedup_len r (acc ++ [x]) hn2
      rw [List.length_append, List.length_singleton] at h1 h2
      rw [List.length_cons]
      refine ⟨by omega, ?_⟩
      rw [show acc.length + (r.length + 1) = acc.length + 1 + r.length by omega, h2, List.nodup_cons]
      constructor
      · rintro ⟨a, b⟩
        refine ⟨⟨fun z => (b x z) (by simp), a⟩, fun y hy => ?_⟩
        rcases List.mem_cons.mp hy with rfl | hy
        · exact hx
        · exact fun z => b y hy (by simp [z])
      · rintro ⟨⟨a, b⟩, c⟩
        refine ⟨b, fun y hy z => ?_⟩
        rcases List.mem_append.mp z with z | z
        · exact c y (List.mem_cons_of_mem _ hy) z
        · rw [List.mem_singleton.mp z] at hy
          exact a hy
theorem range_getD (ns : List Int) : (List.range ns.length).map (fun i => ns.getD i 0) = ns := by
  refine List.ext_getElem (by rw [List.length_map, List.length_range]) fun i h1 h2 => ?_
  rw [List.getElem_map, List.getElem_range, List.getD_eq_getElem?_getD, List.getElem?_eq_getElem h2]
  rfl
theorem pe_lenSet {X : Cx} {a : Expr} {ta : TE} {p p2 q pos : Pos} (hg : Gl X "len") (hm : X.mg "len" = none) (hg2 : Gl X "set") (hm2 : X.mg "set" = none) (ha : PE X a ta) (hc : X.calm = true := by rfl)
    (na : starEach [a] X.env = (false, eval a X.env) :: starEach [] X.env := by rfl) : PE X (.Call (.Name "len" p) [.Call (.Name "set" p2) [a] [] q] [] pos) (tLenSet X.K ta) := by
  refine ⟨fun pins s σ H Q I h => PyProof.Rows.Call_ (ld_blt I hg hm boot_len ?_)⟩
  refine PyProof.Rows.callWith_builtin1 (PyProof.Rows.args_cons (PyProof.Rows.Call_ (ld_blt I hg2 hm2 boot_set ?_)) rfl) rfl rfl
  refine PyProof.Rows.callWith_type1 (PyProof.Rows.args_cons (thn (ha.run pins s σ H _ I h) fun v s1 h1 => ?_) na) na rfl
  obtain ⟨x, H1, I1, r1, l, ns, rfl, hq, hl, q1⟩ := h1
  refine PyProof.Rows.args_nil ?_
  cases r1
  obtain ⟨its, rv, pl, hz⟩ := I1.list hq
  have en : its.toArray.size = ns.length := by
    have := rv.length
    rw [List.length_map] at this
    rw [List.size_toArray, ← this]
  refine call_set_list (I1.ok.hd hc) pl.isList (by simpa using RZ.intsAre_vals rv) (by rw [en]; unfold scanBound; omega) fun h' tk hS hk => PyProof.Rows.args_nil ?_
  obtain ⟨h3, h4⟩ := dedup_len ns [] List.nodup_nil
  rw [en] at hS
  unfold PyProof.Rows.firstMet at hS
  rw [range_getD] at hS
  obtain ⟨ob, es, ep, t, ho, hex, hd, _, _, _, hf, hn⟩ := hS
  have I2 : Inv X pins σ H1 { s1 with heap := h', toks := tk } := I1.kept fun b o e => hk b o (Heap.lt_size e) e
  rw [List.length_nil, Nat.zero_add] at h3 h4
  refine call_len_set ho hex hd hf (by rw [hn]; omega) ⟨.int _, H1, I2.tok _, ⟨_, rfl⟩, ?_⟩
  rw [hn]
  exact q1 _ (h4.trans ⟨fun z => z.1, fun z => ⟨z, fun x _ y => by cases y⟩⟩)
end Sk
namespace Sk
open PySem L2 Evl
theorem givenD_all {α : Type} (n : Nat) (d : Nat → α) : givenD n (fun _ => true) d = (List.range n).map d := by
  unfold givenD
  rw [List.filter_eq_self.mpr fun _ _ => rfl]
theorem map_getD {α β : Type} (l : List α) (d : α) (f : α → β) : (List.range l.length).map (fun i => f (l.getD i d)) = l.map f := by
  refine List.ext_getElem (by rw [List.length_map, List.length_map, List.length_range]) fun i h1 h2 => ?_
  rw [List.length_map] at h2
  rw [List.getElem_map, List.getElem_map, List.getElem_range, List.getD_eq_getElem?_getD, List.getElem?_eq_getElem h2]
  rfl
theorem getD_at {α : Type} {l : List α} {i : Nat} {x d : α} (h : l[i]? = some x) : l.getD i d = x := by
  rw [List.getD_eq_getElem?_getD, h]
  rfl
theorem at_getD {α : Type} {l : List α} {i : Nat} (d : α) (h : i < l.length) : l[i]? = some (l.getD i d) := by
  rw [List.getD_eq_getElem?_getD, List.getElem?_eq_getElem h]
  rfl
/-! ### a heap without one of its objects -/
def off (H : Hp) (l : Addr) : Hp := fun b => if b = l then none else H b
theorem off_ne {H : Hp} {l b : Addr} (h : b ≠ l) : off H l b = H b := if_neg h
theorem off_same {H : Hp} {l : Addr} : off H l l = none := if_pos rfl
theorem off_upd {H : Hp} {l : Addr} {o : HO} : off (upd H l o) l = off H l := by
  funext b
  unfold off upd
  split <;> rfl
theorem off_in {H : Hp} {l : Addr} : Ex (off H l) H := fun b o h => by
  by_cases e : b = l
  · rw [e, off_same] at h
    cases h
  · rw [off_ne e] at h
    exact h
theorem off_mono {H H' : Hp} {l : Addr} (e : Ex H H') : Ex (off H l) (off H' l) := fun b o h => by
  by_cases c : b = l
  · rw [c, off_same] at h
    cases h
  · rw [off_ne c] at h ⊢
    exact e b o h
theorem off_ex {H H' : Hp} {l : Addr} (e : Ex H H') (h : H l = none) : Ex H (off H' l) := fun b o hb => by
  have c : b ≠ l := ne_of_none hb h
  rw [off_ne c]
  exact e b o hb
theorem off_new {H : Hp} {l : Addr} {o : HO} (h : H l = none) : Ex H (off (upd H l o) l) := off_ex (Ex.new h) h
/-! ### loops -/
section
variable {K : PySem.W.Frag} {σ : L2.St} {H : Hp} {tu tz : TS} {D : Ends} {a : Addr} {xs : List V} {j k : Nat}
/-- for x, y in enumerate(xs) -/
theorem s_forEn {ta : TA} (h : EvA ta σ H [.ref a]) (hx : SqL K H a xs) (Pv : Nat → L2.St → Hp → Prop) (h0 : ∀ H1, Ex H H1 → Pv 0 σ H1) (hl : ∀ i σ' H', i ≤ xs.length → Pv i σ' H' → SqL K H' a xs)
    (hs : ∀ i x σ' H' T, xs[i]? = some x → Pv i σ' H' → H' T = none → tu { D with nx := Pv (i + 1), ct := Pv (i + 1), bk := D.nx } ((σ'.set j (some (nV i))).set k (some x)) (upd H' T (.tup [nV i, x]))) (hd : ∀ σ' H', Pv xs.length σ' H' → D.nx σ' H') :
    tFor (iEnum K ta) (gTup K 2 (gCons (gName j) (gCons (gName k) gNil))) tu D σ H := h H (Ex.refl H) _ fun H1 e =>
  ⟨a, xs, rfl, ex_l e hx, for_it (walk_enum (K := K) (a := a) (xs := xs)) Pv (h0 H1 e) hl (fun i x σ' H' H2 hi p y => by
    obtain ⟨T, u, z, rfl, hT, rfl, h1, h2⟩ := y
    cases h1
    exact ⟨T, [.int (i : Nat), z], rfl, st_of upd_same, rfl, _, _, rfl, _, _, rfl, rfl, hs i z σ' H' T h2 p hT⟩) hd⟩
theorem q_forEn {ta : TA} (h : EvA ta σ H [.ref a]) (hx : SqL K H a xs) (Pv : Nat → L2.St → Hp → Prop) (h0 : ∀ H1, Ex H H1 → Pv 0 σ H1) (hl : ∀ i σ' H', i ≤ xs.length → Pv i σ' H' → SqL K H' a xs)
    (hs : ∀ i x σ' H' T, xs[i]? = some x → Pv i σ' H' → H' T = none → tu { D with nx := Pv (i + 1), ct := Pv (i + 1), bk := tz D } ((σ'.set j (some (nV i))).set k (some x)) (upd H' T (.tup [nV i, x]))) (hd : ∀ σ' H', Pv xs.length σ' H' → tz D σ' H') :
    tSeq (tFor (iEnum K ta) (gTup K 2 (gCons (gName j) (gCons (gName k) gNil))) tu) tz D σ H := s_forEn (D := { D with nx := tz D }) h hx Pv h0 hl hs hd
/-- over a tuple of pairs -/
theorem s_forTP {tl : TE} {ys zs : Nat → V} (h : Ev tl σ H (.ref a)) (hx : SqT K H a xs) (hp : ∀ i x, xs[i]? = some x → ∃ T, x = .ref T ∧ SqT K H T [ys i, zs i]) (Pv : Nat → L2.St → Hp → Prop) (h0 : ∀ H1, Ex H H1 → Pv 0 σ H1)
    (hl : ∀ i σ' H', i ≤ xs.length → Pv i σ' H' → Fix H H')
    (hs : ∀ i σ' H', i < xs.length → Pv i σ' H' → tu { D with nx := Pv (i + 1), ct := Pv (i + 1), bk := D.nx } ((σ'.set j (some (ys i))).set k (some (zs i))) H') (hd : ∀ σ' H', Pv xs.length σ' H' → D.nx σ' H') :
    tFor (iTup K tl) (gTup K 2 (gCons (gName j) (gCons (gName k) gNil))) tu D σ H :=
  s_forT h hx Pv h0 (fun i σ' H' hi p => fix_t (hl i σ' H' hi p) hx) (fun i x σ' H' e p => by
    obtain ⟨T, rfl, hT⟩ := hp i x e
    have hi := (List.getElem?_eq_some_iff.mp e).1
    exact ⟨T, _, rfl, fix_t (hl i σ' H' (by omega) p) hT, rfl, _, _, rfl, _, _, rfl, rfl, hs i σ' H' hi p⟩) hd
theorem rv_add {i k : Int} : RV rAddI (.int i) (.int k) H (.int (i + k)) := rv_I0
theorem rv_cat {p q : Addr} {xs ys : List V} (hp : H p = some (.lst xs)) (hq : H q = some (.lst ys)) (hz : xs.length + ys.length ≤ 16000000) : RVD rCat (.ref p) (.ref q) H fun v H2 => ∃ c, v = .ref c ∧ H c = none ∧ H2 c = some (.lst (xs ++ ys)) := fun Q k =>
  ⟨p, q, xs, ys, rfl, rfl, hp, hq, Nat.le_trans hz (by decide), fun c hc => k (.ref c) _ (Ex.new hc) ⟨c, rfl, hc, upd_same⟩⟩
theorem evd_lst {ta : TA} {vs : List V} (h : EvA ta σ H vs) (hl : vs.length ≤ 100000) : EvD (tLst ta) σ H fun v H2 => ∃ p, v = .ref p ∧ H p = none ∧ H2 p = some (.lst vs) := fun H1 e _ q => h H1 e _ fun H2 e2 => ⟨sz_of hl, fun p hp => q (.ref p) _ (e2.trans (Ex.new hp)) ⟨p, rfl, fresh_back (e.trans e2) hp, upd_same⟩⟩
end
end Sk
namespace Sk
open PySem L2 Evl
/-- a list that is no known one: it may be joined, changed -/
def LlV {α : Type} (R : PR α) : PR (List α) := fun K H v ds => ∃ a xs, v = .ref a ∧ H a = some (.lst xs) ∧ Sc.All2 (R K H) xs ds
def NlV : PR (List Nat) := fun _ H v ns => ∃ a, v = .ref a ∧ H a = some (.lst (ns.map nV))
def NsV : PR (List Nat) := fun K H v ns => ∃ a, v = .ref a ∧ SqL K H a (ns.map nV)
theorem llV_x {α : Type} {R : PR α} (hR : StabX R) : StabX (LlV R) := fun _ _ _ _ _ e ⟨a, xs, h, h1, h2⟩ => ⟨a, xs, h, e a _ h1, all2_x hR e h2⟩
theorem LlV.s {α : Type} {R : PR α} {K : PySem.W.Frag} {H : Hp} {v : V} {ds : List α} (h : LlV R K H v ds) : LsV R K H v ds := by
  obtain ⟨a, xs, h1, h2, h3⟩ := h
  exact ⟨a, xs, h1, sq_of h2, h3⟩
theorem nlV_x : StabX NlV := fun _ _ _ _ _ e ⟨a, h, h1⟩ => ⟨a, h, e a _ h1⟩
theorem nsV_x : StabX NsV := fun _ _ _ _ _ e ⟨a, h, h1⟩ => ⟨a, h, ex_l e h1⟩
theorem NlV.s {K : PySem.W.Frag} {H : Hp} {v : V} {ns : List Nat} (h : NlV K H v ns) : NsV K H v ns := by
  obtain ⟨a, h1, h2⟩ := h
  exact ⟨a, h1, sq_of h2⟩
theorem map_nV (ns : List Nat) : ns.map nV = (ns.map fun (n : Nat) => (n : Int)).map V.int := by
  rw [List.map_map]
  rfl
theorem sum_cast : ∀ (ns : List Nat), (ns.map fun (n : Nat) => (n : Int)).sum = ((ns.sum : Nat) : Int)
  | [] => rfl
  | n :: r => by
    rw [List.map_cons, List.sum_cons, List.sum_cons, sum_cast r]
    omega
section
variable {K : PySem.W.Frag} {σ : L2.St} {H : Hp} {te : TE} {z : V} {P : V → Hp → Prop}
/-- a call of a new list -/
theorem ev_cbL {r : List V → Hp → VK → Prop} {xs : List V} (h : EvL te σ H xs) (hr : ∀ p H1, Ex H H1 → H1 p = some (.lst xs) → RC r [.ref p] H1 z) : Ev (tCB r (tCons te tNil)) σ H z := fun H1 e Q q =>
  h H1 e _ fun p H2 _ e2 h2 => hr p H2 (e.trans e2) h2 H2 (Ex.refl H2) Q fun H3 e3 => q H3 (e2.trans e3)
/-- a call of data -/
theorem ev_cbD {r : List V → Hp → VK → Prop} (h : EvD te σ H P) (hr : ∀ x H1, Ex H H1 → P x H1 → RC r [x] H1 z) : Ev (tCB r (tCons te tNil)) σ H z := fun H1 e Q q =>
  h H1 e _ fun x H2 e2 p2 => hr x H2 (e.trans e2) p2 H2 (Ex.refl H2) Q fun H3 e3 => q H3 (e2.trans e3)
theorem evd_cbD {r : List V → Hp → VK → Prop} {P1 : V → Hp → Prop} (h : EvD te σ H P) (hr : ∀ x H1, Ex H H1 → P x H1 → RCD r [x] H1 P1) : EvD (tCB r (tCons te tNil)) σ H P1 := fun H1 e Q q =>
  h H1 e _ fun x H2 e2 p2 => hr x H2 (e.trans e2) p2 Q fun v H3 e3 p3 => q v H3 (e2.trans e3) p3
/-- a list as data -/
theorem evd_L {xs : List V} (h : EvL te σ H xs) : EvD te σ H fun v H1 => ∃ p, v = .ref p ∧ H p = none ∧ H1 p = some (.lst xs) := fun H1 e Q q => h H1 e Q fun p H2 hp e2 h2 => q (.ref p) H2 e2 ⟨p, rfl, fresh_back e hp, h2⟩
theorem evl_D {xs : List V} (h : ∀ H0, Ex H H0 → EvD te σ H0 fun v H1 => ∃ p, v = .ref p ∧ H0 p = none ∧ H1 p = some (.lst xs)) : EvL te σ H xs := fun H1 e Q q => h H1 e H1 (Ex.refl H1) Q fun v H2 e2 p2 => by
  obtain ⟨p, rfl, hp, h2⟩ := p2
  exact q p H2 hp e2 h2
theorem rc_maxP {p : Addr} {pl : List Nat} (h : SqL K H p (V.int (-1) :: pl.map nV)) : RC (rMax K) [.ref p] H (.int ((Sc.handsIn pl : Int) - 1)) := fun H1 e Q q =>
  ⟨p, (-1 :: pl.map fun (n : Nat) => (n : Int)), rfl, by rw [List.map_cons, ← map_nV]; exact ex_l e h, Nat.succ_pos _, fun m h1 h2 => by
    have := Sc.handsIn_max h1 h2
    rw [show m = (Sc.handsIn pl : Int) - 1 by omega]
    exact q H1 (Ex.refl H1)⟩
theorem rep_flat (x : V) : ∀ n, (List.replicate n [x]).flatten = List.replicate n x
  | 0 => rfl
  | n + 1 => by
    rw [List.replicate_succ, List.flatten_cons, rep_flat x n, List.replicate_succ]
    rfl
/-- [x] * n -/
theorem evd_rep {ta tb : TE} {x : V} {n : Nat} (h : Ev ta σ H x) (hn : Ev tb σ H (nV n)) (hz : n ≤ 100000) : EvD (tOp rRep (tLst (tCons ta tNil)) tb) σ H fun v H1 => ∃ p, v = .ref p ∧ H p = none ∧ H1 p = some (.lst (List.replicate n x)) := fun H1 e Q q =>
  evd_lst (ea_cons h ea_nil) (Nat.le_of_lt (show 1 < 100000 by decide)) H1 e _ fun v H2 e2 p2 => by
    obtain ⟨p, rfl, hp, h2⟩ := p2
    refine hn H2 (e.trans e2) _ fun H3 e3 => ⟨p, (n : Int), [x], rfl, rfl, e3 p _ h2, by omega, by omega, sz_of (by rw [Int.toNat_natCast]; simpa using hz), fun c hc => ?_⟩
    rw [Int.toNat_natCast, rep_flat]
    exact q (.ref c) _ ((e2.trans e3).trans (Ex.new hc)) ⟨c, rfl, fresh_back ((e.trans e2).trans e3) hc, upd_same⟩
end
end Sk
/-! B2: enumerate(t) of a tuple. -/
namespace PySem
open Sem (wp)
open AutoSeq1 (wpAny_loadPart')
theorem sk_meets_enumT (t : Addr) (its : Array Value) (tup : Obj) (ht : tup = { cls := .type "tuple_iterator", data := .fields #[.ref t, .int 0 0] }) :
    Meets (Builtin.«enumerate.__new__» ⟨[.type "enumerate", .ref t], []⟩) fun _ R s => s.heap.IsTuple t its ∧
      R (.ok (.ret (.ref (s.heap.push tup).objs.size))) { s with heap := (s.heap.push tup).push { cls := .type "enumerate", data := .fields #[.none, .bool false, .ref s.heap.objs.size, rawInt 0, .none, .none] } } := by
  subst ht
  refine .of_wp fun prog w A R s h => ?_
  obtain ⟨hp, g, d, tk, os⟩ := s
  obtain ⟨hT, h⟩ := h
  have hsub := sub_enumerate
  wp_walk using wpAny_pyIter_tuple hT
  refine wpAny_stack_any fun st => wpAny_pure ?_
  split
  · rename_i c _ _ _ _ _
    cases (c == Value.type "enumerate") <;> (wp_walk using wpAny_pyIter_tuple hT; exact ⟨_, rfl, h⟩)
  · wp_walk using wpAny_pyIter_tuple hT
    exact ⟨_, rfl, h⟩
end PySem
namespace L2
open PySem PySem.Spec PyProof.Rows
/-- the tuple at a, each item in a new pair with its number -/
def Iet (K : PySem.W.Frag) (a : Addr) : It where
  go := fun i H => ∃ (xs : List V) (x : V), xs[i]? = some x ∧ SqT K H a xs
  yld := fun i H v H' => ∃ T x, v = .ref T ∧ H T = none ∧ H' = upd H T (.tup [.int (i : Nat), x]) ∧ ∀ xs, SqT K H a xs → xs[i]? = some x
  stop := fun i H => ∃ xs : List V, xs.length = i ∧ SqT K H a xs
theorem turn_enumT {P : Program} {w : World} {K : PySem.W.Frag} {elts : List Expr} {kk : Nat} {tpos : Pos} (a e it : Addr) :
    Turn P w K (.Tuple elts kk tpos) (Iet K a) [e, it] e (fun i h => e ≠ it ∧ h.IsTupleIter it a i ∧ ∃ old, IsEnum h e it ((i : Nat) : Int) old) where
  mem := List.mem_cons_self
  obj := fun i h st b hb => by
    obtain ⟨_, ⟨o, ho, hc, hd⟩, ⟨old, he⟩⟩ := st
    rcases List.mem_cons.mp hb with z | z
    · subst z
      exact ⟨_, he, fun v q => nomatch q⟩
    · rw [List.mem_singleton.mp z]
      refine ⟨o, ho, fun v q => ?_⟩
      rw [hd] at q
      cases q
  keep := fun i h h' st k => by
    obtain ⟨n, hi, ⟨old, he⟩⟩ := st
    exact ⟨n, hi.at fun o q => k it (List.mem_cons_of_mem _ List.mem_cons_self) o q, old, k e List.mem_cons_self _ he⟩
  item := by
    intro X hP hw hK hc i pins s σ H E I hf st hg
    subst hP hw hK
    obtain ⟨hne, hit, ⟨old, he⟩⟩ := st
    obtain ⟨xs, x, hx, hq⟩ := hg
    obtain ⟨its, rv, p, hz⟩ := I.tuple hq
    obtain ⟨u, hu, ru⟩ := rv.get hx
    have hit' : it < s.heap.objs.size := by
      obtain ⟨_, q, _⟩ := id hit
      exact Heap.lt_size q
    have hel : e < s.heap.objs.size := Heap.lt_size he
    have hT : s.heap.IsTuple a its.toArray := p
    have nea : a ≠ it := fun z => by
      obtain ⟨o, ho, hc1, _⟩ := id hit
      obtain ⟨o2, ho2, hc2, _⟩ := id hT
      rw [z, ho] at ho2
      cases ho2
      rw [hc1] at hc2
      exact absurd (Value.type.inj hc2) (by decide)
    have nee : e ∉ [it, a] := fun z => by
      rcases List.mem_cons.mp z with z | z
      · exact hne z
      · rw [List.mem_singleton.mp z] at he
        obtain ⟨o2, ho2, hc2, _⟩ := id hT
        rw [he] at ho2
        cases ho2
        exact absurd (Value.type.inj hc2) (by decide)
    have hx' : i < its.toArray.size := by
      rw [List.size_toArray]
      exact (List.getElem?_eq_some_iff.mp hu).1
    refine wpAny_pyNext_enum_itemD (Draws.tuple (A := X.A.in1) (I.ok.hd hc) it a nea its.toArray) he ⟨hit, hT⟩ hx' hne nee fun x0 h' tk hP ho hS hN hsz hk => ?_
    have hxu : x0 = u := by
      rw [List.getElem?_toArray, hu] at hP
      exact (Option.some.inj hP).symm
    subst hxu
    refine ⟨_, rfl, wpAny_letOwnedTupleGo_enum (s := { s with heap := h', toks := tk + 1 }) ho fun h2 he2 sb => ?_⟩
    have hN2 : h2.get? s.heap.objs.size = some { cls := .type "tuple", data := .seq #[.int i tk, x0] } := (sb.2 _ (Nat.ne_of_gt hel)).trans hN
    have newO : ObjOk X.prog X.w (upd H s.heap.objs.size (.tup [.int (i : Nat), x])) h2 s.heap.objs.size (.tup [.int (i : Nat), x]) :=
      ⟨show 2 ≤ sizeLine by decide, [.int i tk, x0], .cons ⟨_, rfl⟩ (.cons ru .nil), ⟨_, hN2, rfl, _, rfl⟩⟩
    have I1 : Inv X pins σ (upd H s.heap.objs.size (.tup [.int (i : Nat), x])) { s with heap := h2, toks := tk + 1 } := by
      refine I.turnedNew (ch := [e, it]) (fun b ob hb q => ?_) hf (Nat.le_refl _) newO
      have n1 : b ≠ e := fun z => hb (z ▸ List.mem_cons_self)
      have n2 : b ≠ it := fun z => hb (z ▸ List.mem_cons_of_mem _ List.mem_cons_self)
      exact (sb.2 b n1).trans (hk b ob n1 n2 q)
    refine ⟨.ref s.heap.objs.size, _, I1, rfl, ⟨_, x, rfl, I.hok.fresh (Nat.le_refl _), rfl, fun ys hy => by rw [I.tuple_inj hy hq]; exact hx⟩, ⟨hne, hS.1.at fun o q => (sb.2 it hne.symm).trans q, x0, ?_⟩, fun b hb => ?_⟩
    · rw [show ((i + 1 : Nat) : Int) = (i : Int) + 1 by omega]
      exact he2
    · have hbs : b ≠ s.heap.objs.size := by
        rcases List.mem_cons.mp hb with z | z
        · rw [z]
          exact Nat.ne_of_lt hel
        · rw [List.mem_singleton.mp z]
          exact Nat.ne_of_lt hit'
      rw [upd_ne hbs]
      exact (hf b hb).1
  done := by
    intro X hP hw hK hc i pins s σ H E I hf st hg
    subst hP hw hK
    obtain ⟨hne, hit, ⟨old, he⟩⟩ := st
    obtain ⟨xs, hx, hq⟩ := hg
    obtain ⟨its, rv, p, hz⟩ := I.tuple hq
    obtain ⟨f0, f1, f2, f3, f4, f5⟩ := hf it (List.mem_cons_of_mem _ List.mem_cons_self)
    have hT : s.heap.IsTuple a its.toArray := p
    have nea : a ≠ it := fun z => by
      obtain ⟨o, ho, hc1, _⟩ := id hit
      obtain ⟨o2, ho2, hc2, _⟩ := id hT
      rw [z, ho] at ho2
      cases ho2
      rw [hc1] at hc2
      exact absurd (Value.type.inj hc2) (by decide)
    have hl := rv.length
    refine wpAny_pyNext_enum_endD (Draws.tuple (A := X.A.in1) (I.ok.hd hc) it a nea its.toArray) he ⟨?_, hT⟩ fun h' eb => ⟨rfl, I.turned (t' := s.toks) (fun b o hb q => eb b o hb q) f0 f1 f3 f4 f5⟩
    rw [List.size_toArray, ← hl, hx]
    exact hit
  self := fun A i s Q E st h => by
    obtain ⟨_, _, ⟨_, he⟩⟩ := st
    exact wpAny_pyIter_enum he h
def iEnumT (K : PySem.W.Frag) (ta : TA) : TI := fun σ H R => ta σ H fun vs H1 => ∃ a xs, vs = [.ref a] ∧ SqT K H1 a xs ∧ R (Iet K a) H1
theorem pi_enumT {X : Cx} {e : Expr} {ta : TA} {p pos tpos : Pos} {elts : List Expr} {kk : Nat} (hg : Gl X "enumerate") (hm : X.mg "enumerate" = none) (ha : PA X [e] ta) (hs : starEach [e] X.env = [(false, eval e X.env)] := by rfl) :
    PI X (.Tuple elts kk tpos) (.Call (.Name "enumerate" p) [e] [] pos) (iEnumT X.K ta) := by
  refine ⟨fun pins s σ H R I h => Call_ (ld_blt I hg hm boot_enumerate (PyProof.Rows.callWith_type1 (thn (ha.run pos pins s σ H _ I h) fun us s1 b => ?_) hs rfl))⟩
  obtain ⟨vs, H1, I1, r1, a, xs, ex, hq, q⟩ := b
  subst ex
  cases r1 with
  | cons r rr =>
    cases rr
    cases r
    obtain ⟨its, rv, pt, hz⟩ := I1.tuple hq
    have B := begins_tuple a its.toArray
    refine callType_new F.called_enumerate (by decide) (F.typeCall_enumerate_1 _) (F.newCall_enumerate_1 _) (fun obj => F.args_object_init_2 obj _) F.entry_enumerate_new (sk_meets_enumT a its.toArray _ rfl) ⟨pt, ?_⟩
    have hp1 : (s1.heap.push { cls := .type "tuple_iterator", data := .fields #[.ref a, .int 0 0] }).objs.size = s1.heap.objs.size + 1 := Heap.size_push ..
    show _ ∧ _
    rw [hp1]
    generalize hh1 : s1.heap.push { cls := .type "tuple_iterator", data := .fields #[.ref a, .int 0 0] } = h1 at hp1
    have hit1 : h1.get? s1.heap.objs.size = some { cls := .type "tuple_iterator", data := .fields #[.ref a, .int 0 0] } := by
      rw [← hh1]
      exact Heap.get?_push_size _ rfl
    have hk1 : ∀ b o, s1.heap.get? b = some o → h1.get? b = some o := fun b o hb => by
      rw [← hh1]
      exact Heap.get?_push_of_some _ hb
    have he := Heap.get?_push_size h1 (o := { cls := .type "enumerate", data := .fields #[.none, .bool false, .ref s1.heap.objs.size, rawInt 0, .none, .none] }) rfl
    rw [hp1] at he
    refine ⟨⟨_, he, rfl⟩, wpAny_pyIter_enum he ?_⟩
    have I2 := I1.kept (t' := s1.toks) fun b o hb => Heap.get?_push_of_some { cls := .type "enumerate", data := .fields #[.none, .bool false, .ref s1.heap.objs.size, rawInt 0, .none, .none] } (hk1 b o hb)
    refine ⟨s1.heap.objs.size + 1, [s1.heap.objs.size + 1, s1.heap.objs.size], _, _, H1, rfl, I2, turn_enumT a (s1.heap.objs.size + 1) s1.heap.objs.size, ⟨Nat.succ_ne_self _, ⟨_, Heap.get?_push_of_some _ hit1, rfl, rfl⟩, .none, he⟩, fun b hb => ?_, q⟩
    have hle : s1.heap.objs.size ≤ b := by
      rcases List.mem_cons.mp hb with z | z
      · rw [z]
        exact Nat.le_add_right _ _
      · rw [List.mem_singleton.mp z]
        exact Nat.le_refl _
    exact I1.fpOk hle (I1.hok.fresh hle)
theorem walk_enumT {K : PySem.W.Frag} {a : Addr} {xs : List V} : Walk (Iet K a) xs.length (fun H => SqT K H a xs) (YPair (fun i => some (.int (i : Nat))) (fun i => xs[i]?)) := by
  refine ⟨fun i _ hi q => ⟨xs, xs[i], by simp [hi], q⟩, fun _ q => ⟨xs, rfl, q⟩, fun i H v H' _ q y => ?_⟩
  obtain ⟨T, x, h1, h2, h3, h4⟩ := y
  exact ⟨T, .int (i : Nat), x, h1, h2, h3, rfl, h4 xs q⟩
end L2
namespace Sk
open PySem L2 Evl
/-- over enumerate(tuple), the targets two names -/
theorem evd_lcET {K : PySem.W.Frag} {σ : L2.St} {H : Hp} {te : TE} {tt : TT} {α : Type} {R : PR α} {ta : TA} {j k : Nat} {vs : List Nat} {xs : List V} (hR : Stab R) (f : Nat → Bool) (d : Nat → α) (hl : EvAD ta σ H fun us H1 => ∃ a, us = [.ref a] ∧ SqT K H1 a xs) (hz : xs.length ≤ 40000) (hw : ∀ x y, wipe (((wipe σ vs).set j (some x)).set k (some y)) vs = wipe σ vs)
    (ht : ∀ i x H1, Ex H H1 → xs[i]? = some x → EvT tt (((wipe σ vs).set j (some (nV i))).set k (some x)) H1 (f i)) (he : ∀ i x H1, Ex H H1 → xs[i]? = some x → f i = true → EvD te (((wipe σ vs).set j (some (nV i))).set k (some x)) H1 fun v H3 => R K H3 v (d i)) :
    EvD (tLc (iEnumT K ta) (gTup K 2 (gCons (gName j) (gCons (gName k) gNil))) tt te vs) σ H fun v H1 => ∃ p, v = .ref p ∧ H p = none ∧ LsAt R K H1 p (givenD xs.length f d) :=
  evd_lcW (R := R) (te := te) (n := xs.length) hR f d (fun _ i x => ((wipe σ vs).set j (some (nV i))).set k (some (xs.getD i .non))) (fun J H1 => ∃ a, J = Iet K a ∧ SqT K H1 a xs) (YPair (fun i => some (.int (i : Nat))) (fun i => xs[i]?))
    (fun H1 e Rr kk => hl H1 e _ fun v H2 e2 p => by
      obtain ⟨a, rfl, ha⟩ := p
      exact ⟨a, xs, rfl, ha, kk _ H2 e2 ⟨a, rfl, ha⟩⟩)
    (fun J H2 e hJ => by
      obtain ⟨a, rfl, ha⟩ := hJ
      exact walk_enumT.mono (fun H3 e3 => ex_t e3 ha) fun _ _ _ _ _ _ y => y) hz
    (fun i x H1 H2 e hi y => by
      obtain ⟨T, a, b, rfl, hT, rfl, h1, h2⟩ := y
      cases h1
      have hb : xs.getD i .non = b := by
        rw [List.getD_eq_getElem?_getD, show xs[i]? = some b from h2]
        rfl
      have e2 : Ex H (upd H1 T (.tup [.int (i : Nat), b])) := e.trans (Ex.new hT)
      rw [hb]
      exact ⟨Ex.new hT, fun Q q => ⟨T, [.int (i : Nat), b], rfl, st_of upd_same, rfl, _, _, rfl, _, _, rfl, rfl, q⟩, hw _ _, ht i b _ e2 h2, fun hf => he i b _ e2 h2 hf⟩)
/-- x[i] of a list or a tuple -/
def rIxLT (K : PySem.W.Frag) : R2 := fun x y H Q => rIxL K x y H Q ∨ rIxT K x y H Q
theorem ix_LT {X : Cx} : IxR X (rIxLT X.K) := by
  intro value slice pins s σ H x y v u Q I rx ry h hs
  rcases h with h | h
  · exact ix_list value slice pins s σ H x y v u Q I rx ry h hs
  · exact ix_tup value slice pins s σ H x y v u Q I rx ry h hs
theorem rv_ixLT {K : PySem.W.Frag} {H : Hp} {v : V} {p : Addr} {xs : List V} {i : Int} (h : SqL K H p xs ∨ SqT K H p xs) (ha : atI xs i = some v) : RV (rIxLT K) (.ref p) (.int i) H v := fun H1 e Q q => by
  rcases h with h | h
  · exact .inl (rv_ixL h ha H1 e Q q)
  · exact .inr (rv_ixT h ha H1 e Q q)
end Sk
local macro_rules | `(tactic| walk_at "ev") => `(tactic| (repeat' (first
  | with_reducible apply Evl.ea_cons | with_reducible apply Evl.ev_op | with_reducible apply Evl.ev_cb | with_reducible apply Evl.ev_un | with_reducible apply Evl.et_test | with_reducible apply Evl.et_B | with_reducible apply Evl.et_not
  | with_reducible exact Evl.ea_nil | with_reducible exact Evl.ev_c | exact Evl.ev_var rfl | exact Evl.rv_I0 | with_reducible exact Sk.rv_isN | with_reducible exact Sk.rv_notN | exact Evl.rv_eq rfl | exact Evl.rv_ne rfl | with_reducible exact Sk.rc_abs | with_reducible exact Sk.rc_intB | with_reducible exact Sk.rc_min2
  | exact Evl.rv_ixT (by assumption) (by first | assumption | rfl) | exact Evl.rv_ixL (by assumption) (by first | assumption | rfl)
  | exact Sk.rc_len (Or.inl (by assumption)) | exact Sk.rc_len (Or.inr (by assumption)) | exact Sk.rc_any (by assumption) | exact Sk.rc_all (by assumption) | exact Sk.rc_sum (by assumption))))
namespace Sk
open PySem L2 Evl Sc
/-! ### are_compatible -/
def sp_are_compatible (K : PySem.W.Frag) : Sp := fun vs H Q _ => ∃ (vr va vb : V) (ropes : List (Nat × Nat)) (a b : Nat × Nat × Nat), vs = [vr, va, vb] ∧ LsV PrV K H vr ropes ∧ TrV K H va a ∧ TrV K H vb b ∧
  a.1 < ropes.length ∧ b.1 < ropes.length ∧ RetV (.bl (compatP ropes a b)) H Q
theorem sl_are_compatible {K : PySem.W.Frag} {vs : List V} {H : Hp} {Q : VK} {E : XK} (h : sp_are_compatible K vs H Q E) : vs.length = 3 := by
  obtain ⟨_, _, _, _, _, _, rfl, _⟩ := h
  rfl
def t_are_compatible (K : PySem.W.Frag) : TS :=
  (tSeq (tAsg (tCB rAbs (tCons (tOp rSubI (tOp (rIxT K) (tOp (rIxL K) (tVar 0) (tOp (rIxT K) (tVar 1) (tC (.int 0)))) (tC (.int 0))) (tOp (rIxT K) (tOp (rIxL K) (tVar 0) (tOp (rIxT K) (tVar 2) (tC (.int 0)))) (tC (.int 0)))) tNil)) (gName 3))
  (tRet (tOrV (tOp rGeI (tOp (rIxT K) (tVar 2) (tC (.int 1))) (tOp rAddI (tOp (rIxT K) (tVar 1) (tC (.int 2))) (tVar 3))) (tOp rGeI (tOp (rIxT K) (tVar 1) (tC (.int 1))) (tOp rAddI (tOp (rIxT K) (tVar 2) (tC (.int 2))) (tVar 3))))))
theorem apart_abs (a b : Nat) : (if ((a : Int) - (b : Int)) < 0 then -((a : Int) - (b : Int)) else ((a : Int) - (b : Int))) = ((Sy91.apart a b : Nat) : Int) := by
  unfold Sy91.apart
  split <;> omega
theorem pure_are_compatible {K : PySem.W.Frag} {mg : Str → Option Value} (T : Tx K mg) (vs : List V) (H : Hp) (Q : VK) (E : XK) (h : sp_are_compatible K vs H Q E) : t_are_compatible K { nx := fun _ H' => Q .non H', rt := Q } (start N_are_compatible vs) H := by
  obtain ⟨vr, va, vb, ropes, a, b, rfl, ⟨r, xs, rfl, hr, hrs⟩, ⟨pa, rfl, ha⟩, ⟨pb, rfl, hb⟩, la, lb, k⟩ := h
  obtain ⟨x1, e1, ⟨p1, rfl, h1⟩⟩ := All2.get2 hrs (List.getElem?_eq_getElem la)
  obtain ⟨x2, e2, ⟨p2, rfl, h2⟩⟩ := All2.get2 hrs (List.getElem?_eq_getElem lb)
  have e1' : atI xs ((a.1 : Nat) : Int) = some (.ref p1) := atI_nat e1
  have e2' : atI xs ((b.1 : Nat) : Int) = some (.ref p2) := atI_nat e2
  have g1 : (ropes.getD a.1 (0, 1)).1 = ropes[a.1].1 := by rw [List.getD_eq_getElem?_getD, List.getElem?_eq_getElem la]; rfl
  have g2 : (ropes.getD b.1 (0, 1)).1 = ropes[b.1].1 := by rw [List.getD_eq_getElem?_getD, List.getElem?_eq_getElem lb]; rfl
  refine q_asg (ev_is (w := nV (Sy91.apart ropes[a.1].1 ropes[b.1].1)) (by walk_at "ev") (congrArg V.int (apart_abs _ _))) fun H1 f1 => ?_
  have ha1 := ex_t f1 ha
  have hb1 := ex_t f1 hb
  refine s_ret (ev_is (w := .bl (compatP ropes a b)) (ev_orV (a := _) (b := _) (by walk_at "ev") fun _ => (by walk_at "ev")) ?_) fun H2 f2 => k H2 (f1.trans f2)
  unfold compatP
  rw [g1, g2]
  refine congrArg V.bl ?_
  congr 1
  · exact decide_eq_decide.mpr (by omega)
  · exact decide_eq_decide.mpr (by omega)
theorem ok_are_compatible {P : Program} {w : World} {K : PySem.W.Frag} {mg : Str → Option Value} {base : Heap} (T : Tx K mg) : DefE P w K mg base CX0 1 "are_compatible" ["ropes", "one", "other"] (sp_are_compatible K) := by
  obtain ⟨fd, F⟩ := T.d_are_compatible
  have bd : Binds K fd ["ropes", "one", "other"] [] := F.bindsN fun _ _ _ _ _ _ us hl => match us, hl with | [_, _, _], _ => rfl
  have G : FnOk P w K mg base CX0 1 (He.ga K "are_compatible") fd ["ropes", "one", "other"] (sp_are_compatible K) := by
    refine F.ok sc_are_compatible (fun vs H Q E h => sl_are_compatible h) (fun cdv A outer s H vs Q E hr h => ⟨t_are_compatible K, PSs.nox ?_, pure_are_compatible T vs H Q E h⟩)
    exact (pss_cons (ps_set (i := 3) sc_are_compatible.nd rfl (by first | exact Or.inl rfl | exact Or.inr rfl) (pe_callB cAbs rfl T.f_abs bAbs (pa_cons (pe_op oSub (pe_ix ix_tup (pe_ix ix_list (pv 0) (pe_ix ix_tup (pv 1) pe_int (fun _ _ => rfl)) (fun _ _ => rfl)) pe_int (fun _ _ => rfl)) (pe_ix ix_tup (pe_ix ix_list (pv 0) (pe_ix ix_tup (pv 2) pe_int (fun _ _ => rfl)) (fun _ _ => rfl)) pe_int (fun _ _ => rfl))) pa_nil)))
  (pss_one (ps_ret (pe_or (pe_cmpR oGe (pe_ix ix_tup (pv 2) pe_int (fun _ _ => rfl)) (pe_op oAdd (pe_ix ix_tup (pv 1) pe_int (fun _ _ => rfl)) (pv 3)) (nomark _)) (pe_one (pe_cmpR oGe (pe_ix ix_tup (pv 1) pe_int (fun _ _ => rfl)) (pe_op oAdd (pe_ix ix_tup (pv 2) pe_int (fun _ _ => rfl)) (pv 3)) (nomark _)))))))
  exact DefE.mk ⟨fd, G, bd⟩ T.g_are_compatible T.p_are_compatible
theorem spv_are_compatible {K : PySem.W.Frag} {H : Hp} {vr va vb : V} {ropes : List (Nat × Nat)} {a b : Nat × Nat × Nat} (h1 : LsV PrV K H vr ropes) (h2 : TrV K H va a) (h3 : TrV K H vb b) (la : a.1 < ropes.length) (lb : b.1 < ropes.length) :
    SpV (sp_are_compatible K) [vr, va, vb] H (.bl (compatP ropes a b)) := fun H1 e Q q E =>
  ⟨vr, va, vb, ropes, a, b, rfl, lsV_x prV_st.x _ _ _ _ _ e h1, trV_st.x _ _ _ _ _ e h2, trV_st.x _ _ _ _ _ e h3, la, lb, q⟩

/-! ### clashes_of -/
def sp_clashes_of (K : PySem.W.Frag) : Sp := fun vs H Q _ => ∃ (vr vm : V) (ropes : List (Nat × Nat)) (ms : List (Nat × Nat × Nat)), vs = [vr, vm] ∧ LsV PrV K H vr ropes ∧ LsV TrV K H vm ms ∧ (∀ x ∈ ms, x.1 < ropes.length) ∧ ms.length ≤ 8 ∧
  RetD (fun v H2 => LsV (LsV BlV) K H2 v (clashP ropes ms)) H Q
theorem sl_clashes_of {K : PySem.W.Frag} {vs : List V} {H : Hp} {Q : VK} {E : XK} (h : sp_clashes_of K vs H Q E) : vs.length = 2 := by
  obtain ⟨_, _, _, _, rfl, _⟩ := h
  rfl
def t_clashes_of (K : PySem.W.Frag) : TS :=
  (tSeq (tAsg (tLst tNil) (gName 2))
  (tSeq (tFor (iEnum K (tCons (tVar 1) tNil)) (gTup K 2 (gCons (gName 3) (gCons (gName 4) gNil))) (tDrop (tBM K "list" rAppend (tVar 2) (tCons (tLc (iEnum K (tCons (tVar 1) tNil)) (gTup K 2 (gCons (gName 5) (gCons (gName 6) gNil))) tYes (tOrV (tOp rEq (tVar 5) (tVar 3)) (tNotV (tCall (sp_are_compatible K) [] E0 (tCons (tVar 0) (tCons (tVar 4) (tCons (tVar 6) tNil)))))) [5, 6]) tNil))))
  (tRet (tVar 2))))
theorem pure_clashes_of {K : PySem.W.Frag} {mg : Str → Option Value} (T : Tx K mg) (vs : List V) (H : Hp) (Q : VK) (E : XK) (h : sp_clashes_of K vs H Q E) : t_clashes_of K { nx := fun _ H' => Q .non H', rt := Q } (start N_clashes_of vs) H := by
  obtain ⟨vr, vm, ropes, ms, rfl, hr, hm, hb, hz, k⟩ := h
  obtain ⟨am, xs, rfl, hm1, hm2⟩ := hm
  have hl : xs.length = ms.length := All2.len hm2
  refine q_asgL (el_lst ea_nil (by decide)) fun l H1 hn e1 h1 => ?_
  have e1o : Ex H (off H1 l) := off_ex e1 hn
  refine q_forEn (a := am) (xs := xs) (by walk_at "ev") (ex_l e1 hm1) (fun i σ' H' => ∃ o3 o4 ys, σ' = [some vr, some (.ref am), some (.ref l), o3, o4, none, none] ∧ Ex H (off H' l) ∧ H' l = some (.lst ys) ∧ All2 (LsV BlV K (off H' l)) ys ((List.range i).map fun i => (List.range ms.length).map fun j => clashAt ropes ms i j))
    (fun H2 e2 => ⟨none, none, [], rfl, e1o.trans (off_mono e2), e2 l _ h1, .nil⟩) (fun i σ' H' _ p => ?_) ?_ ?_
  · obtain ⟨_, _, _, _, e, _⟩ := p
    exact ex_l (e.trans off_in) hm1
  · rintro i x σ' H' U hi ⟨o3, o4, ys, rfl, e, h2, h3⟩ hU
    have eU : Ex H' (upd H' U (.tup [nV i, x])) := Ex.new hU
    have eA : Ex H (upd H' U (.tup [nV i, x])) := (e.trans off_in).trans eU
    have hiL : i < ms.length := by
      rw [← hl]
      exact (List.getElem?_eq_some_iff.mp hi).1
    obtain ⟨y, hy, hxy⟩ := All2.get hm2 hi
    have hyD : ms.getD i mv0 = y := getD_at hy
    have hly := hb y (List.mem_of_getElem? hy)
    have hmA := ex_l eA hm1
    refine s_appD (P := fun v H3 => ∃ p, v = .ref p ∧ upd H' U (.tup [nV i, x]) p = none ∧ LsAt BlV K H3 p (givenD xs.length (fun _ => true) fun j => clashAt ropes ms i j)) (eU l _ h2) (ev_var rfl) ?_ ?_ ?_
    · refine evd_lcE blV_st (fun _ => true) (fun j => clashAt ropes ms i j) ?_ (by omega) (fun _ _ => rfl) (fun _ _ _ _ _ => et_yes) ?_
      · exact fun H2 e2 Q2 q2 => ⟨_, rfl, q2 _ H2 (Ex.refl H2) ⟨am, rfl, ex_l e2 hmA⟩⟩
      · intro j z H3 e3 hz _
        obtain ⟨y2, hy2, hxy2⟩ := All2.get hm2 hz
        have hyD2 : ms.getD j mv0 = y2 := getD_at hy2
        have hly2 := hb y2 (List.mem_of_getElem? hy2)
        have e4 : Ex H H3 := eA.trans e3
        refine evd_of (v := .bl (clashAt ropes ms i j)) (ev_is (ev_orV (a := decide (nV j = nV i)) (b := !compatP ropes y y2) (by walk_at "ev") fun _ => ?_) ?_) fun _ _ => rfl
        · refine ev_notV (ev_call (by walk_at "ev") (spv_are_compatible (lsV_x prV_st.x _ _ _ _ _ e4 hr) (trV_st.x _ _ _ _ _ e4 hxy) (trV_st.x _ _ _ _ _ e4 hxy2) hly hly2))
        · unfold clashAt
          rw [hyD, hyD2]
          congr 2
          refine decide_eq_decide.mpr ⟨fun z => ?_, fun z => by rw [z]⟩
          have := V.int.inj z
          omega
    · have := All2.len h3
      rw [List.length_map, List.length_range] at this
      omega
    · rintro v H3 e3 ⟨p, rfl, hp, zs, h4, h5⟩
      have hl3 := e3 l _ (eU l _ h2)
      have hpl : p ≠ l := fun z => by
        rw [z, eU l _ h2] at hp
        cases hp
      refine ⟨_, _, ys ++ [.ref p], rfl, ?_, upd_same, ?_⟩
      · rw [off_upd]
        exact (e.trans (off_mono eU)).trans (off_mono e3)
      · rw [off_upd, List.range_succ, List.map_append]
        refine All2.snoc (all2_x (lsV_x blV_st.x) (off_mono (eU.trans e3)) h3) ⟨p, zs, rfl, sq_of (by rw [off_ne hpl]; exact h4), ?_⟩
        rw [givenD_all, hl] at h5
        exact all2_mono (fun _ _ r => r) h5
  · rintro σ' H' ⟨o3, o4, ys, rfl, e, h2, h3⟩
    refine s_ret (by walk_at "ev") fun H2 e2 => k _ H2 ((e.trans off_in).trans e2) ⟨l, ys, rfl, sq_of (e2 l _ h2), ?_⟩
    rw [hl] at h3
    exact all2_x (lsV_x blV_st.x) (off_in.trans e2) h3
theorem ok_clashes_of {P : Program} {w : World} {K : PySem.W.Frag} {mg : Str → Option Value} {base : Heap} (T : Tx K mg) (D_are_compatible : DefE P w K mg base (CX0) 1 "are_compatible" ["ropes", "one", "other"] (sp_are_compatible K)) : DefE P w K mg base CX0 2 "clashes_of" ["ropes", "movements"] (sp_clashes_of K) := by
  obtain ⟨fd, F⟩ := T.d_clashes_of
  have bd : Binds K fd ["ropes", "movements"] [] := F.bindsN fun _ _ _ _ _ _ us hl => match us, hl with | [_, _], _ => rfl
  have G : FnOk P w K mg base CX0 2 (He.ga K "clashes_of") fd ["ropes", "movements"] (sp_clashes_of K) := by
    refine F.ok sc_clashes_of (fun vs H Q E h => sl_clashes_of h) (fun cdv A outer s H vs Q E hr h => ⟨t_clashes_of K, PSs.nox ?_, pure_clashes_of T vs H Q E h⟩)
    exact (pss_cons (ps_set (i := 2) sc_clashes_of.nd rfl (by first | exact Or.inl rfl | exact Or.inr rfl) (pe_lst pa_nil))
  (pss_cons (ps_for PassesOwn.never rfl (pi_enum rfl T.f_enumerate (pa_cons (pv 1) pa_nil)) (pg_tup rfl (pgs_cons (pg_name (i := 3) sc_clashes_of.nd rfl (by first | exact Or.inl rfl | exact Or.inr rfl)) (pgs_cons (pg_name (i := 4) sc_clashes_of.nd rfl (by first | exact Or.inl rfl | exact Or.inr rfl)) pgs_nil))) (pss_one (ps_expr (pe_bm PySem.F.plainAttrs_list PySem.F.slot_list_append PySem.F.type_list_append mt_append (pv 2) (pa_cons (pe_lc (own := [("j", 5), ("other", 6)]) (g := (gTup K 2 (gCons (gName 5) (gCons (gName 6) gNil)))) (tt := tYes) (te := (tOrV (tOp rEq (tVar 5) (tVar 3)) (tNotV (tCall (sp_are_compatible K) [] E0 (tCons (tVar 0) (tCons (tVar 4) (tCons (tVar 6) tNil))))))) rfl sc_clashes_of.nd (pi_enum rfl T.f_enumerate (pa_cons (pv 1) pa_nil)) (blkOk_by (N := N_clashes_of) (sc := defScope s_clashes_of) (by decide +kernel)) (fun _ _ _ _ _ => (pg_tup rfl (pgs_cons (pg_name (i := 5) sc_clashes_of.nd rfl (by first | exact Or.inl rfl | exact Or.inr rfl)) (pgs_cons (pg_name (i := 6) sc_clashes_of.nd rfl (by first | exact Or.inl rfl | exact Or.inr rfl)) pgs_nil)))) (fun _ _ _ _ _ => pts_nil) (fun _ _ _ _ _ => (pe_or (pe_cmpR oEq (pv 5) (pv 3) (nomark _)) (pe_one (pe_not (pe_callE D_are_compatible (hr.mono (by decide)) rfl pass0 (by exact (pa_cons (pv 0) (pa_cons (pv 4) (pa_cons (pv 6) pa_nil)))))))))) pa_nil)))))
  (pss_one (ps_ret (pv 2)))))
  exact DefE.mk ⟨fd, G, bd⟩ T.g_clashes_of T.p_clashes_of
theorem spd_clashes_of {K : PySem.W.Frag} {H : Hp} {vr vm : V} {ropes : List (Nat × Nat)} {ms : List (Nat × Nat × Nat)} (h1 : LsV PrV K H vr ropes) (h2 : LsV TrV K H vm ms) (hb : ∀ x ∈ ms, x.1 < ropes.length) (hz : ms.length ≤ 8) :
    SpD (sp_clashes_of K) [vr, vm] H fun v H2 => LsV (LsV BlV) K H2 v (clashP ropes ms) := fun Q q E => ⟨vr, vm, ropes, ms, rfl, h1, h2, hb, hz, q⟩
end Sk
namespace Sk
open PySem L2 Evl Sc
/-! ### crews_of -/
def sp_crews_of (K : PySem.W.Frag) : Sp := fun vs H Q _ => ∃ (vr vm : V) (ropes : List (Nat × Nat)) (ms : List (Nat × Nat × Nat)), vs = [vr, vm] ∧ LsV PrV K H vr ropes ∧ LsV TrV K H vm ms ∧ (∀ x ∈ ms, x.1 < ropes.length) ∧ ms.length ≤ 40000 ∧ RetL ((crewsP ropes ms).map nV) H Q
theorem sl_crews_of {K : PySem.W.Frag} {vs : List V} {H : Hp} {Q : VK} {E : XK} (h : sp_crews_of K vs H Q E) : vs.length = 2 := by
  obtain ⟨_, _, _, _, rfl, _⟩ := h
  rfl
def t_crews_of (K : PySem.W.Frag) : TS :=
  (tRet (tLc (iList K (tVar 1)) (gName 2) tYes (tOp (rIxT K) (tOp (rIxL K) (tVar 0) (tOp (rIxT K) (tVar 2) (tC (.int 0)))) (tC (.int 1))) [2]))
theorem pure_crews_of {K : PySem.W.Frag} {mg : Str → Option Value} (T : Tx K mg) (vs : List V) (H : Hp) (Q : VK) (E : XK) (h : sp_crews_of K vs H Q E) : t_crews_of K { nx := fun _ H' => Q .non H', rt := Q } (start N_crews_of vs) H := by
  obtain ⟨vr, vm, ropes, ms, rfl, ⟨ar, rs, rfl, hr1, hr2⟩, ⟨am, xs, rfl, hm1, hm2⟩, hb, hz, k⟩ := h
  have hl : xs.length = ms.length := All2.len hm2
  refine s_retD (P := fun v H1 => ∃ p, v = .ref p ∧ H p = none ∧ LsAt NumV K H1 p (givenD xs.length (fun _ => true) fun i => (ropes.getD (ms.getD i mv0).1 (0, 1)).2)) (evd_lcL numV_st (fun _ => true) (fun i => (ropes.getD (ms.getD i mv0).1 (0, 1)).2) (evd_of (by walk_at "ev") fun H1 e1 => ⟨am, rfl, ex_l e1 hm1⟩) (by omega) (fun _ => rfl) (fun _ _ _ _ _ => et_yes) ?_) ?_
  · intro i x H1 e1 hi _
    obtain ⟨y, hy, ⟨py, rfl, hpy⟩⟩ := All2.get hm2 hi
    have hly := hb y (List.mem_of_getElem? hy)
    obtain ⟨x1, f1, ⟨p1, rfl, h1⟩⟩ := All2.get2 hr2 (List.getElem?_eq_getElem hly)
    have f1' : atI rs ((y.1 : Nat) : Int) = some (.ref p1) := atI_nat f1
    have hr1' := ex_l e1 hr1
    have hpy' := ex_t e1 hpy
    have h1' := ex_t e1 h1
    refine evd_of (v := nV ropes[y.1].2) (by walk_at "ev") fun _ _ => ?_
    show _ = nV _
    rw [getD_at hy, List.getD_eq_getElem?_getD, List.getElem?_eq_getElem hly]
    rfl
  · rintro v H1 e1 ⟨p, rfl, hp, ys, h4, h5⟩
    refine k p H1 hp e1 ?_
    rw [givenD_all, hl, map_getD ms mv0 fun x => (ropes.getD x.1 (0, 1)).2] at h5
    rw [h4, all2_num h5]
    rfl
theorem ok_crews_of {P : Program} {w : World} {K : PySem.W.Frag} {mg : Str → Option Value} {base : Heap} (T : Tx K mg) : DefE P w K mg base CX0 1 "crews_of" ["ropes", "movements"] (sp_crews_of K) := by
  obtain ⟨fd, F⟩ := T.d_crews_of
  have bd : Binds K fd ["ropes", "movements"] [] := F.bindsN fun _ _ _ _ _ _ us hl => match us, hl with | [_, _], _ => rfl
  have G : FnOk P w K mg base CX0 1 (He.ga K "crews_of") fd ["ropes", "movements"] (sp_crews_of K) := by
    refine F.ok sc_crews_of (fun vs H Q E h => sl_crews_of h) (fun cdv A outer s H vs Q E hr h => ⟨t_crews_of K, PSs.nox ?_, pure_crews_of T vs H Q E h⟩)
    exact (pss_one (ps_ret (pe_lc (own := [("movement", 2)]) (g := (gName 2)) (tt := tYes) (te := (tOp (rIxT K) (tOp (rIxL K) (tVar 0) (tOp (rIxT K) (tVar 2) (tC (.int 0)))) (tC (.int 1)))) rfl sc_crews_of.nd (pi_list (pv 1)) (blkOk_by (N := N_crews_of) (sc := defScope s_crews_of) (by decide +kernel)) (fun _ _ _ _ _ => (pg_name (i := 2) sc_crews_of.nd rfl (by first | exact Or.inl rfl | exact Or.inr rfl))) (fun _ _ _ _ _ => pts_nil) (fun _ _ _ _ _ => (pe_ix ix_tup (pe_ix ix_list (pv 0) (pe_ix ix_tup (pv 2) pe_int (fun _ _ => rfl)) (fun _ _ => rfl)) pe_int (fun _ _ => rfl))))))
  exact DefE.mk ⟨fd, G, bd⟩ T.g_crews_of T.p_crews_of
theorem spl_crews_of {K : PySem.W.Frag} {H : Hp} {vr vm : V} {ropes : List (Nat × Nat)} {ms : List (Nat × Nat × Nat)} (h1 : LsV PrV K H vr ropes) (h2 : LsV TrV K H vm ms) (hb : ∀ x ∈ ms, x.1 < ropes.length) (hz : ms.length ≤ 40000) :
    SpL (sp_crews_of K) [vr, vm] H ((crewsP ropes ms).map nV) := fun H1 e Q q E => ⟨vr, vm, ropes, ms, rfl, lsV_x prV_st.x _ _ _ _ _ e h1, lsV_x trV_st.x _ _ _ _ _ e h2, hb, hz, fun p H2 hp e2 h2 => q p H2 hp e2 h2⟩

/-! ### are_few -/
def sp_are_few (K : PySem.W.Frag) : Sp := fun vs H Q _ => ∃ (vr vm : V) (ropes : List (Nat × Nat)) (ms : List (Nat × Nat × Nat)), vs = [vr, vm] ∧ LsV PrV K H vr ropes ∧ LsV TrV K H vm ms ∧ (∀ x ∈ ms, x.1 < ropes.length) ∧ ms.length ≤ 40000 ∧ RetV (.bl (decide ((crewsP ropes ms).sum ≤ 8))) H Q
theorem sl_are_few {K : PySem.W.Frag} {vs : List V} {H : Hp} {Q : VK} {E : XK} (h : sp_are_few K vs H Q E) : vs.length = 2 := by
  obtain ⟨_, _, _, _, rfl, _⟩ := h
  rfl
def t_are_few (K : PySem.W.Frag) : TS :=
  (tRet (tOp rLeI (tCB (rSum K) (tCons (tCall (sp_crews_of K) [] E0 (tCons (tVar 0) (tCons (tVar 1) tNil))) tNil)) (tC (.int 8))))
theorem pure_are_few {K : PySem.W.Frag} {mg : Str → Option Value} (T : Tx K mg) (vs : List V) (H : Hp) (Q : VK) (E : XK) (h : sp_are_few K vs H Q E) : t_are_few K { nx := fun _ H' => Q .non H', rt := Q } (start N_are_few vs) H := by
  obtain ⟨vr, vm, ropes, ms, rfl, hr, hm, hb, hz, k⟩ := h
  refine s_ret (ev_is (ev_op (ev_cbL (z := .int ((crewsP ropes ms).map fun (n : Nat) => (n : Int)).sum) (el_call (by walk_at "ev") (spl_crews_of hr hm hb hz)) fun p H1 e1 h1 => rc_sum (sq_of (by rw [← map_nV]; exact h1))) ev_c rv_I0) ?_) fun H2 e2 => k H2 e2
  rw [sum_cast]
  exact congrArg V.bl (decide_eq_decide.mpr (by omega))
theorem ok_are_few {P : Program} {w : World} {K : PySem.W.Frag} {mg : Str → Option Value} {base : Heap} (T : Tx K mg) (D_crews_of : DefE P w K mg base (CX0) 1 "crews_of" ["ropes", "movements"] (sp_crews_of K)) : DefE P w K mg base CX0 2 "are_few" ["ropes", "movements"] (sp_are_few K) := by
  obtain ⟨fd, F⟩ := T.d_are_few
  have bd : Binds K fd ["ropes", "movements"] [] := F.bindsN fun _ _ _ _ _ _ us hl => match us, hl with | [_, _], _ => rfl
  have G : FnOk P w K mg base CX0 2 (He.ga K "are_few") fd ["ropes", "movements"] (sp_are_few K) := by
    refine F.ok sc_are_few (fun vs H Q E h => sl_are_few h) (fun cdv A outer s H vs Q E hr h => ⟨t_are_few K, PSs.nox ?_, pure_are_few T vs H Q E h⟩)
    exact (pss_one (ps_ret (pe_cmpR oLe (pe_callB (cr_sum rfl) rfl T.f_sum bSum (pa_cons (pe_callE D_crews_of (hr.mono (by decide)) rfl pass0 (by exact (pa_cons (pv 0) (pa_cons (pv 1) pa_nil)))) pa_nil)) (pe_glob rfl T.m_MOST_SPOTS.2 ⟨_, rfl⟩) (nomark _))))
  exact DefE.mk ⟨fd, G, bd⟩ T.g_are_few T.p_are_few
theorem spv_are_few {K : PySem.W.Frag} {H : Hp} {vr vm : V} {ropes : List (Nat × Nat)} {ms : List (Nat × Nat × Nat)} (h1 : LsV PrV K H vr ropes) (h2 : LsV TrV K H vm ms) (hb : ∀ x ∈ ms, x.1 < ropes.length) (hz : ms.length ≤ 40000) :
    SpV (sp_are_few K) [vr, vm] H (.bl (decide ((crewsP ropes ms).sum ≤ 8))) := fun H1 e Q q E => ⟨vr, vm, ropes, ms, rfl, lsV_x prV_st.x _ _ _ _ _ e h1, lsV_x trV_st.x _ _ _ _ _ e h2, hb, hz, q⟩

/-! ### spots_of -/
def sp_spots_of (K : PySem.W.Frag) : Sp := fun vs H Q _ => ∃ (vc : V) (crews : List Nat), vs = [vc] ∧ NsV K H vc crews ∧ crews.length ≤ 40000 ∧ crews.sum ≤ 8 ∧ RetL ((spotsP crews).map nV) H Q
theorem sl_spots_of {K : PySem.W.Frag} {vs : List V} {H : Hp} {Q : VK} {E : XK} (h : sp_spots_of K vs H Q E) : vs.length = 1 := by
  obtain ⟨_, _, rfl, _⟩ := h
  rfl
def t_spots_of (K : PySem.W.Frag) : TS :=
  (tSeq (tAsg (tLst tNil) (gName 1))
  (tSeq (tFor (iEnum K (tCons (tVar 0) tNil)) (gTup K 2 (gCons (gName 2) (gCons (gName 3) gNil))) (tDrop (tBM K "list" rExtend (tVar 1) (tCons (tOp rRep (tLst (tCons (tVar 2) tNil)) (tVar 3)) tNil))))
  (tRet (tVar 1))))
def spotsN (crews : List Nat) (n : Nat) : List Nat := (List.range n).flatMap fun k => List.replicate (crews.getD k 0) k
theorem spotsN_succ (crews : List Nat) (n : Nat) : spotsN crews (n + 1) = spotsN crews n ++ List.replicate (crews.getD n 0) n := by
  unfold spotsN
  rw [List.range_succ, List.flatMap_append]
  congr 1
  rw [List.flatMap_cons, List.flatMap_nil, List.append_nil]
theorem getD_le_sum : ∀ (l : List Nat) (i : Nat), l.getD i 0 ≤ l.sum
  | [], i => by simp
  | x :: r, 0 => by
    rw [List.sum_cons]
    show x ≤ x + r.sum
    omega
  | x :: r, i + 1 => by
    have := getD_le_sum r i
    rw [List.sum_cons]
    show r.getD i 0 ≤ _
    omega
theorem spotsN_len (crews : List Nat) (c : Nat) (h : ∀ i, crews.getD i 0 ≤ c) : ∀ n, (spotsN crews n).length ≤ c * n
  | 0 => Nat.zero_le _
  | n + 1 => by
    have ih := spotsN_len crews c h n
    rw [spotsN_succ, List.length_append, List.length_replicate, Nat.mul_succ]
    have := h n
    omega
theorem pure_spots_of {K : PySem.W.Frag} {mg : Str → Option Value} (T : Tx K mg) (vs : List V) (H : Hp) (Q : VK) (E : XK) (h : sp_spots_of K vs H Q E) : t_spots_of K { nx := fun _ H' => Q .non H', rt := Q } (start N_spots_of vs) H := by
  obtain ⟨vc, crews, rfl, ⟨ac, rfl, hc⟩, hz, hs, k⟩ := h
  have hc' := hc
  refine q_asgL (el_lst ea_nil (by decide)) fun l H1 hn e1 h1 => ?_
  have hl : (crews.map nV).length = crews.length := List.length_map ..
  refine q_forEn (a := ac) (xs := crews.map nV) (by walk_at "ev") (ex_l e1 hc) (fun i σ' H' => ∃ o3 o4, σ' = [some (.ref ac), some (.ref l), o3, o4] ∧ Ex H (off H' l) ∧ H' l = some (.lst ((spotsN crews i).map nV)))
    (fun H2 e2 => ⟨none, none, rfl, off_ex (e1.trans e2) hn, e2 l _ h1⟩) (fun i σ' H' _ p => ?_) ?_ ?_
  · obtain ⟨_, _, _, e, _⟩ := p
    exact ex_l (e.trans off_in) hc
  · rintro i x σ' H' U hi ⟨o3, o4, rfl, e, h2⟩ hU
    have hil : i < crews.length := by
      rw [← hl]
      exact (List.getElem?_eq_some_iff.mp hi).1
    have hx : x = nV (crews.getD i 0) := by
      rw [nums_at hil] at hi
      exact (Option.some.inj hi).symm
    subst hx
    have eU : Ex H' (upd H' U (.tup [nV i, nV (crews.getD i 0)])) := Ex.new hU
    have h8 := fun j => Nat.le_trans (getD_le_sum crews j) hs
    have hlen := spotsN_len crews 8 h8 i
    refine s_extD (P := fun v H1 => H1 l = some (.lst ((spotsN crews i).map nV)) ∧ Ex (upd H' U (.tup [nV i, nV (crews.getD i 0)])) H1 ∧ ∃ b, v = .ref b ∧ H1 b = some (.lst (List.replicate (crews.getD i 0) (nV i)))) (eU l _ h2) (ev_var rfl) (EvD.imp (evd_rep (x := nV i) (n := crews.getD i 0) (by walk_at "ev") (by walk_at "ev") (by have := h8 i; omega)) fun v H2 e2 p2 => ?_) fun b zs H2 e2 hb p2 => ?_
    · obtain ⟨p, rfl, hp, h4⟩ := p2
      refine ⟨p, _, rfl, h4, ?_, e2 l _ (eU l _ h2), e2, p, rfl, h4⟩
      rw [List.length_map, List.length_replicate]
      have := h8 i
      omega
    · obtain ⟨q1, q2, b', e3, q3⟩ := p2
      have e3' : b = b' := V.ref.inj e3
      subst e3'
      rw [q3] at hb
      have hzs : zs = List.replicate (crews.getD i 0) (nV i) := (HO.lst.inj (Option.some.inj hb)).symm
      refine ⟨_, _, rfl, ?_, ?_⟩
      · rw [off_upd]
        exact e.trans (off_mono (eU.trans e2))
      · rw [upd_same, spotsN_succ, List.map_append, List.map_replicate, hzs]
  · rintro σ' H' ⟨o3, o4, rfl, e, h2⟩
    rw [hl] at h2
    exact s_ret (ev_var rfl) fun H2 e2 => k l H2 hn ((e.trans off_in).trans e2) (e2 l _ h2)
theorem ok_spots_of {P : Program} {w : World} {K : PySem.W.Frag} {mg : Str → Option Value} {base : Heap} (T : Tx K mg) : DefE P w K mg base CX0 1 "spots_of" ["crews"] (sp_spots_of K) := by
  obtain ⟨fd, F⟩ := T.d_spots_of
  have bd : Binds K fd ["crews"] [] := F.bindsN fun _ _ _ _ _ _ us hl => match us, hl with | [_], _ => rfl
  have G : FnOk P w K mg base CX0 1 (He.ga K "spots_of") fd ["crews"] (sp_spots_of K) := by
    refine F.ok sc_spots_of (fun vs H Q E h => sl_spots_of h) (fun cdv A outer s H vs Q E hr h => ⟨t_spots_of K, PSs.nox ?_, pure_spots_of T vs H Q E h⟩)
    exact (pss_cons (ps_set (i := 1) sc_spots_of.nd rfl (by first | exact Or.inl rfl | exact Or.inr rfl) (pe_lst pa_nil))
  (pss_cons (ps_for PassesOwn.never rfl (pi_enum rfl T.f_enumerate (pa_cons (pv 0) pa_nil)) (pg_tup rfl (pgs_cons (pg_name (i := 2) sc_spots_of.nd rfl (by first | exact Or.inl rfl | exact Or.inr rfl)) (pgs_cons (pg_name (i := 3) sc_spots_of.nd rfl (by first | exact Or.inl rfl | exact Or.inr rfl)) pgs_nil))) (pss_one (ps_expr (pe_bm PySem.F.plainAttrs_list PySem.F.slot_list_extend PySem.F.type_list_extend mt_extend (pv 1) (pa_cons (pe_op oRep (pe_lst (pa_cons (pv 2) pa_nil)) (pv 3)) pa_nil)))))
  (pss_one (ps_ret (pv 1)))))
  exact DefE.mk ⟨fd, G, bd⟩ T.g_spots_of T.p_spots_of
theorem spl_spots_of {K : PySem.W.Frag} {H : Hp} {vc : V} {crews : List Nat} (h1 : NsV K H vc crews) (hz : crews.length ≤ 40000) (hs : crews.sum ≤ 8) : SpL (sp_spots_of K) [vc] H ((spotsP crews).map nV) := fun H1 e Q q E =>
  ⟨vc, crews, rfl, nsV_x _ _ _ _ _ e h1, hz, hs, fun p H2 hp e2 h2 => q p H2 hp e2 h2⟩

/-! ### hands_in -/
def sp_hands_in (K : PySem.W.Frag) : Sp := fun vs H Q _ => ∃ (vp : V) (pl : List Nat), vs = [vp] ∧ NlV K H vp pl ∧ pl.length ≤ 40000 ∧ RetV (nV (handsIn pl)) H Q
theorem sl_hands_in {K : PySem.W.Frag} {vs : List V} {H : Hp} {Q : VK} {E : XK} (h : sp_hands_in K vs H Q E) : vs.length = 1 := by
  obtain ⟨_, _, rfl, _⟩ := h
  rfl
def t_hands_in (K : PySem.W.Frag) : TS :=
  (tRet (tOp rAddI (tCB (rMax K) (tCons (tOp rCat (tLst (tCons (tUn rNeg (tC (.int 1))) tNil)) (tVar 0)) tNil)) (tC (.int 1))))
theorem evd_minus {K : PySem.W.Frag} {σ : L2.St} {H : Hp} {te : TE} {pl : List Nat} {a : Addr} (h : Ev te σ H (.ref a)) (ha : H a = some (.lst (pl.map nV))) (hz : pl.length ≤ 40000) :
    EvD (tOp rCat (tLst (tCons (tUn rNeg (tC (.int 1))) tNil)) te) σ H fun v H1 => ∃ c, v = .ref c ∧ SqL K H1 c (V.int (-1) :: pl.map nV) :=
  evd_op (evd_lst (vs := [V.int (-1)]) (ea_cons (ev_un ev_c ru_neg) ea_nil) (by decide)) fun x H1 e1 p1 => by
    obtain ⟨p, rfl, hp, h1⟩ := p1
    exact evd_of (h.mono e1) fun H2 e2 => fun Q q => rv_cat (e2 p _ h1) (e2 a _ (e1 a _ ha)) (by rw [List.length_map]; simp; omega) Q fun v H3 e3 p3 => by
      obtain ⟨c, rfl, _, h3⟩ := p3
      exact q _ H3 e3 ⟨c, rfl, sq_of h3⟩
theorem ev_hands {K : PySem.W.Frag} {σ : L2.St} {H : Hp} {te : TE} {pl : List Nat} {a : Addr} (h : Ev te σ H (.ref a)) (ha : H a = some (.lst (pl.map nV))) (hz : pl.length ≤ 40000) :
    Ev (tOp rAddI (tCB (rMax K) (tCons (tOp rCat (tLst (tCons (tUn rNeg (tC (.int 1))) tNil)) te) tNil)) (tC (.int 1))) σ H (nV (handsIn pl)) :=
  ev_is (ev_op (ev_cbD (evd_minus h ha hz) fun x H1 e1 p1 => by
    obtain ⟨c, rfl, h1⟩ := p1
    exact rc_maxP h1) ev_c rv_I0) (congrArg V.int (by omega))
theorem pure_hands_in {K : PySem.W.Frag} {mg : Str → Option Value} (T : Tx K mg) (vs : List V) (H : Hp) (Q : VK) (E : XK) (h : sp_hands_in K vs H Q E) : t_hands_in K { nx := fun _ H' => Q .non H', rt := Q } (start N_hands_in vs) H := by
  obtain ⟨vp, pl, rfl, ⟨a, rfl, ha⟩, hz, k⟩ := h
  exact s_ret (ev_hands (by walk_at "ev") ha hz) fun H2 e2 => k H2 e2
theorem ok_hands_in {P : Program} {w : World} {K : PySem.W.Frag} {mg : Str → Option Value} {base : Heap} (T : Tx K mg) : DefE P w K mg base CX0 1 "hands_in" ["plan"] (sp_hands_in K) := by
  obtain ⟨fd, F⟩ := T.d_hands_in
  have bd : Binds K fd ["plan"] [] := F.bindsN fun _ _ _ _ _ _ us hl => match us, hl with | [_], _ => rfl
  have G : FnOk P w K mg base CX0 1 (He.ga K "hands_in") fd ["plan"] (sp_hands_in K) := by
    refine F.ok sc_hands_in (fun vs H Q E h => sl_hands_in h) (fun cdv A outer s H vs Q E hr h => ⟨t_hands_in K, PSs.nox ?_, pure_hands_in T vs H Q E h⟩)
    exact (pss_one (ps_ret (pe_op oAdd (pe_callB (cr_max rfl) rfl T.f_max bMax (pa_cons (pe_op oCat (pe_lst (pa_cons (pe_un uNeg pe_int) pa_nil)) (pv 0)) pa_nil)) pe_int)))
  exact DefE.mk ⟨fd, G, bd⟩ T.g_hands_in T.p_hands_in
theorem spv_hands_in {K : PySem.W.Frag} {H : Hp} {vp : V} {pl : List Nat} (h1 : NlV K H vp pl) (hz : pl.length ≤ 40000) : SpV (sp_hands_in K) [vp] H (nV (handsIn pl)) := fun H1 e Q q E => ⟨vp, pl, rfl, nlV_x _ _ _ _ _ e h1, hz, q⟩
end Sk
namespace Sk
open PySem L2 Evl Sc
theorem RC_is {r : List V → Hp → VK → Prop} {vs : List V} {H : Hp} {z w : V} (h : RC r vs H z) (e : z = w) : RC r vs H w := e ▸ h
/-! ### can_take -/
def sp_can_take (K : PySem.W.Frag) : Sp := fun vs H Q _ => ∃ (v1 v2 v3 : V) (sp : List Nat) (cs : List (List Bool)) (pl : List Nat) (h : Nat), vs = [v1, v2, v3, nV h] ∧ NsV K H v1 sp ∧ LsV (LsV BlV) K H v2 cs ∧ NlV K H v3 pl ∧
  pl.length < sp.length ∧ sp.length ≤ 40000 ∧ (∀ x ∈ sp, x < cs.length) ∧ (∀ r ∈ cs, r.length = cs.length) ∧ RetV (.bl (canP cs sp pl h)) H Q
theorem sl_can_take {K : PySem.W.Frag} {vs : List V} {H : Hp} {Q : VK} {E : XK} (h : sp_can_take K vs H Q E) : vs.length = 4 := by
  obtain ⟨_, _, _, _, _, _, _, rfl, _⟩ := h
  rfl
def t_can_take (K : PySem.W.Frag) : TS :=
  (tSeq (tAsg (tOp (rIxL K) (tVar 0) (tCB (rLenS K) (tCons (tVar 2) tNil))) (gName 4))
  (tSeq (tAsg (tLc (iEnum K (tCons (tVar 2) tNil)) (gTup K 2 (gCons (gName 6) (gCons (gName 7) gNil))) (tTest (tOp rEq (tVar 7) (tVar 3))) (tOp (rIxL K) (tVar 0) (tVar 6)) [6, 7]) (gName 5))
  (tRet (tNotV (tCB (rAny K) (tCons (tLc (iList K (tVar 5)) (gName 7) tYes (tOp (rIxL K) (tOp (rIxL K) (tVar 1) (tVar 4)) (tVar 7)) [7]) tNil))))))
theorem pure_can_take {K : PySem.W.Frag} {mg : Str → Option Value} (T : Tx K mg) (vs : List V) (H : Hp) (Q : VK) (E : XK) (h : sp_can_take K vs H Q E) : t_can_take K { nx := fun _ H' => Q .non H', rt := Q } (start N_can_take vs) H := by
  obtain ⟨v1, v2, v3, sp, cs, pl, h, rfl, ⟨as, rfl, hs⟩, ⟨ac, cx, rfl, hc1, hc2⟩, ⟨ap, rfl, hp⟩, hl, hz, hb, hr, k⟩ := h
  have hps := sq_of (K := K) hp
  have hat : atI (sp.map nV) (((pl.map nV).length : Nat) : Int) = some (nV (sp.getD pl.length 0)) := by
    rw [List.length_map]
    exact atI_nat (nums_at hl)
  have hmem : ∀ i, i < sp.length → sp.getD i 0 < cs.length := fun i hi => by
    rw [List.getD_eq_getElem?_getD, List.getElem?_eq_getElem hi]
    exact hb _ (List.getElem_mem hi)
  have hm := hmem _ hl
  obtain ⟨x1, g1, ⟨ar, xr, rfl, hr1, hr2⟩⟩ := All2.get2 hc2 (List.getElem?_eq_getElem hm)
  have hrl := hr _ (List.getElem_mem hm)
  have hxr := all2_bl hr2
  subst hxr
  have g1' : atI cx ((sp.getD pl.length 0 : Nat) : Int) = some (.ref ar) := atI_nat g1
  refine q_asg (v := nV (sp.getD pl.length 0)) (ev_op (ev_var rfl) (ev_cb (ea_cons (ev_var rfl) ea_nil) (rc_len (Or.inl hps))) (rv_ixL hs hat)) fun H1 e1 => ?_
  refine q_asgD (P := fun v H2 => ∃ p, v = .ref p ∧ H1 p = none ∧ LsAt NumV K H2 p (givenD (pl.map nV).length (fun i => decide (pl.getD i 0 = h)) fun i => sp.getD i 0)) (evd_lcE numV_st _ _ (fun H2 e2 Q2 q2 => ⟨_, rfl, q2 _ H2 (Ex.refl H2) ⟨ap, rfl, sq_of ((e1.trans e2) ap _ hp)⟩⟩) (by rw [List.length_map]; omega) (fun _ _ => rfl) ?_ ?_) fun v H2 e2 p2 => ?_
  · intro i x H3 e3 hx
    have hi : i < pl.length := by
      have := (List.getElem?_eq_some_iff.mp hx).1
      rw [List.length_map] at this
      exact this
    rw [nums_at hi] at hx
    cases hx
    refine et_is (by walk_at "ev") (decide_eq_decide.mpr ⟨fun z => ?_, fun z => by rw [z]⟩)
    have := V.int.inj z
    omega
  · intro i x H3 e3 hx _
    have hi : i < pl.length := by
      have := (List.getElem?_eq_some_iff.mp hx).1
      rw [List.length_map] at this
      exact this
    have hs' := ex_l (e1.trans e3) hs
    have h2 : atI (sp.map nV) ((i : Nat) : Int) = some (nV (sp.getD i 0)) := atI_nat (nums_at (by omega))
    exact evd_of (v := nV (sp.getD i 0)) (by walk_at "ev") fun _ _ => rfl
  · obtain ⟨p, rfl, hp0, ys, h4, h5⟩ := p2
    have h5 := all2_num h5
    rw [List.length_map] at h5
    change ys = (ownOnes sp pl h).map nV at h5
    subst h5
    have hol : ∀ o ∈ ownOnes sp pl h, o < cs.length := fun o ho => by
      unfold ownOnes at ho
      obtain ⟨i, hi, rfl⟩ := List.mem_map.mp ho
      have := List.mem_range.mp (List.mem_filter.mp hi).1
      exact hmem i (by omega)
    have e02 := e1.trans e2
    refine s_ret (ev_is (ev_notV (a := (ownOnes sp pl h).any fun o => (cs[sp.getD pl.length 0]).getD o false) (ev_cbD (P := fun v H3 => ∃ p, v = .ref p ∧ H2 p = none ∧ LsAt BlV K H3 p (givenD ((ownOnes sp pl h).map nV).length (fun _ => true) fun i => (cs[sp.getD pl.length 0]).getD ((ownOnes sp pl h).getD i 0) false)) (evd_lcL blV_st _ _ (evd_of (ev_var rfl) fun H3 e3 => ⟨p, rfl, sq_of (e3 p _ h4)⟩) ?_ (fun _ => rfl) (fun _ _ _ _ _ => et_yes) ?_) fun x H3 e3 p3 => ?_)) ?_) fun H4 e4 => k H4 (e02.trans e4)
    · rw [List.length_map]
      unfold ownOnes
      rw [List.length_map]
      have := List.length_filter_le (fun i => decide (pl.getD i 0 = h)) (List.range pl.length)
      rw [List.length_range] at this
      omega
    · intro i x H3 e3 hx _
      have hi : i < (ownOnes sp pl h).length := by
        have := (List.getElem?_eq_some_iff.mp hx).1
        rw [List.length_map] at this
        exact this
      rw [nums_at hi] at hx
      cases hx
      have ho := hol _ (List.mem_of_getElem? (at_getD 0 hi))
      have hc1' := ex_l (e02.trans e3) hc1
      have hr1' := ex_l (e02.trans e3) hr1
      have h9 : atI ((cs[sp.getD pl.length 0]).map V.bl) (((ownOnes sp pl h).getD i 0 : Nat) : Int) = some (.bl ((cs[sp.getD pl.length 0]).getD ((ownOnes sp pl h).getD i 0) false)) := atI_nat (by
        rw [List.getElem?_map, at_getD false (by rw [hrl]; exact ho)]
        rfl)
      exact evd_of (by walk_at "ev") fun _ _ => rfl
    · obtain ⟨q, rfl, _, ys, h6, h7⟩ := p3
      have h7 := all2_bl h7
      rw [givenD_all, List.length_map, map_getD (ownOnes sp pl h) 0 fun o => (cs[sp.getD pl.length 0]).getD o false] at h7
      subst h7
      refine RC_is (rc_any (sq_of h6)) (congrArg V.bl ?_)
      rw [List.any_map]
      rfl
    · unfold canP
      rw [show cs.getD (sp.getD pl.length 0) [] = cs[sp.getD pl.length 0] by rw [List.getD_eq_getElem?_getD, List.getElem?_eq_getElem hm]; rfl]
theorem ok_can_take {P : Program} {w : World} {K : PySem.W.Frag} {mg : Str → Option Value} {base : Heap} (T : Tx K mg) : DefE P w K mg base CX0 1 "can_take" ["spots", "clashes", "plan", "hand"] (sp_can_take K) := by
  obtain ⟨fd, F⟩ := T.d_can_take
  have bd : Binds K fd ["spots", "clashes", "plan", "hand"] [] := F.bindsN fun _ _ _ _ _ _ us hl => match us, hl with | [_, _, _, _], _ => rfl
  have G : FnOk P w K mg base CX0 1 (He.ga K "can_take") fd ["spots", "clashes", "plan", "hand"] (sp_can_take K) := by
    refine F.ok sc_can_take (fun vs H Q E h => sl_can_take h) (fun cdv A outer s H vs Q E hr h => ⟨t_can_take K, PSs.nox ?_, pure_can_take T vs H Q E h⟩)
    exact (pss_cons (ps_set (i := 4) sc_can_take.nd rfl (by first | exact Or.inl rfl | exact Or.inr rfl) (pe_ix ix_list (pv 0) (pe_callB cLen rfl T.f_len bLen (pa_cons (pv 2) pa_nil)) (fun _ _ => rfl)))
  (pss_cons (ps_setLc (i := 5) (own := [("place", 6), ("other", 7)]) (g := (gTup K 2 (gCons (gName 6) (gCons (gName 7) gNil)))) (tt := (tTest (tOp rEq (tVar 7) (tVar 3)))) (te := (tOp (rIxL K) (tVar 0) (tVar 6))) rfl sc_can_take.nd rfl rfl (sw_true rfl rfl rfl (by decide +kernel)) (pi_enum rfl T.f_enumerate (pa_cons (pv 2) pa_nil)) (blkOk_by (N := N_can_take) (sc := defScope s_can_take) (by decide +kernel)) (fun _ _ _ _ _ => (pg_tup rfl (pgs_cons (pg_name (i := 6) sc_can_take.nd rfl (by first | exact Or.inl rfl | exact Or.inr rfl)) (pgs_cons (pg_name (i := 7) sc_can_take.nd rfl (by first | exact Or.inl rfl | exact Or.inr rfl)) pgs_nil)))) (fun _ _ _ _ _ => (pts_one (pt_cmpR oEq (pv 7) (pv 3) (nomark _)))) (fun _ _ _ _ _ => (pe_ix ix_list (pv 0) (pv 6) (fun _ _ => rfl))))
  (pss_one (ps_ret (pe_not (pe_callB (cr_any rfl) rfl T.f_any bAny (pa_cons (pe_lc (own := [("other", 7)]) (g := (gName 7)) (tt := tYes) (te := (tOp (rIxL K) (tOp (rIxL K) (tVar 1) (tVar 4)) (tVar 7))) rfl sc_can_take.nd (pi_list (pv 5)) (blkOk_by (N := N_can_take) (sc := defScope s_can_take) (by decide +kernel)) (fun _ _ _ _ _ => (pg_name (i := 7) sc_can_take.nd rfl (by first | exact Or.inl rfl | exact Or.inr rfl))) (fun _ _ _ _ _ => pts_nil) (fun _ _ _ _ _ => (pe_ix ix_list (pe_ix ix_list (pv 1) (pv 4) (fun _ _ => rfl)) (pv 7) (fun _ _ => rfl)))) pa_nil)))))))
  exact DefE.mk ⟨fd, G, bd⟩ T.g_can_take T.p_can_take
theorem spv_can_take {K : PySem.W.Frag} {H : Hp} {v1 v2 v3 : V} {sp : List Nat} {cs : List (List Bool)} {pl : List Nat} {h : Nat} (h1 : NsV K H v1 sp) (h2 : LsV (LsV BlV) K H v2 cs) (h3 : NlV K H v3 pl) (hl : pl.length < sp.length) (hz : sp.length ≤ 40000) (hb : ∀ x ∈ sp, x < cs.length) (hr : ∀ r ∈ cs, r.length = cs.length) :
    SpV (sp_can_take K) [v1, v2, v3, nV h] H (.bl (canP cs sp pl h)) := fun H1 e Q q E => ⟨v1, v2, v3, sp, cs, pl, h, rfl, nsV_x _ _ _ _ _ e h1, lsV_x (lsV_x blV_st.x) _ _ _ _ _ e h2, nlV_x _ _ _ _ _ e h3, hl, hz, hb, hr, q⟩

/-! ### completed -/
theorem et_nn0 {te : TE} {σ : L2.St} {H : Hp} (h : Ev te σ H .non) : EvT (tTest (tOp rNotN te (tC .non))) σ H false := et_test (ev_op h ev_c fun H1 _ _ q => ⟨rfl, q H1 (Ex.refl H1)⟩)
theorem et_nn1 {te : TE} {σ : L2.St} {H : Hp} {v : V} (h : Ev te σ H v) (n : v ≠ .non) : EvT (tTest (tOp rNotN te (tC .non))) σ H true := et_test (ev_op h ev_c fun H1 _ _ q => ⟨rfl, by rw [decide_eq_false n]; exact q H1 (Ex.refl H1)⟩)
theorem et_in0 {te : TE} {σ : L2.St} {H : Hp} {v : V} (h : Ev te σ H v) (n : v ≠ .non) : EvT (tTest (tOp rIsN te (tC .non))) σ H false := et_test (ev_op h ev_c fun H1 _ _ q => ⟨rfl, by rw [decide_eq_false n]; exact q H1 (Ex.refl H1)⟩)
theorem et_in1 {te : TE} {σ : L2.St} {H : Hp} (h : Ev te σ H .non) : EvT (tTest (tOp rIsN te (tC .non))) σ H true := et_test (ev_op h ev_c fun H1 _ _ q => ⟨rfl, q H1 (Ex.refl H1)⟩)

/-- a list of numbers, or None -/
def OpNl : PR (Option (List Nat)) := fun K H v o => match o with
  | none => v = .non
  | some l => NlV K H v l
theorem opNl_x : StabX OpNl := fun K H H' v o e h => match o, h with
  | none, h => h
  | some l, h => nlV_x K H H' v l e h
def sp_completedN (K : PySem.W.Frag) (n : Nat) : Sp := fun vs H Q _ => ∃ (v1 v2 v3 : V) (ropes : List (Nat × Nat)) (ms : List (Nat × Nat × Nat)) (most : Nat) (pl : List Nat), vs = [v1, v2, v3, nV most] ∧ NsV K H v1 (Sy91.units (jobsR ropes ms)) ∧ LsV (LsV BlV) K H v2 (clashP ropes ms) ∧ NlV K H v3 pl ∧
  pl.length ≤ (Sy91.units (jobsR ropes ms)).length ∧ (Sy91.units (jobsR ropes ms)).length < pl.length + n ∧ (Sy91.units (jobsR ropes ms)).length ≤ 8 ∧ handsIn pl ≤ pl.length ∧ RetD (fun v H2 => OpNl K H2 v (goOnP (jobsR ropes ms) most pl)) H Q
theorem sl_completed {K : PySem.W.Frag} {n : Nat} {vs : List V} {H : Hp} {Q : VK} {E : XK} (h : sp_completedN K n vs H Q E) : vs.length = 4 := by
  obtain ⟨_, _, _, _, _, _, _, rfl, _⟩ := h
  rfl
theorem spd_completed {K : PySem.W.Frag} {n : Nat} {H : Hp} {v1 v2 v3 : V} {ropes : List (Nat × Nat)} {ms : List (Nat × Nat × Nat)} {most : Nat} {pl : List Nat} (h1 : NsV K H v1 (Sy91.units (jobsR ropes ms))) (h2 : LsV (LsV BlV) K H v2 (clashP ropes ms)) (h3 : NlV K H v3 pl)
    (l1 : pl.length ≤ (Sy91.units (jobsR ropes ms)).length) (l2 : (Sy91.units (jobsR ropes ms)).length < pl.length + n) (l3 : (Sy91.units (jobsR ropes ms)).length ≤ 8) (l4 : handsIn pl ≤ pl.length) :
    SpD (sp_completedN K n) [v1, v2, v3, nV most] H fun v H2 => OpNl K H2 v (goOnP (jobsR ropes ms) most pl) := fun Q q E => ⟨v1, v2, v3, ropes, ms, most, pl, rfl, h1, h2, h3, l1, l2, l3, l4, q⟩
def t_completed (K : PySem.W.Frag) (n : Nat) : TS :=
  (tSeq (tIfS (tTest (tOp rEq (tCB (rLenS K) (tCons (tVar 2) tNil)) (tCB (rLenS K) (tCons (tVar 0) tNil)))) (tRet (tVar 2)) tNext)
  (tSeq (tAsg (tOp rAddI (tCB (rMax K) (tCons (tOp rCat (tLst (tCons (tUn rNeg (tC (.int 1))) tNil)) (tVar 2)) tNil)) (tC (.int 1))) (gName 4))
  (tSeq (tFor (iRng1 (tCons (tCB rMin2 (tCons (tOp rAddI (tVar 4) (tC (.int 1))) (tCons (tVar 3) tNil))) tNil)) (gName 5) (tIfS (tB (tCall (sp_can_take K) [] E0 (tCons (tVar 0) (tCons (tVar 1) (tCons (tVar 2) (tCons (tVar 5) tNil)))))) (tSeq (tAsg (tCall (sp_completedN K n) [] E0 (tCons (tVar 0) (tCons (tVar 1) (tCons (tOp rCat (tVar 2) (tLst (tCons (tVar 5) tNil))) (tCons (tVar 3) tNil))))) (gName 6))
  (tIfS (tTest (tOp rNotN (tVar 6) (tC .non))) (tRet (tVar 6)) tNext)) tNext))
  (tRet (tC .non)))))
theorem clashP_sq (ropes : List (Nat × Nat)) (ms : List (Nat × Nat × Nat)) : ∀ r ∈ clashP ropes ms, r.length = (clashP ropes ms).length := fun r h => by
  rw [clashP_len]
  unfold clashP at h
  obtain ⟨i, _, rfl⟩ := List.mem_map.mp h
  rw [List.length_map, List.length_range]
theorem pure_completed {K : PySem.W.Frag} {mg : Str → Option Value} (T : Tx K mg) (n : Nat) (vs : List V) (H : Hp) (Q : VK) (E : XK) (h : sp_completedN K (n + 1) vs H Q E) : t_completed K n { nx := fun _ H' => Q .non H', rt := Q } (start N_completed vs) H := by
  obtain ⟨v1, v2, v3, ropes, ms, most, pl, rfl, h1, h2, h3, l1, l2, l3, l4, k⟩ := h
  have hu : ∀ x ∈ Sy91.units (jobsR ropes ms), x < ms.length := fun x hx => by
    have := units_mem hx
    rw [jobsR_len] at this
    exact this
  have hu2 : ∀ x ∈ Sy91.units (jobsR ropes ms), x < (clashP ropes ms).length := fun x hx => by
    rw [clashP_len]
    exact hu x hx
  have h1' := h1
  have h3' := h3
  obtain ⟨a1, rfl, g1⟩ := h1
  obtain ⟨a3, rfl, g3⟩ := h3
  have g3' := sq_of (K := K) g3
  refine q_when (b := decide (pl.length = (Sy91.units (jobsR ropes ms)).length)) (et_is (by walk_at "ev") ?_) (fun hb H1 e1 => ?_) fun hb H1 e1 => ?_
  · rw [List.length_map, List.length_map]
    exact decide_eq_decide.mpr ⟨fun z => by have := V.int.inj z; omega, fun z => by rw [z]⟩
  · refine s_ret (ev_var rfl) fun H2 e2 => k _ H2 (e1.trans e2) ?_
    rw [goOnP_end (of_decide_eq_true hb)]
    exact nlV_x _ _ _ _ _ (e1.trans e2) h3'
  · have hl : pl.length < (Sy91.units (jobsR ropes ms)).length := by
      have := of_decide_eq_false hb
      omega
    have hgo := goOnP_step (most := most) hl
    refine q_asg (ev_hands (ev_var rfl) (e1 a3 _ g3) (by omega)) fun H2 e2 => ?_
    have e02 := e1.trans e2
    refine q_forR1 (n := ((min (handsIn pl + 1) most : Nat) : Int)) (ea_cons (ev_is (ev_cb (ea_cons (ev_op (ev_var rfl) ev_c rv_I0) (ea_cons (ev_var rfl) ea_nil)) rc_min2) (congrArg V.int (by split <;> omega))) ea_nil) (by omega)
      (fun i σ' H' => ∃ o5 o6, σ' = [some (.ref a1), some v2, some (.ref a3), some (nV most), some (nV (handsIn pl)), o5, o6] ∧ Ex H H' ∧ ((List.range i).filter fun h => Sy91.free (jobsR ropes ms) ((Sy91.units (jobsR ropes ms)).zip pl) ((Sy91.units (jobsR ropes ms)).getD pl.length 0) h).findSome? (fun h => goOnP (jobsR ropes ms) most (pl ++ [h])) = none)
      (fun H3 e3 => ⟨none, none, rfl, e02.trans e3, rfl⟩) ?_ ?_
    · rintro i σ' H' hi ⟨o5, o6, rfl, e3, hn⟩
      have hcf := can_free (ropes := ropes) (h := i) hu hl
      refine s_if (b := canP (clashP ropes ms) (Sy91.units (jobsR ropes ms)) pl i) (et_B (ev_call (ea_cons (ev_var rfl) (ea_cons (ev_var rfl) (ea_cons (ev_var rfl) (ea_cons (ev_var rfl) ea_nil)))) (spv_can_take (nsV_x _ _ _ _ _ e3 h1') (lsV_x (lsV_x blV_st.x) _ _ _ _ _ e3 h2) (nlV_x _ _ _ _ _ e3 h3') hl (by omega) hu2 (clashP_sq ropes ms)))) (fun hc H4 e4 => ?_) fun hc H4 e4 => ?_
      · have e04 := e3.trans e4
        rw [hcf] at hc
        refine q_asgD (P := fun v H5 => OpNl K H5 v (goOnP (jobsR ropes ms) most (pl ++ [i]))) (evd_call (evad_cons (evd_of (P := fun v _ => v = .ref a1) (ev_var rfl) fun _ _ => rfl) fun x1 H5 f5 p5 => evad_cons (evd_of (P := fun v _ => v = v2) (ev_var rfl) fun _ _ => rfl) fun x2 H6 f6 p6 =>
          evad_cons (P := fun v H7 => NlV K H7 v (pl ++ [i])) (evd_op (evd_of (P := fun v _ => v = .ref a3) (ev_var rfl) fun _ _ => rfl) fun x3 H7 f7 p7 => EvD.imp (evd_lst (vs := [nV i]) (ea_cons (ev_var rfl) ea_nil) (Nat.le_of_lt (show 1 < 100000 by decide))) fun y H8 f8 p8 => ?_) fun x4 H9 f9 p9 => evad_one (evd_of (ev_var rfl) fun H10 f10 => ?_))) fun v H5 f5 p5 => ?_
        · subst p7
          obtain ⟨q, rfl, hq, hq2⟩ := p8
          have e8 := ((((e04.trans f5).trans f6).trans f7).trans f8)
          refine fun Q2 q2 => rv_cat (e8 a3 _ g3) hq2 (by rw [List.length_map]; simp; omega) Q2 fun v H9 f9 p9 => q2 v H9 f9 ?_
          obtain ⟨c, rfl, _, hc⟩ := p9
          refine ⟨c, rfl, ?_⟩
          rw [hc, List.map_append]
          rfl
        · subst p5 p6
          have e10 := (((e04.trans f5).trans f6).trans f9).trans f10
          exact spd_completed (nsV_x _ _ _ _ _ e10 h1') (lsV_x (lsV_x blV_st.x) _ _ _ _ _ e10 h2) (nlV_x _ _ _ _ _ f10 p9) (by rw [List.length_append, List.length_singleton]; omega) (by rw [List.length_append, List.length_singleton]; omega) l3 (by
            rw [handsIn_snoc, List.length_append, List.length_singleton]
            omega)
        · cases hg : goOnP (jobsR ropes ms) most (pl ++ [i]) with
          | none =>
            rw [hg] at p5
            have p5 : v = .non := p5
            subst p5
            refine s_when (et_nn0 (ev_var rfl)) (fun z => by cases z) fun _ H6 e6 => ⟨_, _, rfl, (e04.trans f5).trans e6, ?_⟩
            exact tried_succ _ _ i hn fun _ => hg
          | some r =>
            rw [hg] at p5
            have p6 := p5
            obtain ⟨ar, rfl, _⟩ := p5
            refine s_when (et_nn1 (ev_var rfl) nofun) (fun _ H6 e6 => ?_) fun z => by cases z
            refine s_ret (ev_var rfl) fun H7 e7 => k _ H7 (((e04.trans f5).trans e6).trans e7) ?_
            rw [hgo, tried_found _ _ i _ (by omega) hn hc r hg]
            exact opNl_x _ _ _ _ (some r) (e6.trans e7) p6
      · rw [hcf] at hc
        exact ⟨_, _, rfl, e3.trans e4, tried_succ _ _ i hn fun z => by rw [hc] at z; cases z⟩
    · rintro σ' H' ⟨o5, o6, rfl, e3, hn⟩
      refine s_ret ev_c fun H4 e4 => k _ H4 (e3.trans e4) ?_
      rw [hgo]
      rw [Int.toNat_natCast] at hn
      rw [hn]
      exact rfl
theorem ok_completedN {P : Program} {w : World} {K : PySem.W.Frag} {mg : Str → Option Value} {base : Heap} (T : Tx K mg) (D_can_take : DefE P w K mg base (CX0) 1 "can_take" ["spots", "clashes", "plan", "hand"] (sp_can_take K)) : ∀ n, DefE P w K mg base CX0 (2 + n) "completed" ["spots", "clashes", "plan", "most"] (sp_completedN K n)
  | 0 => by
    obtain ⟨fd, F⟩ := T.d_completed
    have bd : Binds K fd ["spots", "clashes", "plan", "most"] [] := F.bindsN fun _ _ _ _ _ _ us hl => match us, hl with | [_, _, _, _], _ => rfl
    have hf : ∀ vs H Q E, sp_completedN K 0 vs H Q E → False := fun vs H Q E h => by
      obtain ⟨_, _, _, _, _, _, _, _, _, _, _, l1, l2, _⟩ := h
      omega
    have G : FnOk P w K mg base CX0 2 (He.ga K "completed") fd ["spots", "clashes", "plan", "most"] (sp_completedN K 0) := by
      refine F.ok sc_completed (fun vs H Q E h => sl_completed h) (fun cdv A outer s H vs Q E hr h => (hf vs H Q E h).elim)
    exact DefE.mk ⟨fd, G, bd⟩ T.g_completed T.p_completed
  | n + 1 => by
    have D_completed := ok_completedN T D_can_take n
    obtain ⟨fd, F⟩ := T.d_completed
    have bd : Binds K fd ["spots", "clashes", "plan", "most"] [] := F.bindsN fun _ _ _ _ _ _ us hl => match us, hl with | [_, _, _, _], _ => rfl
    have G : FnOk P w K mg base CX0 (2 + (n + 1)) (He.ga K "completed") fd ["spots", "clashes", "plan", "most"] (sp_completedN K (n + 1)) := by
      refine F.ok sc_completed (fun vs H Q E h => sl_completed h) (fun cdv A outer s H vs Q E hr h => ⟨t_completed K n, PSs.nox ?_, pure_completed T n vs H Q E h⟩)
      exact (pss_cons (ps_if (pt_cmpR oEq (pe_callB cLen rfl T.f_len bLen (pa_cons (pv 2) pa_nil)) (pe_callB cLen rfl T.f_len bLen (pa_cons (pv 0) pa_nil)) (nomark _)) (pss_one (ps_ret (pv 2))) pss_nil)
    (pss_cons (ps_set (i := 4) sc_completed.nd rfl (by first | exact Or.inl rfl | exact Or.inr rfl) (pe_op oAdd (pe_callB (cr_max rfl) rfl T.f_max bMax (pa_cons (pe_op oCat (pe_lst (pa_cons (pe_un uNeg pe_int) pa_nil)) (pv 2)) pa_nil)) pe_int))
    (pss_cons (ps_for PassesOwn.never rfl (pi_range1 rfl T.f_range (pa_cons (pe_callB (cMin2 rfl) rfl T.f_min bMin (pa_cons (pe_op oAdd (pv 4) pe_int) (pa_cons (pv 3) pa_nil))) pa_nil)) (pg_name (i := 5) sc_completed.nd rfl (by first | exact Or.inl rfl | exact Or.inr rfl)) (pss_one (ps_if (pt_val (pe_callE D_can_take (hr.mono (by show _ ≤ 2 + n; omega)) rfl pass0 (by exact (pa_cons (pv 0) (pa_cons (pv 1) (pa_cons (pv 2) (pa_cons (pv 5) pa_nil))))))) (pss_cons (ps_set (i := 6) sc_completed.nd rfl (by first | exact Or.inl rfl | exact Or.inr rfl) (pe_callE D_completed (hr.mono (by show _ ≤ 2 + n; omega)) rfl pass0 (by exact (pa_cons (pv 0) (pa_cons (pv 1) (pa_cons (pe_op oCat (pv 2) (pe_lst (pa_cons (pv 5) pa_nil))) (pa_cons (pv 3) pa_nil)))))))
    (pss_one (ps_if (pt_cmpR oNotN (pv 6) pe_non (nomark _)) (pss_one (ps_ret (pv 6))) pss_nil))) pss_nil)))
    (pss_one (ps_ret pe_non)))))
    exact DefE.mk ⟨fd, G, bd⟩ T.g_completed T.p_completed
def sp_completed (K : PySem.W.Frag) : Sp := sp_completedN K 10
theorem ok_completed {P : Program} {w : World} {K : PySem.W.Frag} {mg : Str → Option Value} {base : Heap} (T : Tx K mg) (D_can_take : DefE P w K mg base (CX0) 1 "can_take" ["spots", "clashes", "plan", "hand"] (sp_can_take K)) : DefE P w K mg base CX0 12 "completed" ["spots", "clashes", "plan", "most"] (sp_completed K) := ok_completedN T D_can_take 10
end Sk
namespace Sk
open PySem L2 Evl Sc
theorem _root_.Evl.SpL.d {sp : Sp} {vs : List V} {H : Hp} {xs : List V} (h : SpL sp vs H xs) : SpD sp vs H fun v H1 => ∃ p, v = .ref p ∧ H p = none ∧ H1 p = some (.lst xs) := fun Q q E => h H (Ex.refl H) Q (fun p H2 hp e2 h2 => q (.ref p) H2 e2 ⟨p, rfl, hp, h2⟩) E
theorem RCD_of {r : List V → Hp → VK → Prop} {vs : List V} {H : Hp} {z : V} {P : V → Hp → Prop} (h : RC r vs H z) (k : ∀ H1, Ex H H1 → P z H1) : RCD r vs H P := fun Q q => h H (Ex.refl H) Q fun H2 e2 => q z H2 e2 (k H2 e2)
theorem nlV_of {K : PySem.W.Frag} {H : Hp} {p : Addr} {ns : List Nat} (h : H p = some (.lst (ns.map nV))) : NlV K H (.ref p) ns := ⟨p, rfl, h⟩
/-- over a list told by its data, also a new one -/
theorem evd_lcD {K : PySem.W.Frag} {σ : L2.St} {H : Hp} {te : TE} {tt : TT} {α β : Type} {R : PR α} {S : PR β} {tl : TE} {j : Nat} {vs : List Nat} {ds : List β} (hS : StabX S) (hR : Stab R) (f : Nat → Bool) (d : Nat → α) (hl : EvD tl σ H fun v H1 => LsV S K H1 v ds) (hz : ds.length ≤ 40000)
    (hw : ∀ x, wipe ((wipe σ vs).set j (some x)) vs = wipe σ vs) (ht : ∀ i x y H1, Ex H H1 → ds[i]? = some y → S K H1 x y → EvT tt ((wipe σ vs).set j (some x)) H1 (f i))
    (he : ∀ i x y H1, Ex H H1 → ds[i]? = some y → S K H1 x y → f i = true → EvD te ((wipe σ vs).set j (some x)) H1 fun v H3 => R K H3 v (d i)) :
    EvD (tLc (iList K tl) (gName j) tt te vs) σ H fun v H1 => ∃ p, v = .ref p ∧ H p = none ∧ LsAt R K H1 p (givenD ds.length f d) :=
  evd_lcW (R := R) (te := te) (n := ds.length) hR f d (fun _ _ x => (wipe σ vs).set j (some x)) (fun J H1 => ∃ a xs, J = Itl K a ∧ SqL K H1 a xs ∧ All2 (S K H1) xs ds) (fun i H1 x H2 => H2 = H1 ∧ ∃ y, ds[i]? = some y ∧ S K H1 x y)
    (fun H1 e Rr k => hl H1 e _ fun v H2 e2 p => by
      obtain ⟨a, xs, rfl, ha, hb⟩ := p
      exact ⟨a, rfl, ⟨xs, ha⟩, k _ H2 e2 ⟨a, xs, rfl, ha, hb⟩⟩)
    (fun J H2 e hJ => by
      obtain ⟨a, xs, rfl, ha, hb⟩ := hJ
      rw [← All2.len hb]
      exact walk_list.mono (fun H3 e3 => ex_l e3 ha) fun i H3 x H4 hi e3 y => ⟨y.1, by
        obtain ⟨z, h1, h2⟩ := All2.get hb y.2
        exact ⟨z, h1, hS _ _ _ _ _ e3 h2⟩⟩) hz
    (fun i x H1 H2 e hi y => by
      obtain ⟨rfl, z, h1, h2⟩ := y
      exact ⟨Ex.refl _, fun Q q => q, hw x, ht i x z H2 e h1 h2, fun hf => he i x z H2 e h1 h2 hf⟩)
/-- movements of ropes that stand -/
structure MsP (ropes : List (Nat × Nat)) (ms : List (Nat × Nat × Nat)) : Prop where
  rope : ∀ x ∈ ms, x.1 < ropes.length
  job : ∀ x ∈ ms, x.2.1 < x.2.2
  crew : ∀ r ∈ ropes, 1 ≤ r.2
theorem sum_ge_len : ∀ (l : List Nat), (∀ x ∈ l, 1 ≤ x) → l.length ≤ l.sum
  | [], _ => Nat.le_refl _
  | x :: r, h => by
    have := sum_ge_len r fun y hy => h y (List.mem_cons_of_mem _ hy)
    have h1 := h x List.mem_cons_self
    rw [List.length_cons, List.sum_cons]
    omega
theorem MsP.len {ropes : List (Nat × Nat)} {ms : List (Nat × Nat × Nat)} (h : MsP ropes ms) (hs : (crewsP ropes ms).sum ≤ 8) : ms.length ≤ 8 := by
  have := sum_ge_len (crewsP ropes ms) fun x hx => by
    unfold crewsP at hx
    obtain ⟨m, hm, rfl⟩ := List.mem_map.mp hx
    have h1 := h.rope m hm
    rw [List.getD_eq_getElem?_getD, List.getElem?_eq_getElem h1]
    exact h.crew _ (List.getElem_mem h1)
  rw [crewsP_len] at this
  omega
theorem MsP.jobs {ropes : List (Nat × Nat)} {ms : List (Nat × Nat × Nat)} (h : MsP ropes ms) : Jobs (jobsR ropes ms) := fun k hk => by
  rw [jobsR_len] at hk
  rw [jobsR_at hk]
  refine h.job _ ?_
  rw [List.getD_eq_getElem?_getD, List.getElem?_eq_getElem hk]
  exact List.getElem_mem hk

/-! ### plan_within -/
def sp_plan_within (K : PySem.W.Frag) : Sp := fun vs H Q _ => ∃ (v1 v2 : V) (ropes : List (Nat × Nat)) (ms : List (Nat × Nat × Nat)) (most : Nat), vs = [v1, v2, nV most] ∧ LsV PrV K H v1 ropes ∧ LsV TrV K H v2 ms ∧ MsP ropes ms ∧ (crewsP ropes ms).sum ≤ 8 ∧
  RetD (fun v H2 => OpNl K H2 v (Sy91.planWith (jobsR ropes ms) most)) H Q
theorem sl_plan_within {K : PySem.W.Frag} {vs : List V} {H : Hp} {Q : VK} {E : XK} (h : sp_plan_within K vs H Q E) : vs.length = 3 := by
  obtain ⟨_, _, _, _, _, rfl, _⟩ := h
  rfl
def t_plan_within (K : PySem.W.Frag) : TS :=
  (tRet (tCall (sp_completed K) [] E0 (tCons (tCall (sp_spots_of K) [] E0 (tCons (tCall (sp_crews_of K) [] E0 (tCons (tVar 0) (tCons (tVar 1) tNil))) tNil)) (tCons (tCall (sp_clashes_of K) [] E0 (tCons (tVar 0) (tCons (tVar 1) tNil))) (tCons (tLst tNil) (tCons (tVar 2) tNil))))))
theorem pure_plan_within {K : PySem.W.Frag} {mg : Str → Option Value} (T : Tx K mg) (vs : List V) (H : Hp) (Q : VK) (E : XK) (h : sp_plan_within K vs H Q E) : t_plan_within K { nx := fun _ H' => Q .non H', rt := Q } (start N_plan_within vs) H := by
  obtain ⟨v1, v2, ropes, ms, most, rfl, h1, h2, hM, hs, k⟩ := h
  have h8 := hM.len hs
  refine s_retD (P := fun v H2 => OpNl K H2 v (Sy91.planWith (jobsR ropes ms) most)) ?_ k
  refine evd_call (evad_cons (P := fun v H1 => NsV K H1 v (Sy91.units (jobsR ropes ms))) (evd_call (evad_one (EvD.imp (evd_L (el_call (ea_cons (ev_var rfl) (ea_cons (ev_var rfl) ea_nil)) (spl_crews_of h1 h2 hM.rope (by omega)))) fun v H1 e1 p1 => ?_))) fun x H1 e1 p1 => evad_cons (P := fun v H1 => LsV (LsV BlV) K H1 v (clashP ropes ms)) (evd_callV (ea_cons (ev_var rfl) (ea_cons (ev_var rfl) ea_nil)) fun H2 e2 => ?_) fun y H2 e2 p2 => evad_cons (evd_lst ea_nil (by decide)) fun z H3 e3 p3 => evad_one (evd_of (ev_var rfl) fun H4 e4 => ?_))
  · obtain ⟨p, rfl, _, h4⟩ := p1
    refine fun Q2 q2 E2 => (spl_spots_of (nlV_of h4).s (by rw [crewsP_len]; omega) hs).d Q2 (fun v H2 e2 p2 => q2 v H2 e2 ?_) E2
    obtain ⟨p, rfl, _, h5⟩ := p2
    rw [spots_units] at h5
    exact (nlV_of h5).s
  · have e12 := e1.trans e2
    exact spd_clashes_of (lsV_x prV_st.x _ _ _ _ _ e12 h1) (lsV_x trV_st.x _ _ _ _ _ e12 h2) hM.rope h8
  · obtain ⟨p, rfl, _, h5⟩ := p3
    have hu : (Sy91.units (jobsR ropes ms)).length ≤ 8 := by
      rw [units_len_few]
      exact hs
    rw [← goOnP_start]
    exact spd_completed (nsV_x _ _ _ _ _ ((e2.trans e3).trans e4) p1) (lsV_x (lsV_x blV_st.x) _ _ _ _ _ (e3.trans e4) p2) ⟨p, rfl, e4 p _ h5⟩ (Nat.zero_le _) (by rw [List.length_nil]; omega) hu (Nat.le_refl _)
theorem ok_plan_within {P : Program} {w : World} {K : PySem.W.Frag} {mg : Str → Option Value} {base : Heap} (T : Tx K mg) (D_clashes_of : DefE P w K mg base (CX0) 2 "clashes_of" ["ropes", "movements"] (sp_clashes_of K)) (D_completed : DefE P w K mg base (CX0) 12 "completed" ["spots", "clashes", "plan", "most"] (sp_completed K)) (D_crews_of : DefE P w K mg base (CX0) 1 "crews_of" ["ropes", "movements"] (sp_crews_of K)) (D_spots_of : DefE P w K mg base (CX0) 1 "spots_of" ["crews"] (sp_spots_of K)) : DefE P w K mg base CX0 13 "plan_within" ["ropes", "movements", "most"] (sp_plan_within K) := by
  obtain ⟨fd, F⟩ := T.d_plan_within
  have bd : Binds K fd ["ropes", "movements", "most"] [] := F.bindsN fun _ _ _ _ _ _ us hl => match us, hl with | [_, _, _], _ => rfl
  have G : FnOk P w K mg base CX0 13 (He.ga K "plan_within") fd ["ropes", "movements", "most"] (sp_plan_within K) := by
    refine F.ok sc_plan_within (fun vs H Q E h => sl_plan_within h) (fun cdv A outer s H vs Q E hr h => ⟨t_plan_within K, PSs.nox ?_, pure_plan_within T vs H Q E h⟩)
    exact (pss_one (ps_ret (pe_callE D_completed (hr.mono (by decide)) rfl pass0 (by exact (pa_cons (pe_callE D_spots_of (hr.mono (by decide)) rfl pass0 (by exact (pa_cons (pe_callE D_crews_of (hr.mono (by decide)) rfl pass0 (by exact (pa_cons (pv 0) (pa_cons (pv 1) pa_nil)))) pa_nil))) (pa_cons (pe_callE D_clashes_of (hr.mono (by decide)) rfl pass0 (by exact (pa_cons (pv 0) (pa_cons (pv 1) pa_nil)))) (pa_cons (pe_lst pa_nil) (pa_cons (pv 2) pa_nil))))))))
  exact DefE.mk ⟨fd, G, bd⟩ T.g_plan_within T.p_plan_within
theorem spd_plan_within {K : PySem.W.Frag} {H : Hp} {v1 v2 : V} {ropes : List (Nat × Nat)} {ms : List (Nat × Nat × Nat)} {most : Nat} (h1 : LsV PrV K H v1 ropes) (h2 : LsV TrV K H v2 ms) (hM : MsP ropes ms) (hs : (crewsP ropes ms).sum ≤ 8) :
    SpD (sp_plan_within K) [v1, v2, nV most] H fun v H2 => OpNl K H2 v (Sy91.planWith (jobsR ropes ms) most) := fun Q q E => ⟨v1, v2, ropes, ms, most, rfl, h1, h2, hM, hs, q⟩

/-! ### plan_of -/
def sp_plan_of (K : PySem.W.Frag) : Sp := fun vs H Q _ => ∃ (v1 v2 : V) (ropes : List (Nat × Nat)) (ms : List (Nat × Nat × Nat)), vs = [v1, v2] ∧ LsV PrV K H v1 ropes ∧ LsV TrV K H v2 ms ∧ MsP ropes ms ∧ (crewsP ropes ms).sum ≤ 8 ∧
  RetD (fun v H2 => NlV K H2 v (Sy91.plan (jobsR ropes ms))) H Q
theorem sl_plan_of {K : PySem.W.Frag} {vs : List V} {H : Hp} {Q : VK} {E : XK} (h : sp_plan_of K vs H Q E) : vs.length = 2 := by
  obtain ⟨_, _, _, _, rfl, _⟩ := h
  rfl
def t_plan_of (K : PySem.W.Frag) : TS :=
  (tSeq (tAsg (tCall (sp_plan_within K) [] E0 (tCons (tVar 0) (tCons (tVar 1) (tCons (tC (.int 0)) tNil)))) (gName 2))
  (tSeq (tAsg (tC (.int 0)) (gName 3))
  (tSeq (tWhile (tTest (tOp rIsN (tVar 2) (tC .non))) (tSeq (tAsg (tOp rAddI (tVar 3) (tC (.int 1))) (gName 3))
  (tAsg (tCall (sp_plan_within K) [] E0 (tCons (tVar 0) (tCons (tVar 1) (tCons (tVar 3) tNil)))) (gName 2))))
  (tRet (tVar 2)))))
theorem pure_plan_of {K : PySem.W.Frag} {mg : Str → Option Value} (T : Tx K mg) (vs : List V) (H : Hp) (Q : VK) (E : XK) (h : sp_plan_of K vs H Q E) : t_plan_of K { nx := fun _ H' => Q .non H', rt := Q } (start N_plan_of vs) H := by
  obtain ⟨v1, v2, ropes, ms, rfl, h1, h2, hM, hs, k⟩ := h
  refine q_asgD (P := fun v H1 => OpNl K H1 v (Sy91.planWith (jobsR ropes ms) 0)) (evd_callV (ea_cons (ev_var rfl) (ea_cons (ev_var rfl) (ea_cons (x := nV 0) ev_c ea_nil))) fun H1 e1 => spd_plan_within (lsV_x prV_st.x _ _ _ _ _ e1 h1) (lsV_x trV_st.x _ _ _ _ _ e1 h2) hM hs) fun v H1 e1 p1 => ?_
  refine q_asg ev_c fun H2 e2 => ?_
  refine q_while (fun m σ' H' => ∃ most v, m = Sy91.fewest (jobsR ropes ms) - most ∧ most ≤ Sy91.fewest (jobsR ropes ms) ∧ σ' = [some v1, some v2, some v, some (nV most)] ∧ Ex H H' ∧ OpNl K H' v (Sy91.planWith (jobsR ropes ms) most)) (Sy91.fewest (jobsR ropes ms)) ⟨0, v, rfl, Nat.zero_le _, rfl, e1.trans e2, opNl_x _ _ _ _ _ e2 p1⟩ ?_
  rintro m σ' H' ⟨most, v, rfl, hle, rfl, e, p⟩
  have hi := planWith_iff hM.jobs most
  by_cases c : most = Sy91.fewest (jobsR ropes ms)
  · subst c
    rw [plan_is hM.jobs] at p
    have p' := p
    obtain ⟨a, rfl, _⟩ := p
    refine ⟨false, et_in0 (ev_var rfl) nofun, fun z => (by cases z), fun _ H3 e3 => s_ret (ev_var rfl) fun H4 e4 => k _ H4 ((e.trans e3).trans e4) ?_⟩
    exact nlV_x K _ _ _ _ (e3.trans e4) p'
  · rw [decide_eq_false (by omega)] at hi
    cases hg : Sy91.planWith (jobsR ropes ms) most with
    | some r =>
      rw [hg] at hi
      cases hi
    | none =>
      rw [hg] at p
      have p : v = .non := p
      subst p
      refine ⟨true, et_in1 (ev_var rfl), fun _ H3 e3 => ⟨fun σ2 H2 => ∃ v, σ2 = [some v1, some v2, some v, some (nV (most + 1))] ∧ Ex H H2 ∧ OpNl K H2 v (Sy91.planWith (jobsR ropes ms) (most + 1)), ?_, ?_⟩, fun z => by cases z⟩
      · rintro σ2 H2 ⟨v, rfl, e2, p2⟩
        exact ⟨Sy91.fewest (jobsR ropes ms) - (most + 1), by omega, most + 1, v, rfl, by omega, rfl, e2, p2⟩
      · refine q_asg (ev_op (ev_var rfl) ev_c rv_I0) fun H4 e4 => ?_
        have e04 := (e.trans e3).trans e4
        refine s_asgD (P := fun v H1 => OpNl K H1 v (Sy91.planWith (jobsR ropes ms) (most + 1))) (evd_callV (ea_cons (ev_var rfl) (ea_cons (ev_var rfl) (ea_cons (x := nV (most + 1)) (ev_var rfl) ea_nil))) fun H1 e1 => spd_plan_within (lsV_x prV_st.x _ _ _ _ _ (e04.trans e1) h1) (lsV_x trV_st.x _ _ _ _ _ (e04.trans e1) h2) hM hs) fun v H5 e5 p5 => ?_
        exact ⟨v, rfl, e04.trans e5, p5⟩
theorem ok_plan_of {P : Program} {w : World} {K : PySem.W.Frag} {mg : Str → Option Value} {base : Heap} (T : Tx K mg) (D_plan_within : DefE P w K mg base (CX0) 13 "plan_within" ["ropes", "movements", "most"] (sp_plan_within K)) : DefE P w K mg base CX0 14 "plan_of" ["ropes", "movements"] (sp_plan_of K) := by
  obtain ⟨fd, F⟩ := T.d_plan_of
  have bd : Binds K fd ["ropes", "movements"] [] := F.bindsN fun _ _ _ _ _ _ us hl => match us, hl with | [_, _], _ => rfl
  have G : FnOk P w K mg base CX0 14 (He.ga K "plan_of") fd ["ropes", "movements"] (sp_plan_of K) := by
    refine F.ok sc_plan_of (fun vs H Q E h => sl_plan_of h) (fun cdv A outer s H vs Q E hr h => ⟨t_plan_of K, PSs.nox ?_, pure_plan_of T vs H Q E h⟩)
    exact (pss_cons (ps_set (i := 2) sc_plan_of.nd rfl (by first | exact Or.inl rfl | exact Or.inr rfl) (pe_callE D_plan_within (hr.mono (by decide)) rfl pass0 (by exact (pa_cons (pv 0) (pa_cons (pv 1) (pa_cons pe_int pa_nil))))))
  (pss_cons (ps_set (i := 3) sc_plan_of.nd rfl (by first | exact Or.inl rfl | exact Or.inr rfl) pe_int)
  (pss_cons (ps_while PassesOwn.never (pt_cmpR oIsN (pv 2) pe_non (nomark _)) (pss_cons (ps_set (i := 3) sc_plan_of.nd rfl (by first | exact Or.inl rfl | exact Or.inr rfl) (pe_op oAdd (pv 3) pe_int))
  (pss_one (ps_set (i := 2) sc_plan_of.nd rfl (by first | exact Or.inl rfl | exact Or.inr rfl) (pe_callE D_plan_within (hr.mono (by decide)) rfl pass0 (by exact (pa_cons (pv 0) (pa_cons (pv 1) (pa_cons (pv 3) pa_nil)))))))))
  (pss_one (ps_ret (pv 2))))))
  exact DefE.mk ⟨fd, G, bd⟩ T.g_plan_of T.p_plan_of
theorem spd_plan_of {K : PySem.W.Frag} {H : Hp} {v1 v2 : V} {ropes : List (Nat × Nat)} {ms : List (Nat × Nat × Nat)} (h1 : LsV PrV K H v1 ropes) (h2 : LsV TrV K H v2 ms) (hM : MsP ropes ms) (hs : (crewsP ropes ms).sum ≤ 8) :
    SpD (sp_plan_of K) [v1, v2] H fun v H2 => NlV K H2 v (Sy91.plan (jobsR ropes ms)) := fun Q q E => ⟨v1, v2, ropes, ms, rfl, h1, h2, hM, hs, q⟩

/-! ### are_feasible -/
def sp_are_feasible (K : PySem.W.Frag) : Sp := fun vs H Q _ => ∃ (v1 v2 : V) (ropes : List (Nat × Nat)) (ms : List (Nat × Nat × Nat)) (hands : Nat), vs = [v1, v2, nV hands] ∧ LsV PrV K H v1 ropes ∧ LsV TrV K H v2 ms ∧ MsP ropes ms ∧ ms.length ≤ 40000 ∧
  RetV (.bl (decide ((crewsP ropes ms).sum ≤ 8) && decide (Sy91.fewest (jobsR ropes ms) ≤ hands))) H Q
theorem sl_are_feasible {K : PySem.W.Frag} {vs : List V} {H : Hp} {Q : VK} {E : XK} (h : sp_are_feasible K vs H Q E) : vs.length = 3 := by
  obtain ⟨_, _, _, _, _, rfl, _⟩ := h
  rfl
def t_are_feasible (K : PySem.W.Frag) : TS :=
  (tRet (tAndV (tCall (sp_are_few K) [] E0 (tCons (tVar 0) (tCons (tVar 1) tNil))) (tOp rNotN (tCall (sp_plan_within K) [] E0 (tCons (tVar 0) (tCons (tVar 1) (tCons (tVar 2) tNil)))) (tC .non))))
theorem ev_nnD {te : TE} {σ : L2.St} {H : Hp} {K : PySem.W.Frag} {o : Option (List Nat)} (h : EvD te σ H fun v H1 => OpNl K H1 v o) : Ev (tOp rNotN te (tC .non)) σ H (.bl o.isSome) := ev_of (evd_op h fun x H1 e1 p1 => evd_of ev_c fun H2 e2 => by
  refine fun Q q => ⟨rfl, q _ H2 (Ex.refl H2) ?_⟩
  cases o with
  | none =>
    have p1 : x = .non := p1
    rw [p1]
    rfl
  | some l =>
    obtain ⟨a, rfl, _⟩ := p1
    rfl)
theorem pure_are_feasible {K : PySem.W.Frag} {mg : Str → Option Value} (T : Tx K mg) (vs : List V) (H : Hp) (Q : VK) (E : XK) (h : sp_are_feasible K vs H Q E) : t_are_feasible K { nx := fun _ H' => Q .non H', rt := Q } (start N_are_feasible vs) H := by
  obtain ⟨v1, v2, ropes, ms, hands, rfl, h1, h2, hM, hz, k⟩ := h
  refine s_ret (ev_andV (ev_call (ea_cons (ev_var rfl) (ea_cons (ev_var rfl) ea_nil)) (spv_are_few h1 h2 hM.rope hz)) fun hb => ?_) fun H1 e1 => k H1 e1
  rw [← planWith_iff hM.jobs]
  exact ev_nnD (evd_callV (ea_cons (ev_var rfl) (ea_cons (ev_var rfl) (ea_cons (ev_var rfl) ea_nil))) fun H1 e1 => spd_plan_within (lsV_x prV_st.x _ _ _ _ _ e1 h1) (lsV_x trV_st.x _ _ _ _ _ e1 h2) hM (of_decide_eq_true hb))
theorem ok_are_feasible {P : Program} {w : World} {K : PySem.W.Frag} {mg : Str → Option Value} {base : Heap} (T : Tx K mg) (D_are_few : DefE P w K mg base (CX0) 2 "are_few" ["ropes", "movements"] (sp_are_few K)) (D_plan_within : DefE P w K mg base (CX0) 13 "plan_within" ["ropes", "movements", "most"] (sp_plan_within K)) : DefE P w K mg base CX0 14 "are_feasible" ["ropes", "movements", "hands"] (sp_are_feasible K) := by
  obtain ⟨fd, F⟩ := T.d_are_feasible
  have bd : Binds K fd ["ropes", "movements", "hands"] [] := F.bindsN fun _ _ _ _ _ _ us hl => match us, hl with | [_, _, _], _ => rfl
  have G : FnOk P w K mg base CX0 14 (He.ga K "are_feasible") fd ["ropes", "movements", "hands"] (sp_are_feasible K) := by
    refine F.ok sc_are_feasible (fun vs H Q E h => sl_are_feasible h) (fun cdv A outer s H vs Q E hr h => ⟨t_are_feasible K, PSs.nox ?_, pure_are_feasible T vs H Q E h⟩)
    exact (pss_one (ps_ret (pe_and (pe_callE D_are_few (hr.mono (by decide)) rfl pass0 (by exact (pa_cons (pv 0) (pa_cons (pv 1) pa_nil)))) (pe_one (pe_cmpR oNotN (pe_callE D_plan_within (hr.mono (by decide)) rfl pass0 (by exact (pa_cons (pv 0) (pa_cons (pv 1) (pa_cons (pv 2) pa_nil))))) pe_non (nomark _))))))
  exact DefE.mk ⟨fd, G, bd⟩ T.g_are_feasible T.p_are_feasible
theorem spv_are_feasible {K : PySem.W.Frag} {H : Hp} {v1 v2 : V} {ropes : List (Nat × Nat)} {ms : List (Nat × Nat × Nat)} {hands : Nat} (h1 : LsV PrV K H v1 ropes) (h2 : LsV TrV K H v2 ms) (hM : MsP ropes ms) (hz : ms.length ≤ 40000) :
    SpV (sp_are_feasible K) [v1, v2, nV hands] H (.bl (decide ((crewsP ropes ms).sum ≤ 8) && decide (Sy91.fewest (jobsR ropes ms) ≤ hands))) := fun H1 e Q q E => ⟨v1, v2, ropes, ms, hands, rfl, lsV_x prV_st.x _ _ _ _ _ e h1, lsV_x trV_st.x _ _ _ _ _ e h2, hM, hz, q⟩
end Sk
namespace Sk
open PySem L2 Evl Sc
theorem RkV.dp {K : PySem.W.Frag} {H : Hp} {v : V} {r : Nat × List Nat} (h : RkV K H v r) : Dp K H v (PySem.W.Datum.toD (rkT r)) := by
  obtain ⟨a, t, rfl, ha, ht⟩ := h
  have hi : ∀ l : List Nat, DpAll K H (l.map nV) ((l.map fun (n : Nat) => (n : Int)).map PySem.W.Datum.toD) := fun l => by
    induction l with
    | nil => exact .nil
    | cons n r ih => exact .cons (.int n) ih
  exact Dp.tup ha (.cons (.int r.1) (.cons (Dp.tup ht (hi r.2)) .nil))
theorem rk_dpAll {K : PySem.W.Frag} {H : Hp} : ∀ {xs : List V} {rs : List (Nat × List Nat)}, All2 (RkV K H) xs rs → DpAll K H xs ((rs.map rkT).map PySem.W.Datum.toD)
  | _, _, .nil => .nil
  | _, _, .cons h t => .cons h.dp (rk_dpAll t)
theorem rcd_maxR {K : PySem.W.Frag} {H : Hp} {p : Addr} {r : Nat × List Nat} {rs : List (Nat × List Nat)} (h : LsAt RkV K H p (r :: rs)) : RCD (rMaxD K) [.ref p] H fun v H2 => RkV K H2 v (topR r rs) := fun Q q => by
  obtain ⟨xs, h1, h2⟩ := h
  refine ⟨p, xs, PySem.W.Datum.toD (rkT r), (rs.map rkT).map PySem.W.Datum.toD, rfl, sq_of h1, rk_dpAll h2, ⟨?_, ?_⟩, ?_, ?_⟩
  · intro x hx y hy
    have e : ∀ z ∈ PySem.W.Datum.toD (rkT r) :: (rs.map rkT).map PySem.W.Datum.toD, ∃ u, z = PySem.W.Datum.toD (rkT u) := fun z hz => by
      rcases List.mem_cons.mp hz with rfl | hz
      · exact ⟨r, rfl⟩
      · obtain ⟨u, hu, rfl⟩ := List.mem_map.mp hz
        obtain ⟨w, _, rfl⟩ := List.mem_map.mp hu
        exact ⟨w, rfl⟩
    obtain ⟨u, rfl⟩ := e x hx
    obtain ⟨w, rfl⟩ := e y hy
    exact PySem.W.DatumOrd.alike _ _
  · intro x hx
    rcases List.mem_cons.mp hx with rfl | hx
    · exact PySem.W.DatumOrd.notNone _
    · obtain ⟨u, _, rfl⟩ := List.mem_map.mp hx
      exact PySem.W.DatumOrd.notNone _
  · exact Nat.le_trans (PySem.W.depthAll_map ((r :: rs).map rkT)) (by decide)
  · intro i v hv hd
    rw [PySem.W.maxD_map, topR_datum] at hd
    obtain ⟨y, hy, hyv⟩ := All2.get h2 hv
    have e : (PySem.W.Datum.toD (rkT r) :: (rs.map rkT).map PySem.W.Datum.toD)[i]? = some (PySem.W.Datum.toD (rkT y)) := by
      show (((r :: rs).map rkT).map PySem.W.Datum.toD)[i]? = _
      rw [List.getElem?_map, List.getElem?_map, hy]
      rfl
    rw [e] at hd
    have hd := Option.some.inj hd
    have t : rkT y = rkT (topR r rs) := by
      have e1 := PySem.W.Datum.eqv (rkT y) (rkT (topR r rs))
      rw [hd, PySem.W.Datum.eqv, decide_eq_true rfl] at e1
      exact of_decide_eq_true e1.symm
    refine q v H (Ex.refl H) ?_
    show RkV K H v (topR r rs)
    rw [← rkT_inj t]
    exact hyv

/-! ### rank_of -/
def rankQ (crews l : List Nat) : Nat × List Nat := ((l.map fun i => crews.getD i 0).sum, flagsP 0 crews.length l)
def sp_rank_of (K : PySem.W.Frag) : Sp := fun vs H Q _ => ∃ (v1 v2 : V) (l crews : List Nat), vs = [v1, v2] ∧ TsV K H v1 l ∧ NsV K H v2 crews ∧ l.length ≤ 40000 ∧ crews.length ≤ 40000 ∧ (∀ i ∈ l, i < crews.length) ∧
  RetD (fun v H2 => RkV K H2 v (rankQ crews l)) H Q
theorem sl_rank_of {K : PySem.W.Frag} {vs : List V} {H : Hp} {Q : VK} {E : XK} (h : sp_rank_of K vs H Q E) : vs.length = 2 := by
  obtain ⟨_, _, _, _, rfl, _⟩ := h
  rfl
def t_rank_of (K : PySem.W.Frag) : TS :=
  (tSeq (tAsg (tLc (iRng1 (tCons (tCB (rLenS K) (tCons (tVar 1) tNil)) tNil)) (gName 3) tYes (tCB rIntB (tCons (tOp (rIn K false) (tVar 3) (tVar 0)) tNil)) [3]) (gName 2))
  (tRet (tTup (tCons (tCB (rSum K) (tCons (tLc (iTup K (tVar 0)) (gName 3) tYes (tOp (rIxL K) (tVar 1) (tVar 3)) [3]) tNil)) (tCons (tCB (rTupS K) (tCons (tVar 2) tNil)) tNil)))))
theorem inV_nats (n : Nat) : ∀ l : List Nat, inV (nV n) (l.map nV) = l.contains n
  | [] => rfl
  | x :: r => by
    have ih := inV_nats n r
    unfold inV at ih ⊢
    rw [List.map_cons, List.any_cons, ih, List.contains_cons]
    congr 1
    by_cases c : n = x
    · subst c
      show (_ : Bool) = (n == n)
      rw [beq_self_eq_true]
      show ((n : Int) == (n : Int)) = true
      exact beq_self_eq_true _
    · show (_ : Bool) = (n == x)
      rw [beq_eq_false_iff_ne.mpr c]
      show ((x : Int) == (n : Int)) = false
      exact beq_eq_false_iff_ne.mpr (by omega)
theorem flat_nats : ∀ l : List Nat, (l.map nV).all flatV = true
  | [] => rfl
  | x :: r => by
    rw [List.map_cons, List.all_cons, flat_nats r]
    rfl
theorem pure_rank_of {K : PySem.W.Frag} {mg : Str → Option Value} (T : Tx K mg) (vs : List V) (H : Hp) (Q : VK) (E : XK) (h : sp_rank_of K vs H Q E) : t_rank_of K { nx := fun _ H' => Q .non H', rt := Q } (start N_rank_of vs) H := by
  obtain ⟨v1, v2, l, crews, rfl, ⟨a1, rfl, h1⟩, ⟨a2, rfl, h2⟩, z1, z2, hb, k⟩ := h
  refine q_asgD (evd_lcR (K := K) numV_st (fun _ => true) (fun i => if l.contains i = true then 1 else 0) (n := crews.length) (ea_cons (ev_is (ev_cb (ea_cons (ev_var rfl) ea_nil) (rc_len (Or.inl h2))) (congrArg (fun n : Nat => nV n) (List.length_map ..))) ea_nil) z2 (fun _ => rfl) (fun _ _ _ _ => et_yes) fun i H1 e1 hi _ => ?_) fun v H1 e1 p1 => ?_
  · refine evd_of (ev_cb (ea_cons (ev_op (ev_var rfl) (ev_var rfl) (rv_isT (ex_t e1 h1) rfl (flat_nats l))) ea_nil) rc_intB) fun _ _ => ?_
    show V.int _ = nV _
    rw [inV_nats]
    split <;> rfl
  · obtain ⟨p, rfl, hp, ys, h4, h5⟩ := p1
    have h5 := all2_num h5
    rw [givenD_all] at h5
    have hfl : ys = (flagsP 0 crews.length l).map nV := by
      rw [h5]
      unfold flagsP
      rw [List.range_eq_range']
    subst hfl
    refine s_retD (evd_tupD (PA := fun vs H2 => ∃ t, vs = [nV (l.map fun i => crews.getD i 0).sum, .ref t] ∧ SqT K H2 t ((flagsP 0 crews.length l).map nV)) (evad_two (P := fun v _ => v = nV (l.map fun i => crews.getD i 0).sum) (evd_of (ev_cbD (z := nV (l.map fun i => crews.getD i 0).sum) (evd_lcT (K := K) numV_st (fun _ => true) (fun i => crews.getD (l.getD i 0) 0) (xs := l.map nV) (evd_of (ev_var rfl) fun H2 e2 => ⟨a1, rfl, ex_t (e1.trans e2) h1⟩) (by rw [List.length_map]; exact z1) (fun _ => rfl) (fun _ _ _ _ _ => et_yes) ?_) ?_) fun _ _ => rfl) ?_) ?_ ?_) fun v H2 e2 p2 => k v H2 (e1.trans e2) p2
    · intro i x H2 e2 hx _
      have hi : i < l.length := by
        have := (List.getElem?_eq_some_iff.mp hx).1
        rw [List.length_map] at this
        exact this
      rw [nums_at hi] at hx
      cases hx
      have hlt := hb _ (List.mem_of_getElem? (at_getD 0 hi))
      have h2' := ex_l (e1.trans e2) h2
      have h9 : atI (crews.map nV) ((l.getD i 0 : Nat) : Int) = some (nV (crews.getD (l.getD i 0) 0)) := atI_nat (nums_at hlt)
      exact evd_of (by walk_at "ev") fun _ _ => rfl
    · rintro x H2 e2 ⟨q, rfl, _, zs, h6, h7⟩
      have h7 := all2_num h7
      rw [givenD_all, List.length_map, map_getD l 0 fun i => crews.getD i 0] at h7
      rw [h7, map_nV] at h6
      exact RC_is (rc_sum (sq_of h6)) (congrArg V.int (sum_cast _))
    · rintro x H2 e2 rfl
      refine evd_cbD (P := fun v _ => v = .ref p) (evd_of (ev_var rfl) fun _ _ => rfl) ?_
      rintro y H3 e3 rfl
      intro Q q
      exact ⟨p, _, rfl, .inl ⟨sq_of ((e2.trans e3) p _ h4), fun t ht => q (.ref t) _ (Ex.new ht) ⟨t, rfl, st_of upd_same⟩⟩⟩
    · rintro vs H2 ⟨t, rfl, _⟩
      exact Nat.le_of_lt (show 2 < 100000 by decide)
    · rintro vs H2 q hq ⟨t, rfl, ht⟩
      exact ⟨q, t, rfl, st_of upd_same, ex_t (Ex.new hq) ht⟩
theorem ok_rank_of {P : Program} {w : World} {K : PySem.W.Frag} {mg : Str → Option Value} {base : Heap} (T : Tx K mg) : DefE P w K mg base CX0 1 "rank_of" ["some", "crews"] (sp_rank_of K) := by
  obtain ⟨fd, F⟩ := T.d_rank_of
  have bd : Binds K fd ["some", "crews"] [] := F.bindsN fun _ _ _ _ _ _ us hl => match us, hl with | [_, _], _ => rfl
  have G : FnOk P w K mg base CX0 1 (He.ga K "rank_of") fd ["some", "crews"] (sp_rank_of K) := by
    refine F.ok sc_rank_of (fun vs H Q E h => sl_rank_of h) (fun cdv A outer s H vs Q E hr h => ⟨t_rank_of K, PSs.nox ?_, pure_rank_of T vs H Q E h⟩)
    exact (pss_cons (ps_setLc (i := 2) (own := [("movement", 3)]) (g := (gName 3)) (tt := tYes) (te := (tCB rIntB (tCons (tOp (rIn K false) (tVar 3) (tVar 0)) tNil))) rfl sc_rank_of.nd rfl rfl (sw_true rfl rfl rfl (by decide +kernel)) (pi_range1 rfl T.f_range (pa_cons (pe_callB cLen rfl T.f_len bLen (pa_cons (pv 1) pa_nil)) pa_nil)) (blkOk_by (N := N_rank_of) (sc := defScope s_rank_of) (by decide +kernel)) (fun _ _ _ _ _ => (pg_name (i := 3) sc_rank_of.nd rfl (by first | exact Or.inl rfl | exact Or.inr rfl))) (fun _ _ _ _ _ => pts_nil) (fun _ _ _ _ _ => (pe_callTy cInt rfl T.f_int bInt (pa_cons (pe_cmpR oIn (pv 3) (pv 0) (by with_unfolding_all rfl)) pa_nil))))
  (pss_one (ps_ret (pe_tup (pa_cons (pe_callB (cr_sum rfl) rfl T.f_sum bSum (pa_cons (pe_lc (own := [("movement", 3)]) (g := (gName 3)) (tt := tYes) (te := (tOp (rIxL K) (tVar 1) (tVar 3))) rfl sc_rank_of.nd (pi_tup (pv 0)) (blkOk_by (N := N_rank_of) (sc := defScope s_rank_of) (by decide +kernel)) (fun _ _ _ _ _ => (pg_name (i := 3) sc_rank_of.nd rfl (by first | exact Or.inl rfl | exact Or.inr rfl))) (fun _ _ _ _ _ => pts_nil) (fun _ _ _ _ _ => (pe_ix ix_list (pv 1) (pv 3) (fun _ _ => rfl)))) pa_nil)) (pa_cons (pe_callTy cTup rfl T.f_tuple bTuple (pa_cons (pv 2) pa_nil)) pa_nil))))))
  exact DefE.mk ⟨fd, G, bd⟩ T.g_rank_of T.p_rank_of
theorem spd_rank_of {K : PySem.W.Frag} {H : Hp} {v1 v2 : V} {l crews : List Nat} (h1 : TsV K H v1 l) (h2 : NsV K H v2 crews) (z1 : l.length ≤ 40000) (z2 : crews.length ≤ 40000) (hb : ∀ i ∈ l, i < crews.length) :
    SpD (sp_rank_of K) [v1, v2] H fun v H2 => RkV K H2 v (rankQ crews l) := fun Q q E => ⟨v1, v2, l, crews, rfl, h1, h2, z1, z2, hb, q⟩
end Sk
namespace Sk
open PySem L2 Evl Sc
theorem evd_lstD {σ : L2.St} {H : Hp} {P : V → Hp → Prop} {ta : TA} {PA : List V → Hp → Prop} (h : EvAD ta σ H PA) (hl : ∀ vs H1, PA vs H1 → vs.length ≤ 100000) (k : ∀ vs H1 p, H1 p = none → PA vs H1 → P (.ref p) (upd H1 p (.lst vs))) : EvD (tLst ta) σ H P := fun H1 e _ q =>
  h H1 e _ fun vs H2 e2 p2 => ⟨sz_of (hl vs H2 p2), fun p hp => q (.ref p) _ (e2.trans (Ex.new hp)) (k vs H2 p hp p2)⟩
theorem setsP_lt (clash : Nat → Nat → Bool) : ∀ (n : Nat), ∀ l ∈ setsP clash n, l.length ≤ n ∧ ∀ x ∈ l, x < n
  | 0, l, h => by
    have : l = [] := List.mem_singleton.mp h
    subst this
    exact ⟨Nat.le_refl _, fun x hx => by cases hx⟩
  | n + 1, l, h => by
    rw [setsP_succ] at h
    rcases List.mem_append.mp h with h | h
    · obtain ⟨a, b⟩ := setsP_lt clash n l h
      exact ⟨by omega, fun x hx => by have := b x hx; omega⟩
    · obtain ⟨m, hm, rfl⟩ := List.mem_map.mp h
      obtain ⟨a, b⟩ := setsP_lt clash n m (List.mem_filter.mp hm).1
      refine ⟨by rw [List.length_append, List.length_singleton]; omega, fun x hx => ?_⟩
      rcases List.mem_append.mp hx with hx | hx
      · have := b x hx
        omega
      · rw [List.mem_singleton.mp hx]
        omega
theorem take_succ_at {α : Type} {l : List α} {i : Nat} {x : α} (h : l[i]? = some x) : l.take (i + 1) = l.take i ++ [x] := by
  rw [List.take_add_one, h]
  rfl

/-! ### clashing_sets -/
def clashF (cs : List (List Bool)) (i k : Nat) : Bool := (cs.getD i []).getD k false
def sp_clashing_sets (K : PySem.W.Frag) : Sp := fun vs H Q _ => ∃ (v1 : V) (cs : List (List Bool)), vs = [v1] ∧ LsV (LsV BlV) K H v1 cs ∧ (∀ r ∈ cs, r.length = cs.length) ∧ cs.length ≤ 8 ∧
  RetD (fun v H2 => LlV TsV K H2 v (setsP (clashF cs) cs.length)) H Q
theorem sl_clashing_sets {K : PySem.W.Frag} {vs : List V} {H : Hp} {Q : VK} {E : XK} (h : sp_clashing_sets K vs H Q E) : vs.length = 1 := by
  obtain ⟨_, _, rfl, _⟩ := h
  rfl
def t_clashing_sets (K : PySem.W.Frag) : TS :=
  (tSeq (tAsg (tLst (tCons (tTup tNil) tNil)) (gName 1))
  (tSeq (tFor (iRng1 (tCons (tCB (rLenS K) (tCons (tVar 0) tNil)) tNil)) (gName 2) (tSeq (tAsg (tLst tNil) (gName 3))
  (tSeq (tFor (iList K (tVar 1)) (gName 4) (tIfS (tB (tCB (rAll K) (tCons (tLc (iTup K (tVar 4)) (gName 5) tYes (tOp (rIxL K) (tOp (rIxL K) (tVar 0) (tVar 2)) (tVar 5)) [5]) tNil))) (tDrop (tBM K "list" rAppend (tVar 3) (tCons (tOp (rCatA K) (tVar 4) (tTup (tCons (tVar 2) tNil))) tNil))) tNext))
  (tAsg (tOp rCat (tVar 1) (tVar 3)) (gName 1)))))
  (tRet (tVar 1))))
theorem tsV_fix {K : PySem.W.Frag} {H H' : Hp} (e : Fix H H') {xs : List V} {ls : List (List Nat)} (h : All2 (TsV K H) xs ls) : All2 (TsV K H') xs ls := all2_st tsV_st e h
theorem pure_clashing_sets {K : PySem.W.Frag} {mg : Str → Option Value} (T : Tx K mg) (vs : List V) (H : Hp) (Q : VK) (E : XK) (h : sp_clashing_sets K vs H Q E) : t_clashing_sets K { nx := fun _ H' => Q .non H', rt := Q } (start N_clashing_sets vs) H := by
  obtain ⟨v1, cs, rfl, ⟨ac, cx, rfl, hc1, hc2⟩, hr, h8, k⟩ := h
  have hlen : cx.length = cs.length := All2.len hc2
  refine q_asgD (P := fun v H1 => LlV TsV K H1 v (setsP (clashF cs) 0)) ?_ fun v H1 e1 p1 => ?_
  · refine evd_lstD (PA := fun vs H2 => ∃ t, vs = [.ref t] ∧ H2 t = some (.tup [])) (evad_one (EvD.imp (evd_tup ea_nil (Nat.zero_le _)) fun v H1 e1 p1 => ?_)) ?_ ?_
    · obtain ⟨t, rfl, ht⟩ := p1
      exact ⟨t, rfl, ht⟩
    · rintro vs H1 ⟨t, rfl, _⟩
      exact Nat.le_of_lt (show 1 < 100000 by decide)
    · rintro vs H1 p hp ⟨t, rfl, ht⟩
      exact ⟨p, _, rfl, upd_same, .cons ⟨t, rfl, ex_t (Ex.new hp) (st_of ht)⟩ .nil⟩
  · refine q_forR1 (n := ((cs.length : Nat) : Int)) (ea_cons (ev_is (ev_cb (ea_cons (ev_var rfl) ea_nil) (rc_len (Or.inl (ex_l e1 hc1)))) (congrArg (fun n : Nat => nV n) hlen)) ea_nil) (by omega)
      (fun i σ' H' => ∃ v o2 o3 o4, σ' = [some (.ref ac), some v, o2, o3, o4, none] ∧ Ex H H' ∧ LlV TsV K H' v (setsP (clashF cs) i)) (fun H2 e2 => ⟨v, none, none, none, rfl, e1.trans e2, llV_x tsV_st.x _ _ _ _ _ e2 p1⟩) ?_ ?_
    · rintro i σ' H' hi ⟨v, o2, o3, o4, rfl, e, a, xs, rfl, ha, hx⟩
      have hi' : i < cs.length := by omega
      have hset := setsP_lt (clashF cs) i
      have hsl := setsP_len (clashF cs) i
      have h256 : 2 ^ i ≤ 2 ^ 8 := Nat.pow_le_pow_right (by decide) (by omega)
      have hxl : xs.length = (setsP (clashF cs) i).length := All2.len hx
      obtain ⟨x1, g1, ⟨ar, xr, rfl, hr1, hr2⟩⟩ := All2.get2 hc2 (List.getElem?_eq_getElem hi')
      have hrl := hr _ (List.getElem_mem hi')
      have hxr := all2_bl hr2
      subst hxr
      have g1' : atI cx ((i : Nat) : Int) = some (.ref ar) := atI_nat g1
      have hcf : ∀ k, clashF cs i k = (cs[i]).getD k false := fun k => by
        unfold clashF
        rw [List.getD_eq_getElem?_getD (l := cs), List.getElem?_eq_getElem hi']
        rfl
      refine q_asgL (el_lst ea_nil (by decide)) fun l H1 hn f1 h1 => ?_
      have f1o : Ex H' (off H1 l) := off_ex f1 hn
      have nal : a ≠ l := ne_of_none ha hn
      refine q_forLn (a := a) (xs := xs) (ev_var rfl) (sq_of (f1 a _ ha)) (fun j σ2 H2 => ∃ o4 ys, σ2 = [some (.ref ac), some (.ref a), some (nV i), some (.ref l), o4, none] ∧ Ex H' (off H2 l) ∧ H2 l = some (.lst ys) ∧ All2 (TsV K H2) ys ((((setsP (clashF cs) i).take j).filter fun s => s.all (clashF cs i)).map fun s => s ++ [i]))
        (fun H2 e2 => ⟨_, [], rfl, f1o.trans (off_mono e2), e2 l _ h1, .nil⟩) ?_ ?_ ?_
      · rintro j σ2 H2 hj ⟨_, _, _, f2, _, _⟩
        exact sq_of ((f2.trans off_in) a _ ha)
      · rintro j x σ2 H2 hj ⟨o5, ys, rfl, f2, h2, h3⟩
        obtain ⟨s, hs, hxs⟩ := All2.get hx hj
        have f2i := f2.trans off_in
        obtain ⟨hsn, hsb⟩ := hset s (List.mem_of_getElem? hs)
        have hxs2 := tsV_st.x _ _ _ _ _ f2i hxs
        obtain ⟨t, rfl, ht⟩ := hxs2
        have hylen := All2.len h3
        have hy8 : ys.length ≤ 256 := by
          rw [hylen, List.length_map]
          refine Nat.le_trans (List.length_filter_le _ _) ?_
          rw [List.length_take]
          omega
        refine s_when (b := s.all (clashF cs i)) (et_B (ev_cbD (z := .bl (s.all (clashF cs i))) (evd_lcT (K := K) blV_st (fun _ => true) (fun m => clashF cs i (s.getD m 0)) (xs := s.map nV) (evd_of (ev_var rfl) fun H3 e3 => ⟨t, rfl, ex_t e3 ht⟩) (by rw [List.length_map]; omega) (fun _ => rfl) (fun _ _ _ _ _ => et_yes) ?_) ?_)) (fun hb H3 e3 => ?_) fun hb H3 e3 => ?_
        · intro m x H3 e3 hx2 _
          have hm : m < s.length := by
            have := (List.getElem?_eq_some_iff.mp hx2).1
            rw [List.length_map] at this
            exact this
          rw [nums_at hm] at hx2
          cases hx2
          have hlt := hsb _ (List.mem_of_getElem? (at_getD 0 hm))
          have hc1' := ex_l (e.trans (f2i.trans e3)) hc1
          have hr1' := ex_l (e.trans (f2i.trans e3)) hr1
          have h9 : atI ((cs[i]).map V.bl) ((s.getD m 0 : Nat) : Int) = some (.bl (clashF cs i (s.getD m 0))) := atI_nat (by
            rw [hcf, List.getElem?_map, at_getD false (show s.getD m 0 < (cs[i]).length by omega)]
            rfl)
          exact evd_of (by walk_at "ev") fun _ _ => rfl
        · rintro x H3 e3 ⟨p, rfl, _, zs, h6, h7⟩
          have h7 := all2_bl h7
          rw [givenD_all, List.length_map, map_getD s 0 fun k => clashF cs i k] at h7
          subst h7
          refine RC_is (rc_all (sq_of h6)) (congrArg V.bl ?_)
          rw [List.all_map]
          rfl
        · have h2' := e3 l _ h2
          refine s_appD (P := fun v H4 => TsV K H4 v (s ++ [i])) h2' (ev_var rfl) ?_ (by omega) fun v H4 e4 p4 => ?_
          · refine evd_op (P1 := fun x _ => x = .ref t) (evd_of (ev_var rfl) fun _ _ => rfl) fun x H4 e4 p4 => ?_
            subst p4
            refine EvD.imp (evd_tup (vs := [nV i]) (ea_cons (ev_var rfl) ea_nil) (Nat.le_of_lt (show 1 < 100000 by decide))) fun y H5 e5 p5 => ?_
            obtain ⟨u, rfl, hu⟩ := p5
            have ht5 := ex_t (e3.trans (e4.trans e5)) ht
            refine fun Q2 q2 => ⟨t, u, s.map nV, [nV i], rfl, rfl, ht5, st_of hu, sz_of (by rw [List.length_map, List.length_singleton]; omega), fun hz => ?_, fun _ hz => (by cases hz), fun _ _ p hp => ?_⟩
            · refine q2 _ H5 (Ex.refl H5) ⟨u, rfl, st_of ?_⟩
              have : s = [] := List.map_eq_nil_iff.mp hz
              rw [hu, this]
              rfl
            · refine q2 _ _ (Ex.new hp) ⟨p, rfl, st_of ?_⟩
              rw [upd_same, List.map_append]
              rfl
          · have h4 := e4 l _ h2'
            have fx : Fix H4 (upd H4 l (.lst (ys ++ [v]))) := Fix.mutL h4
            refine ⟨_, _, rfl, ?_, upd_same, ?_⟩
            · rw [off_upd]
              exact f2.trans (off_mono (e3.trans e4))
            · rw [take_succ_at hs, List.filter_append, List.filter_cons, if_pos hb, List.map_append]
              exact All2.snoc (tsV_fix fx (tsV_fix (Fix.of (e3.trans e4)) h3)) (tsV_st _ _ _ _ _ fx p4)
        · refine ⟨_, ys, rfl, f2.trans (off_mono e3), e3 l _ h2, ?_⟩
          rw [take_succ_at hs, List.filter_append, List.filter_cons, if_neg (by rw [hb]; decide)]
          show All2 (TsV K H3) ys ((_ ++ []).map _)
          rw [List.append_nil]
          exact tsV_fix (Fix.of e3) h3
      · rintro σ2 H2 ⟨o4, ys, rfl, f2, h2, h3⟩
        have f2i := f2.trans off_in
        rw [List.take_of_length_le (by omega)] at h3
        refine s_asgD (P := fun v H3 => LlV TsV K H3 v (setsP (clashF cs) (i + 1))) (evd_op (P1 := fun x _ => x = .ref a) (evd_of (ev_var rfl) fun _ _ => rfl) fun x H3 e3 p3 => evd_of (v := .ref l) (ev_var rfl) fun H4 e4 => ?_) fun v H3 e3 p3 => ⟨v, _, _, _, rfl, e.trans (f2i.trans e3), p3⟩
        subst p3
        have hyl := All2.len h3
        have hyl2 : ys.length ≤ (setsP (clashF cs) i).length := by
          rw [hyl, List.length_map]
          exact List.length_filter_le _ _
        refine fun Q2 q2 => rv_cat ((f2i.trans (e3.trans e4)) a _ ha) ((e3.trans e4) l _ h2) (by omega) Q2 fun v H5 e5 p5 => q2 v H5 e5 ?_
        obtain ⟨c, rfl, _, hc⟩ := p5
        refine ⟨c, _, rfl, hc, ?_⟩
        rw [setsP_succ]
        exact All2.append (tsV_fix (Fix.of (f2i.trans (e3.trans (e4.trans e5)))) hx) (tsV_fix (Fix.of (e3.trans (e4.trans e5))) h3)
    · rintro σ' H' ⟨v, o2, o3, o4, rfl, e, p⟩
      rw [Int.toNat_natCast] at p
      exact s_ret (ev_var rfl) fun H2 e2 => k v H2 (e.trans e2) (llV_x tsV_st.x _ _ _ _ _ e2 p)
theorem ok_clashing_sets {P : Program} {w : World} {K : PySem.W.Frag} {mg : Str → Option Value} {base : Heap} (T : Tx K mg) : DefE P w K mg base CX0 1 "clashing_sets" ["clashes"] (sp_clashing_sets K) := by
  obtain ⟨fd, F⟩ := T.d_clashing_sets
  have bd : Binds K fd ["clashes"] [] := F.bindsN fun _ _ _ _ _ _ us hl => match us, hl with | [_], _ => rfl
  have G : FnOk P w K mg base CX0 1 (He.ga K "clashing_sets") fd ["clashes"] (sp_clashing_sets K) := by
    refine F.ok sc_clashing_sets (fun vs H Q E h => sl_clashing_sets h) (fun cdv A outer s H vs Q E hr h => ⟨t_clashing_sets K, PSs.nox ?_, pure_clashing_sets T vs H Q E h⟩)
    exact (pss_cons (ps_set (i := 1) sc_clashing_sets.nd rfl (by first | exact Or.inl rfl | exact Or.inr rfl) (pe_lst (pa_cons (pe_tup pa_nil) pa_nil)))
  (pss_cons (ps_for PassesOwn.never rfl (pi_range1 rfl T.f_range (pa_cons (pe_callB cLen rfl T.f_len bLen (pa_cons (pv 0) pa_nil)) pa_nil)) (pg_name (i := 2) sc_clashing_sets.nd rfl (by first | exact Or.inl rfl | exact Or.inr rfl)) (pss_cons (ps_set (i := 3) sc_clashing_sets.nd rfl (by first | exact Or.inl rfl | exact Or.inr rfl) (pe_lst pa_nil))
  (pss_cons (ps_for PassesOwn.never rfl (pi_list (pv 1)) (pg_name (i := 4) sc_clashing_sets.nd rfl (by first | exact Or.inl rfl | exact Or.inr rfl)) (pss_one (ps_if (pt_val (pe_callB (cr_all rfl) rfl T.f_all bAll (pa_cons (pe_lc (own := [("other", 5)]) (g := (gName 5)) (tt := tYes) (te := (tOp (rIxL K) (tOp (rIxL K) (tVar 0) (tVar 2)) (tVar 5))) rfl sc_clashing_sets.nd (pi_tup (pv 4)) (blkOk_by (N := N_clashing_sets) (sc := defScope s_clashing_sets) (by decide +kernel)) (fun _ _ _ _ _ => (pg_name (i := 5) sc_clashing_sets.nd rfl (by first | exact Or.inl rfl | exact Or.inr rfl))) (fun _ _ _ _ _ => pts_nil) (fun _ _ _ _ _ => (pe_ix ix_list (pe_ix ix_list (pv 0) (pv 2) (fun _ _ => rfl)) (pv 5) (fun _ _ => rfl)))) pa_nil))) (pss_one (ps_expr (pe_bm PySem.F.plainAttrs_list PySem.F.slot_list_append PySem.F.type_list_append mt_append (pv 3) (pa_cons (pe_op oCatA (pv 4) (pe_tup (pa_cons (pv 2) pa_nil))) pa_nil)))) pss_nil)))
  (pss_one (ps_set (i := 1) sc_clashing_sets.nd rfl (by first | exact Or.inl rfl | exact Or.inr rfl) (pe_op oCat (pv 1) (pv 3)))))))
  (pss_one (ps_ret (pv 1)))))
  exact DefE.mk ⟨fd, G, bd⟩ T.g_clashing_sets T.p_clashing_sets
theorem spd_clashing_sets {K : PySem.W.Frag} {H : Hp} {v1 : V} {cs : List (List Bool)} (h1 : LsV (LsV BlV) K H v1 cs) (hr : ∀ r ∈ cs, r.length = cs.length) (h8 : cs.length ≤ 8) :
    SpD (sp_clashing_sets K) [v1] H fun v H2 => LlV TsV K H2 v (setsP (clashF cs) cs.length) := fun Q q E => ⟨v1, cs, rfl, h1, hr, h8, q⟩
end Sk
namespace Sk
open PySem L2 Evl Sc
theorem setsP_ne (clash : Nat → Nat → Bool) : ∀ n, ∃ r, setsP clash n = [] :: r
  | 0 => ⟨[], rfl⟩
  | n + 1 => by
    obtain ⟨r, e⟩ := setsP_ne clash n
    rw [setsP_succ, e]
    exact ⟨_, rfl⟩
theorem rankQ_rankP {ropes : List (Nat × Nat)} {ms : List (Nat × Nat × Nat)} {l : List Nat} (h : ∀ x ∈ l, x < ms.length) : rankQ (crewsP ropes ms) l = rankP (jobsR ropes ms) l := by
  unfold rankQ rankP
  rw [wants_eq, jobsR_len, crewsP_len]
  congr 2
  exact List.map_congr_left fun x hx => crewsP_at (h x hx)
/-- the greatest rank is the crowd's -/
theorem top_crowd (ropes : List (Nat × Nat)) (ms : List (Nat × Nat × Nat)) {r : Nat × List Nat} {rs : List (Nat × List Nat)} (h : (setsP (clashF (clashP ropes ms)) ms.length).map (rankQ (crewsP ropes ms)) = r :: rs) :
    topR r rs = rankP (jobsR ropes ms) (Sy91.theCrowd (jobsR ropes ms)) := by
  have hc : ∀ i k, i < (jobsR ropes ms).jobs.length → k < (jobsR ropes ms).jobs.length → clashF (clashP ropes ms) i k = !Sy91.both (jobsR ropes ms) i k := fun i k hi hk => by
    rw [jobsR_len] at hi hk
    unfold clashF
    rw [clashP_at hi hk, clash_both hi hk]
  have hL := sets_crowds hc
  rw [jobsR_len] at hL
  obtain ⟨h1, h2⟩ := fold_top ltR ltR_trans ltR_irr rs r (fun _ => False) fun _ z => z.elim
  change topR r rs ∈ r :: rs at h1
  rw [← h] at h1
  obtain ⟨l, hl, e⟩ := List.mem_map.mp h1
  have hb := fun l hl => (setsP_lt (clashF (clashP ropes ms)) ms.length l hl).2
  have e2 : rankP (jobsR ropes ms) l = topR r rs := by
    rw [← e]
    exact (rankQ_rankP (hb l hl)).symm
  have := rank_most hL hl fun l' hl' => by
    rw [e2, ← rankQ_rankP (hb l' hl')]
    refine h2 _ (.inr ?_)
    rw [← h]
    exact List.mem_map.mpr ⟨l', hl', rfl⟩
  rw [← e2, this]

/-! ### bottleneck_of -/
def sp_bottleneck_of (K : PySem.W.Frag) : Sp := fun vs H Q _ => ∃ (v1 v2 : V) (ropes : List (Nat × Nat)) (ms : List (Nat × Nat × Nat)), vs = [v1, v2] ∧ LsV PrV K H v1 ropes ∧ LsV TrV K H v2 ms ∧ MsP ropes ms ∧ (crewsP ropes ms).sum ≤ 8 ∧
  RetL ((Sy91.theCrowd (jobsR ropes ms)).map nV) H Q
theorem sl_bottleneck_of {K : PySem.W.Frag} {vs : List V} {H : Hp} {Q : VK} {E : XK} (h : sp_bottleneck_of K vs H Q E) : vs.length = 2 := by
  obtain ⟨_, _, _, _, rfl, _⟩ := h
  rfl
def t_bottleneck_of (K : PySem.W.Frag) : TS :=
  (tSeq (tAsg (tCall (sp_crews_of K) [] E0 (tCons (tVar 0) (tCons (tVar 1) tNil))) (gName 2))
  (tSeq (tAsg (tOp (rIxT K) (tCB (rMaxD K) (tCons (tLc (iList K (tCall (sp_clashing_sets K) [] E0 (tCons (tCall (sp_clashes_of K) [] E0 (tCons (tVar 0) (tCons (tVar 1) tNil))) tNil))) (gName 6) tYes (tCall (sp_rank_of K) [] E0 (tCons (tVar 6) (tCons (tVar 2) tNil))) [6]) tNil)) (tC (.int 1))) (gName 3))
  (tRet (tLc (iEnumT K (tCons (tVar 3) tNil)) (gTup K 2 (gCons (gName 4) (gCons (gName 5) gNil))) (tTest (tOp rEq (tVar 5) (tC (.int 1)))) (tVar 4) [4, 5]))))
theorem pure_bottleneck_of {K : PySem.W.Frag} {mg : Str → Option Value} (T : Tx K mg) (vs : List V) (H : Hp) (Q : VK) (E : XK) (h : sp_bottleneck_of K vs H Q E) : t_bottleneck_of K { nx := fun _ H' => Q .non H', rt := Q } (start N_bottleneck_of vs) H := by
  obtain ⟨v1, v2, ropes, ms, rfl, h1, h2, hM, hs, k⟩ := h
  have h8 := hM.len hs
  refine q_asgL (el_call (ea_cons (ev_var rfl) (ea_cons (ev_var rfl) ea_nil)) (spl_crews_of h1 h2 hM.rope (by omega))) fun pc H1 hn e1 hc => ?_
  obtain ⟨r0, hr0⟩ := setsP_ne (clashF (clashP ropes ms)) ms.length
  have hset := setsP_lt (clashF (clashP ropes ms)) ms.length
  have hsl := setsP_len (clashF (clashP ropes ms)) ms.length
  have h256 : 2 ^ ms.length ≤ 2 ^ 8 := Nat.pow_le_pow_right (by decide) h8
  have hcl := clashP_len (ropes := ropes) (m := ms)
  refine q_asgD (P := fun v H2 => ∃ t, v = .ref t ∧ SqT K H2 t ((flagsP 0 ms.length (Sy91.theCrowd (jobsR ropes ms))).map nV)) (evd_op (P1 := fun v H2 => RkV K H2 v (rankP (jobsR ropes ms) (Sy91.theCrowd (jobsR ropes ms)))) (evd_cbD (evd_lcD (K := K) (β := List Nat) (S := TsV) (ds := setsP (clashF (clashP ropes ms)) ms.length) tsV_st.x rkV_st (fun _ => true) (fun i => rankQ (crewsP ropes ms) ((setsP (clashF (clashP ropes ms)) ms.length).getD i [])) ?_ (by omega) (fun _ => rfl) (fun _ _ _ _ _ _ _ => et_yes) ?_) ?_) fun x H2 e2 p2 => evd_of ev_c fun H3 e3 => ?_) fun v H2 e2 p2 => ?_
  · refine evd_call (evad_one (EvD.imp (P := fun v H2 => LsV (LsV BlV) K H2 v (clashP ropes ms)) (evd_callV (ea_cons (ev_var rfl) (ea_cons (ev_var rfl) ea_nil)) fun H2 e2 => spd_clashes_of (lsV_x prV_st.x _ _ _ _ _ (e1.trans e2) h1) (lsV_x trV_st.x _ _ _ _ _ (e1.trans e2) h2) hM.rope h8) fun v H2 e2 p2 => ?_))
    intro Q2 q2 E2
    refine spd_clashing_sets p2 (clashP_sq ropes ms) (by omega) Q2 (fun v H3 e3 p3 => q2 v H3 e3 ?_) E2
    rw [hcl] at p3
    exact p3.s
  · intro i x y H2 e2 hy hxy _
    rw [getD_at hy]
    obtain ⟨z1, z2⟩ := hset y (List.mem_of_getElem? hy)
    exact evd_callV (ea_cons (ev_var rfl) (ea_cons (ev_var rfl) ea_nil)) fun H3 e3 => spd_rank_of (tsV_st.x _ _ _ _ _ e3 hxy) (nlV_of ((e2.trans e3) pc _ hc)).s (by omega) (by rw [crewsP_len]; omega) (by rw [crewsP_len]; exact z2)
  · rintro x H2 e2 ⟨p, rfl, _, h4⟩
    rw [givenD_all, map_getD _ [] (rankQ (crewsP ropes ms))] at h4
    have hne : ∃ r rs, (setsP (clashF (clashP ropes ms)) ms.length).map (rankQ (crewsP ropes ms)) = r :: rs := by
      rw [hr0]
      exact ⟨_, _, rfl⟩
    obtain ⟨r, rs, e⟩ := hne
    rw [e] at h4
    rw [← top_crowd ropes ms e]
    exact rcd_maxR h4
  · obtain ⟨a, t, rfl, ha, ht⟩ := p2
    intro Q2 q2
    refine ⟨a, _, (1 : Int), .ref t, rfl, rfl, ex_t e3 ha, rfl, q2 _ H3 (Ex.refl H3) ⟨t, rfl, ?_⟩⟩
    have := ex_t e3 ht
    unfold rankP at this
    rw [jobsR_len] at this
    exact this
  · obtain ⟨t, rfl, ht⟩ := p2
    have hfl : ((flagsP 0 ms.length (Sy91.theCrowd (jobsR ropes ms))).map nV).length = ms.length := by
      rw [List.length_map, flagsP_len]
    refine s_retD (evd_lcET (K := K) numV_st (fun i => decide ((flagsP 0 ms.length (Sy91.theCrowd (jobsR ropes ms))).getD i 0 = 1)) (fun i => i) (xs := (flagsP 0 ms.length (Sy91.theCrowd (jobsR ropes ms))).map nV) (fun H3 e3 Q2 q2 => ⟨_, rfl, q2 _ H3 (Ex.refl H3) ⟨t, rfl, ex_t e3 ht⟩⟩) (by omega) (fun _ _ => rfl) ?_ ?_) ?_
    · intro i x H3 e3 hx
      have hi := (List.getElem?_eq_some_iff.mp hx).1
      rw [List.length_map] at hi
      rw [nums_at hi] at hx
      cases hx
      refine et_is (by walk_at "ev") (decide_eq_decide.mpr ⟨fun z => ?_, fun z => by rw [z]; rfl⟩)
      have := V.int.inj z
      omega
    · intro i x H3 e3 hx _
      exact evd_of (v := nV i) (ev_var rfl) fun _ _ => rfl
    · rintro v H3 e3 ⟨p, rfl, hp, ys, h4, h5⟩
      have h5 := all2_num h5
      rw [hfl] at h5
      have hfb := flags_back (theCrowd_mem (s := jobsR ropes ms))
      rw [jobsR_len] at hfb
      unfold givenD at h5
      rw [hfb, List.map_id''] at h5
      · rw [h5] at h4
        exact k p H3 (fresh_back (e1.trans e2) hp) ((e1.trans e2).trans e3) h4
      · exact fun _ => rfl
theorem ok_bottleneck_of {P : Program} {w : World} {K : PySem.W.Frag} {mg : Str → Option Value} {base : Heap} (T : Tx K mg) (D_clashes_of : DefE P w K mg base (CX0) 2 "clashes_of" ["ropes", "movements"] (sp_clashes_of K)) (D_clashing_sets : DefE P w K mg base (CX0) 1 "clashing_sets" ["clashes"] (sp_clashing_sets K)) (D_crews_of : DefE P w K mg base (CX0) 1 "crews_of" ["ropes", "movements"] (sp_crews_of K)) (D_rank_of : DefE P w K mg base (CX0) 1 "rank_of" ["some", "crews"] (sp_rank_of K)) : DefE P w K mg base CX0 3 "bottleneck_of" ["ropes", "movements"] (sp_bottleneck_of K) := by
  obtain ⟨fd, F⟩ := T.d_bottleneck_of
  have bd : Binds K fd ["ropes", "movements"] [] := F.bindsN fun _ _ _ _ _ _ us hl => match us, hl with | [_, _], _ => rfl
  have G : FnOk P w K mg base CX0 3 (He.ga K "bottleneck_of") fd ["ropes", "movements"] (sp_bottleneck_of K) := by
    refine F.ok sc_bottleneck_of (fun vs H Q E h => sl_bottleneck_of h) (fun cdv A outer s H vs Q E hr h => ⟨t_bottleneck_of K, PSs.nox ?_, pure_bottleneck_of T vs H Q E h⟩)
    exact (pss_cons (ps_set (i := 2) sc_bottleneck_of.nd rfl (by first | exact Or.inl rfl | exact Or.inr rfl) (pe_callE D_crews_of (hr.mono (by decide)) rfl pass0 (by exact (pa_cons (pv 0) (pa_cons (pv 1) pa_nil)))))
  (pss_cons (ps_set (i := 3) sc_bottleneck_of.nd rfl (by first | exact Or.inl rfl | exact Or.inr rfl) (pe_ix ix_tup (pe_callB (cMaxD rfl (hu12 hr)) rfl T.f_max bMax (pa_cons (pe_lc (own := [("some", 6)]) (g := (gName 6)) (tt := tYes) (te := (tCall (sp_rank_of K) [] E0 (tCons (tVar 6) (tCons (tVar 2) tNil)))) rfl sc_bottleneck_of.nd (pi_list (pe_callE D_clashing_sets (hr.mono (by decide)) rfl pass0 (by exact (pa_cons (pe_callE D_clashes_of (hr.mono (by decide)) rfl pass0 (by exact (pa_cons (pv 0) (pa_cons (pv 1) pa_nil)))) pa_nil)))) (blkOk_by (N := N_bottleneck_of) (sc := defScope s_bottleneck_of) (by decide +kernel)) (fun _ _ _ _ _ => (pg_name (i := 6) sc_bottleneck_of.nd rfl (by first | exact Or.inl rfl | exact Or.inr rfl))) (fun _ _ _ _ _ => pts_nil) (fun _ _ _ _ _ => (pe_callE D_rank_of (hr.mono (by decide)) rfl pass0 (by exact (pa_cons (pv 6) (pa_cons (pv 2) pa_nil)))))) pa_nil)) pe_int (fun _ _ => rfl)))
  (pss_one (ps_ret (pe_lc (own := [("movement", 4), ("flag", 5)]) (g := (gTup K 2 (gCons (gName 4) (gCons (gName 5) gNil)))) (tt := (tTest (tOp rEq (tVar 5) (tC (.int 1))))) (te := (tVar 4)) rfl sc_bottleneck_of.nd (pi_enumT rfl T.f_enumerate (pa_cons (pv 3) pa_nil)) (blkOk_by (N := N_bottleneck_of) (sc := defScope s_bottleneck_of) (by decide +kernel)) (fun _ _ _ _ _ => (pg_tup rfl (pgs_cons (pg_name (i := 4) sc_bottleneck_of.nd rfl (by first | exact Or.inl rfl | exact Or.inr rfl)) (pgs_cons (pg_name (i := 5) sc_bottleneck_of.nd rfl (by first | exact Or.inl rfl | exact Or.inr rfl)) pgs_nil)))) (fun _ _ _ _ _ => (pts_one (pt_cmpR oEq (pv 5) pe_int (nomark _)))) (fun _ _ _ _ _ => (pv 4)))))))
  exact DefE.mk ⟨fd, G, bd⟩ T.g_bottleneck_of T.p_bottleneck_of
theorem spl_bottleneck_of {K : PySem.W.Frag} {H : Hp} {v1 v2 : V} {ropes : List (Nat × Nat)} {ms : List (Nat × Nat × Nat)} (h1 : LsV PrV K H v1 ropes) (h2 : LsV TrV K H v2 ms) (hM : MsP ropes ms) (hs : (crewsP ropes ms).sum ≤ 8) :
    SpL (sp_bottleneck_of K) [v1, v2] H ((Sy91.theCrowd (jobsR ropes ms)).map nV) := fun H1 e Q q E => ⟨v1, v2, ropes, ms, rfl, lsV_x prV_st.x _ _ _ _ _ e h1, lsV_x trV_st.x _ _ _ _ _ e h2, hM, hs, fun p H2 hp e2 h2 => q p H2 hp e2 h2⟩
end Sk
namespace Sk
open PySem L2 Evl Sc
/-! ### sign_of -/
def sp_sign_of (K : PySem.W.Frag) : Sp := fun vs H Q _ => ∃ (n : Int), vs = [.int n] ∧ RetV (.int (signI n)) H Q
theorem sl_sign_of {K : PySem.W.Frag} {vs : List V} {H : Hp} {Q : VK} {E : XK} (h : sp_sign_of K vs H Q E) : vs.length = 1 := by
  obtain ⟨_, rfl, _⟩ := h
  rfl
def t_sign_of (K : PySem.W.Frag) : TS :=
  (tRet (tOp rSubI (tCB rIntB (tCons (tOp rGtI (tVar 0) (tC (.int 0))) tNil)) (tCB rIntB (tCons (tOp rLtI (tVar 0) (tC (.int 0))) tNil))))
theorem pure_sign_of {K : PySem.W.Frag} {mg : Str → Option Value} (T : Tx K mg) (vs : List V) (H : Hp) (Q : VK) (E : XK) (h : sp_sign_of K vs H Q E) : t_sign_of K { nx := fun _ H' => Q .non H', rt := Q } (start N_sign_of vs) H := by
  obtain ⟨n, rfl, k⟩ := h
  refine s_ret (ev_is (by walk_at "ev") ?_) fun H1 e1 => k H1 e1
  unfold signI
  congr 1
  congr 1 <;> simp
theorem ok_sign_of {P : Program} {w : World} {K : PySem.W.Frag} {mg : Str → Option Value} {base : Heap} (T : Tx K mg) : DefE P w K mg base CX0 1 "sign_of" ["number"] (sp_sign_of K) := by
  obtain ⟨fd, F⟩ := T.d_sign_of
  have bd : Binds K fd ["number"] [] := F.bindsN fun _ _ _ _ _ _ us hl => match us, hl with | [_], _ => rfl
  have G : FnOk P w K mg base CX0 1 (He.ga K "sign_of") fd ["number"] (sp_sign_of K) := by
    refine F.ok sc_sign_of (fun vs H Q E h => sl_sign_of h) (fun cdv A outer s H vs Q E hr h => ⟨t_sign_of K, PSs.nox ?_, pure_sign_of T vs H Q E h⟩)
    exact (pss_one (ps_ret (pe_op oSub (pe_callTy cInt rfl T.f_int bInt (pa_cons (pe_cmpR oGt (pv 0) pe_int (nomark _)) pa_nil)) (pe_callTy cInt rfl T.f_int bInt (pa_cons (pe_cmpR oLt (pv 0) pe_int (nomark _)) pa_nil)))))
  exact DefE.mk ⟨fd, G, bd⟩ T.g_sign_of T.p_sign_of
theorem spv_sign_of {K : PySem.W.Frag} {H : Hp} {n : Int} : SpV (sp_sign_of K) [.int n] H (.int (signI n)) := fun H1 e Q q E => ⟨n, rfl, q⟩

/-! ### is_pair_violated -/
def opV : Option Nat → V
  | none => .non
  | some n => nV n
def PosV (K : PySem.W.Frag) (H : Hp) (a : Addr) (ps : List Nat) : Prop := SqL K H a (ps.map nV) ∨ SqT K H a (ps.map nV)
theorem posV_x {K : PySem.W.Frag} {H H' : Hp} {a : Addr} {ps : List Nat} (e : Ex H H') (h : PosV K H a ps) : PosV K H' a ps := h.imp (ex_l e) (ex_t e)
def foulsQ (ps : List Nat) (p : Nat × Nat × Nat) : Bool := decide (Sy90.apart (ps.getD p.1 0) (ps.getD p.2.1 0) < p.2.2)
def sp_is_pair_violated (K : PySem.W.Frag) : Sp := fun vs H Q _ => ∃ (v1 : V) (a : Addr) (p : Nat × Nat × Nat) (ps : List Nat), vs = [v1, .ref a] ∧ TrV K H v1 p ∧ PosV K H a ps ∧ p.1 < ps.length ∧ p.2.1 < ps.length ∧ RetV (.bl (foulsQ ps p)) H Q
theorem sl_is_pair_violated {K : PySem.W.Frag} {vs : List V} {H : Hp} {Q : VK} {E : XK} (h : sp_is_pair_violated K vs H Q E) : vs.length = 2 := by
  obtain ⟨_, _, _, _, rfl, _⟩ := h
  rfl
def t_is_pair_violated (K : PySem.W.Frag) : TS :=
  (tRet (tOp rLtI (tCB rAbs (tCons (tOp rSubI (tOp (rIxLT K) (tVar 1) (tOp (rIxT K) (tVar 0) (tC (.int 0)))) (tOp (rIxLT K) (tVar 1) (tOp (rIxT K) (tVar 0) (tC (.int 1))))) tNil)) (tOp (rIxT K) (tVar 0) (tC (.int 2)))))
theorem apart90_abs (a b : Nat) : (if ((a : Int) - (b : Int)) < 0 then -((a : Int) - (b : Int)) else ((a : Int) - (b : Int))) = ((Sy90.apart a b : Nat) : Int) := by
  unfold Sy90.apart
  split <;> omega
theorem pure_is_pair_violated {K : PySem.W.Frag} {mg : Str → Option Value} (T : Tx K mg) (vs : List V) (H : Hp) (Q : VK) (E : XK) (h : sp_is_pair_violated K vs H Q E) : t_is_pair_violated K { nx := fun _ H' => Q .non H', rt := Q } (start N_is_pair_violated vs) H := by
  obtain ⟨v1, a, p, ps, rfl, ⟨t, rfl, ht⟩, hp, l1, l2, k⟩ := h
  have g1 : atI (ps.map nV) ((p.1 : Nat) : Int) = some (nV (ps.getD p.1 0)) := atI_nat (nums_at l1)
  have g2 : atI (ps.map nV) ((p.2.1 : Nat) : Int) = some (nV (ps.getD p.2.1 0)) := atI_nat (nums_at l2)
  refine s_ret (ev_is (ev_op (x := nV (Sy90.apart (ps.getD p.1 0) (ps.getD p.2.1 0))) (ev_is (ev_cb (ea_cons (ev_op (ev_op (ev_var rfl) (ev_op (x := .ref t) (y := .int 0) (z := nV p.1) (ev_var rfl) ev_c (rv_ixT ht rfl)) (rv_ixLT hp g1)) (ev_op (ev_var rfl) (ev_op (x := .ref t) (y := .int 1) (z := nV p.2.1) (ev_var rfl) ev_c (rv_ixT ht rfl)) (rv_ixLT hp g2)) rv_I0) ea_nil) rc_abs) (congrArg V.int (apart90_abs _ _))) (ev_op (x := .ref t) (y := .int 2) (z := nV p.2.2) (ev_var rfl) ev_c (rv_ixT ht rfl)) rv_I0) ?_) fun H1 e1 => k H1 e1
  unfold foulsQ
  exact congrArg V.bl (decide_eq_decide.mpr (by omega))
theorem ok_is_pair_violated {P : Program} {w : World} {K : PySem.W.Frag} {mg : Str → Option Value} {base : Heap} (T : Tx K mg) : DefE P w K mg base CX0 1 "is_pair_violated" ["pair", "positions"] (sp_is_pair_violated K) := by
  obtain ⟨fd, F⟩ := T.d_is_pair_violated
  have bd : Binds K fd ["pair", "positions"] [] := F.bindsN fun _ _ _ _ _ _ us hl => match us, hl with | [_, _], _ => rfl
  have G : FnOk P w K mg base CX0 1 (He.ga K "is_pair_violated") fd ["pair", "positions"] (sp_is_pair_violated K) := by
    refine F.ok sc_is_pair_violated (fun vs H Q E h => sl_is_pair_violated h) (fun cdv A outer s H vs Q E hr h => ⟨t_is_pair_violated K, PSs.nox ?_, pure_is_pair_violated T vs H Q E h⟩)
    exact (pss_one (ps_ret (pe_cmpR oLt (pe_callB cAbs rfl T.f_abs bAbs (pa_cons (pe_op oSub (pe_ix ix_LT (pv 1) (pe_ix ix_tup (pv 0) pe_int (fun _ _ => rfl)) (fun _ _ => rfl)) (pe_ix ix_LT (pv 1) (pe_ix ix_tup (pv 0) pe_int (fun _ _ => rfl)) (fun _ _ => rfl))) pa_nil)) (pe_ix ix_tup (pv 0) pe_int (fun _ _ => rfl)) (nomark _))))
  exact DefE.mk ⟨fd, G, bd⟩ T.g_is_pair_violated T.p_is_pair_violated
theorem spv_is_pair_violated {K : PySem.W.Frag} {H : Hp} {v1 : V} {a : Addr} {p : Nat × Nat × Nat} {ps : List Nat} (h1 : TrV K H v1 p) (h2 : PosV K H a ps) (l1 : p.1 < ps.length) (l2 : p.2.1 < ps.length) : SpV (sp_is_pair_violated K) [v1, .ref a] H (.bl (foulsQ ps p)) := fun H1 e Q q E =>
  ⟨v1, a, p, ps, rfl, trV_st.x _ _ _ _ _ e h1, posV_x e h2, l1, l2, q⟩

/-! ### first_violated -/
def sp_first_violated (K : PySem.W.Frag) : Sp := fun vs H Q _ => ∃ (v1 : V) (a : Addr) (pairs : List (Nat × Nat × Nat)) (ps : List Nat), vs = [v1, .ref a] ∧ LsV TrV K H v1 pairs ∧ PosV K H a ps ∧ (∀ p ∈ pairs, p.1 < ps.length ∧ p.2.1 < ps.length) ∧ RetV (opV (fouledF pairs ps)) H Q
theorem sl_first_violated {K : PySem.W.Frag} {vs : List V} {H : Hp} {Q : VK} {E : XK} (h : sp_first_violated K vs H Q E) : vs.length = 2 := by
  obtain ⟨_, _, _, _, rfl, _⟩ := h
  rfl
def t_first_violated (K : PySem.W.Frag) : TS :=
  (tSeq (tFor (iEnum K (tCons (tVar 0) tNil)) (gTup K 2 (gCons (gName 2) (gCons (gName 3) gNil))) (tIfS (tB (tCall (sp_is_pair_violated K) [] E0 (tCons (tVar 3) (tCons (tVar 1) tNil)))) (tRet (tVar 2)) tNext))
  (tRet (tC .non)))
theorem pure_first_violated {K : PySem.W.Frag} {mg : Str → Option Value} (T : Tx K mg) (vs : List V) (H : Hp) (Q : VK) (E : XK) (h : sp_first_violated K vs H Q E) : t_first_violated K { nx := fun _ H' => Q .non H', rt := Q } (start N_first_violated vs) H := by
  obtain ⟨v1, a, pairs, ps, rfl, ⟨ap, xs, rfl, h1, h2⟩, hp, hb, k⟩ := h
  have hl : xs.length = pairs.length := All2.len h2
  refine q_forEn (a := ap) (xs := xs) (by walk_at "ev") h1 (fun i σ' H' => ∃ o3 o4, σ' = [some (.ref ap), some (.ref a), o3, o4] ∧ Ex H H' ∧ ∀ j (h : j < pairs.length), j < i → foulsQ ps pairs[j] = false)
    (fun H2 e2 => ⟨none, none, rfl, e2, fun j _ z => absurd z (Nat.not_lt_zero _)⟩) (fun i σ' H' _ p => ?_) ?_ ?_
  · obtain ⟨_, _, _, e, _⟩ := p
    exact ex_l e h1
  · rintro i x σ' H' U hi ⟨o3, o4, rfl, e, hn⟩ hU
    have eA : Ex H (upd H' U (.tup [nV i, x])) := e.trans (Ex.new hU)
    obtain ⟨y, hy, hxy⟩ := All2.get h2 hi
    obtain ⟨b1, b2⟩ := hb y (List.mem_of_getElem? hy)
    obtain ⟨hiL, hyE⟩ := List.getElem?_eq_some_iff.mp hy
    refine s_when (b := foulsQ ps y) (et_B (ev_call (ea_cons (ev_var rfl) (ea_cons (ev_var rfl) ea_nil)) (spv_is_pair_violated (trV_st.x _ _ _ _ _ eA hxy) (posV_x eA hp) b1 b2))) (fun hc H1 e1 => ?_) fun hc H1 e1 => ?_
    · refine s_ret (v := nV i) (ev_var rfl) fun H2 e2 => ?_
      have := k H2 (eA.trans (e1.trans e2))
      rw [show fouledF pairs ps = some i from ?_] at this
      · exact this
      · refine List.findIdx?_eq_some_iff_getElem.mpr ⟨hiL, by rw [hyE]; exact hc, fun j hj => ?_⟩
        have := hn j (by omega) hj
        unfold foulsQ at this
        rw [this]
        decide
    · refine ⟨_, _, rfl, eA.trans e1, fun j hj hlt => ?_⟩
      by_cases c : j < i
      · exact hn j hj c
      · have : j = i := by omega
        subst this
        rw [hyE]
        exact hc
  · rintro σ' H' ⟨o3, o4, rfl, e, hn⟩
    refine s_ret ev_c fun H2 e2 => ?_
    have := k H2 (e.trans e2)
    rw [show fouledF pairs ps = none from ?_] at this
    · exact this
    · refine List.findIdx?_eq_none_iff.mpr fun x hx => ?_
      obtain ⟨j, hj, rfl⟩ := List.getElem_of_mem hx
      exact hn j hj (by omega)
theorem ok_first_violated {P : Program} {w : World} {K : PySem.W.Frag} {mg : Str → Option Value} {base : Heap} (T : Tx K mg) (D_is_pair_violated : DefE P w K mg base (CX0) 1 "is_pair_violated" ["pair", "positions"] (sp_is_pair_violated K)) : DefE P w K mg base CX0 2 "first_violated" ["pairs", "positions"] (sp_first_violated K) := by
  obtain ⟨fd, F⟩ := T.d_first_violated
  have bd : Binds K fd ["pairs", "positions"] [] := F.bindsN fun _ _ _ _ _ _ us hl => match us, hl with | [_, _], _ => rfl
  have G : FnOk P w K mg base CX0 2 (He.ga K "first_violated") fd ["pairs", "positions"] (sp_first_violated K) := by
    refine F.ok sc_first_violated (fun vs H Q E h => sl_first_violated h) (fun cdv A outer s H vs Q E hr h => ⟨t_first_violated K, PSs.nox ?_, pure_first_violated T vs H Q E h⟩)
    exact (pss_cons (ps_for PassesOwn.never rfl (pi_enum rfl T.f_enumerate (pa_cons (pv 0) pa_nil)) (pg_tup rfl (pgs_cons (pg_name (i := 2) sc_first_violated.nd rfl (by first | exact Or.inl rfl | exact Or.inr rfl)) (pgs_cons (pg_name (i := 3) sc_first_violated.nd rfl (by first | exact Or.inl rfl | exact Or.inr rfl)) pgs_nil))) (pss_one (ps_if (pt_val (pe_callE D_is_pair_violated (hr.mono (by decide)) rfl pass0 (by exact (pa_cons (pv 3) (pa_cons (pv 1) pa_nil))))) (pss_one (ps_ret (pv 2))) pss_nil)))
  (pss_one (ps_ret pe_non)))
  exact DefE.mk ⟨fd, G, bd⟩ T.g_first_violated T.p_first_violated
theorem spv_first_violated {K : PySem.W.Frag} {H : Hp} {v1 : V} {a : Addr} {pairs : List (Nat × Nat × Nat)} {ps : List Nat} (h1 : LsV TrV K H v1 pairs) (h2 : PosV K H a ps) (hb : ∀ p ∈ pairs, p.1 < ps.length ∧ p.2.1 < ps.length) : SpV (sp_first_violated K) [v1, .ref a] H (opV (fouledF pairs ps)) := fun H1 e Q q E =>
  ⟨v1, a, pairs, ps, rfl, lsV_x trV_st.x _ _ _ _ _ e h1, posV_x e h2, hb, q⟩

/-! ### frames of the heap -/
/-- all but the objects of M stand as they were -/
def Frm (M : List Addr) (H H' : Hp) : Prop := ∀ b o, H b = some o → b ∉ M → H' b = some o
theorem Frm.refl (M : List Addr) (H : Hp) : Frm M H H := fun _ _ h _ => h
theorem Frm.trans {M : List Addr} {H H1 H2 : Hp} (a : Frm M H H1) (b : Frm M H1 H2) : Frm M H H2 := fun x o h n => b x o (a x o h n) n
theorem Frm.mono {M N : List Addr} {H H' : Hp} (h : ∀ x ∈ M, x ∈ N) (a : Frm M H H') : Frm N H H' := fun x o e n => a x o e fun z => n (h x z)
theorem Frm.of {M : List Addr} {H H' : Hp} (e : Ex H H') : Frm M H H' := fun x o h _ => e x o h
theorem Frm.upd {M : List Addr} {H : Hp} {a : Addr} {o : HO} (h : a ∈ M) : Frm M H (L2.upd H a o) := fun x u e n => by
  rw [upd_ne fun z => n (by rw [z]; exact h)]
  exact e
theorem Frm.ex {M : List Addr} {H H1 H2 : Hp} (e : Ex H H1) (h : ∀ b ∈ M, H b = none) (f : Frm M H1 H2) : Ex H H2 := fun b o hb => f b o (e b o hb) fun z => by
  rw [h b z] at hb
  cases hb
/-- nothing in M is fixed -/
theorem Frm.fix {M : List Addr} {H H' : Hp} (f : Frm M H H') (h : ∀ b ∈ M, ∀ o, H b = some o → fixO o = false) : Fix H H' := fun b o hb fo => f b o hb fun z => by
  rw [h b z o hb] at fo
  cases fo
end Sk
namespace Sk
open PySem L2 Evl Sc
/-! ### calls of methods, fields, stores -/
section
variable {K : PySem.W.Frag} {σ : L2.St} {H : Hp} {ta tb te : TE} {t : TA} {v z : V} {P : V → Hp → Prop} {D : Ends} {tz : TS} {C : Addr} {m : Str} {sp : Sp} {dvs vs : List V} {E : XK} {a dx : Addr} {fs : List (Str × V)}
theorem ev_meth (h : Ev ta σ H (.ref a)) (ho : H a = some (.ins C dx fs)) (hl : fs.lookup m = none) (ha : EvA t σ H vs) (hs : SpV sp (.ref a :: (vs ++ dvs)) H z) : Ev (tMeth C m sp dvs E ta t) σ H z := fun H1 e Q q =>
  h H1 e _ fun H2 e2 => ⟨a, dx, fs, rfl, (e.trans e2) a _ ho, hl, ha H2 (e.trans e2) _ fun H3 e3 => hs H3 ((e.trans e2).trans e3) Q (fun H4 e4 => q H4 ((e2.trans e3).trans e4)) E⟩
theorem el_meth {xs : List V} (h : Ev ta σ H (.ref a)) (ho : H a = some (.ins C dx fs)) (hl : fs.lookup m = none) (ha : EvA t σ H vs) (hs : SpL sp (.ref a :: (vs ++ dvs)) H xs) : EvL (tMeth C m sp dvs E ta t) σ H xs := fun H1 e Q q =>
  h H1 e _ fun H2 e2 => ⟨a, dx, fs, rfl, (e.trans e2) a _ ho, hl, ha H2 (e.trans e2) _ fun H3 e3 => hs H3 ((e.trans e2).trans e3) Q (fun p H4 hp e4 h4 => q p H4 (fresh_back (e2.trans e3) hp) ((e2.trans e3).trans e4) h4) E⟩
theorem evd_meth (h : Ev ta σ H (.ref a)) (ho : H a = some (.ins C dx fs)) (hl : fs.lookup m = none) (ha : EvAD t σ H fun vs H1 => SpD sp (.ref a :: (vs ++ dvs)) H1 P) : EvD (tMeth C m sp dvs E ta t) σ H P := fun H1 e Q q =>
  h H1 e _ fun H2 e2 => ⟨a, dx, fs, rfl, (e.trans e2) a _ ho, hl, ha H2 (e.trans e2) _ fun vs H3 e3 hs => hs Q (fun v H4 e4 p4 => q v H4 ((e2.trans e3).trans e4) p4) E⟩
/-- a call that writes -/
theorem s_mut (h : Ev ta σ H (.ref a)) (ho : H a = some (.ins C dx fs)) (hl : fs.lookup m = none) (ha : EvA t σ H vs) (k : ∀ H1, Ex H H1 → sp (.ref a :: (vs ++ dvs)) H1 (fun _ H2 => D.nx σ H2) E) : tDrop (tMeth C m sp dvs E ta t) D σ H :=
  h H (Ex.refl H) _ fun H2 e2 => ⟨a, dx, fs, rfl, e2 a _ ho, hl, ha H2 e2 _ fun H3 e3 => k H3 (e2.trans e3)⟩
theorem q_mut (h : Ev ta σ H (.ref a)) (ho : H a = some (.ins C dx fs)) (hl : fs.lookup m = none) (ha : EvA t σ H vs) (k : ∀ H1, Ex H H1 → sp (.ref a :: (vs ++ dvs)) H1 (fun _ H2 => tz D σ H2) E) : tSeq (tDrop (tMeth C m sp dvs E ta t)) tz D σ H :=
  s_mut (D := { D with nx := tz D }) h ho hl ha k
theorem s_fld {f : Str} (h : Ev ta σ H (.ref a)) (ho : H a = some (.ins C dx fs)) (hc : Cls K C) (hn : NoAttr K C f) (hz : fs.length < 1000) (hv : Ev te σ H v) (k : ∀ H1, Ex H H1 → D.nx σ (upd H1 a (.ins C dx (putF f v fs)))) : sFld K ta te f D σ H :=
  hv H (Ex.refl H) _ fun H1 e1 => h H1 e1 _ fun H2 e2 => ⟨a, C, dx, fs, rfl, (e1.trans e2) a _ ho, hc, hn, hz, k H2 (e1.trans e2)⟩
theorem q_fld {f : Str} (h : Ev ta σ H (.ref a)) (ho : H a = some (.ins C dx fs)) (hc : Cls K C) (hn : NoAttr K C f) (hz : fs.length < 1000) (hv : Ev te σ H v) (k : ∀ H1, Ex H H1 → tz D σ (upd H1 a (.ins C dx (putF f v fs)))) : tSeq (sFld K ta te f) tz D σ H :=
  s_fld (D := { D with nx := tz D }) h ho hc hn hz hv k
theorem s_fldD {f : Str} (ho : H a = some (.ins C dx fs)) (hc : Cls K C) (hn : NoAttr K C f) (hz : fs.length < 1000) (h : Ev ta σ H (.ref a)) (hv : EvD te σ H P) (hk : ∀ v H1 H2, Ex H1 H2 → P v H1 → P v H2) (k : ∀ v H1, Ex H H1 → P v H1 → D.nx σ (upd H1 a (.ins C dx (putF f v fs)))) : sFld K ta te f D σ H :=
  hv H (Ex.refl H) _ fun v H1 e1 p1 => h H1 e1 _ fun H2 e2 => ⟨a, C, dx, fs, rfl, (e1.trans e2) a _ ho, hc, hn, hz, k v H2 (e1.trans e2) (hk v H1 H2 e2 p1)⟩
theorem q_fldD {f : Str} (ho : H a = some (.ins C dx fs)) (hc : Cls K C) (hn : NoAttr K C f) (hz : fs.length < 1000) (h : Ev ta σ H (.ref a)) (hv : EvD te σ H P) (hk : ∀ v H1 H2, Ex H1 H2 → P v H1 → P v H2) (k : ∀ v H1, Ex H H1 → P v H1 → tz D σ (upd H1 a (.ins C dx (putF f v fs)))) : tSeq (sFld K ta te f) tz D σ H :=
  s_fldD (D := { D with nx := tz D }) ho hc hn hz h hv hk k
/-- o[i] = e -/
theorem s_sub {p : Addr} {xs : List V} {j : Nat} (hp : H p = some (.lst xs)) (ho : Ev ta σ H (.ref p)) (hi : Ev tb σ H (nV j)) (hj : j < xs.length) (hv : Ev te σ H v) (k : ∀ H1, Ex H H1 → D.nx σ (upd H1 p (.lst (xs.set j v)))) : tAsg te (gSub ta tb rSetL) D σ H :=
  hv H (Ex.refl H) _ fun H1 e1 => ho H1 e1 _ fun H2 e2 => hi H2 (e1.trans e2) _ fun H3 e3 => ⟨p, xs, (j : Int), j, rfl, rfl, ((e1.trans e2).trans e3) p _ hp, ixN_nat hj, k H3 ((e1.trans e2).trans e3)⟩
theorem q_sub {p : Addr} {xs : List V} {j : Nat} (hp : H p = some (.lst xs)) (ho : Ev ta σ H (.ref p)) (hi : Ev tb σ H (nV j)) (hj : j < xs.length) (hv : Ev te σ H v) (k : ∀ H1, Ex H H1 → tz D σ (upd H1 p (.lst (xs.set j v)))) : tSeq (tAsg te (gSub ta tb rSetL)) tz D σ H :=
  s_sub (D := { D with nx := tz D }) hp ho hi hj hv k
end

/-! ### a cue -/
def upE : Option (Nat × Nat × Nat) → Int → V → V → Prop
  | none, ev, _, _ => ev = -1
  | some (e, c, d), ev, l, w => ev = (e : Int) ∧ l = nV c ∧ w = nV d
def cueF (m : Addr) (ev : Int) (l w : V) : List (Str × V) := [("moves", .ref m), ("event", .int ev), ("leader", l), ("delay", w)]
def MvV (K : PySem.W.Frag) (H : Hp) (m : Addr) (l : List (Nat × Nat)) : Prop := ∃ xs, SqT K H m xs ∧ All2 (PrV K H) xs l
def CueV : PR Sy90.Cue := fun K H v c => ∃ a dx m ev l w, v = .ref a ∧ H a = some (.ins (He.ga K "Cue") dx (cueF m ev l w)) ∧ MvV K H m c.moves ∧ upE c.upon ev l w
theorem mvV_fix {K : PySem.W.Frag} {H H' : Hp} {m : Addr} {l : List (Nat × Nat)} (e : Fix H H') (h : MvV K H m l) : MvV K H' m l := by
  obtain ⟨xs, h1, h2⟩ := h
  exact ⟨xs, fix_t e h1, all2_st prV_st e h2⟩
theorem cueV_st : Stab CueV := fun K H H' v c e h => by
  obtain ⟨a, dx, m, ev, l, w, rfl, ho, hm, hu⟩ := h
  exact ⟨a, dx, m, ev, l, w, rfl, e a _ ho (by show (decide ("moves" = ("moves" : Str)) && _) = true; simp), mvV_fix e hm, hu⟩

/-! ### a stage -/
structure Adr where
  a : Addr
  dx : Addr
  p : Addr
  t : Addr
  h : Addr
  r : Addr
  q : Addr
  c : Addr
  s : Addr
  e : Addr
def Adr.all (A : Adr) : List Addr := [A.a, A.p, A.t, A.h, A.r, A.q, A.c, A.s, A.e]
def byV : Option Nat → V
  | none => .int (-1)
  | some k => nV k
def stgF (A : Adr) (n : Nat) : List (Str × V) := [("positions", .ref A.p), ("targets", .ref A.t), ("holders", .ref A.h), ("ropes", .ref A.r), ("pairs", .ref A.q), ("cues", .ref A.c), ("starts", .ref A.s), ("ends", .ref A.e), ("now", nV n)]
structure StgAt (K : PySem.W.Frag) (H : Hp) (A : Adr) (s : Sy90.St) (r : List (Nat × Nat)) : Prop where
  o : H A.a = some (.ins (He.ga K "Stage") A.dx (stgF A s.second))
  fp : H A.p = some (.lst ((Sy90.marks s).map nV))
  ft : H A.t = some (.lst ((aims s).map nV))
  fh : H A.h = some (.lst (s.things.map fun x => byV x.by_))
  fr : LsAt PrV K H A.r r
  fq : LsAt TrV K H A.q s.pairs
  fc : LsAt CueV K H A.c s.cues
  fs : H A.s = some (.lst (s.started.map opV))
  fe : H A.e = some (.lst (s.done.map opV))
  nd : A.all.Nodup
section
variable {K : PySem.W.Frag} {H H' : Hp} {A : Adr} {s : Sy90.St} {r : List (Nat × Nat)}
theorem lsAt_keep {α : Type} {R : PR α} (hR : Stab R) {a : Addr} {ds : List α} (f : Fix H H') (e : ∀ o, H a = some o → H' a = some o) (h : LsAt R K H a ds) : LsAt R K H' a ds := by
  obtain ⟨xs, h1, h2⟩ := h
  exact ⟨xs, e _ h1, all2_st hR f h2⟩
theorem StgAt.keep (S : StgAt K H A s r) (f : Fix H H') (k : ∀ b ∈ A.all, ∀ o, H b = some o → H' b = some o) : StgAt K H' A s r where
  o := k _ (by simp [Adr.all]) _ S.o
  fp := k _ (by simp [Adr.all]) _ S.fp
  ft := k _ (by simp [Adr.all]) _ S.ft
  fh := k _ (by simp [Adr.all]) _ S.fh
  fr := lsAt_keep prV_st f (k _ (by simp [Adr.all])) S.fr
  fq := lsAt_keep trV_st f (k _ (by simp [Adr.all])) S.fq
  fc := lsAt_keep cueV_st f (k _ (by simp [Adr.all])) S.fc
  fs := k _ (by simp [Adr.all]) _ S.fs
  fe := k _ (by simp [Adr.all]) _ S.fe
  nd := S.nd
theorem StgAt.x (S : StgAt K H A s r) (e : Ex H H') : StgAt K H' A s r := S.keep (Fix.of e) fun b _ o h => e b o h
/-- its own objects are written -/
theorem StgAt.loose (S : StgAt K H A s r) : ∀ b ∈ A.all, ∀ o, H b = some o → fixO o = false := by
  have hl : ∀ {b : Addr} {xs : List V} {o : HO}, H b = some (.lst xs) → H b = some o → fixO o = false := fun h1 h2 => by
    rw [h1] at h2
    cases h2
    rfl
  intro b hb o ho
  simp only [Adr.all, List.mem_cons, List.not_mem_nil, or_false] at hb
  rcases hb with rfl | rfl | rfl | rfl | rfl | rfl | rfl | rfl | rfl
  · rw [S.o] at ho
    cases ho
    rfl
  · exact hl S.fp ho
  · exact hl S.ft ho
  · exact hl S.fh ho
  · exact hl S.fr.choose_spec.1 ho
  · exact hl S.fq.choose_spec.1 ho
  · exact hl S.fc.choose_spec.1 ho
  · exact hl S.fs ho
  · exact hl S.fe ho
/-- a stage elsewhere stands -/
theorem StgAt.off {M : List Addr} (S : StgAt K H A s r) (f : Frm M H H') (fx : Fix H H') (d : ∀ b ∈ A.all, b ∉ M) : StgAt K H' A s r := S.keep fx fun b hb o ho => f b o ho (d b hb)
end
end Sk
namespace Sk
open PySem L2 Evl Sc
theorem el_is {te : TE} {σ : L2.St} {H : Hp} {xs ys : List V} (h : EvL te σ H xs) (e : xs = ys) : EvL te σ H ys := e ▸ h
/-! ### the stage's fields -/
section
variable {K : PySem.W.Frag} {mg : Str → Option Value} {H : Hp} {A : Adr} {s : Sy90.St} {r : List (Nat × Nat)} {σ : L2.St} {ta te : TE}
theorem ev_p (T : Tx K mg) (S : StgAt K H A s r) (h : Ev ta σ H (.ref A.a)) : Ev (tFld K ta "positions") σ H (.ref A.p) := ev_fld h S.o T.c_Stage T.n_Stage_positions rfl
theorem ev_t (T : Tx K mg) (S : StgAt K H A s r) (h : Ev ta σ H (.ref A.a)) : Ev (tFld K ta "targets") σ H (.ref A.t) := ev_fld h S.o T.c_Stage T.n_Stage_targets rfl
theorem ev_h (T : Tx K mg) (S : StgAt K H A s r) (h : Ev ta σ H (.ref A.a)) : Ev (tFld K ta "holders") σ H (.ref A.h) := ev_fld h S.o T.c_Stage T.n_Stage_holders rfl
theorem ev_r (T : Tx K mg) (S : StgAt K H A s r) (h : Ev ta σ H (.ref A.a)) : Ev (tFld K ta "ropes") σ H (.ref A.r) := ev_fld h S.o T.c_Stage T.n_Stage_ropes rfl
theorem ev_q (T : Tx K mg) (S : StgAt K H A s r) (h : Ev ta σ H (.ref A.a)) : Ev (tFld K ta "pairs") σ H (.ref A.q) := ev_fld h S.o T.c_Stage T.n_Stage_pairs rfl
theorem ev_cs (T : Tx K mg) (S : StgAt K H A s r) (h : Ev ta σ H (.ref A.a)) : Ev (tFld K ta "cues") σ H (.ref A.c) := ev_fld h S.o T.c_Stage T.n_Stage_cues rfl
theorem ev_ss (T : Tx K mg) (S : StgAt K H A s r) (h : Ev ta σ H (.ref A.a)) : Ev (tFld K ta "starts") σ H (.ref A.s) := ev_fld h S.o T.c_Stage T.n_Stage_starts rfl
theorem ev_es (T : Tx K mg) (S : StgAt K H A s r) (h : Ev ta σ H (.ref A.a)) : Ev (tFld K ta "ends") σ H (.ref A.e) := ev_fld h S.o T.c_Stage T.n_Stage_ends rfl
theorem ev_now (T : Tx K mg) (S : StgAt K H A s r) (h : Ev ta σ H (.ref A.a)) : Ev (tFld K ta "now") σ H (nV s.second) := ev_fld h S.o T.c_Stage T.n_Stage_now rfl
theorem el_rg1 {n : Nat} (h : Ev te σ H (nV n)) (hz : n ≤ 100000) : EvL (tLstRg (tRg1 te)) σ H ((List.range n).map nV) := fun H1 e Q q => h H1 e _ fun H2 e2 => ⟨(n : Int), rfl, RgOk.of_le (by omega) (by omega) (by omega) (by omega), fun p hp => q p _ (fresh_back e2 hp) (e2.trans (Ex.new hp)) (by
  rw [upd_same]
  congr 2
  unfold rgV
  rw [show ((n : Int) - 0).toNat = n by omega]
  exact List.map_congr_left fun i _ => congrArg V.int (by omega))⟩
/-- the sizes of a stage, and its cues -/
structure Sz (s : Sy90.St) : Prop where
  n4 : s.things.length ≤ 4
  c5 : s.cues.length ≤ 5
  ls : s.started.length = s.cues.length
  ld : s.done.length = s.cues.length
  cues : ∀ k, k < s.cues.length → CueOk s.things.length k (Sy90.cue s k)
theorem _root_.Sc.Wf.sz (W : Wf s) : Sz s := ⟨W.n4, W.c5, W.ls, W.ld, W.cues⟩
theorem at_opt {l : List (Option Nat)} {k : Nat} (h : k < l.length) : atI (l.map opV) ((k : Nat) : Int) = some (opV (l.getD k none)) := atI_nat (by
  rw [List.getElem?_map, at_getD none h]
  rfl)
theorem at_mark {k : Nat} (h : k < s.things.length) : atI ((Sy90.marks s).map nV) ((k : Nat) : Int) = some (nV (Sy90.thing s k).mark) := by
  have := nums_at (ns := Sy90.marks s) (i := k) (by rw [marks_len]; exact h)
  rw [marks_at] at this
  exact atI_nat this
theorem at_aim {k : Nat} (h : k < s.things.length) : atI ((aims s).map nV) ((k : Nat) : Int) = some (nV (Sy90.thing s k).aim) := by
  have := nums_at (ns := aims s) (i := k) (by rw [aims_len]; exact h)
  rw [aims_at] at this
  exact atI_nat this
theorem at_by {k : Nat} (h : k < s.things.length) : atI (s.things.map fun x => byV x.by_) ((k : Nat) : Int) = some (byV (Sy90.thing s k).by_) := atI_nat (by
  rw [List.getElem?_map, at_getD ⟨0, 0, none⟩ h]
  rfl)
theorem isN_op {o : Option Nat} : decide (opV o = .non) = o.isNone := by cases o <;> rfl
theorem count_range {α : Type} (l : List α) (d : α) (p : α → Bool) : ((List.range l.length).filter fun i => p (l.getD i d)).length = (l.filter p).length := by
  have := map_getD l d fun x => x
  rw [List.map_id''] at this
  · conv => rhs; rw [← this]
    rw [List.filter_map, List.length_map]
    rfl
  · exact fun _ => rfl
end

/-! ### bars -/
def sp_Stage_bars (K : PySem.W.Frag) : Sp := fun vs H Q _ => ∃ (A : Adr) (s : Sy90.St) (r : List (Nat × Nat)), vs = [.ref A.a] ∧ StgAt K H A s r ∧ s.things.length ≤ 4 ∧ RetL ((List.range s.things.length).map nV) H Q
theorem sl_Stage_bars {K : PySem.W.Frag} {vs : List V} {H : Hp} {Q : VK} {E : XK} (h : sp_Stage_bars K vs H Q E) : vs.length = 1 := by
  obtain ⟨_, _, _, rfl, _⟩ := h
  rfl
def t_Stage_bars (K : PySem.W.Frag) : TS :=
  (tRet (tLstRg (tRg1 (tCB (rLenS K) (tCons (tFld K (tVar 0) "positions") tNil)))))
theorem pure_Stage_bars {K : PySem.W.Frag} {mg : Str → Option Value} (T : Tx K mg) (vs : List V) (H : Hp) (Q : VK) (E : XK) (h : sp_Stage_bars K vs H Q E) : t_Stage_bars K { nx := fun _ H' => Q .non H', rt := Q } (start N_Stage_bars vs) H := by
  obtain ⟨A, s, r, rfl, S, n4, k⟩ := h
  refine s_retL (el_rg1 (n := s.things.length) (ev_is (ev_cb (ea_cons (ev_p T S (ev_var rfl)) ea_nil) (rc_len (Or.inl (sq_of S.fp)))) ?_) (by omega)) k
  rw [List.length_map, marks_len]
theorem ok_Stage_bars {P : Program} {w : World} {K : PySem.W.Frag} {mg : Str → Option Value} {base : Heap} (T : Tx K mg) : MethE P w K mg base CX0 1 "Stage" "bars" ["self"] (sp_Stage_bars K) := by
  obtain ⟨fd, F⟩ := T.d_Stage_bars
  have bd : Binds K fd ["self"] [] := F.bindsN fun _ _ _ _ _ _ us hl => match us, hl with | [_], _ => rfl
  have G : FnOk P w K mg base CX0 1 (He.ma K (He.ga K "Stage") "bars") fd ["self"] (sp_Stage_bars K) := by
    refine F.ok sc_Stage_bars (fun vs H Q E h => sl_Stage_bars h) (fun cdv A outer s H vs Q E hr h => ⟨t_Stage_bars K, PSs.nox ?_, pure_Stage_bars T vs H Q E h⟩)
    exact (pss_one (ps_ret (pe_listRg rfl rfl T.f_list (prg_1 rfl T.f_range (pe_callB cLen rfl T.f_len bLen (pa_cons (pe_fld (pv 0) rfl) pa_nil))))))
  exact MethE.mk ⟨fd, G, bd⟩ T.c_Stage T.e_Stage_bars
theorem spl_Stage_bars {K : PySem.W.Frag} {H : Hp} {A : Adr} {s : Sy90.St} {r : List (Nat × Nat)} (S : StgAt K H A s r) (n4 : s.things.length ≤ 4) : SpL (sp_Stage_bars K) [.ref A.a] H ((List.range s.things.length).map nV) := fun H1 e Q q E => ⟨A, s, r, rfl, S.x e, n4, fun p H2 hp e2 h2 => q p H2 hp e2 h2⟩
theorem el_bars {K : PySem.W.Frag} {H : Hp} {A : Adr} {s : Sy90.St} {r : List (Nat × Nat)} {σ : L2.St} {ta : TE} {E : XK} (S : StgAt K H A s r) (n4 : s.things.length ≤ 4) (h : Ev ta σ H (.ref A.a)) : EvL (tMeth (He.ga K "Stage") "bars" (sp_Stage_bars K) [] E ta tNil) σ H ((List.range s.things.length).map nV) :=
  el_meth h S.o rfl ea_nil (spl_Stage_bars S n4)

/-! ### has_started -/
def sp_Stage_has_started (K : PySem.W.Frag) : Sp := fun vs H Q _ => ∃ (A : Adr) (s : Sy90.St) (r : List (Nat × Nat)) (k : Nat), vs = [.ref A.a, nV k] ∧ StgAt K H A s r ∧ k < s.started.length ∧ RetV (.bl (Sy90.startOf s k).isSome) H Q
theorem sl_Stage_has_started {K : PySem.W.Frag} {vs : List V} {H : Hp} {Q : VK} {E : XK} (h : sp_Stage_has_started K vs H Q E) : vs.length = 2 := by
  obtain ⟨_, _, _, _, rfl, _⟩ := h
  rfl
def t_Stage_has_started (K : PySem.W.Frag) : TS :=
  (tRet (tOp rNotN (tOp (rIxL K) (tFld K (tVar 0) "starts") (tVar 1)) (tC .non)))
theorem pure_Stage_has_started {K : PySem.W.Frag} {mg : Str → Option Value} (T : Tx K mg) (vs : List V) (H : Hp) (Q : VK) (E : XK) (h : sp_Stage_has_started K vs H Q E) : t_Stage_has_started K { nx := fun _ H' => Q .non H', rt := Q } (start N_Stage_has_started vs) H := by
  obtain ⟨A, s, r, i, rfl, S, hi, k⟩ := h
  refine s_ret (ev_is (ev_op (ev_op (ev_ss T S (ev_var rfl)) (ev_var rfl) (rv_ixL (sq_of S.fs) (at_opt hi))) ev_c rv_notN) (congrArg V.bl ?_)) fun H1 e1 => k H1 e1
  rw [isN_op]
  exact Option.not_isNone _
theorem ok_Stage_has_started {P : Program} {w : World} {K : PySem.W.Frag} {mg : Str → Option Value} {base : Heap} (T : Tx K mg) : MethE P w K mg base CX0 1 "Stage" "has_started" ["self", "number"] (sp_Stage_has_started K) := by
  obtain ⟨fd, F⟩ := T.d_Stage_has_started
  have bd : Binds K fd ["self", "number"] [] := F.bindsN fun _ _ _ _ _ _ us hl => match us, hl with | [_, _], _ => rfl
  have G : FnOk P w K mg base CX0 1 (He.ma K (He.ga K "Stage") "has_started") fd ["self", "number"] (sp_Stage_has_started K) := by
    refine F.ok sc_Stage_has_started (fun vs H Q E h => sl_Stage_has_started h) (fun cdv A outer s H vs Q E hr h => ⟨t_Stage_has_started K, PSs.nox ?_, pure_Stage_has_started T vs H Q E h⟩)
    exact (pss_one (ps_ret (pe_cmpR oNotN (pe_ix ix_list (pe_fld (pv 0) rfl) (pv 1) (fun _ _ => rfl)) pe_non (nomark _))))
  exact MethE.mk ⟨fd, G, bd⟩ T.c_Stage T.e_Stage_has_started
theorem ev_started {K : PySem.W.Frag} {H : Hp} {A : Adr} {s : Sy90.St} {r : List (Nat × Nat)} {σ : L2.St} {ta tb : TE} {E : XK} {k : Nat} (S : StgAt K H A s r) (h : Ev ta σ H (.ref A.a)) (hb : Ev tb σ H (nV k)) (hk : k < s.started.length) :
    Ev (tMeth (He.ga K "Stage") "has_started" (sp_Stage_has_started K) [] E ta (tCons tb tNil)) σ H (.bl (Sy90.startOf s k).isSome) :=
  ev_meth h S.o rfl (ea_cons hb ea_nil) fun H1 e Q q E => ⟨A, s, r, k, rfl, S.x e, hk, q⟩

/-! ### many_started -/
def sp_Stage_many_started (K : PySem.W.Frag) : Sp := fun vs H Q _ => ∃ (A : Adr) (s : Sy90.St) (r : List (Nat × Nat)), vs = [.ref A.a] ∧ StgAt K H A s r ∧ Sz s ∧ RetV (nV (Sy90.count s.started)) H Q
theorem sl_Stage_many_started {K : PySem.W.Frag} {vs : List V} {H : Hp} {Q : VK} {E : XK} (h : sp_Stage_many_started K vs H Q E) : vs.length = 1 := by
  obtain ⟨_, _, _, rfl, _⟩ := h
  rfl
def t_Stage_many_started (K : PySem.W.Frag) : TS :=
  (tRet (tCB (rLenS K) (tCons (tLc (iList K (tFld K (tVar 0) "starts")) (gName 1) (tTest (tOp rNotN (tVar 1) (tC .non))) (tVar 1) [1]) tNil)))
theorem pure_Stage_many_started {K : PySem.W.Frag} {mg : Str → Option Value} (T : Tx K mg) (vs : List V) (H : Hp) (Q : VK) (E : XK) (h : sp_Stage_many_started K vs H Q E) : t_Stage_many_started K { nx := fun _ H' => Q .non H', rt := Q } (start N_Stage_many_started vs) H := by
  obtain ⟨A, s, r, rfl, S, z, k⟩ := h
  refine s_ret (ev_is (ev_lenN (el_lcL (fun i => (s.started.getD i none).isSome) (fun i => opV (s.started.getD i none)) (ev_ss T S (ev_var rfl)) (sq_of S.fs) (by rw [List.length_map, z.ls]; have := z.c5; omega) (fun _ => rfl) ?_ ?_)) ?_) fun H1 e1 => k H1 e1
  · intro i x H1 e1 hx
    have hi : i < s.started.length := by
      have := (List.getElem?_eq_some_iff.mp hx).1
      rw [List.length_map] at this
      exact this
    rw [List.getElem?_map, at_getD none hi] at hx
    cases hx
    refine et_is (et_test (ev_op (ev_var rfl) ev_c rv_notN)) ?_
    rw [isN_op]
    exact Option.not_isNone _
  · intro i x H1 e1 hx _
    have hi : i < s.started.length := by
      have := (List.getElem?_eq_some_iff.mp hx).1
      rw [List.length_map] at this
      exact this
    rw [List.getElem?_map, at_getD none hi] at hx
    cases hx
    exact ev_var rfl
  · refine congrArg (fun n : Nat => nV n) ?_
    unfold given Sy90.count
    rw [List.length_map, List.length_map, count_range s.started none fun x => x.isSome]
theorem ok_Stage_many_started {P : Program} {w : World} {K : PySem.W.Frag} {mg : Str → Option Value} {base : Heap} (T : Tx K mg) : MethE P w K mg base CX0 1 "Stage" "many_started" ["self"] (sp_Stage_many_started K) := by
  obtain ⟨fd, F⟩ := T.d_Stage_many_started
  have bd : Binds K fd ["self"] [] := F.bindsN fun _ _ _ _ _ _ us hl => match us, hl with | [_], _ => rfl
  have G : FnOk P w K mg base CX0 1 (He.ma K (He.ga K "Stage") "many_started") fd ["self"] (sp_Stage_many_started K) := by
    refine F.ok sc_Stage_many_started (fun vs H Q E h => sl_Stage_many_started h) (fun cdv A outer s H vs Q E hr h => ⟨t_Stage_many_started K, PSs.nox ?_, pure_Stage_many_started T vs H Q E h⟩)
    exact (pss_one (ps_ret (pe_callB cLen rfl T.f_len bLen (pa_cons (pe_lc (own := [("second", 1)]) (g := (gName 1)) (tt := (tTest (tOp rNotN (tVar 1) (tC .non)))) (te := (tVar 1)) rfl sc_Stage_many_started.nd (pi_list (pe_fld (pv 0) rfl)) (blkOk_by (N := N_Stage_many_started) (sc := defScope s_Stage_many_started) (by decide +kernel)) (fun _ _ _ _ _ => (pg_name (i := 1) sc_Stage_many_started.nd rfl (by first | exact Or.inl rfl | exact Or.inr rfl))) (fun _ _ _ _ _ => (pts_one (pt_cmpR oNotN (pv 1) pe_non (nomark _)))) (fun _ _ _ _ _ => (pv 1))) pa_nil))))
  exact MethE.mk ⟨fd, G, bd⟩ T.c_Stage T.e_Stage_many_started
theorem ev_many_started {K : PySem.W.Frag} {H : Hp} {A : Adr} {s : Sy90.St} {r : List (Nat × Nat)} {σ : L2.St} {ta : TE} {E : XK} (S : StgAt K H A s r) (z : Sz s) (h : Ev ta σ H (.ref A.a)) :
    Ev (tMeth (He.ga K "Stage") "many_started" (sp_Stage_many_started K) [] E ta tNil) σ H (nV (Sy90.count s.started)) := ev_meth h S.o rfl ea_nil fun H1 e Q q E => ⟨A, s, r, rfl, S.x e, z, q⟩

/-! ### many_moving -/
def sp_Stage_many_moving (K : PySem.W.Frag) : Sp := fun vs H Q _ => ∃ (A : Adr) (s : Sy90.St) (r : List (Nat × Nat)), vs = [.ref A.a] ∧ StgAt K H A s r ∧ Sz s ∧ RetV (nV (s.things.filter Sy90.moving).length) H Q
theorem sl_Stage_many_moving {K : PySem.W.Frag} {vs : List V} {H : Hp} {Q : VK} {E : XK} (h : sp_Stage_many_moving K vs H Q E) : vs.length = 1 := by
  obtain ⟨_, _, _, rfl, _⟩ := h
  rfl
def t_Stage_many_moving (K : PySem.W.Frag) : TS :=
  (tRet (tCB (rLenS K) (tCons (tLc (iList K (tMeth (He.ga K "Stage") "bars" (sp_Stage_bars K) [] E0 (tVar 0) tNil)) (gName 1) (tTest (tOp rNe (tOp (rIxL K) (tFld K (tVar 0) "positions") (tVar 1)) (tOp (rIxL K) (tFld K (tVar 0) "targets") (tVar 1)))) (tVar 1) [1]) tNil)))
theorem range_nV {n i : Nat} {x : V} (h : ((List.range n).map nV)[i]? = some x) : i < n ∧ x = nV i := by
  have hi := (List.getElem?_eq_some_iff.mp h).1
  rw [List.length_map, List.length_range] at hi
  rw [List.getElem?_map, List.getElem?_range hi] at h
  exact ⟨hi, (Option.some.inj h).symm⟩
theorem pure_Stage_many_moving {K : PySem.W.Frag} {mg : Str → Option Value} (T : Tx K mg) (vs : List V) (H : Hp) (Q : VK) (E : XK) (h : sp_Stage_many_moving K vs H Q E) : t_Stage_many_moving K { nx := fun _ H' => Q .non H', rt := Q } (start N_Stage_many_moving vs) H := by
  obtain ⟨A, s, r, rfl, S, z, k⟩ := h
  have n4 := z.n4
  refine s_ret (ev_is (ev_lenN (el_lcNL (fun b => decide ((Sy90.marks s).getD b 0 ≠ (aims s).getD b 0)) nV (el_bars S n4 (ev_var rfl)) (by rw [List.length_map, List.length_range]; omega) (fun _ => rfl) ?_ ?_)) ?_) fun H1 e1 => k H1 e1
  · intro i x H1 e1 hx
    obtain ⟨hi, rfl⟩ := range_nV hx
    have S1 := S.x e1
    refine et_is (et_test (ev_op (ev_op (ev_p T S1 (ev_var rfl)) (ev_var rfl) (rv_ixL (sq_of S1.fp) (at_mark hi))) (ev_op (ev_t T S1 (ev_var rfl)) (ev_var rfl) (rv_ixL (sq_of S1.ft) (at_aim hi))) (rv_ne rfl))) ?_
    rw [marks_at, aims_at, ← decide_not]
    exact decide_eq_decide.mpr (not_congr ⟨fun h => by have := V.int.inj h; omega, fun h => by rw [h]⟩)
  · intro i x H1 e1 hx _
    obtain ⟨hi, rfl⟩ := range_nV hx
    exact ev_var rfl
  · refine congrArg (fun n : Nat => nV n) ?_
    rw [many_moving]
    unfold given
    rw [List.length_map, List.length_map, List.length_range]
theorem ok_Stage_many_moving {P : Program} {w : World} {K : PySem.W.Frag} {mg : Str → Option Value} {base : Heap} (T : Tx K mg) (D_Stage_bars : MethE P w K mg base (CX0) 1 "Stage" "bars" ["self"] (sp_Stage_bars K)) : MethE P w K mg base CX0 2 "Stage" "many_moving" ["self"] (sp_Stage_many_moving K) := by
  obtain ⟨fd, F⟩ := T.d_Stage_many_moving
  have bd : Binds K fd ["self"] [] := F.bindsN fun _ _ _ _ _ _ us hl => match us, hl with | [_], _ => rfl
  have G : FnOk P w K mg base CX0 2 (He.ma K (He.ga K "Stage") "many_moving") fd ["self"] (sp_Stage_many_moving K) := by
    refine F.ok sc_Stage_many_moving (fun vs H Q E h => sl_Stage_many_moving h) (fun cdv A outer s H vs Q E hr h => ⟨t_Stage_many_moving K, PSs.nox ?_, pure_Stage_many_moving T vs H Q E h⟩)
    exact (pss_one (ps_ret (pe_callB cLen rfl T.f_len bLen (pa_cons (pe_lc (own := [("bar", 1)]) (g := (gName 1)) (tt := (tTest (tOp rNe (tOp (rIxL K) (tFld K (tVar 0) "positions") (tVar 1)) (tOp (rIxL K) (tFld K (tVar 0) "targets") (tVar 1))))) (te := (tVar 1)) rfl sc_Stage_many_moving.nd (pi_list (pe_methE0 (pv 0) D_Stage_bars (hr.mono (by decide)) pass0)) (blkOk_by (N := N_Stage_many_moving) (sc := defScope s_Stage_many_moving) (by decide +kernel)) (fun _ _ _ _ _ => (pg_name (i := 1) sc_Stage_many_moving.nd rfl (by first | exact Or.inl rfl | exact Or.inr rfl))) (fun _ _ _ _ _ => (pts_one (pt_cmpR oNe (pe_ix ix_list (pe_fld (pv 0) rfl) (pv 1) (fun _ _ => rfl)) (pe_ix ix_list (pe_fld (pv 0) rfl) (pv 1) (fun _ _ => rfl)) (nomark _)))) (fun _ _ _ _ _ => (pv 1))) pa_nil))))
  exact MethE.mk ⟨fd, G, bd⟩ T.c_Stage T.e_Stage_many_moving
theorem ev_many_moving {K : PySem.W.Frag} {H : Hp} {A : Adr} {s : Sy90.St} {r : List (Nat × Nat)} {σ : L2.St} {ta : TE} {E : XK} (S : StgAt K H A s r) (z : Sz s) (h : Ev ta σ H (.ref A.a)) :
    Ev (tMeth (He.ga K "Stage") "many_moving" (sp_Stage_many_moving K) [] E ta tNil) σ H (nV (s.things.filter Sy90.moving).length) := ev_meth h S.o rfl ea_nil fun H1 e Q q E => ⟨A, s, r, rfl, S.x e, z, q⟩

/-! ### has_reached -/
def sp_Stage_has_reached (K : PySem.W.Frag) : Sp := fun vs H Q _ => ∃ (A : Adr) (s : Sy90.St) (r : List (Nat × Nat)) (k : Nat), vs = [.ref A.a, nV k] ∧ StgAt K H A s r ∧ Sz s ∧ RetV (.bl (reached s k)) H Q
theorem sl_Stage_has_reached {K : PySem.W.Frag} {vs : List V} {H : Hp} {Q : VK} {E : XK} (h : sp_Stage_has_reached K vs H Q E) : vs.length = 2 := by
  obtain ⟨_, _, _, _, rfl, _⟩ := h
  rfl
def t_Stage_has_reached (K : PySem.W.Frag) : TS :=
  (tSeq (tAsg (tLc (iList K (tMeth (He.ga K "Stage") "bars" (sp_Stage_bars K) [] E0 (tVar 0) tNil)) (gName 3) (tTest (tOp rEq (tOp (rIxL K) (tFld K (tVar 0) "holders") (tVar 3)) (tVar 1))) (tVar 3) [3]) (gName 2))
  (tRet (tCB (rAll K) (tCons (tLc (iList K (tVar 2)) (gName 3) tYes (tOp rEq (tOp (rIxL K) (tFld K (tVar 0) "positions") (tVar 3)) (tOp (rIxL K) (tFld K (tVar 0) "targets") (tVar 3))) [3]) tNil))))
theorem by_is {o : Option Nat} {k : Nat} : decide (byV o = nV k) = decide (o = some k) := by
  refine decide_eq_decide.mpr ?_
  cases o with
  | none =>
    constructor
    · intro h
      have := V.int.inj h
      omega
    · intro h
      cases h
  | some n =>
    constructor
    · intro h
      have := V.int.inj h
      rw [show n = k by omega]
    · intro h
      rw [Option.some.inj h]
      rfl
theorem scal_by (o : Option Nat) (k : Nat) : scal (byV o) (nV k) = true := by cases o <;> rfl
theorem reached_eq (s : Sy90.St) (k : Nat) : reached s k = ((List.range s.things.length).filter fun b => decide ((Sy90.thing s b).by_ = some k)).all fun b => decide ((Sy90.thing s b).mark = (Sy90.thing s b).aim) := by
  unfold reached
  rw [Bool.eq_iff_iff, List.all_eq_true, List.all_eq_true]
  constructor
  · intro h b hb
    obtain ⟨h1, h2⟩ := List.mem_filter.mp hb
    have := h _ (mem_things.mpr ⟨b, List.mem_range.mp h1, rfl⟩)
    rw [of_decide_eq_true h2] at this
    unfold Sy90.moving at this
    simpa using this
  · intro h t ht
    obtain ⟨b, hb, rfl⟩ := mem_things.mp ht
    by_cases c : (Sy90.thing s b).by_ = some k
    · have := h b (List.mem_filter.mpr ⟨List.mem_range.mpr hb, decide_eq_true c⟩)
      have := of_decide_eq_true this
      unfold Sy90.moving
      simp [this]
    · simp [c]
theorem pure_Stage_has_reached {K : PySem.W.Frag} {mg : Str → Option Value} (T : Tx K mg) (vs : List V) (H : Hp) (Q : VK) (E : XK) (h : sp_Stage_has_reached K vs H Q E) : t_Stage_has_reached K { nx := fun _ H' => Q .non H', rt := Q } (start N_Stage_has_reached vs) H := by
  obtain ⟨A, s, r, i, rfl, S, z, k⟩ := h
  have n4 := z.n4
  refine q_asgL (xs := ((List.range s.things.length).filter fun b => decide ((Sy90.thing s b).by_ = some i)).map nV) (el_is (el_lcNL (fun b => decide ((Sy90.thing s b).by_ = some i)) nV (el_bars S n4 (ev_var rfl)) (by rw [List.length_map, List.length_range]; omega) (fun _ => rfl) ?_ ?_) ?_) fun p H1 hn e1 hp => ?_
  · intro j x H1 e1 hx
    obtain ⟨hi, rfl⟩ := range_nV hx
    have S1 := S.x e1
    exact et_is (et_test (ev_op (ev_op (ev_h T S1 (ev_var rfl)) (ev_var rfl) (rv_ixL (sq_of S1.fh) (at_by hi))) (ev_var rfl) (rv_eq (scal_by _ _)))) by_is
  · intro j x H1 e1 hx _
    obtain ⟨hi, rfl⟩ := range_nV hx
    exact ev_var rfl
  · unfold given
    rw [List.length_map, List.length_range]
  · refine s_ret (ev_is (ev_cbD (z := .bl (reached s i)) (evd_lcL (K := K) blV_st (fun _ => true) (fun j => decide ((Sy90.thing s (((List.range s.things.length).filter fun b => decide ((Sy90.thing s b).by_ = some i)).getD j 0)).mark = (Sy90.thing s (((List.range s.things.length).filter fun b => decide ((Sy90.thing s b).by_ = some i)).getD j 0)).aim)) (evd_of (ev_var rfl) fun H2 e2 => ⟨p, rfl, sq_of (e2 p _ hp)⟩) ?_ (fun _ => rfl) (fun _ _ _ _ _ => et_yes) ?_) ?_) rfl) fun H2 e2 => k H2 (e1.trans e2)
    · rw [List.length_map]
      have := List.length_filter_le (fun b => decide ((Sy90.thing s b).by_ = some i)) (List.range s.things.length)
      rw [List.length_range] at this
      omega
    · intro j x H2 e2 hx _
      have hj : j < ((List.range s.things.length).filter fun b => decide ((Sy90.thing s b).by_ = some i)).length := by
        have := (List.getElem?_eq_some_iff.mp hx).1
        rw [List.length_map] at this
        exact this
      rw [nums_at hj] at hx
      cases hx
      have hm := List.mem_range.mp (List.mem_filter.mp (List.mem_of_getElem? (at_getD 0 hj))).1
      have S1 := S.x (e1.trans e2)
      refine evd_of (ev_is (ev_op (ev_op (ev_p T S1 (ev_var rfl)) (ev_var rfl) (rv_ixL (sq_of S1.fp) (at_mark hm))) (ev_op (ev_t T S1 (ev_var rfl)) (ev_var rfl) (rv_ixL (sq_of S1.ft) (at_aim hm))) (rv_eq rfl)) (congrArg V.bl (decide_eq_decide.mpr ⟨fun h => by have := V.int.inj h; omega, fun h => by rw [h]⟩))) fun _ _ => rfl
    · rintro x H2 e2 ⟨q, rfl, _, zs, h6, h7⟩
      have h7 := all2_bl h7
      rw [givenD_all, List.length_map, map_getD ((List.range s.things.length).filter fun b => decide ((Sy90.thing s b).by_ = some i)) 0 fun b => decide ((Sy90.thing s b).mark = (Sy90.thing s b).aim)] at h7
      subst h7
      refine RC_is (rc_all (sq_of h6)) (congrArg V.bl ?_)
      rw [List.all_map, reached_eq]
      rfl
theorem ok_Stage_has_reached {P : Program} {w : World} {K : PySem.W.Frag} {mg : Str → Option Value} {base : Heap} (T : Tx K mg) (D_Stage_bars : MethE P w K mg base (CX0) 1 "Stage" "bars" ["self"] (sp_Stage_bars K)) : MethE P w K mg base CX0 2 "Stage" "has_reached" ["self", "number"] (sp_Stage_has_reached K) := by
  obtain ⟨fd, F⟩ := T.d_Stage_has_reached
  have bd : Binds K fd ["self", "number"] [] := F.bindsN fun _ _ _ _ _ _ us hl => match us, hl with | [_, _], _ => rfl
  have G : FnOk P w K mg base CX0 2 (He.ma K (He.ga K "Stage") "has_reached") fd ["self", "number"] (sp_Stage_has_reached K) := by
    refine F.ok sc_Stage_has_reached (fun vs H Q E h => sl_Stage_has_reached h) (fun cdv A outer s H vs Q E hr h => ⟨t_Stage_has_reached K, PSs.nox ?_, pure_Stage_has_reached T vs H Q E h⟩)
    exact (pss_cons (ps_setLc (i := 2) (own := [("bar", 3)]) (g := (gName 3)) (tt := (tTest (tOp rEq (tOp (rIxL K) (tFld K (tVar 0) "holders") (tVar 3)) (tVar 1)))) (te := (tVar 3)) rfl sc_Stage_has_reached.nd rfl rfl (sw_true rfl rfl rfl (by decide +kernel)) (pi_list (pe_methE0 (pv 0) D_Stage_bars (hr.mono (by decide)) pass0)) (blkOk_by (N := N_Stage_has_reached) (sc := defScope s_Stage_has_reached) (by decide +kernel)) (fun _ _ _ _ _ => (pg_name (i := 3) sc_Stage_has_reached.nd rfl (by first | exact Or.inl rfl | exact Or.inr rfl))) (fun _ _ _ _ _ => (pts_one (pt_cmpR oEq (pe_ix ix_list (pe_fld (pv 0) rfl) (pv 3) (fun _ _ => rfl)) (pv 1) (nomark _)))) (fun _ _ _ _ _ => (pv 3)))
  (pss_one (ps_ret (pe_callB (cr_all rfl) rfl T.f_all bAll (pa_cons (pe_lc (own := [("bar", 3)]) (g := (gName 3)) (tt := tYes) (te := (tOp rEq (tOp (rIxL K) (tFld K (tVar 0) "positions") (tVar 3)) (tOp (rIxL K) (tFld K (tVar 0) "targets") (tVar 3)))) rfl sc_Stage_has_reached.nd (pi_list (pv 2)) (blkOk_by (N := N_Stage_has_reached) (sc := defScope s_Stage_has_reached) (by decide +kernel)) (fun _ _ _ _ _ => (pg_name (i := 3) sc_Stage_has_reached.nd rfl (by first | exact Or.inl rfl | exact Or.inr rfl))) (fun _ _ _ _ _ => pts_nil) (fun _ _ _ _ _ => (pe_cmpR oEq (pe_ix ix_list (pe_fld (pv 0) rfl) (pv 3) (fun _ _ => rfl)) (pe_ix ix_list (pe_fld (pv 0) rfl) (pv 3) (fun _ _ => rfl)) (nomark _)))) pa_nil)))))
  exact MethE.mk ⟨fd, G, bd⟩ T.c_Stage T.e_Stage_has_reached
theorem ev_reached {K : PySem.W.Frag} {H : Hp} {A : Adr} {s : Sy90.St} {r : List (Nat × Nat)} {σ : L2.St} {ta tb : TE} {E : XK} {k : Nat} (S : StgAt K H A s r) (z : Sz s) (h : Ev ta σ H (.ref A.a)) (hb : Ev tb σ H (nV k)) :
    Ev (tMeth (He.ga K "Stage") "has_reached" (sp_Stage_has_reached K) [] E ta (tCons tb tNil)) σ H (.bl (reached s k)) := ev_meth h S.o rfl (ea_cons hb ea_nil) fun H1 e Q q E => ⟨A, s, r, k, rfl, S.x e, z, q⟩

/-! ### due_of -/
def sp_Stage_due_of (K : PySem.W.Frag) : Sp := fun vs H Q _ => ∃ (A : Adr) (s : Sy90.St) (r : List (Nat × Nat)) (k : Nat), vs = [.ref A.a, nV k] ∧ StgAt K H A s r ∧ Sz s ∧ k < s.cues.length ∧ RetV (opV (dueOf s k)) H Q
theorem sl_Stage_due_of {K : PySem.W.Frag} {vs : List V} {H : Hp} {Q : VK} {E : XK} (h : sp_Stage_due_of K vs H Q E) : vs.length = 2 := by
  obtain ⟨_, _, _, _, rfl, _⟩ := h
  rfl
def t_Stage_due_of (K : PySem.W.Frag) : TS :=
  (tSeq (tAsg (tOp (rIxL K) (tFld K (tVar 0) "cues") (tVar 1)) (gName 2))
  (tSeq (tIfS (tTest (tOp rEq (tFld K (tVar 2) "event") (tC (.int (-1))))) (tRet (tC .non)) tNext)
  (tSeq (tAsg (tIf (tTest (tOp rEq (tFld K (tVar 2) "event") (tC (.int 0)))) (tOp (rIxL K) (tFld K (tVar 0) "starts") (tFld K (tVar 2) "leader")) (tOp (rIxL K) (tFld K (tVar 0) "ends") (tFld K (tVar 2) "leader"))) (gName 3))
  (tRet (tIf (tTest (tOp rIsN (tVar 3) (tC .non))) (tC .non) (tOp rAddI (tVar 3) (tFld K (tVar 2) "delay")))))))
section
variable {K : PySem.W.Frag} {mg : Str → Option Value} {H : Hp} {A : Adr} {s : Sy90.St} {r : List (Nat × Nat)} {σ : L2.St} {ta tb : TE} {k : Nat} {a dx m : Addr} {ev : Int} {l w : V}
/-- the cue at a place -/
theorem cue_at (S : StgAt K H A s r) (hk : k < s.cues.length) : ∃ xs v, SqL K H A.c xs ∧ atI xs ((k : Nat) : Int) = some v ∧ CueV K H v (Sy90.cue s k) := by
  obtain ⟨xs, h1, h2⟩ := S.fc
  obtain ⟨v, h3, h4⟩ := All2.get2 h2 (List.getElem?_eq_getElem hk)
  refine ⟨xs, v, sq_of h1, atI_nat h3, ?_⟩
  have : Sy90.cue s k = s.cues[k] := by
    unfold Sy90.cue
    rw [List.getD_eq_getElem?_getD, List.getElem?_eq_getElem hk]
    rfl
  rw [this]
  exact h4
theorem ev_cue (T : Tx K mg) (S : StgAt K H A s r) (hk : k < s.cues.length) (h : Ev ta σ H (.ref A.a)) (hb : Ev tb σ H (nV k)) : ∃ v, CueV K H v (Sy90.cue s k) ∧ Ev (tOp (rIxL K) (tFld K ta "cues") tb) σ H v := by
  obtain ⟨xs, v, h1, h2, h3⟩ := cue_at S hk
  exact ⟨v, h3, ev_op (ev_cs T S h) hb (rv_ixL h1 h2)⟩
theorem ev_cmoves (T : Tx K mg) (ho : H a = some (.ins (He.ga K "Cue") dx (cueF m ev l w))) (h : Ev ta σ H (.ref a)) : Ev (tFld K ta "moves") σ H (.ref m) := ev_fld h ho T.c_Cue T.n_Cue_moves rfl
theorem ev_cevent (T : Tx K mg) (ho : H a = some (.ins (He.ga K "Cue") dx (cueF m ev l w))) (h : Ev ta σ H (.ref a)) : Ev (tFld K ta "event") σ H (.int ev) := ev_fld h ho T.c_Cue T.n_Cue_event rfl
theorem ev_cleader (T : Tx K mg) (ho : H a = some (.ins (He.ga K "Cue") dx (cueF m ev l w))) (h : Ev ta σ H (.ref a)) : Ev (tFld K ta "leader") σ H l := ev_fld h ho T.c_Cue T.n_Cue_leader rfl
theorem ev_cdelay (T : Tx K mg) (ho : H a = some (.ins (He.ga K "Cue") dx (cueF m ev l w))) (h : Ev ta σ H (.ref a)) : Ev (tFld K ta "delay") σ H w := ev_fld h ho T.c_Cue T.n_Cue_delay rfl
end
theorem pure_Stage_due_of {K : PySem.W.Frag} {mg : Str → Option Value} (T : Tx K mg) (vs : List V) (H : Hp) (Q : VK) (E : XK) (h : sp_Stage_due_of K vs H Q E) : t_Stage_due_of K { nx := fun _ H' => Q .non H', rt := Q } (start N_Stage_due_of vs) H := by
  obtain ⟨A, s, r, i, rfl, S, z, hi, k⟩ := h
  obtain ⟨v, hv, hev⟩ := ev_cue (σ := L2.start N_Stage_due_of [.ref A.a, nV i]) T S hi (ev_var (i := 0) rfl) (ev_var (i := 1) rfl)
  refine q_asg hev fun H1 e1 => ?_
  have S1 := S.x e1
  obtain ⟨a, dx, m, ev, l, w, rfl, ho, hm, hu⟩ := cueV_st.x _ _ _ _ _ e1 hv
  have hC := z.cues i hi
  unfold dueOf at k
  cases hup : (Sy90.cue s i).upon with
  | none =>
    rw [hup] at hu k
    have hu : ev = -1 := hu
    subst hu
    refine q_when (b := true) (et_is (et_test (ev_op (ev_cevent T ho (ev_var rfl)) ev_c (rv_eq rfl))) rfl) (fun _ H2 e2 => s_ret ev_c fun H3 e3 => k H3 ((e1.trans e2).trans e3)) fun z => by cases z
  | some p =>
    obtain ⟨e, c, d⟩ := p
    rw [hup] at hu k
    obtain ⟨rfl, rfl, rfl⟩ := hu
    obtain ⟨he, hc, hd⟩ := hC.up e c d hup
    refine q_when (b := false) (et_is (et_test (ev_op (ev_cevent T ho (ev_var rfl)) ev_c (rv_eq rfl))) (decide_eq_false fun h => by have := V.int.inj h; omega)) (fun z => by cases z) fun _ H2 e2 => ?_
    have S2 := S1.x e2
    have ho2 := e2 a _ ho
    have hcs : c < s.started.length := by rw [z.ls]; omega
    have hcd : c < s.done.length := by rw [z.ld]; omega
    refine q_asg (v := opV (if e = 0 then Sy90.startOf s c else Sy90.doneAt s c)) (ev_if (b := decide (e = 0)) (et_is (et_test (ev_op (ev_cevent T ho2 (ev_var rfl)) ev_c (rv_eq rfl))) (decide_eq_decide.mpr ⟨fun h => by have := V.int.inj h; omega, fun h => by rw [h]; rfl⟩)) (fun hb => ?_) fun hb => ?_) fun H3 e3 => ?_
    · rw [if_pos (of_decide_eq_true hb)]
      exact ev_op (ev_ss T S2 (ev_var rfl)) (ev_cleader T ho2 (ev_var rfl)) (rv_ixL (sq_of S2.fs) (at_opt hcs))
    · rw [if_neg (of_decide_eq_false hb)]
      exact ev_op (ev_es T S2 (ev_var rfl)) (ev_cleader T ho2 (ev_var rfl)) (rv_ixL (sq_of S2.fe) (at_opt hcd))
    · have ho3 := e3 a _ ho2
      have e03 := (e1.trans e2).trans e3
      change RetV (opV ((if e = 0 then Sy90.startOf s c else Sy90.doneAt s c).map fun t => t + d)) H Q at k
      cases hg : (if e = 0 then Sy90.startOf s c else Sy90.doneAt s c) with
      | none =>
        rw [hg] at k
        exact s_ret (ev_if (b := true) (et_in1 (ev_var rfl)) (fun _ => ev_c) fun z => by cases z) fun H4 e4 => k H4 (e03.trans e4)
      | some t =>
        rw [hg] at k
        exact s_ret (ev_if (b := false) (et_in0 (v := nV t) (ev_var rfl) nofun) (fun z => by cases z) fun _ => ev_op (ev_var rfl) (ev_cdelay T ho3 (ev_var rfl)) rv_I0) fun H4 e4 => k H4 (e03.trans e4)
theorem ok_Stage_due_of {P : Program} {w : World} {K : PySem.W.Frag} {mg : Str → Option Value} {base : Heap} (T : Tx K mg) : MethE P w K mg base CX0 1 "Stage" "due_of" ["self", "number"] (sp_Stage_due_of K) := by
  obtain ⟨fd, F⟩ := T.d_Stage_due_of
  have bd : Binds K fd ["self", "number"] [] := F.bindsN fun _ _ _ _ _ _ us hl => match us, hl with | [_, _], _ => rfl
  have G : FnOk P w K mg base CX0 1 (He.ma K (He.ga K "Stage") "due_of") fd ["self", "number"] (sp_Stage_due_of K) := by
    refine F.ok sc_Stage_due_of (fun vs H Q E h => sl_Stage_due_of h) (fun cdv A outer s H vs Q E hr h => ⟨t_Stage_due_of K, PSs.nox ?_, pure_Stage_due_of T vs H Q E h⟩)
    exact (pss_cons (ps_set (i := 2) sc_Stage_due_of.nd rfl (by first | exact Or.inl rfl | exact Or.inr rfl) (pe_ix ix_list (pe_fld (pv 0) rfl) (pv 1) (fun _ _ => rfl)))
  (pss_cons (ps_if (pt_cmpR oEq (pe_fld (pv 2) rfl) (pe_glob rfl T.m_CALLED.2 ⟨_, rfl⟩) (nomark _)) (pss_one (ps_ret pe_non)) pss_nil)
  (pss_cons (ps_set (i := 3) sc_Stage_due_of.nd rfl (by first | exact Or.inl rfl | exact Or.inr rfl) (pe_ifExp (pt_cmpR oEq (pe_fld (pv 2) rfl) (pe_glob rfl T.m_STARTED.2 ⟨_, rfl⟩) (nomark _)) (pe_ix ix_list (pe_fld (pv 0) rfl) (pe_fld (pv 2) rfl) (fun _ _ => rfl)) (pe_ix ix_list (pe_fld (pv 0) rfl) (pe_fld (pv 2) rfl) (fun _ _ => rfl))))
  (pss_one (ps_ret (pe_ifExp (pt_cmpR oIsN (pv 3) pe_non (nomark _)) pe_non (pe_op oAdd (pv 3) (pe_fld (pv 2) rfl))))))))
  exact MethE.mk ⟨fd, G, bd⟩ T.c_Stage T.e_Stage_due_of
theorem ev_due {K : PySem.W.Frag} {H : Hp} {A : Adr} {s : Sy90.St} {r : List (Nat × Nat)} {σ : L2.St} {ta tb : TE} {E : XK} {k : Nat} (S : StgAt K H A s r) (z : Sz s) (h : Ev ta σ H (.ref A.a)) (hb : Ev tb σ H (nV k)) (hk : k < s.cues.length) :
    Ev (tMeth (He.ga K "Stage") "due_of" (sp_Stage_due_of K) [] E ta (tCons tb tNil)) σ H (opV (dueOf s k)) := ev_meth h S.o rfl (ea_cons hb ea_nil) fun H1 e Q q E => ⟨A, s, r, k, rfl, S.x e, z, hk, q⟩

/-! ### is_to_come -/
def sp_Stage_is_to_come (K : PySem.W.Frag) : Sp := fun vs H Q _ => ∃ (A : Adr) (s : Sy90.St) (r : List (Nat × Nat)) (k : Nat), vs = [.ref A.a, nV k] ∧ StgAt K H A s r ∧ Sz s ∧ k < s.cues.length ∧ RetV (.bl (toCome s k)) H Q
theorem sl_Stage_is_to_come {K : PySem.W.Frag} {vs : List V} {H : Hp} {Q : VK} {E : XK} (h : sp_Stage_is_to_come K vs H Q E) : vs.length = 2 := by
  obtain ⟨_, _, _, _, rfl, _⟩ := h
  rfl
def t_Stage_is_to_come (K : PySem.W.Frag) : TS :=
  (tSeq (tAsg (tOp (rIxL K) (tFld K (tVar 0) "cues") (tVar 1)) (gName 2))
  (tRet (tAndV (tNotV (tMeth (He.ga K "Stage") "has_started" (sp_Stage_has_started K) [] E0 (tVar 0) (tCons (tVar 1) tNil))) (tAndV (tOp rNe (tFld K (tVar 2) "event") (tC (.int (-1)))) (tMeth (He.ga K "Stage") "has_started" (sp_Stage_has_started K) [] E0 (tVar 0) (tCons (tFld K (tVar 2) "leader") tNil))))))
theorem pure_Stage_is_to_come {K : PySem.W.Frag} {mg : Str → Option Value} (T : Tx K mg) (vs : List V) (H : Hp) (Q : VK) (E : XK) (h : sp_Stage_is_to_come K vs H Q E) : t_Stage_is_to_come K { nx := fun _ H' => Q .non H', rt := Q } (start N_Stage_is_to_come vs) H := by
  obtain ⟨A, s, r, i, rfl, S, z, hi, k⟩ := h
  obtain ⟨v, hv, hev⟩ := ev_cue (σ := L2.start N_Stage_is_to_come [.ref A.a, nV i]) T S hi (ev_var (i := 0) rfl) (ev_var (i := 1) rfl)
  refine q_asg hev fun H1 e1 => ?_
  have S1 := S.x e1
  obtain ⟨a, dx, m, ev, l, w, rfl, ho, hm, hu⟩ := cueV_st.x _ _ _ _ _ e1 hv
  have hC := z.cues i hi
  have his : i < s.started.length := by rw [z.ls]; exact hi
  unfold toCome at k
  cases hup : (Sy90.cue s i).upon with
  | none =>
    rw [hup] at hu k
    have hu : ev = -1 := hu
    subst hu
    refine s_ret (ev_is (ev_andV (b := false) (ev_notV (ev_started S1 (ev_var rfl) (ev_var rfl) his)) fun _ => ev_is (ev_andV (a := false) (b := false) (ev_is (ev_op (ev_cevent T ho (ev_var rfl)) ev_c (rv_ne rfl)) rfl) fun z => by cases z) rfl) ?_) fun H2 e2 => k H2 (e1.trans e2)
    rw [Option.not_isSome]
  | some p =>
    obtain ⟨e, c, d⟩ := p
    rw [hup] at hu k
    obtain ⟨rfl, rfl, rfl⟩ := hu
    obtain ⟨he, hc, hd⟩ := hC.up e c d hup
    have hcs : c < s.started.length := by rw [z.ls]; omega
    refine s_ret (ev_is (ev_andV (ev_notV (ev_started S1 (ev_var rfl) (ev_var rfl) his)) fun _ => ev_andV (a := true) (ev_is (ev_op (ev_cevent T ho (ev_var rfl)) ev_c (rv_ne rfl)) ?_) fun _ => ev_started S1 (ev_var rfl) (ev_cleader T ho (ev_var rfl)) hcs) ?_) fun H2 e2 => k H2 (e1.trans e2)
    · rw [decide_eq_false fun h => by have := V.int.inj h; omega]
      rfl
    · rw [Option.not_isSome, Bool.true_and]
theorem ok_Stage_is_to_come {P : Program} {w : World} {K : PySem.W.Frag} {mg : Str → Option Value} {base : Heap} (T : Tx K mg) (D_Stage_has_started : MethE P w K mg base (CX0) 1 "Stage" "has_started" ["self", "number"] (sp_Stage_has_started K)) : MethE P w K mg base CX0 2 "Stage" "is_to_come" ["self", "number"] (sp_Stage_is_to_come K) := by
  obtain ⟨fd, F⟩ := T.d_Stage_is_to_come
  have bd : Binds K fd ["self", "number"] [] := F.bindsN fun _ _ _ _ _ _ us hl => match us, hl with | [_, _], _ => rfl
  have G : FnOk P w K mg base CX0 2 (He.ma K (He.ga K "Stage") "is_to_come") fd ["self", "number"] (sp_Stage_is_to_come K) := by
    refine F.ok sc_Stage_is_to_come (fun vs H Q E h => sl_Stage_is_to_come h) (fun cdv A outer s H vs Q E hr h => ⟨t_Stage_is_to_come K, PSs.nox ?_, pure_Stage_is_to_come T vs H Q E h⟩)
    exact (pss_cons (ps_set (i := 2) sc_Stage_is_to_come.nd rfl (by first | exact Or.inl rfl | exact Or.inr rfl) (pe_ix ix_list (pe_fld (pv 0) rfl) (pv 1) (fun _ _ => rfl)))
  (pss_one (ps_ret (pe_and (pe_not (pe_methE (pv 0) D_Stage_has_started (hr.mono (by decide)) pass0 (by exact (pa_cons (pv 1) pa_nil)))) (pe_and (pe_cmpR oNe (pe_fld (pv 2) rfl) (pe_glob rfl T.m_CALLED.2 ⟨_, rfl⟩) (nomark _)) (pe_one (pe_methE (pv 0) D_Stage_has_started (hr.mono (by decide)) pass0 (by exact (pa_cons (pe_fld (pv 2) rfl) pa_nil)))))))))
  exact MethE.mk ⟨fd, G, bd⟩ T.c_Stage T.e_Stage_is_to_come
theorem ev_toCome {K : PySem.W.Frag} {H : Hp} {A : Adr} {s : Sy90.St} {r : List (Nat × Nat)} {σ : L2.St} {ta tb : TE} {E : XK} {k : Nat} (S : StgAt K H A s r) (z : Sz s) (h : Ev ta σ H (.ref A.a)) (hb : Ev tb σ H (nV k)) (hk : k < s.cues.length) :
    Ev (tMeth (He.ga K "Stage") "is_to_come" (sp_Stage_is_to_come K) [] E ta (tCons tb tNil)) σ H (.bl (toCome s k)) := ev_meth h S.o rfl (ea_cons hb ea_nil) fun H1 e Q q E => ⟨A, s, r, k, rfl, S.x e, z, hk, q⟩

/-! ### is_quiet -/
def sp_Stage_is_quiet (K : PySem.W.Frag) : Sp := fun vs H Q _ => ∃ (A : Adr) (s : Sy90.St) (r : List (Nat × Nat)), vs = [.ref A.a] ∧ StgAt K H A s r ∧ Sz s ∧ RetV (.bl (quiet s)) H Q
theorem sl_Stage_is_quiet {K : PySem.W.Frag} {vs : List V} {H : Hp} {Q : VK} {E : XK} (h : sp_Stage_is_quiet K vs H Q E) : vs.length = 1 := by
  obtain ⟨_, _, _, rfl, _⟩ := h
  rfl
def t_Stage_is_quiet (K : PySem.W.Frag) : TS :=
  (tRet (tAndV (tOp rEq (tMeth (He.ga K "Stage") "many_moving" (sp_Stage_many_moving K) [] E0 (tVar 0) tNil) (tC (.int 0))) (tNotV (tCB (rAny K) (tCons (tLc (iRng1 (tCons (tCB (rLenS K) (tCons (tFld K (tVar 0) "cues") tNil)) tNil)) (gName 1) tYes (tMeth (He.ga K "Stage") "is_to_come" (sp_Stage_is_to_come K) [] E0 (tVar 0) (tCons (tVar 1) tNil)) [1]) tNil)))))
theorem any_len {α : Type} (p : α → Bool) : ∀ l : List α, decide ((l.filter p).length = 0) = !l.any p
  | [] => rfl
  | x :: r => by
    rw [List.filter_cons, List.any_cons]
    cases c : p x with
    | true => simp
    | false =>
      rw [if_neg (by decide), any_len p r]
      rfl
theorem pure_Stage_is_quiet {K : PySem.W.Frag} {mg : Str → Option Value} (T : Tx K mg) (vs : List V) (H : Hp) (Q : VK) (E : XK) (h : sp_Stage_is_quiet K vs H Q E) : t_Stage_is_quiet K { nx := fun _ H' => Q .non H', rt := Q } (start N_Stage_is_quiet vs) H := by
  obtain ⟨A, s, r, rfl, S, z, k⟩ := h
  have c5 := z.c5
  refine s_ret (ev_is (ev_andV (ev_op (ev_many_moving S z (ev_var rfl)) ev_c (rv_eq rfl)) fun _ => ev_notV (ev_cbD (z := .bl ((List.range s.cues.length).any (toCome s))) (evd_lcR (K := K) blV_st (fun _ => true) (toCome s) (n := s.cues.length) (ea_cons (ev_is (ev_cb (ea_cons (ev_cs T S (ev_var rfl)) ea_nil) (rc_len (Or.inl (sq_of S.fc.choose_spec.1)))) ?_) ea_nil) (by omega) (fun _ => rfl) (fun _ _ _ _ => et_yes) ?_) ?_)) ?_) fun H1 e1 => k H1 e1
  · rw [All2.len S.fc.choose_spec.2]
  · intro i H1 e1 hi _
    exact evd_of (ev_toCome (S.x e1) z (ev_var rfl) (ev_var rfl) hi) fun _ _ => rfl
  · rintro x H1 e1 ⟨q, rfl, _, zs, h6, h7⟩
    have h7 := all2_bl h7
    rw [givenD_all] at h7
    subst h7
    refine RC_is (rc_any (sq_of h6)) (congrArg V.bl ?_)
    rw [List.any_map]
    rfl
  · unfold quiet
    refine congrArg V.bl ?_
    rw [← any_len Sy90.moving s.things]
    congr 1
    exact decide_eq_decide.mpr ⟨fun h => by have := V.int.inj h; omega, fun h => by rw [h]; rfl⟩
theorem ok_Stage_is_quiet {P : Program} {w : World} {K : PySem.W.Frag} {mg : Str → Option Value} {base : Heap} (T : Tx K mg) (D_Stage_is_to_come : MethE P w K mg base (CX0) 2 "Stage" "is_to_come" ["self", "number"] (sp_Stage_is_to_come K)) (D_Stage_many_moving : MethE P w K mg base (CX0) 2 "Stage" "many_moving" ["self"] (sp_Stage_many_moving K)) : MethE P w K mg base CX0 3 "Stage" "is_quiet" ["self"] (sp_Stage_is_quiet K) := by
  obtain ⟨fd, F⟩ := T.d_Stage_is_quiet
  have bd : Binds K fd ["self"] [] := F.bindsN fun _ _ _ _ _ _ us hl => match us, hl with | [_], _ => rfl
  have G : FnOk P w K mg base CX0 3 (He.ma K (He.ga K "Stage") "is_quiet") fd ["self"] (sp_Stage_is_quiet K) := by
    refine F.ok sc_Stage_is_quiet (fun vs H Q E h => sl_Stage_is_quiet h) (fun cdv A outer s H vs Q E hr h => ⟨t_Stage_is_quiet K, PSs.nox ?_, pure_Stage_is_quiet T vs H Q E h⟩)
    exact (pss_one (ps_ret (pe_and (pe_cmpR oEq (pe_methE0 (pv 0) D_Stage_many_moving (hr.mono (by decide)) pass0) pe_int (nomark _)) (pe_one (pe_not (pe_callB (cr_any rfl) rfl T.f_any bAny (pa_cons (pe_lc (own := [("number", 1)]) (g := (gName 1)) (tt := tYes) (te := (tMeth (He.ga K "Stage") "is_to_come" (sp_Stage_is_to_come K) [] E0 (tVar 0) (tCons (tVar 1) tNil))) rfl sc_Stage_is_quiet.nd (pi_range1 rfl T.f_range (pa_cons (pe_callB cLen rfl T.f_len bLen (pa_cons (pe_fld (pv 0) rfl) pa_nil)) pa_nil)) (blkOk_by (N := N_Stage_is_quiet) (sc := defScope s_Stage_is_quiet) (by decide +kernel)) (fun _ _ _ _ _ => (pg_name (i := 1) sc_Stage_is_quiet.nd rfl (by first | exact Or.inl rfl | exact Or.inr rfl))) (fun _ _ _ _ _ => pts_nil) (fun _ _ _ _ _ => (pe_methE (pv 0) D_Stage_is_to_come (hr.mono (by decide)) pass0 (by exact (pa_cons (pv 1) pa_nil))))) pa_nil)))))))
  exact MethE.mk ⟨fd, G, bd⟩ T.c_Stage T.e_Stage_is_quiet
theorem ev_quiet {K : PySem.W.Frag} {H : Hp} {A : Adr} {s : Sy90.St} {r : List (Nat × Nat)} {σ : L2.St} {ta : TE} {E : XK} (S : StgAt K H A s r) (z : Sz s) (h : Ev ta σ H (.ref A.a)) :
    Ev (tMeth (He.ga K "Stage") "is_quiet" (sp_Stage_is_quiet K) [] E ta tNil) σ H (.bl (quiet s)) := ev_meth h S.o rfl ea_nil fun H1 e Q q E => ⟨A, s, r, rfl, S.x e, z, q⟩
end Sk
namespace Sk
open PySem L2 Evl Sc
/-! ### writes to a stage (printed by mk11.py) -/
section
variable {K : PySem.W.Frag} {H H2 : Hp} {A : Adr} {s : Sy90.St} {r : List (Nat × Nat)}
theorem StgAt.putP {xs : List V} {s2 : Sy90.St} (S : StgAt K H A s r) (hx : xs = (Sy90.marks s2).map nV) (et : aims s2 = aims s) (eh : (s2.things.map fun x => byV x.by_) = s.things.map fun x => byV x.by_) (es : s2.started = s.started) (ee : s2.done = s.done) (en : s2.second = s.second) (eq : s2.pairs = s.pairs) (ec : s2.cues = s.cues) : StgAt K (upd H A.p (.lst xs)) A s2 r := by
  have nd := S.nd
  simp only [Adr.all, List.nodup_cons, List.mem_cons, List.not_mem_nil, or_false, not_or, not_false_eq_true, List.nodup_nil, and_true] at nd
  obtain ⟨⟨_, _, _, _, _, _, _, _⟩, ⟨_, _, _, _, _, _, _⟩, ⟨_, _, _, _, _, _⟩, ⟨_, _, _, _, _⟩, ⟨_, _, _, _⟩, ⟨_, _, _⟩, ⟨_, _⟩, _⟩ := nd
  have fx : Fix H (upd H A.p (.lst xs)) := Fix.mutL S.fp
  refine ⟨?_, ?_, ?_, ?_, ?_, ?_, ?_, ?_, ?_, S.nd⟩
  · rw [upd_ne (by first | assumption | exact Ne.symm (by assumption)), en]
    exact S.o
  · rw [upd_same, hx]
  · rw [upd_ne (by first | assumption | exact Ne.symm (by assumption)), et]
    exact S.ft
  · rw [upd_ne (by first | assumption | exact Ne.symm (by assumption)), eh]
    exact S.fh
  · exact lsAt_keep prV_st fx (fun o h => by rw [upd_ne (by first | assumption | exact Ne.symm (by assumption))]; exact h) S.fr
  · rw [eq]
    exact lsAt_keep trV_st fx (fun o h => by rw [upd_ne (by first | assumption | exact Ne.symm (by assumption))]; exact h) S.fq
  · rw [ec]
    exact lsAt_keep cueV_st fx (fun o h => by rw [upd_ne (by first | assumption | exact Ne.symm (by assumption))]; exact h) S.fc
  · rw [upd_ne (by first | assumption | exact Ne.symm (by assumption)), es]
    exact S.fs
  · rw [upd_ne (by first | assumption | exact Ne.symm (by assumption)), ee]
    exact S.fe
theorem StgAt.putT {xs : List V} {s2 : Sy90.St} (S : StgAt K H A s r) (hx : xs = (aims s2).map nV) (ep : Sy90.marks s2 = Sy90.marks s) (eh : (s2.things.map fun x => byV x.by_) = s.things.map fun x => byV x.by_) (es : s2.started = s.started) (ee : s2.done = s.done) (en : s2.second = s.second) (eq : s2.pairs = s.pairs) (ec : s2.cues = s.cues) : StgAt K (upd H A.t (.lst xs)) A s2 r := by
  have nd := S.nd
  simp only [Adr.all, List.nodup_cons, List.mem_cons, List.not_mem_nil, or_false, not_or, not_false_eq_true, List.nodup_nil, and_true] at nd
  obtain ⟨⟨_, _, _, _, _, _, _, _⟩, ⟨_, _, _, _, _, _, _⟩, ⟨_, _, _, _, _, _⟩, ⟨_, _, _, _, _⟩, ⟨_, _, _, _⟩, ⟨_, _, _⟩, ⟨_, _⟩, _⟩ := nd
  have fx : Fix H (upd H A.t (.lst xs)) := Fix.mutL S.ft
  refine ⟨?_, ?_, ?_, ?_, ?_, ?_, ?_, ?_, ?_, S.nd⟩
  · rw [upd_ne (by first | assumption | exact Ne.symm (by assumption)), en]
    exact S.o
  · rw [upd_ne (by first | assumption | exact Ne.symm (by assumption)), ep]
    exact S.fp
  · rw [upd_same, hx]
  · rw [upd_ne (by first | assumption | exact Ne.symm (by assumption)), eh]
    exact S.fh
  · exact lsAt_keep prV_st fx (fun o h => by rw [upd_ne (by first | assumption | exact Ne.symm (by assumption))]; exact h) S.fr
  · rw [eq]
    exact lsAt_keep trV_st fx (fun o h => by rw [upd_ne (by first | assumption | exact Ne.symm (by assumption))]; exact h) S.fq
  · rw [ec]
    exact lsAt_keep cueV_st fx (fun o h => by rw [upd_ne (by first | assumption | exact Ne.symm (by assumption))]; exact h) S.fc
  · rw [upd_ne (by first | assumption | exact Ne.symm (by assumption)), es]
    exact S.fs
  · rw [upd_ne (by first | assumption | exact Ne.symm (by assumption)), ee]
    exact S.fe
theorem StgAt.putH {xs : List V} {s2 : Sy90.St} (S : StgAt K H A s r) (hx : xs = s2.things.map fun x => byV x.by_) (ep : Sy90.marks s2 = Sy90.marks s) (et : aims s2 = aims s) (es : s2.started = s.started) (ee : s2.done = s.done) (en : s2.second = s.second) (eq : s2.pairs = s.pairs) (ec : s2.cues = s.cues) : StgAt K (upd H A.h (.lst xs)) A s2 r := by
  have nd := S.nd
  simp only [Adr.all, List.nodup_cons, List.mem_cons, List.not_mem_nil, or_false, not_or, not_false_eq_true, List.nodup_nil, and_true] at nd
  obtain ⟨⟨_, _, _, _, _, _, _, _⟩, ⟨_, _, _, _, _, _, _⟩, ⟨_, _, _, _, _, _⟩, ⟨_, _, _, _, _⟩, ⟨_, _, _, _⟩, ⟨_, _, _⟩, ⟨_, _⟩, _⟩ := nd
  have fx : Fix H (upd H A.h (.lst xs)) := Fix.mutL S.fh
  refine ⟨?_, ?_, ?_, ?_, ?_, ?_, ?_, ?_, ?_, S.nd⟩
  · rw [upd_ne (by first | assumption | exact Ne.symm (by assumption)), en]
    exact S.o
  · rw [upd_ne (by first | assumption | exact Ne.symm (by assumption)), ep]
    exact S.fp
  · rw [upd_ne (by first | assumption | exact Ne.symm (by assumption)), et]
    exact S.ft
  · rw [upd_same, hx]
  · exact lsAt_keep prV_st fx (fun o h => by rw [upd_ne (by first | assumption | exact Ne.symm (by assumption))]; exact h) S.fr
  · rw [eq]
    exact lsAt_keep trV_st fx (fun o h => by rw [upd_ne (by first | assumption | exact Ne.symm (by assumption))]; exact h) S.fq
  · rw [ec]
    exact lsAt_keep cueV_st fx (fun o h => by rw [upd_ne (by first | assumption | exact Ne.symm (by assumption))]; exact h) S.fc
  · rw [upd_ne (by first | assumption | exact Ne.symm (by assumption)), es]
    exact S.fs
  · rw [upd_ne (by first | assumption | exact Ne.symm (by assumption)), ee]
    exact S.fe
theorem StgAt.putS {xs : List V} {s2 : Sy90.St} (S : StgAt K H A s r) (hx : xs = s2.started.map opV) (ep : Sy90.marks s2 = Sy90.marks s) (et : aims s2 = aims s) (eh : (s2.things.map fun x => byV x.by_) = s.things.map fun x => byV x.by_) (ee : s2.done = s.done) (en : s2.second = s.second) (eq : s2.pairs = s.pairs) (ec : s2.cues = s.cues) : StgAt K (upd H A.s (.lst xs)) A s2 r := by
  have nd := S.nd
  simp only [Adr.all, List.nodup_cons, List.mem_cons, List.not_mem_nil, or_false, not_or, not_false_eq_true, List.nodup_nil, and_true] at nd
  obtain ⟨⟨_, _, _, _, _, _, _, _⟩, ⟨_, _, _, _, _, _, _⟩, ⟨_, _, _, _, _, _⟩, ⟨_, _, _, _, _⟩, ⟨_, _, _, _⟩, ⟨_, _, _⟩, ⟨_, _⟩, _⟩ := nd
  have fx : Fix H (upd H A.s (.lst xs)) := Fix.mutL S.fs
  refine ⟨?_, ?_, ?_, ?_, ?_, ?_, ?_, ?_, ?_, S.nd⟩
  · rw [upd_ne (by first | assumption | exact Ne.symm (by assumption)), en]
    exact S.o
  · rw [upd_ne (by first | assumption | exact Ne.symm (by assumption)), ep]
    exact S.fp
  · rw [upd_ne (by first | assumption | exact Ne.symm (by assumption)), et]
    exact S.ft
  · rw [upd_ne (by first | assumption | exact Ne.symm (by assumption)), eh]
    exact S.fh
  · exact lsAt_keep prV_st fx (fun o h => by rw [upd_ne (by first | assumption | exact Ne.symm (by assumption))]; exact h) S.fr
  · rw [eq]
    exact lsAt_keep trV_st fx (fun o h => by rw [upd_ne (by first | assumption | exact Ne.symm (by assumption))]; exact h) S.fq
  · rw [ec]
    exact lsAt_keep cueV_st fx (fun o h => by rw [upd_ne (by first | assumption | exact Ne.symm (by assumption))]; exact h) S.fc
  · rw [upd_same, hx]
  · rw [upd_ne (by first | assumption | exact Ne.symm (by assumption)), ee]
    exact S.fe
theorem StgAt.putE {xs : List V} {s2 : Sy90.St} (S : StgAt K H A s r) (hx : xs = s2.done.map opV) (ep : Sy90.marks s2 = Sy90.marks s) (et : aims s2 = aims s) (eh : (s2.things.map fun x => byV x.by_) = s.things.map fun x => byV x.by_) (es : s2.started = s.started) (en : s2.second = s.second) (eq : s2.pairs = s.pairs) (ec : s2.cues = s.cues) : StgAt K (upd H A.e (.lst xs)) A s2 r := by
  have nd := S.nd
  simp only [Adr.all, List.nodup_cons, List.mem_cons, List.not_mem_nil, or_false, not_or, not_false_eq_true, List.nodup_nil, and_true] at nd
  obtain ⟨⟨_, _, _, _, _, _, _, _⟩, ⟨_, _, _, _, _, _, _⟩, ⟨_, _, _, _, _, _⟩, ⟨_, _, _, _, _⟩, ⟨_, _, _, _⟩, ⟨_, _, _⟩, ⟨_, _⟩, _⟩ := nd
  have fx : Fix H (upd H A.e (.lst xs)) := Fix.mutL S.fe
  refine ⟨?_, ?_, ?_, ?_, ?_, ?_, ?_, ?_, ?_, S.nd⟩
  · rw [upd_ne (by first | assumption | exact Ne.symm (by assumption)), en]
    exact S.o
  · rw [upd_ne (by first | assumption | exact Ne.symm (by assumption)), ep]
    exact S.fp
  · rw [upd_ne (by first | assumption | exact Ne.symm (by assumption)), et]
    exact S.ft
  · rw [upd_ne (by first | assumption | exact Ne.symm (by assumption)), eh]
    exact S.fh
  · exact lsAt_keep prV_st fx (fun o h => by rw [upd_ne (by first | assumption | exact Ne.symm (by assumption))]; exact h) S.fr
  · rw [eq]
    exact lsAt_keep trV_st fx (fun o h => by rw [upd_ne (by first | assumption | exact Ne.symm (by assumption))]; exact h) S.fq
  · rw [ec]
    exact lsAt_keep cueV_st fx (fun o h => by rw [upd_ne (by first | assumption | exact Ne.symm (by assumption))]; exact h) S.fc
  · rw [upd_ne (by first | assumption | exact Ne.symm (by assumption)), es]
    exact S.fs
  · rw [upd_same, hx]
theorem StgAt.putN {s2 : Sy90.St} (S : StgAt K H A s r) (ep : Sy90.marks s2 = Sy90.marks s) (et : aims s2 = aims s) (eh : (s2.things.map fun x => byV x.by_) = s.things.map fun x => byV x.by_) (es : s2.started = s.started) (ee : s2.done = s.done) (eq : s2.pairs = s.pairs) (ec : s2.cues = s.cues) : StgAt K (upd H A.a (.ins (He.ga K "Stage") A.dx (stgF A s2.second))) A s2 r := by
  have nd := S.nd
  simp only [Adr.all, List.nodup_cons, List.mem_cons, List.not_mem_nil, or_false, not_or, not_false_eq_true, List.nodup_nil, and_true] at nd
  obtain ⟨⟨_, _, _, _, _, _, _, _⟩, ⟨_, _, _, _, _, _, _⟩, ⟨_, _, _, _, _, _⟩, ⟨_, _, _, _, _⟩, ⟨_, _, _, _⟩, ⟨_, _, _⟩, ⟨_, _⟩, _⟩ := nd
  have fx : Fix H (upd H A.a (.ins (He.ga K "Stage") A.dx (stgF A s2.second))) := Fix.mut S.o rfl
  refine ⟨upd_same, ?_, ?_, ?_, ?_, ?_, ?_, ?_, ?_, S.nd⟩
  · rw [upd_ne (by first | assumption | exact Ne.symm (by assumption)), ep]
    exact S.fp
  · rw [upd_ne (by first | assumption | exact Ne.symm (by assumption)), et]
    exact S.ft
  · rw [upd_ne (by first | assumption | exact Ne.symm (by assumption)), eh]
    exact S.fh
  · exact lsAt_keep prV_st fx (fun o h => by rw [upd_ne (by first | assumption | exact Ne.symm (by assumption))]; exact h) S.fr
  · rw [eq]
    exact lsAt_keep trV_st fx (fun o h => by rw [upd_ne (by first | assumption | exact Ne.symm (by assumption))]; exact h) S.fq
  · rw [ec]
    exact lsAt_keep cueV_st fx (fun o h => by rw [upd_ne (by first | assumption | exact Ne.symm (by assumption))]; exact h) S.fc
  · rw [upd_ne (by first | assumption | exact Ne.symm (by assumption)), es]
    exact S.fs
  · rw [upd_ne (by first | assumption | exact Ne.symm (by assumption)), ee]
    exact S.fe
theorem StgAt.putR {xs : List V} {s2 : Sy90.St} {r2 : List (Nat × Nat)} (S : StgAt K H A s r) (hx : All2 (PrV K H) xs r2) (ep : Sy90.marks s2 = Sy90.marks s) (et : aims s2 = aims s) (eh : (s2.things.map fun x => byV x.by_) = s.things.map fun x => byV x.by_) (es : s2.started = s.started) (ee : s2.done = s.done) (en : s2.second = s.second) (eq : s2.pairs = s.pairs) (ec : s2.cues = s.cues) : StgAt K (upd H A.r (.lst xs)) A s2 r2 := by
  have nd := S.nd
  simp only [Adr.all, List.nodup_cons, List.mem_cons, List.not_mem_nil, or_false, not_or, not_false_eq_true, List.nodup_nil, and_true] at nd
  obtain ⟨⟨_, _, _, _, _, _, _, _⟩, ⟨_, _, _, _, _, _, _⟩, ⟨_, _, _, _, _, _⟩, ⟨_, _, _, _, _⟩, ⟨_, _, _, _⟩, ⟨_, _, _⟩, ⟨_, _⟩, _⟩ := nd
  have fx : Fix H (upd H A.r (.lst xs)) := Fix.mutL S.fr.choose_spec.1
  refine ⟨?_, ?_, ?_, ?_, ?_, ?_, ?_, ?_, ?_, S.nd⟩
  · rw [upd_ne (by first | assumption | exact Ne.symm (by assumption)), en]
    exact S.o
  · rw [upd_ne (by first | assumption | exact Ne.symm (by assumption)), ep]
    exact S.fp
  · rw [upd_ne (by first | assumption | exact Ne.symm (by assumption)), et]
    exact S.ft
  · rw [upd_ne (by first | assumption | exact Ne.symm (by assumption)), eh]
    exact S.fh
  · exact ⟨xs, upd_same, all2_st prV_st fx hx⟩
  · rw [eq]
    exact lsAt_keep trV_st fx (fun o h => by rw [upd_ne (by first | assumption | exact Ne.symm (by assumption))]; exact h) S.fq
  · rw [ec]
    exact lsAt_keep cueV_st fx (fun o h => by rw [upd_ne (by first | assumption | exact Ne.symm (by assumption))]; exact h) S.fc
  · rw [upd_ne (by first | assumption | exact Ne.symm (by assumption)), es]
    exact S.fs
  · rw [upd_ne (by first | assumption | exact Ne.symm (by assumption)), ee]
    exact S.fe
theorem StgAt.putQ {xs : List V} {s2 : Sy90.St} (S : StgAt K H A s r) (hx : All2 (TrV K H) xs s2.pairs) (ep : Sy90.marks s2 = Sy90.marks s) (et : aims s2 = aims s) (eh : (s2.things.map fun x => byV x.by_) = s.things.map fun x => byV x.by_) (es : s2.started = s.started) (ee : s2.done = s.done) (en : s2.second = s.second) (ec : s2.cues = s.cues) : StgAt K (upd H A.q (.lst xs)) A s2 r := by
  have nd := S.nd
  simp only [Adr.all, List.nodup_cons, List.mem_cons, List.not_mem_nil, or_false, not_or, not_false_eq_true, List.nodup_nil, and_true] at nd
  obtain ⟨⟨_, _, _, _, _, _, _, _⟩, ⟨_, _, _, _, _, _, _⟩, ⟨_, _, _, _, _, _⟩, ⟨_, _, _, _, _⟩, ⟨_, _, _, _⟩, ⟨_, _, _⟩, ⟨_, _⟩, _⟩ := nd
  have fx : Fix H (upd H A.q (.lst xs)) := Fix.mutL S.fq.choose_spec.1
  refine ⟨?_, ?_, ?_, ?_, ?_, ?_, ?_, ?_, ?_, S.nd⟩
  · rw [upd_ne (by first | assumption | exact Ne.symm (by assumption)), en]
    exact S.o
  · rw [upd_ne (by first | assumption | exact Ne.symm (by assumption)), ep]
    exact S.fp
  · rw [upd_ne (by first | assumption | exact Ne.symm (by assumption)), et]
    exact S.ft
  · rw [upd_ne (by first | assumption | exact Ne.symm (by assumption)), eh]
    exact S.fh
  · exact lsAt_keep prV_st fx (fun o h => by rw [upd_ne (by first | assumption | exact Ne.symm (by assumption))]; exact h) S.fr
  · exact ⟨xs, upd_same, all2_st trV_st fx hx⟩
  · rw [ec]
    exact lsAt_keep cueV_st fx (fun o h => by rw [upd_ne (by first | assumption | exact Ne.symm (by assumption))]; exact h) S.fc
  · rw [upd_ne (by first | assumption | exact Ne.symm (by assumption)), es]
    exact S.fs
  · rw [upd_ne (by first | assumption | exact Ne.symm (by assumption)), ee]
    exact S.fe
theorem StgAt.putC {xs : List V} {s2 : Sy90.St} (S : StgAt K H A s r) (hx : All2 (CueV K H) xs s2.cues) (ep : Sy90.marks s2 = Sy90.marks s) (et : aims s2 = aims s) (eh : (s2.things.map fun x => byV x.by_) = s.things.map fun x => byV x.by_) (es : s2.started = s.started) (ee : s2.done = s.done) (en : s2.second = s.second) (eq : s2.pairs = s.pairs) : StgAt K (upd H A.c (.lst xs)) A s2 r := by
  have nd := S.nd
  simp only [Adr.all, List.nodup_cons, List.mem_cons, List.not_mem_nil, or_false, not_or, not_false_eq_true, List.nodup_nil, and_true] at nd
  obtain ⟨⟨_, _, _, _, _, _, _, _⟩, ⟨_, _, _, _, _, _, _⟩, ⟨_, _, _, _, _, _⟩, ⟨_, _, _, _, _⟩, ⟨_, _, _, _⟩, ⟨_, _, _⟩, ⟨_, _⟩, _⟩ := nd
  have fx : Fix H (upd H A.c (.lst xs)) := Fix.mutL S.fc.choose_spec.1
  refine ⟨?_, ?_, ?_, ?_, ?_, ?_, ?_, ?_, ?_, S.nd⟩
  · rw [upd_ne (by first | assumption | exact Ne.symm (by assumption)), en]
    exact S.o
  · rw [upd_ne (by first | assumption | exact Ne.symm (by assumption)), ep]
    exact S.fp
  · rw [upd_ne (by first | assumption | exact Ne.symm (by assumption)), et]
    exact S.ft
  · rw [upd_ne (by first | assumption | exact Ne.symm (by assumption)), eh]
    exact S.fh
  · exact lsAt_keep prV_st fx (fun o h => by rw [upd_ne (by first | assumption | exact Ne.symm (by assumption))]; exact h) S.fr
  · rw [eq]
    exact lsAt_keep trV_st fx (fun o h => by rw [upd_ne (by first | assumption | exact Ne.symm (by assumption))]; exact h) S.fq
  · exact ⟨xs, upd_same, all2_st cueV_st fx hx⟩
  · rw [upd_ne (by first | assumption | exact Ne.symm (by assumption)), es]
    exact S.fs
  · rw [upd_ne (by first | assumption | exact Ne.symm (by assumption)), ee]
    exact S.fe
theorem StgAt.fix (S : StgAt K H A s r) (f : Frm A.all H H2) : Fix H H2 := f.fix S.loose
end
/-- what a call that writes hands back -/
def RetM (K : PySem.W.Frag) (A : Adr) (s : Sy90.St) (r : List (Nat × Nat)) (v : V) (H : Hp) (Q : VK) : Prop := ∀ H2, StgAt K H2 A s r → Frm A.all H H2 → Q v H2
theorem Sz.of {s s2 : Sy90.St} (z : Sz s) (h1 : s2.things.length = s.things.length) (h2 : s2.cues = s.cues) (h3 : s2.started.length = s.started.length) (h4 : s2.done.length = s.done.length) : Sz s2 := by
  refine ⟨by rw [h1]; exact z.n4, by rw [h2]; exact z.c5, by rw [h3, h2]; exact z.ls, by rw [h4, h2]; exact z.ld, fun k hk => ?_⟩
  rw [h2] at hk
  have := z.cues k hk
  unfold Sy90.cue at this ⊢
  rw [h1, h2]
  exact this

/-! ### move_bars -/
def sp_Stage_move_bars (K : PySem.W.Frag) : Sp := fun vs H Q _ => ∃ (A : Adr) (s : Sy90.St) (r : List (Nat × Nat)), vs = [.ref A.a] ∧ StgAt K H A s r ∧ Sz s ∧ RetM K A { s with things := s.things.map Sy90.moved } r .non H Q
theorem sl_Stage_move_bars {K : PySem.W.Frag} {vs : List V} {H : Hp} {Q : VK} {E : XK} (h : sp_Stage_move_bars K vs H Q E) : vs.length = 1 := by
  obtain ⟨_, _, _, rfl, _⟩ := h
  rfl
def t_Stage_move_bars (K : PySem.W.Frag) : TS :=
  (tFor (iList K (tMeth (He.ga K "Stage") "bars" (sp_Stage_bars K) [] E0 (tVar 0) tNil)) (gName 1) (tAsg (tOp rAddI (tOp (rIxL K) (tFld K (tVar 0) "positions") (tVar 1)) (tCall (sp_sign_of K) [] E0 (tCons (tOp rSubI (tOp (rIxL K) (tFld K (tVar 0) "targets") (tVar 1)) (tOp (rIxL K) (tFld K (tVar 0) "positions") (tVar 1))) tNil))) (gSub (tFld K (tVar 0) "positions") (tVar 1) rSetL)))
theorem moved_sign (t : Sy90.Thing) : (t.mark : Int) + signI ((t.aim : Int) - (t.mark : Int)) = ((Sy90.moved t).mark : Int) := by
  unfold Sy90.moved signI
  dsimp only
  by_cases h1 : t.mark < t.aim
  · rw [if_pos h1, if_pos (by omega), if_neg (by omega)]
    omega
  · rw [if_neg h1]
    by_cases h2 : t.aim < t.mark
    · rw [if_pos h2, if_neg (by omega), if_pos (by omega)]
      omega
    · rw [if_neg h2, if_neg (by omega), if_neg (by omega)]
      omega
theorem map_set_same {α β : Type} (f : α → β) (l : List α) (b : Nat) (x d : α) (hb : b < l.length) (h : f x = f (l.getD b d)) : (l.set b x).map f = l.map f := by
  rw [List.map_set, h, List.getD_eq_getElem?_getD, List.getElem?_eq_getElem hb]
  refine List.ext_getElem? fun i => ?_
  by_cases c : b = i
  · subst c
    rw [List.getElem?_set_self (by rw [List.length_map]; exact hb), List.getElem?_map, List.getElem?_eq_getElem hb]
    rfl
  · rw [List.getElem?_set_ne c]
theorem StgAt.setMark {K : PySem.W.Frag} {H : Hp} {A : Adr} {s : Sy90.St} {r : List (Nat × Nat)} (S : StgAt K H A s r) {b m : Nat} (hb : b < s.things.length) : StgAt K (upd H A.p (.lst (((Sy90.marks s).map nV).set b (nV m)))) A { s with things := s.things.set b { Sy90.thing s b with mark := m } } r := by
  refine S.putP ?_ (map_set_same _ _ _ _ _ hb rfl) (map_set_same _ _ _ _ _ hb rfl) rfl rfl rfl rfl rfl
  rw [← List.map_set]
  congr 1
  unfold Sy90.marks
  rw [List.map_set]
theorem pure_Stage_move_bars {K : PySem.W.Frag} {mg : Str → Option Value} (T : Tx K mg) (vs : List V) (H : Hp) (Q : VK) (E : XK) (h : sp_Stage_move_bars K vs H Q E) : t_Stage_move_bars K { nx := fun _ H' => Q .non H', rt := Q } (start N_Stage_move_bars vs) H := by
  obtain ⟨A, s, r, rfl, S, z, k⟩ := h
  have n4 := z.n4
  refine s_forNL (el_bars S n4 (ev_var rfl)) (fun p i σ' H' => ∃ o1 th, σ' = [some (.ref A.a), o1] ∧ th.length = s.things.length ∧ (∀ b, b < s.things.length → th.getD b ⟨0, 0, none⟩ = if b < i then Sy90.moved (Sy90.thing s b) else Sy90.thing s b) ∧ StgAt K H' A { s with things := th } r ∧ Frm A.all H H' ∧ p ∉ A.all ∧ H' p = some (.lst ((List.range s.things.length).map nV)))
    (fun p H1 hn e1 h1 => ⟨none, s.things, rfl, rfl, fun b _ => rfl, S.x e1, Frm.of e1, fun hp => ?_, h1⟩) (fun p i σ' H' _ h => ?_) ?_ ?_
  · simp only [Adr.all, List.mem_cons, List.not_mem_nil, or_false] at hp
    rcases hp with rfl | rfl | rfl | rfl | rfl | rfl | rfl | rfl | rfl
    · rw [S.o] at hn; cases hn
    · rw [S.fp] at hn; cases hn
    · rw [S.ft] at hn; cases hn
    · rw [S.fh] at hn; cases hn
    · rw [S.fr.choose_spec.1] at hn; cases hn
    · rw [S.fq.choose_spec.1] at hn; cases hn
    · rw [S.fc.choose_spec.1] at hn; cases hn
    · rw [S.fs] at hn; cases hn
    · rw [S.fe] at hn; cases hn
  · obtain ⟨_, _, _, _, _, _, _, _, h⟩ := h
    exact sq_of h
  · rintro p i x σ' H' hx ⟨o1, th, rfl, hl, ht, S1, f1, hp, h1⟩
    obtain ⟨hi, rfl⟩ := range_nV hx
    have hi' : i < ({ s with things := th } : Sy90.St).things.length := by
      show i < th.length
      omega
    have hti : Sy90.thing { s with things := th } i = Sy90.thing s i := by
      show th.getD i ⟨0, 0, none⟩ = _
      rw [ht i hi, if_neg (Nat.lt_irrefl i)]
    have gm := at_mark hi'
    have ga := at_aim hi'
    rw [hti] at gm ga
    show tAsg _ _ _ ([some (.ref A.a), some (nV i)] : L2.St) H'
    have hev : ∀ {H2 : Hp}, Ex H' H2 → Ev (tOp (rIxL K) (tFld K (tVar 0) "positions") (tVar 1)) [some (.ref A.a), some (nV i)] H2 (nV (Sy90.thing s i).mark) := fun e => ev_op (ev_p T (S1.x e) (ev_var rfl)) (ev_var rfl) (rv_ixL (sq_of (S1.x e).fp) gm)
    refine s_sub S1.fp (ev_p T S1 (ev_var rfl)) (ev_var rfl) (by rw [List.length_map, marks_len]; exact hi') (ev_is (ev_op (hev (Ex.refl _)) (ev_call (ea_cons (ev_op (ev_op (ev_t T S1 (ev_var rfl)) (ev_var rfl) (rv_ixL (sq_of S1.ft) ga)) (hev (Ex.refl _)) rv_I0) ea_nil) spv_sign_of) rv_I0) (congrArg V.int (moved_sign (Sy90.thing s i)))) fun H2 e2 => ?_
    have S2 := S1.x e2
    have S3 := S2.setMark (m := (Sy90.moved (Sy90.thing s i)).mark) hi'
    refine ⟨_, _, rfl, ?_, ?_, S3, ?_, hp, ?_⟩
    · show (th.set i _).length = _
      rw [List.length_set, hl]
    · intro b hb
      show (th.set i _).getD b _ = _
      by_cases c : i = b
      · subst c
        rw [getD_set_eq hi', if_pos (Nat.lt_succ_self i), hti]
        rfl
      · rw [getD_set_ne (Ne.symm c), ht b hb]
        by_cases c2 : b < i
        · rw [if_pos c2, if_pos (by omega)]
        · rw [if_neg c2, if_neg (by omega)]
    · exact (f1.trans (Frm.of e2)).trans (Frm.upd (by simp [Adr.all]))
    · rw [upd_ne fun z => hp (by rw [z]; simp [Adr.all])]
      exact e2 p _ h1
  · rintro p σ' H' ⟨o1, th, rfl, hl, ht, S1, f1, _, _⟩
    rw [List.length_map, List.length_range] at ht
    have : th = s.things.map Sy90.moved := things_ext (by rw [hl, List.length_map]) fun b hb => by
      rw [hl] at hb
      rw [ht b hb, if_pos hb, List.getD_eq_getElem?_getD, List.getElem?_map, List.getElem?_eq_getElem hb]
      unfold Sy90.thing
      rw [List.getD_eq_getElem?_getD, List.getElem?_eq_getElem hb]
      rfl
    subst this
    exact k H' S1 f1
theorem ok_Stage_move_bars {P : Program} {w : World} {K : PySem.W.Frag} {mg : Str → Option Value} {base : Heap} (T : Tx K mg) (D_Stage_bars : MethE P w K mg base (CX0) 1 "Stage" "bars" ["self"] (sp_Stage_bars K)) (D_sign_of : DefE P w K mg base (CX0) 1 "sign_of" ["number"] (sp_sign_of K)) : MethE P w K mg base CX0 2 "Stage" "move_bars" ["self"] (sp_Stage_move_bars K) := by
  obtain ⟨fd, F⟩ := T.d_Stage_move_bars
  have bd : Binds K fd ["self"] [] := F.bindsN fun _ _ _ _ _ _ us hl => match us, hl with | [_], _ => rfl
  have G : FnOk P w K mg base CX0 2 (He.ma K (He.ga K "Stage") "move_bars") fd ["self"] (sp_Stage_move_bars K) := by
    refine F.ok sc_Stage_move_bars (fun vs H Q E h => sl_Stage_move_bars h) (fun cdv A outer s H vs Q E hr h => ⟨t_Stage_move_bars K, PSs.nox ?_, pure_Stage_move_bars T vs H Q E h⟩)
    exact (pss_one (ps_for PassesOwn.never rfl (pi_list (pe_methE0 (pv 0) D_Stage_bars (hr.mono (by decide)) pass0)) (pg_name (i := 1) sc_Stage_move_bars.nd rfl (by first | exact Or.inl rfl | exact Or.inr rfl)) (pss_one (ps_asg (pe_op oAdd (pe_ix ix_list (pe_fld (pv 0) rfl) (pv 1) (fun _ _ => rfl)) (pe_callE D_sign_of (hr.mono (by decide)) rfl pass0 (by exact (pa_cons (pe_op oSub (pe_ix ix_list (pe_fld (pv 0) rfl) (pv 1) (fun _ _ => rfl)) (pe_ix ix_list (pe_fld (pv 0) rfl) (pv 1) (fun _ _ => rfl))) pa_nil)))) (pg_sub (pe_fld (pv 0) rfl) (pv 1) set_list)))))
  exact MethE.mk ⟨fd, G, bd⟩ T.c_Stage T.e_Stage_move_bars
end Sk
namespace Sk
open PySem L2 Evl Sc
/-! ### note_ends -/
def sp_Stage_note_ends (K : PySem.W.Frag) : Sp := fun vs H Q _ => ∃ (A : Adr) (s : Sy90.St) (r : List (Nat × Nat)), vs = [.ref A.a] ∧ StgAt K H A s r ∧ Sz s ∧ RetM K A (finishedP s) r .non H Q
theorem sl_Stage_note_ends {K : PySem.W.Frag} {vs : List V} {H : Hp} {Q : VK} {E : XK} (h : sp_Stage_note_ends K vs H Q E) : vs.length = 1 := by
  obtain ⟨_, _, _, rfl, _⟩ := h
  rfl
def t_Stage_note_ends (K : PySem.W.Frag) : TS :=
  (tFor (iRng1 (tCons (tCB (rLenS K) (tCons (tFld K (tVar 0) "cues") tNil)) tNil)) (gName 1) (tIfS (tAnd (tB (tMeth (He.ga K "Stage") "has_started" (sp_Stage_has_started K) [] E0 (tVar 0) (tCons (tVar 1) tNil))) (tAnd (tTest (tOp rIsN (tOp (rIxL K) (tFld K (tVar 0) "ends") (tVar 1)) (tC .non))) (tB (tMeth (He.ga K "Stage") "has_reached" (sp_Stage_has_reached K) [] E0 (tVar 0) (tCons (tVar 1) tNil))))) (tAsg (tFld K (tVar 0) "now") (gSub (tFld K (tVar 0) "ends") (tVar 1) rSetL)) tNext))
def endOf (s : Sy90.St) (k : Nat) : Option Nat := match Sy90.doneAt s k with
  | some t => some t
  | none => if ((Sy90.startOf s k).isSome && reached s k) = true then some s.second else none
theorem ext_getD {α : Type} {d : α} {l1 l2 : List α} (hl : l1.length = l2.length) (h : ∀ b, b < l1.length → l1.getD b d = l2.getD b d) : l1 = l2 := List.ext_getElem hl fun i h1 h2 => by
  have := h i h1
  rw [List.getD_eq_getElem?_getD, List.getD_eq_getElem?_getD, List.getElem?_eq_getElem h1, List.getElem?_eq_getElem h2] at this
  exact this
theorem map_set_op {l : List (Option Nat)} {i : Nat} {o : Option Nat} : (l.map opV).set i (opV o) = (l.set i o).map opV := List.map_set.symm
theorem pure_Stage_note_ends {K : PySem.W.Frag} {mg : Str → Option Value} (T : Tx K mg) (vs : List V) (H : Hp) (Q : VK) (E : XK) (h : sp_Stage_note_ends K vs H Q E) : t_Stage_note_ends K { nx := fun _ H' => Q .non H', rt := Q } (start N_Stage_note_ends vs) H := by
  obtain ⟨A, s, r, rfl, S, z, k⟩ := h
  have c5 := z.c5
  refine s_forR1 (n := ((s.cues.length : Nat) : Int)) (ea_cons (ev_is (ev_cb (ea_cons (ev_cs T S (ev_var rfl)) ea_nil) (rc_len (Or.inl (sq_of S.fc.choose_spec.1)))) (congrArg (fun n : Nat => nV n) (All2.len S.fc.choose_spec.2))) ea_nil) (by omega)
    (fun i σ' H' => ∃ o1 dn, σ' = [some (.ref A.a), o1] ∧ dn.length = s.cues.length ∧ (∀ b, b < s.cues.length → dn.getD b none = if b < i then endOf s b else Sy90.doneAt s b) ∧ StgAt K H' A { s with done := dn } r ∧ Frm A.all H H')
    (fun H1 e1 => ⟨none, s.done, rfl, z.ld, fun b _ => rfl, S.x e1, Frm.of e1⟩) ?_ ?_
  · rintro i σ' H' hi ⟨o1, dn, rfl, hl, hd, S1, f1⟩
    have hi' : i < s.cues.length := by omega
    have hid : i < dn.length := by omega
    have z1 : Sz { s with done := dn } := z.of rfl rfl rfl (by show dn.length = _; rw [hl, z.ld])
    have his : i < s.started.length := by rw [z.ls]; exact hi'
    have hdi : dn.getD i none = Sy90.doneAt s i := by rw [hd i hi', if_neg (Nat.lt_irrefl i)]
    have hat := at_opt hid
    rw [hdi] at hat
    have step : ∀ (dn2 : List (Option Nat)), dn2.length = s.cues.length → dn2.getD i none = endOf s i → (∀ b, b ≠ i → dn2.getD b none = dn.getD b none) → ∀ b, b < s.cues.length → dn2.getD b none = if b < i + 1 then endOf s b else Sy90.doneAt s b := fun dn2 _ h2 h3 b hb => by
      by_cases c : b = i
      · subst c
        rw [h2, if_pos (Nat.lt_succ_self b)]
      · rw [h3 b c, hd b hb]
        by_cases c2 : b < i
        · rw [if_pos c2, if_pos (by omega)]
        · rw [if_neg c2, if_neg (by omega)]
    refine s_when (et_and (et_B (ev_started S1 (ev_var rfl) (ev_var rfl) his)) fun _ => et_and (et_test (ev_op (ev_op (ev_es T S1 (ev_var rfl)) (ev_var rfl) (rv_ixL (sq_of S1.fe) hat)) ev_c rv_isN)) fun _ => et_B (ev_reached S1 z1 (ev_var rfl) (ev_var rfl))) (fun hb H2 e2 => ?_) fun hb H2 e2 => ?_
    · have S2 := S1.x e2
      rw [isN_op] at hb
      obtain ⟨b1, b2⟩ := Bool.and_eq_true_iff.mp hb
      obtain ⟨b3, b4⟩ := Bool.and_eq_true_iff.mp b2
      change (Sy90.startOf s i).isSome = true at b1
      change reached s i = true at b4
      have hdn : Sy90.doneAt s i = none := Option.isNone_iff_eq_none.mp b3
      refine s_sub S2.fe (ev_es T S2 (ev_var rfl)) (ev_var rfl) (by rw [List.length_map]; exact hid) (ev_now T S2 (ev_var rfl)) fun H3 e3 => ?_
      have S3 := S2.x e3
      refine ⟨_, dn.set i (some s.second), rfl, by rw [List.length_set, hl], step _ (by rw [List.length_set, hl]) ?_ (fun b c => getD_set_ne c), S3.putE (map_set_op (o := some s.second)) rfl rfl rfl rfl rfl rfl rfl, ((f1.trans (Frm.of e2)).trans (Frm.of e3)).trans (Frm.upd (by simp [Adr.all]))⟩
      rw [getD_set_eq hid]
      unfold endOf
      rw [hdn]
      dsimp only
      rw [b1, b4]
      rfl
    · rw [isN_op] at hb
      refine ⟨_, dn, rfl, hl, step dn hl ?_ (fun _ _ => rfl), S1.x e2, f1.trans (Frm.of e2)⟩
      rw [hdi]
      unfold endOf
      cases hdn : Sy90.doneAt s i with
      | some t => rfl
      | none =>
        dsimp only
        rw [if_neg]
        intro hc
        obtain ⟨b1, b4⟩ := Bool.and_eq_true_iff.mp hc
        change ((Sy90.startOf s i).isSome && ((Sy90.doneAt s i).isNone && reached s i)) = false at hb
        rw [b1, b4, hdn] at hb
        cases hb
  · rintro σ' H' ⟨o1, dn, rfl, hl, hd, S1, f1⟩
    rw [Int.toNat_natCast] at hd
    have : dn = (finishedP s).done := ext_getD (d := none) (by rw [hl]; show _ = (List.map _ _).length; rw [List.length_map, List.length_range]) fun b hb => by
      rw [hl] at hb
      rw [hd b hb, if_pos hb]
      show _ = (List.map _ _).getD b none
      rw [List.getD_eq_getElem?_getD, List.getElem?_map, List.getElem?_range hb]
      rfl
    subst this
    exact k H' S1 f1
theorem ok_Stage_note_ends {P : Program} {w : World} {K : PySem.W.Frag} {mg : Str → Option Value} {base : Heap} (T : Tx K mg) (D_Stage_has_reached : MethE P w K mg base (CX0) 2 "Stage" "has_reached" ["self", "number"] (sp_Stage_has_reached K)) (D_Stage_has_started : MethE P w K mg base (CX0) 1 "Stage" "has_started" ["self", "number"] (sp_Stage_has_started K)) : MethE P w K mg base CX0 3 "Stage" "note_ends" ["self"] (sp_Stage_note_ends K) := by
  obtain ⟨fd, F⟩ := T.d_Stage_note_ends
  have bd : Binds K fd ["self"] [] := F.bindsN fun _ _ _ _ _ _ us hl => match us, hl with | [_], _ => rfl
  have G : FnOk P w K mg base CX0 3 (He.ma K (He.ga K "Stage") "note_ends") fd ["self"] (sp_Stage_note_ends K) := by
    refine F.ok sc_Stage_note_ends (fun vs H Q E h => sl_Stage_note_ends h) (fun cdv A outer s H vs Q E hr h => ⟨t_Stage_note_ends K, PSs.nox ?_, pure_Stage_note_ends T vs H Q E h⟩)
    exact (pss_one (ps_for PassesOwn.never rfl (pi_range1 rfl T.f_range (pa_cons (pe_callB cLen rfl T.f_len bLen (pa_cons (pe_fld (pv 0) rfl) pa_nil)) pa_nil)) (pg_name (i := 1) sc_Stage_note_ends.nd rfl (by first | exact Or.inl rfl | exact Or.inr rfl)) (pss_one (ps_if (PW.pt (pw_and (pt_val (pe_methE (pv 0) D_Stage_has_started (hr.mono (by decide)) pass0 (by exact (pa_cons (pv 1) pa_nil)))) (pw_and (pt_cmpR oIsN (pe_ix ix_list (pe_fld (pv 0) rfl) (pv 1) (fun _ _ => rfl)) pe_non (nomark _)) (pw_and1 (pt_val (pe_methE (pv 0) D_Stage_has_reached (hr.mono (by decide)) pass0 (by exact (pa_cons (pv 1) pa_nil)))))))) (pss_one (ps_asg (pe_fld (pv 0) rfl) (pg_sub (pe_fld (pv 0) rfl) (pv 1) set_list))) pss_nil))))
  exact MethE.mk ⟨fd, G, bd⟩ T.c_Stage T.e_Stage_note_ends

/-! ### start -/
def sp_Stage_start (K : PySem.W.Frag) : Sp := fun vs H Q _ => ∃ (A : Adr) (s : Sy90.St) (r : List (Nat × Nat)) (k : Nat), vs = [.ref A.a, nV k] ∧ StgAt K H A s r ∧ Sz s ∧ k < s.cues.length ∧ RetM K A (Sy90.starts s k) r .non H Q
theorem sl_Stage_start {K : PySem.W.Frag} {vs : List V} {H : Hp} {Q : VK} {E : XK} (h : sp_Stage_start K vs H Q E) : vs.length = 2 := by
  obtain ⟨_, _, _, _, rfl, _⟩ := h
  rfl
def t_Stage_start (K : PySem.W.Frag) : TS :=
  (tSeq (tAsg (tFld K (tVar 0) "now") (gSub (tFld K (tVar 0) "starts") (tVar 1) rSetL))
  (tFor (iTup K (tFld K (tOp (rIxL K) (tFld K (tVar 0) "cues") (tVar 1)) "moves")) (gTup K 2 (gCons (gName 2) (gCons (gName 3) gNil))) (tSeq (tAsg (tVar 3) (gSub (tFld K (tVar 0) "targets") (tVar 2) rSetL))
  (tAsg (tVar 1) (gSub (tFld K (tVar 0) "holders") (tVar 2) rSetL)))))
theorem StgAt.setAim {K : PySem.W.Frag} {H : Hp} {A : Adr} {s : Sy90.St} {r : List (Nat × Nat)} (S : StgAt K H A s r) {b m : Nat} (hb : b < s.things.length) : StgAt K (upd H A.t (.lst (((aims s).map nV).set b (nV m)))) A { s with things := s.things.set b { Sy90.thing s b with aim := m } } r := by
  refine S.putT ?_ (map_set_same _ _ _ _ _ hb rfl) (map_set_same _ _ _ _ _ hb rfl) rfl rfl rfl rfl rfl
  rw [← List.map_set]
  congr 1
  unfold aims
  rw [List.map_set]
theorem StgAt.setBy {K : PySem.W.Frag} {H : Hp} {A : Adr} {s : Sy90.St} {r : List (Nat × Nat)} (S : StgAt K H A s r) {b m : Nat} (hb : b < s.things.length) : StgAt K (upd H A.h (.lst ((s.things.map fun x => byV x.by_).set b (nV m)))) A { s with things := s.things.set b { Sy90.thing s b with by_ := some m } } r := by
  refine S.putH ?_ (map_set_same _ _ _ _ _ hb rfl) (map_set_same _ _ _ _ _ hb rfl) rfl rfl rfl rfl rfl
  rw [List.map_set]
  rfl
theorem setMoves_snoc (k : Nat) (m : List (Nat × Nat)) (x : Nat × Nat) (l : List Sy90.Thing) : setMoves k (m ++ [x]) l = (setMoves k m l).set x.1 { ((setMoves k m l).getD x.1 ⟨0, 0, none⟩) with aim := x.2, by_ := some k } := by
  unfold setMoves
  rw [List.foldl_append]
  rfl
theorem pure_Stage_start {K : PySem.W.Frag} {mg : Str → Option Value} (T : Tx K mg) (vs : List V) (H : Hp) (Q : VK) (E : XK) (h : sp_Stage_start K vs H Q E) : t_Stage_start K { nx := fun _ H' => Q .non H', rt := Q } (start N_Stage_start vs) H := by
  obtain ⟨A, s, r, i, rfl, S, z, hi, k⟩ := h
  have his : i < s.started.length := by rw [z.ls]; exact hi
  have hC := z.cues i hi
  refine q_sub S.fs (ev_ss T S (ev_var rfl)) (ev_var rfl) (by rw [List.length_map]; exact his) (ev_now T S (ev_var rfl)) fun H1 e1 => ?_
  have S1 : StgAt K (upd H1 A.s (.lst ((s.started.map opV).set i (nV s.second)))) A { s with started := s.started.set i (some s.second) } r := (S.x e1).putS (map_set_op (o := some s.second)) rfl rfl rfl rfl rfl rfl rfl
  have f1 : Frm A.all H (upd H1 A.s (.lst ((s.started.map opV).set i (nV s.second)))) := (Frm.of e1).trans (Frm.upd (by simp [Adr.all]))
  generalize upd H1 A.s (.lst ((s.started.map opV).set i (nV s.second))) = H2 at S1 f1
  obtain ⟨v, hv, hev⟩ := ev_cue (σ := L2.start N_Stage_start [.ref A.a, nV i]) (ta := tVar 0) (tb := tVar 1) T S1 (k := i) hi (ev_var rfl) (ev_var rfl)
  obtain ⟨a, dx, m, ev, l, w, rfl, ho, ⟨xs, hx1, hx2⟩, hu⟩ := hv
  have hlen : xs.length = (Sy90.cue s i).moves.length := All2.len hx2
  refine s_forTP (a := m) (xs := xs) (ys := fun j => nV ((Sy90.cue s i).moves.getD j (0, 0)).1) (zs := fun j => nV ((Sy90.cue s i).moves.getD j (0, 0)).2) (ev_cmoves T ho hev) hx1 (fun j x hj => ?_)
    (fun j σ' H' => ∃ o2 o3, σ' = [some (.ref A.a), some (nV i), o2, o3] ∧ StgAt K H' A { s with things := setMoves i ((Sy90.cue s i).moves.take j) s.things, started := s.started.set i (some s.second) } r ∧ Frm A.all H2 H') (fun H3 e3 => ⟨none, none, rfl, S1.x e3, Frm.of e3⟩) ?_ ?_ ?_
  · obtain ⟨y, hy, T1, rfl, hT1⟩ := All2.get hx2 hj
    have hy' : (Sy90.cue s i).moves[j]? = some y := hy
    rw [getD_at hy']
    exact ⟨T1, rfl, hT1⟩
  · rintro j σ' H' _ ⟨_, _, _, _, f⟩
    exact S1.fix f
  · rintro j σ' H' hj ⟨o2, o3, rfl, S3, f3⟩
    rw [hlen] at hj
    have hy := at_getD (0, 0) hj
    generalize hgy : (Sy90.cue s i).moves.getD j (0, 0) = y at hy
    have hyb := (hC.bars y (List.mem_of_getElem? hy)).1
    have hyL : y.1 < (setMoves i ((Sy90.cue s i).moves.take j) s.things).length := by rw [setMoves_len]; exact hyb
    show tSeq _ _ _ ([some (.ref A.a), some (nV i), some (nV y.1), some (nV y.2)] : L2.St) H'
    refine q_sub S3.ft (ev_t T S3 (ev_var rfl)) (ev_var rfl) (by rw [List.length_map, aims_len]; exact hyL) (ev_var rfl) fun H4 e4 => ?_
    have S4 := (S3.x e4).setAim (m := y.2) (b := y.1) hyL
    have f4 : Frm A.all H2 (upd H4 A.t (.lst (((aims { s with things := setMoves i ((Sy90.cue s i).moves.take j) s.things, started := s.started.set i (some s.second) }).map nV).set y.1 (nV y.2)))) := (f3.trans (Frm.of e4)).trans (Frm.upd (by simp [Adr.all]))
    generalize upd H4 A.t (.lst (((aims { s with things := setMoves i ((Sy90.cue s i).moves.take j) s.things, started := s.started.set i (some s.second) }).map nV).set y.1 (nV y.2))) = H5 at S4 f4
    refine s_sub S4.fh (ev_h T S4 (ev_var rfl)) (ev_var rfl) (by rw [List.length_map, List.length_set]; exact hyL) (ev_var rfl) fun H6 e6 => ?_
    have S6 := (S4.x e6).setBy (m := i) (b := y.1) (by show y.1 < (List.set _ _ _).length; rw [List.length_set]; exact hyL)
    refine ⟨_, _, rfl, ?_, (f4.trans (Frm.of e6)).trans (Frm.upd (by simp [Adr.all]))⟩
    rw [take_succ_at hy, setMoves_snoc]
    have e7 : (setMoves i ((Sy90.cue s i).moves.take j) s.things).set y.1 { ((setMoves i ((Sy90.cue s i).moves.take j) s.things).getD y.1 ⟨0, 0, none⟩) with aim := y.2, by_ := some i } =
      ((setMoves i ((Sy90.cue s i).moves.take j) s.things).set y.1 { ((setMoves i ((Sy90.cue s i).moves.take j) s.things).getD y.1 ⟨0, 0, none⟩) with aim := y.2 }).set y.1 { (((setMoves i ((Sy90.cue s i).moves.take j) s.things).set y.1 { ((setMoves i ((Sy90.cue s i).moves.take j) s.things).getD y.1 ⟨0, 0, none⟩) with aim := y.2 }).getD y.1 ⟨0, 0, none⟩) with by_ := some i } := by
      rw [List.set_set, getD_set_eq hyL]
    rw [e7]
    exact S6
  · rintro σ' H' ⟨o2, o3, rfl, S3, f3⟩
    rw [List.take_of_length_le (by omega)] at S3
    exact k H' S3 (f1.trans f3)
theorem ok_Stage_start {P : Program} {w : World} {K : PySem.W.Frag} {mg : Str → Option Value} {base : Heap} (T : Tx K mg) : MethE P w K mg base CX0 1 "Stage" "start" ["self", "number"] (sp_Stage_start K) := by
  obtain ⟨fd, F⟩ := T.d_Stage_start
  have bd : Binds K fd ["self", "number"] [] := F.bindsN fun _ _ _ _ _ _ us hl => match us, hl with | [_, _], _ => rfl
  have G : FnOk P w K mg base CX0 1 (He.ma K (He.ga K "Stage") "start") fd ["self", "number"] (sp_Stage_start K) := by
    refine F.ok sc_Stage_start (fun vs H Q E h => sl_Stage_start h) (fun cdv A outer s H vs Q E hr h => ⟨t_Stage_start K, PSs.nox ?_, pure_Stage_start T vs H Q E h⟩)
    exact (pss_cons (ps_asg (pe_fld (pv 0) rfl) (pg_sub (pe_fld (pv 0) rfl) (pv 1) set_list))
  (pss_one (ps_for PassesOwn.never rfl (pi_tup (pe_fld (pe_ix ix_list (pe_fld (pv 0) rfl) (pv 1) (fun _ _ => rfl)) rfl)) (pg_tup rfl (pgs_cons (pg_name (i := 2) sc_Stage_start.nd rfl (by first | exact Or.inl rfl | exact Or.inr rfl)) (pgs_cons (pg_name (i := 3) sc_Stage_start.nd rfl (by first | exact Or.inl rfl | exact Or.inr rfl)) pgs_nil))) (pss_cons (ps_asg (pv 3) (pg_sub (pe_fld (pv 0) rfl) (pv 2) set_list))
  (pss_one (ps_asg (pv 1) (pg_sub (pe_fld (pv 0) rfl) (pv 2) set_list)))))))
  exact MethE.mk ⟨fd, G, bd⟩ T.c_Stage T.e_Stage_start
end Sk
namespace Sk
open PySem L2 Evl Sc
/-! ### start_followers -/
def sp_Stage_start_followers (K : PySem.W.Frag) : Sp := fun vs H Q _ => ∃ (A : Adr) (s : Sy90.St) (r : List (Nat × Nat)), vs = [.ref A.a] ∧ StgAt K H A s r ∧ Sz s ∧ RetM K A (followedP s) r .non H Q
theorem sl_Stage_start_followers {K : PySem.W.Frag} {vs : List V} {H : Hp} {Q : VK} {E : XK} (h : sp_Stage_start_followers K vs H Q E) : vs.length = 1 := by
  obtain ⟨_, _, _, rfl, _⟩ := h
  rfl
def t_Stage_start_followers (K : PySem.W.Frag) : TS :=
  (tFor (iRng1 (tCons (tCB (rLenS K) (tCons (tFld K (tVar 0) "cues") tNil)) tNil)) (gName 1) (tIfS (tAnd (tNot (tB (tMeth (He.ga K "Stage") "has_started" (sp_Stage_has_started K) [] E0 (tVar 0) (tCons (tVar 1) tNil)))) (tTest (tOp rEq (tMeth (He.ga K "Stage") "due_of" (sp_Stage_due_of K) [] E0 (tVar 0) (tCons (tVar 1) tNil)) (tFld K (tVar 0) "now")))) (tDrop (tMeth (He.ga K "Stage") "start" (sp_Stage_start K) [] E0 (tVar 0) (tCons (tVar 1) tNil))) tNext))
theorem Sz.starts {s : Sy90.St} (z : Sz s) (k : Nat) : Sz (Sy90.starts s k) := z.of starts_len rfl (List.length_set ..) rfl
theorem Sz.stepP {s : Sy90.St} (z : Sz s) (k : Nat) : Sz (stepP s k) := by
  unfold Sc.stepP
  split
  · exact z.starts k
  · exact z
theorem foldP_succ (s : Sy90.St) (n : Nat) : (List.range (n + 1)).foldl stepP s = stepP ((List.range n).foldl stepP s) n := by
  rw [List.range_succ, List.foldl_append]
  rfl
theorem op_is {o : Option Nat} {n : Nat} : decide (opV o = nV n) = decide (o = some n) := by
  refine decide_eq_decide.mpr ?_
  cases o with
  | none =>
    constructor
    · intro h
      cases h
    · intro h
      cases h
  | some m =>
    constructor
    · intro h
      have := V.int.inj h
      rw [show m = n by omega]
    · intro h
      rw [Option.some.inj h]
      rfl
theorem scal_op (o : Option Nat) (k : Nat) : scal (opV o) (nV k) = true := by cases o <;> rfl
theorem pure_Stage_start_followers {K : PySem.W.Frag} {mg : Str → Option Value} (T : Tx K mg) (vs : List V) (H : Hp) (Q : VK) (E : XK) (h : sp_Stage_start_followers K vs H Q E) : t_Stage_start_followers K { nx := fun _ H' => Q .non H', rt := Q } (start N_Stage_start_followers vs) H := by
  obtain ⟨A, s, r, rfl, S, z, k⟩ := h
  have c5 := z.c5
  refine s_forR1 (n := ((s.cues.length : Nat) : Int)) (ea_cons (ev_is (ev_cb (ea_cons (ev_cs T S (ev_var rfl)) ea_nil) (rc_len (Or.inl (sq_of S.fc.choose_spec.1)))) (congrArg (fun n : Nat => nV n) (All2.len S.fc.choose_spec.2))) ea_nil) (by omega)
    (fun i σ' H' => ∃ o1, σ' = [some (.ref A.a), o1] ∧ Sz ((List.range i).foldl stepP s) ∧ StgAt K H' A ((List.range i).foldl stepP s) r ∧ Frm A.all H H')
    (fun H1 e1 => ⟨none, rfl, z, S.x e1, Frm.of e1⟩) ?_ ?_
  · rintro i σ' H' hi ⟨o1, rfl, z1, S1, f1⟩
    have hcs := (fold_same s i).1
    rw [foldP_succ]
    generalize (List.range i).foldl stepP s = s1 at z1 S1 hcs
    have hi1 : i < s1.cues.length := by rw [hcs]; omega
    have his : i < s1.started.length := by rw [z1.ls]; exact hi1
    refine s_when (et_and (et_not (et_B (ev_started S1 (ev_var rfl) (ev_var rfl) his))) fun _ => et_test (ev_op (ev_due S1 z1 (ev_var rfl) (ev_var rfl) hi1) (ev_now T S1 (ev_var rfl)) (rv_eq (scal_op _ _)))) (fun hb H2 e2 => ?_) fun hb H2 e2 => ?_
    · have S2 := S1.x e2
      rw [Option.not_isSome, op_is] at hb
      have hst : stepP s1 i = Sy90.starts s1 i := if_pos hb
      refine s_mut (ev_var rfl) S2.o rfl (ea_cons (ev_var rfl) ea_nil) fun H3 e3 => ⟨A, s1, r, i, rfl, S2.x e3, z1, hi1, fun H4 S4 f4 => ⟨_, rfl, ?_, ?_, ((f1.trans (Frm.of e2)).trans (Frm.of e3)).trans f4⟩⟩
      · exact z1.stepP i
      · rw [hst]
        exact S4
    · rw [Option.not_isSome, op_is] at hb
      have hst : stepP s1 i = s1 := if_neg (by unfold dueP; rw [hb]; decide)
      rw [hst]
      exact ⟨_, rfl, z1, S1.x e2, f1.trans (Frm.of e2)⟩
  · rintro σ' H' ⟨o1, rfl, z1, S1, f1⟩
    rw [Int.toNat_natCast] at S1
    exact k H' S1 f1
theorem ok_Stage_start_followers {P : Program} {w : World} {K : PySem.W.Frag} {mg : Str → Option Value} {base : Heap} (T : Tx K mg) (D_Stage_due_of : MethE P w K mg base (CX0) 1 "Stage" "due_of" ["self", "number"] (sp_Stage_due_of K)) (D_Stage_has_started : MethE P w K mg base (CX0) 1 "Stage" "has_started" ["self", "number"] (sp_Stage_has_started K)) (D_Stage_start : MethE P w K mg base (CX0) 1 "Stage" "start" ["self", "number"] (sp_Stage_start K)) : MethE P w K mg base CX0 2 "Stage" "start_followers" ["self"] (sp_Stage_start_followers K) := by
  obtain ⟨fd, F⟩ := T.d_Stage_start_followers
  have bd : Binds K fd ["self"] [] := F.bindsN fun _ _ _ _ _ _ us hl => match us, hl with | [_], _ => rfl
  have G : FnOk P w K mg base CX0 2 (He.ma K (He.ga K "Stage") "start_followers") fd ["self"] (sp_Stage_start_followers K) := by
    refine F.ok sc_Stage_start_followers (fun vs H Q E h => sl_Stage_start_followers h) (fun cdv A outer s H vs Q E hr h => ⟨t_Stage_start_followers K, PSs.nox ?_, pure_Stage_start_followers T vs H Q E h⟩)
    exact (pss_one (ps_for PassesOwn.never rfl (pi_range1 rfl T.f_range (pa_cons (pe_callB cLen rfl T.f_len bLen (pa_cons (pe_fld (pv 0) rfl) pa_nil)) pa_nil)) (pg_name (i := 1) sc_Stage_start_followers.nd rfl (by first | exact Or.inl rfl | exact Or.inr rfl)) (pss_one (ps_if (PW.pt (pw_and (pt_not (pt_val (pe_methE (pv 0) D_Stage_has_started (hr.mono (by decide)) pass0 (by exact (pa_cons (pv 1) pa_nil))))) (pw_and1 (pt_cmpR oEq (pe_methE (pv 0) D_Stage_due_of (hr.mono (by decide)) pass0 (by exact (pa_cons (pv 1) pa_nil))) (pe_fld (pv 0) rfl) (nomark _))))) (pss_one (ps_expr (pe_methE (pv 0) D_Stage_start (hr.mono (by decide)) pass0 (by exact (pa_cons (pv 1) pa_nil))))) pss_nil))))
  exact MethE.mk ⟨fd, G, bd⟩ T.c_Stage T.e_Stage_start_followers
theorem Sz.followedP {s : Sy90.St} (z : Sz s) : Sz (followedP s) := by
  unfold Sc.followedP
  have h : ∀ n, Sz ((List.range n).foldl Sc.stepP s) := fun n => by
    induction n with
    | zero => exact z
    | succ n ih =>
      rw [foldP_succ]
      exact ih.stepP n
  exact h _

/-! ### call -/
def sp_Stage_call (K : PySem.W.Frag) : Sp := fun vs H Q _ => ∃ (A : Adr) (s : Sy90.St) (r : List (Nat × Nat)) (k : Nat), vs = [.ref A.a, nV k] ∧ StgAt K H A s r ∧ Sz s ∧ k < s.cues.length ∧ RetM K A (calledP s k) r .non H Q
theorem sl_Stage_call {K : PySem.W.Frag} {vs : List V} {H : Hp} {Q : VK} {E : XK} (h : sp_Stage_call K vs H Q E) : vs.length = 2 := by
  obtain ⟨_, _, _, _, rfl, _⟩ := h
  rfl
def t_Stage_call (K : PySem.W.Frag) : TS :=
  (tSeq (tDrop (tMeth (He.ga K "Stage") "start" (sp_Stage_start K) [] E0 (tVar 0) (tCons (tVar 1) tNil)))
  (tDrop (tMeth (He.ga K "Stage") "start_followers" (sp_Stage_start_followers K) [] E0 (tVar 0) tNil)))
theorem pure_Stage_call {K : PySem.W.Frag} {mg : Str → Option Value} (T : Tx K mg) (vs : List V) (H : Hp) (Q : VK) (E : XK) (h : sp_Stage_call K vs H Q E) : t_Stage_call K { nx := fun _ H' => Q .non H', rt := Q } (start N_Stage_call vs) H := by
  obtain ⟨A, s, r, i, rfl, S, z, hi, k⟩ := h
  refine q_mut (ev_var rfl) S.o rfl (ea_cons (ev_var rfl) ea_nil) fun H1 e1 => ⟨A, s, r, i, rfl, S.x e1, z, hi, fun H2 S2 f2 => ?_⟩
  refine s_mut (ev_var rfl) S2.o rfl ea_nil fun H3 e3 => ⟨A, _, r, rfl, S2.x e3, z.starts i, fun H4 S4 f4 => k H4 S4 (((Frm.of e1).trans f2).trans ((Frm.of e3).trans f4))⟩
theorem ok_Stage_call {P : Program} {w : World} {K : PySem.W.Frag} {mg : Str → Option Value} {base : Heap} (T : Tx K mg) (D_Stage_start : MethE P w K mg base (CX0) 1 "Stage" "start" ["self", "number"] (sp_Stage_start K)) (D_Stage_start_followers : MethE P w K mg base (CX0) 2 "Stage" "start_followers" ["self"] (sp_Stage_start_followers K)) : MethE P w K mg base CX0 3 "Stage" "call" ["self", "number"] (sp_Stage_call K) := by
  obtain ⟨fd, F⟩ := T.d_Stage_call
  have bd : Binds K fd ["self", "number"] [] := F.bindsN fun _ _ _ _ _ _ us hl => match us, hl with | [_, _], _ => rfl
  have G : FnOk P w K mg base CX0 3 (He.ma K (He.ga K "Stage") "call") fd ["self", "number"] (sp_Stage_call K) := by
    refine F.ok sc_Stage_call (fun vs H Q E h => sl_Stage_call h) (fun cdv A outer s H vs Q E hr h => ⟨t_Stage_call K, PSs.nox ?_, pure_Stage_call T vs H Q E h⟩)
    exact (pss_cons (ps_expr (pe_methE (pv 0) D_Stage_start (hr.mono (by decide)) pass0 (by exact (pa_cons (pv 1) pa_nil))))
  (pss_one (ps_expr (pe_methE0 (pv 0) D_Stage_start_followers (hr.mono (by decide)) pass0))))
  exact MethE.mk ⟨fd, G, bd⟩ T.c_Stage T.e_Stage_call

/-! ### pass_second -/
def sp_Stage_pass_second (K : PySem.W.Frag) : Sp := fun vs H Q _ => ∃ (A : Adr) (s : Sy90.St) (r : List (Nat × Nat)), vs = [.ref A.a] ∧ StgAt K H A s r ∧ Sz s ∧ RetM K A (tickP s) r .non H Q
theorem sl_Stage_pass_second {K : PySem.W.Frag} {vs : List V} {H : Hp} {Q : VK} {E : XK} (h : sp_Stage_pass_second K vs H Q E) : vs.length = 1 := by
  obtain ⟨_, _, _, rfl, _⟩ := h
  rfl
def t_Stage_pass_second (K : PySem.W.Frag) : TS :=
  (tSeq (tDrop (tMeth (He.ga K "Stage") "move_bars" (sp_Stage_move_bars K) [] E0 (tVar 0) tNil))
  (tSeq (sFld K (tVar 0) (tOp rAddI (tFld K (tVar 0) "now") (tC (.int 1))) "now")
  (tSeq (tDrop (tMeth (He.ga K "Stage") "note_ends" (sp_Stage_note_ends K) [] E0 (tVar 0) tNil))
  (tDrop (tMeth (He.ga K "Stage") "start_followers" (sp_Stage_start_followers K) [] E0 (tVar 0) tNil)))))
theorem Sz.goOn {s : Sy90.St} (z : Sz s) : Sz { s with things := s.things.map Sy90.moved, second := s.second + 1 } := z.of (List.length_map ..) rfl rfl rfl
theorem Sz.finishedP {s : Sy90.St} (z : Sz s) : Sz (finishedP s) := z.of rfl rfl rfl (by
  show (List.map _ _).length = _
  rw [List.length_map, List.length_range, z.ld])
theorem Sz.tickP {s : Sy90.St} (z : Sz s) : Sz (tickP s) := z.goOn.finishedP.followedP
theorem Sz.calledP {s : Sy90.St} (z : Sz s) (k : Nat) : Sz (calledP s k) := (z.starts k).followedP
theorem pure_Stage_pass_second {K : PySem.W.Frag} {mg : Str → Option Value} (T : Tx K mg) (vs : List V) (H : Hp) (Q : VK) (E : XK) (h : sp_Stage_pass_second K vs H Q E) : t_Stage_pass_second K { nx := fun _ H' => Q .non H', rt := Q } (start N_Stage_pass_second vs) H := by
  obtain ⟨A, s, r, rfl, S, z, k⟩ := h
  refine q_mut (ev_var rfl) S.o rfl ea_nil fun H1 e1 => ⟨A, s, r, rfl, S.x e1, z, fun H2 S2 f2 => ?_⟩
  refine q_fld (ev_var rfl) S2.o T.c_Stage T.n_Stage_now (by show 9 < 1000; decide) (ev_op (ev_now T S2 (ev_var rfl)) ev_c rv_I0) fun H3 e3 => ?_
  have S4 : StgAt K (upd H3 A.a (.ins (He.ga K "Stage") A.dx (stgF A (s.second + 1)))) A { s with things := s.things.map Sy90.moved, second := s.second + 1 } r := (S2.x e3).putN (s2 := { s with things := s.things.map Sy90.moved, second := s.second + 1 }) rfl rfl rfl rfl rfl rfl rfl
  have f4 : Frm A.all H (upd H3 A.a (.ins (He.ga K "Stage") A.dx (stgF A (s.second + 1)))) := (((Frm.of e1).trans f2).trans (Frm.of e3)).trans (Frm.upd (by simp [Adr.all]))
  show tSeq _ _ _ _ (upd H3 A.a (.ins (He.ga K "Stage") A.dx (stgF A (s.second + 1))))
  generalize upd H3 A.a (.ins (He.ga K "Stage") A.dx (stgF A (s.second + 1))) = H5 at S4 f4
  refine q_mut (ev_var rfl) S4.o rfl ea_nil fun H6 e6 => ⟨A, _, r, rfl, S4.x e6, z.goOn, fun H7 S7 f7 => ?_⟩
  refine s_mut (ev_var rfl) S7.o rfl ea_nil fun H8 e8 => ⟨A, _, r, rfl, S7.x e8, z.goOn.finishedP, fun H9 S9 f9 => k H9 S9 ((f4.trans ((Frm.of e6).trans f7)).trans ((Frm.of e8).trans f9))⟩
theorem ok_Stage_pass_second {P : Program} {w : World} {K : PySem.W.Frag} {mg : Str → Option Value} {base : Heap} (T : Tx K mg) (D_Stage_move_bars : MethE P w K mg base (CX0) 2 "Stage" "move_bars" ["self"] (sp_Stage_move_bars K)) (D_Stage_note_ends : MethE P w K mg base (CX0) 3 "Stage" "note_ends" ["self"] (sp_Stage_note_ends K)) (D_Stage_start_followers : MethE P w K mg base (CX0) 2 "Stage" "start_followers" ["self"] (sp_Stage_start_followers K)) : MethE P w K mg base CX0 4 "Stage" "pass_second" ["self"] (sp_Stage_pass_second K) := by
  obtain ⟨fd, F⟩ := T.d_Stage_pass_second
  have bd : Binds K fd ["self"] [] := F.bindsN fun _ _ _ _ _ _ us hl => match us, hl with | [_], _ => rfl
  have G : FnOk P w K mg base CX0 4 (He.ma K (He.ga K "Stage") "pass_second") fd ["self"] (sp_Stage_pass_second K) := by
    refine F.ok sc_Stage_pass_second (fun vs H Q E h => sl_Stage_pass_second h) (fun cdv A outer s H vs Q E hr h => ⟨t_Stage_pass_second K, PSs.nox ?_, pure_Stage_pass_second T vs H Q E h⟩)
    exact (pss_cons (ps_expr (pe_methE0 (pv 0) D_Stage_move_bars (hr.mono (by decide)) pass0))
  (pss_cons (ps_fld (pv 0) (pe_op oAdd (pe_fld (pv 0) rfl) pe_int) rfl)
  (pss_cons (ps_expr (pe_methE0 (pv 0) D_Stage_note_ends (hr.mono (by decide)) pass0))
  (pss_one (ps_expr (pe_methE0 (pv 0) D_Stage_start_followers (hr.mono (by decide)) pass0))))))
  exact MethE.mk ⟨fd, G, bd⟩ T.c_Stage T.e_Stage_pass_second

/-! ### add_cue -/
def addC (s : Sy90.St) (c : Sy90.Cue) : Sy90.St := { s with cues := s.cues ++ [c], started := s.started ++ [none], done := s.done ++ [none] }
def sp_Stage_add_cue (K : PySem.W.Frag) : Sp := fun vs H Q _ => ∃ (A : Adr) (s : Sy90.St) (r : List (Nat × Nat)) (v : V) (c : Sy90.Cue), vs = [.ref A.a, v] ∧ StgAt K H A s r ∧ Sz s ∧ CueV K H v c ∧ RetM K A (addC s c) r (nV s.cues.length) H Q
theorem sl_Stage_add_cue {K : PySem.W.Frag} {vs : List V} {H : Hp} {Q : VK} {E : XK} (h : sp_Stage_add_cue K vs H Q E) : vs.length = 2 := by
  obtain ⟨_, _, _, _, _, rfl, _⟩ := h
  rfl
def t_Stage_add_cue (K : PySem.W.Frag) : TS :=
  (tSeq (tDrop (tBM K "list" rAppend (tFld K (tVar 0) "cues") (tCons (tVar 1) tNil)))
  (tSeq (tDrop (tBM K "list" rAppend (tFld K (tVar 0) "starts") (tCons (tC .non) tNil)))
  (tSeq (tDrop (tBM K "list" rAppend (tFld K (tVar 0) "ends") (tCons (tC .non) tNil)))
  (tRet (tOp rSubI (tCB (rLenS K) (tCons (tFld K (tVar 0) "cues") tNil)) (tC (.int 1)))))))
theorem pure_Stage_add_cue {K : PySem.W.Frag} {mg : Str → Option Value} (T : Tx K mg) (vs : List V) (H : Hp) (Q : VK) (E : XK) (h : sp_Stage_add_cue K vs H Q E) : t_Stage_add_cue K { nx := fun _ H' => Q .non H', rt := Q } (start N_Stage_add_cue vs) H := by
  obtain ⟨A, s, r, v, c, rfl, S, z, hv, k⟩ := h
  have c5 := z.c5
  obtain ⟨xs, hx1, hx2⟩ := S.fc
  have hxl : xs.length = s.cues.length := All2.len hx2
  refine q_app hx1 (ev_cs T S (ev_var rfl)) (ev_var rfl) (by omega) fun H1 e1 => ?_
  have S2 : StgAt K (upd H1 A.c (.lst (xs ++ [v]))) A { s with cues := s.cues ++ [c] } r := (S.x e1).putC (All2.snoc (all2_x cueV_st.x e1 hx2) (cueV_st.x _ _ _ _ _ e1 hv)) rfl rfl rfl rfl rfl rfl rfl
  have f2 : Frm A.all H (upd H1 A.c (.lst (xs ++ [v]))) := (Frm.of e1).trans (Frm.upd (by simp [Adr.all]))
  generalize upd H1 A.c (.lst (xs ++ [v])) = H2 at S2 f2
  refine q_app S2.fs (ev_ss T S2 (ev_var rfl)) ev_c (by rw [List.length_map]; show s.started.length < _; rw [z.ls]; omega) fun H3 e3 => ?_
  have S4 : StgAt K (upd H3 A.s (.lst (s.started.map opV ++ [.non]))) A { s with cues := s.cues ++ [c], started := s.started ++ [none] } r := (S2.x e3).putS (by rw [List.map_append]; rfl) rfl rfl rfl rfl rfl rfl rfl
  have f4 : Frm A.all H (upd H3 A.s (.lst (s.started.map opV ++ [.non]))) := (f2.trans (Frm.of e3)).trans (Frm.upd (by simp [Adr.all]))
  show tSeq _ _ _ _ (upd H3 A.s (.lst (s.started.map opV ++ [.non])))
  generalize upd H3 A.s (.lst (s.started.map opV ++ [.non])) = H4 at S4 f4
  refine q_app S4.fe (ev_es T S4 (ev_var rfl)) ev_c (by rw [List.length_map]; show s.done.length < _; rw [z.ld]; omega) fun H5 e5 => ?_
  have S6 : StgAt K (upd H5 A.e (.lst (s.done.map opV ++ [.non]))) A (addC s c) r := (S4.x e5).putE (by show _ = List.map opV (_ ++ _); rw [List.map_append]; rfl) rfl rfl rfl rfl rfl rfl rfl
  have f6 : Frm A.all H (upd H5 A.e (.lst (s.done.map opV ++ [.non]))) := (f4.trans (Frm.of e5)).trans (Frm.upd (by simp [Adr.all]))
  show tRet _ _ _ (upd H5 A.e (.lst (s.done.map opV ++ [.non])))
  generalize upd H5 A.e (.lst (s.done.map opV ++ [.non])) = H6 at S6 f6
  refine s_ret (ev_is (ev_op (ev_cb (ea_cons (ev_cs T S6 (ev_var rfl)) ea_nil) (rc_len (Or.inl (sq_of S6.fc.choose_spec.1)))) ev_c rv_I0) (congrArg V.int ?_)) fun H7 e7 => k H7 (S6.x e7) (f6.trans (Frm.of e7))
  rw [All2.len S6.fc.choose_spec.2]
  show (((s.cues ++ [c]).length : Nat) : Int) - 1 = _
  rw [List.length_append, List.length_singleton]
  omega
theorem ok_Stage_add_cue {P : Program} {w : World} {K : PySem.W.Frag} {mg : Str → Option Value} {base : Heap} (T : Tx K mg) : MethE P w K mg base CX0 1 "Stage" "add_cue" ["self", "cue"] (sp_Stage_add_cue K) := by
  obtain ⟨fd, F⟩ := T.d_Stage_add_cue
  have bd : Binds K fd ["self", "cue"] [] := F.bindsN fun _ _ _ _ _ _ us hl => match us, hl with | [_, _], _ => rfl
  have G : FnOk P w K mg base CX0 1 (He.ma K (He.ga K "Stage") "add_cue") fd ["self", "cue"] (sp_Stage_add_cue K) := by
    refine F.ok sc_Stage_add_cue (fun vs H Q E h => sl_Stage_add_cue h) (fun cdv A outer s H vs Q E hr h => ⟨t_Stage_add_cue K, PSs.nox ?_, pure_Stage_add_cue T vs H Q E h⟩)
    exact (pss_cons (ps_expr (pe_bm PySem.F.plainAttrs_list PySem.F.slot_list_append PySem.F.type_list_append mt_append (pe_fld (pv 0) rfl) (pa_cons (pv 1) pa_nil)))
  (pss_cons (ps_expr (pe_bm PySem.F.plainAttrs_list PySem.F.slot_list_append PySem.F.type_list_append mt_append (pe_fld (pv 0) rfl) (pa_cons pe_non pa_nil)))
  (pss_cons (ps_expr (pe_bm PySem.F.plainAttrs_list PySem.F.slot_list_append PySem.F.type_list_append mt_append (pe_fld (pv 0) rfl) (pa_cons pe_non pa_nil)))
  (pss_one (ps_ret (pe_op oSub (pe_callB cLen rfl T.f_len bLen (pa_cons (pe_fld (pv 0) rfl) pa_nil)) pe_int))))))
  exact MethE.mk ⟨fd, G, bd⟩ T.c_Stage T.e_Stage_add_cue

/-! ### Cue -/
def sp_Cue___init__ (K : PySem.W.Frag) : Sp := fun vs H Q _ => ∃ (x dx m : Addr) (ev : Int) (l w : V), vs = [.ref x, .ref m, .int ev, l, w] ∧ H x = some (.ins (He.ga K "Cue") dx []) ∧
  ∀ H2, H2 x = some (.ins (He.ga K "Cue") dx (cueF m ev l w)) → Frm [x] H H2 → Q .non H2
theorem sl_Cue___init__ {K : PySem.W.Frag} {vs : List V} {H : Hp} {Q : VK} {E : XK} (h : sp_Cue___init__ K vs H Q E) : vs.length = 5 := by
  obtain ⟨_, _, _, _, _, _, rfl, _⟩ := h
  rfl
def t_Cue___init__ (K : PySem.W.Frag) : TS :=
  (tSeq (sFld K (tVar 0) (tVar 1) "moves")
  (tSeq (sFld K (tVar 0) (tVar 2) "event")
  (tSeq (sFld K (tVar 0) (tVar 3) "leader")
  (sFld K (tVar 0) (tVar 4) "delay"))))
theorem pure_Cue___init__ {K : PySem.W.Frag} {mg : Str → Option Value} (T : Tx K mg) (vs : List V) (H : Hp) (Q : VK) (E : XK) (h : sp_Cue___init__ K vs H Q E) : t_Cue___init__ K { nx := fun _ H' => Q .non H', rt := Q } (start N_Cue___init__ vs) H := by
  obtain ⟨x, dx, m, ev, l, w, rfl, h0, k⟩ := h
  have fu : ∀ {H : Hp} {o : HO}, Frm [x] H (upd H x o) := fun {H o} => Frm.upd List.mem_cons_self
  refine q_fld (ev_var rfl) h0 T.c_Cue T.n_Cue_moves (by show 0 < 1000; decide) (ev_var rfl) fun H1 e1 => ?_
  refine q_fld (ev_var rfl) upd_same T.c_Cue T.n_Cue_event (by show 1 < 1000; decide) (ev_var rfl) fun H2 e2 => ?_
  refine q_fld (ev_var rfl) upd_same T.c_Cue T.n_Cue_leader (by show 2 < 1000; decide) (ev_var rfl) fun H3 e3 => ?_
  refine s_fld (ev_var rfl) upd_same T.c_Cue T.n_Cue_delay (by show 3 < 1000; decide) (ev_var rfl) fun H4 e4 => ?_
  exact k _ upd_same ((((((((Frm.of e1).trans fu).trans (Frm.of e2)).trans fu).trans (Frm.of e3)).trans fu).trans (Frm.of e4)).trans fu)
theorem ok_Cue___init__ {P : Program} {w : World} {K : PySem.W.Frag} {mg : Str → Option Value} {base : Heap} (T : Tx K mg) : MakeE P w K mg base CX0 1 "Cue" ["self", "moves", "event", "leader", "delay"] (sp_Cue___init__ K) := by
  obtain ⟨fd, F⟩ := T.d_Cue___init__
  have bd : Binds K fd ["self", "moves", "event", "leader", "delay"] [] := F.bindsN fun _ _ _ _ _ _ us hl => match us, hl with | [_, _, _, _, _], _ => rfl
  have G : FnOk P w K mg base CX0 1 (He.ma K (He.ga K "Cue") "__init__") fd ["self", "moves", "event", "leader", "delay"] (sp_Cue___init__ K) := by
    refine F.ok sc_Cue___init__ (fun vs H Q E h => sl_Cue___init__ h) (fun cdv A outer s H vs Q E hr h => ⟨t_Cue___init__ K, PSs.nox ?_, pure_Cue___init__ T vs H Q E h⟩)
    exact (pss_cons (ps_fld (pv 0) (pv 1) rfl)
  (pss_cons (ps_fld (pv 0) (pv 2) rfl)
  (pss_cons (ps_fld (pv 0) (pv 3) rfl)
  (pss_one (ps_fld (pv 0) (pv 4) rfl)))))
  exact MakeE.mk ⟨fd, G, bd⟩ T.k_Cue T.g_Cue
/-- a new cue -/
theorem evd_cue {K : PySem.W.Frag} {σ : L2.St} {H : Hp} {E : XK} {ta : TA} {c : Sy90.Cue} (h : EvAD ta σ H fun vs H1 => ∃ (m : Addr) (ev : Int) (l w : V), vs = [.ref m, .int ev, l, w] ∧ MvV K H1 m c.moves ∧ upE c.upon ev l w) :
    EvD (tMake (He.ga K "Cue") (sp_Cue___init__ K) [] E ta) σ H fun v H1 => CueV K H1 v c := fun H1 e Q q => h H1 e _ fun vs H2 e2 p2 => by
  obtain ⟨m, ev, l, w, rfl, hm, hu⟩ := p2
  intro x dx hx hdx hne
  refine ⟨x, dx, m, ev, l, w, rfl, upd_same, fun H3 h3 f3 => ⟨rfl, ?_⟩⟩
  have e3 : Ex H2 H3 := by
    refine Frm.ex (H1 := upd (upd H2 dx (.own x)) x (.ins (He.ga K "Cue") dx [])) ?_ (M := [x]) (fun b hb => by rw [List.mem_singleton.mp hb]; exact hx) f3
    exact (Ex.new hdx).mut hx
  exact q (.ref x) H3 (e2.trans e3) ⟨x, dx, m, ev, l, w, rfl, h3, mvV_fix (Fix.of e3) hm, hu⟩
end Sk
namespace Sk
open PySem L2 Evl Sc
/-! ### building an instance -/
structure Bld (H0 : Hp) (x C dx : Addr) (fs : List (Str × V)) (l : List (Addr × List V)) (H : Hp) : Prop where
  o : H x = some (.ins C dx fs)
  f : Frm [x] H0 H
  m : ∀ y ∈ l, H y.1 = some (.lst y.2) ∧ H0 y.1 = none ∧ y.1 ≠ x
  nd : (l.map fun (y : Addr × List V) => y.1).Nodup
section
variable {K : PySem.W.Frag} {σ : L2.St} {H0 H H1 : Hp} {x C dx : Addr} {fs : List (Str × V)} {l : List (Addr × List V)} {ta te : TE} {tz : TS} {D : Ends} {f : Str}
theorem Bld.ext (B : Bld H0 x C dx fs l H) (e : Ex H H1) : Bld H0 x C dx fs l H1 := ⟨e x _ B.o, B.f.trans (Frm.of e), fun y hy => ⟨e _ _ (B.m y hy).1, (B.m y hy).2⟩, B.nd⟩
theorem Bld.put {H2 : Hp} {p : Addr} {xs : List V} (B : Bld H0 x C dx fs l H) (hn : H p = none) (e : Ex H H2) (hp : H2 p = some (.lst xs)) : Bld H0 x C dx (putF f (.ref p) fs) ((p, xs) :: l) (upd H2 x (.ins C dx (putF f (.ref p) fs))) := by
  have hpx : p ≠ x := fun z => by
    rw [z, B.o] at hn
    cases hn
  refine ⟨upd_same, (B.f.trans (Frm.of e)).trans (Frm.upd List.mem_cons_self), fun y hy => ?_, ?_⟩
  · rcases List.mem_cons.mp hy with rfl | hy
    · refine ⟨by rw [upd_ne hpx]; exact hp, ?_, hpx⟩
      cases c : H0 p with
      | none => rfl
      | some o =>
        have := B.f p o c fun z => hpx (List.mem_singleton.mp z)
        rw [hn] at this
        cases this
    · obtain ⟨a, b, c⟩ := B.m y hy
      exact ⟨by rw [upd_ne c]; exact e _ _ a, b, c⟩
  · rw [List.map_cons, List.nodup_cons]
    refine ⟨fun z => ?_, B.nd⟩
    obtain ⟨y, hy, hyp⟩ := List.mem_map.mp z
    have := (B.m y hy).1
    rw [show y.1 = p from hyp, hn] at this
    cases this
theorem q_bld {xs : List V} (B : Bld H0 x C dx fs l H) (hc : Cls K C) (hn : NoAttr K C f) (hz : fs.length < 1000) (hx : fixO (.ins C dx fs) = false) (h : ∀ H1, Ex H H1 → Ev ta σ H1 (.ref x)) (hv : EvL te σ H xs)
    (k : ∀ p H', Fix H H' → Bld H0 x C dx (putF f (.ref p) fs) ((p, xs) :: l) H' → tz D σ H') : tSeq (sFld K ta te f) tz D σ H :=
  hv H (Ex.refl H) _ fun p H1 hp e1 h1 => h H1 e1 H1 (Ex.refl _) _ fun H2 e2 => ⟨x, C, dx, fs, rfl, (e1.trans e2) x _ B.o, hc, hn, hz, k p _ ((Fix.of (e1.trans e2)).trans (Fix.mut ((e1.trans e2) x _ B.o) hx)) (B.put hp (e1.trans e2) (e2 p _ h1))⟩
theorem q_bldD {α : Type} {R : PR α} (hR : Stab R) {ds : List α} (B : Bld H0 x C dx fs l H) (hc : Cls K C) (hn : NoAttr K C f) (hz : fs.length < 1000) (hx : fixO (.ins C dx fs) = false) (h : ∀ H1, Ex H H1 → Ev ta σ H1 (.ref x)) (hv : EvD te σ H fun v H1 => ∃ p, v = .ref p ∧ H p = none ∧ LsAt R K H1 p ds)
    (k : ∀ p xs H', Fix H H' → All2 (R K H') xs ds → Bld H0 x C dx (putF f (.ref p) fs) ((p, xs) :: l) H' → tz D σ H') : tSeq (sFld K ta te f) tz D σ H :=
  hv H (Ex.refl H) _ fun v H1 e1 p1 => by
    obtain ⟨p, rfl, hp, xs, h1, h2⟩ := p1
    exact h H1 e1 H1 (Ex.refl _) _ fun H2 e2 => by
      have fx : Fix H2 (upd H2 x (.ins C dx (putF f (.ref p) fs))) := Fix.mut ((e1.trans e2) x _ B.o) hx
      exact ⟨x, C, dx, fs, rfl, (e1.trans e2) x _ B.o, hc, hn, hz, k p xs _ ((Fix.of (e1.trans e2)).trans fx) (all2_st hR fx (all2_x hR.x e2 h2)) (B.put hp (e1.trans e2) (e2 p _ h1))⟩
theorem s_bldV {v : V} (B : Bld H0 x C dx fs l H) (hc : Cls K C) (hn : NoAttr K C f) (hz : fs.length < 1000) (hx : fixO (.ins C dx fs) = false) (h : ∀ H1, Ex H H1 → Ev ta σ H1 (.ref x)) (hv : Ev te σ H v)
    (k : ∀ H', Fix H H' → Bld H0 x C dx (putF f v fs) l H' → D.nx σ H') : sFld K ta te f D σ H :=
  hv H (Ex.refl H) _ fun H1 e1 => h H1 e1 H1 (Ex.refl _) _ fun H2 e2 => ⟨x, C, dx, fs, rfl, (e1.trans e2) x _ B.o, hc, hn, hz, by
    have fx : Fix H2 (upd H2 x (.ins C dx (putF f v fs))) := Fix.mut ((e1.trans e2) x _ B.o) hx
    have B2 := B.ext (e1.trans e2)
    refine k _ ((Fix.of (e1.trans e2)).trans fx) ⟨upd_same, B2.f.trans (Frm.upd List.mem_cons_self), fun y hy => ?_, B.nd⟩
    obtain ⟨a, b, c⟩ := B2.m y hy
    exact ⟨by rw [upd_ne c]; exact a, b, c⟩⟩
theorem q_bldV {v : V} (B : Bld H0 x C dx fs l H) (hc : Cls K C) (hn : NoAttr K C f) (hz : fs.length < 1000) (hx : fixO (.ins C dx fs) = false) (h : ∀ H1, Ex H H1 → Ev ta σ H1 (.ref x)) (hv : Ev te σ H v)
    (k : ∀ H', Fix H H' → Bld H0 x C dx (putF f v fs) l H' → tz D σ H') : tSeq (sFld K ta te f) tz D σ H := s_bldV (D := { D with nx := tz D }) B hc hn hz hx h hv k
end

/-! ### Stage -/
/-- a stage whose objects are new -/
def FrA (A : Adr) (H : Hp) : Prop := ∀ b ∈ A.all, H b = none
def sp_Stage___init__ (K : PySem.W.Frag) : Sp := fun vs H Q _ => ∃ (x dx : Addr) (v : V) (l : List Nat), vs = [.ref x, v] ∧ H x = some (.ins (He.ga K "Stage") dx []) ∧ NsV K H v l ∧ l.length ≤ 40000 ∧
  ∀ A H2, A.a = x → A.dx = dx → StgAt K H2 A (Sy90.fresh l) (l.map fun _ => (0, 1)) → Frm [x] H H2 → (∀ b ∈ A.all, b ≠ x → H b = none) → Q .non H2
theorem sl_Stage___init__ {K : PySem.W.Frag} {vs : List V} {H : Hp} {Q : VK} {E : XK} (h : sp_Stage___init__ K vs H Q E) : vs.length = 2 := by
  obtain ⟨_, _, _, _, rfl, _⟩ := h
  rfl
def t_Stage___init__ (K : PySem.W.Frag) : TS :=
  (tSeq (sFld K (tVar 0) (tCB (rListS K) (tCons (tVar 1) tNil)) "positions")
  (tSeq (sFld K (tVar 0) (tCB (rListS K) (tCons (tVar 1) tNil)) "targets")
  (tSeq (sFld K (tVar 0) (tLc (iList K (tVar 1)) (gName 2) tYes (tC (.int (-1))) [2]) "holders")
  (tSeq (sFld K (tVar 0) (tLc (iList K (tVar 1)) (gName 2) tYes (tTup (tCons (tC (.int 0)) (tCons (tC (.int 1)) tNil))) [2]) "ropes")
  (tSeq (sFld K (tVar 0) (tLst tNil) "pairs")
  (tSeq (sFld K (tVar 0) (tLst tNil) "cues")
  (tSeq (sFld K (tVar 0) (tLst tNil) "starts")
  (tSeq (sFld K (tVar 0) (tLst tNil) "ends")
  (sFld K (tVar 0) (tC (.int 0)) "now")))))))))
theorem marks_fresh (l : List Nat) : Sy90.marks (Sy90.fresh l) = l := by
  unfold Sy90.marks Sy90.fresh
  rw [List.map_map]
  exact List.map_id' l
theorem aims_fresh (l : List Nat) : aims (Sy90.fresh l) = l := by
  unfold aims Sy90.fresh
  rw [List.map_map]
  exact List.map_id' l
theorem givenD_const {α β : Type} (l : List β) (d : α) : givenD l.length (fun _ => true) (fun _ => d) = l.map fun _ => d := by
  rw [givenD_all]
  exact List.ext_getElem (by simp) fun i h1 h2 => by simp
/-- a list read as data -/
theorem evd_of_el {K : PySem.W.Frag} {σ : L2.St} {H : Hp} {te : TE} {α : Type} {R : PR α} {xs : List V} {ds : List α} (hR : StabX R) (h : EvL te σ H xs) (hd : All2 (R K H) xs ds) : EvD te σ H fun v H1 => ∃ p, v = .ref p ∧ H p = none ∧ LsAt R K H1 p ds := fun H1 e Q q =>
  h H1 e Q fun p H2 hp e2 h2 => q (.ref p) H2 e2 ⟨p, rfl, fresh_back e hp, xs, h2, all2_x hR (e.trans e2) hd⟩
theorem pure_Stage___init__ {K : PySem.W.Frag} {mg : Str → Option Value} (T : Tx K mg) (vs : List V) (H : Hp) (Q : VK) (E : XK) (h : sp_Stage___init__ K vs H Q E) : t_Stage___init__ K { nx := fun _ H' => Q .non H', rt := Q } (start N_Stage___init__ vs) H := by
  obtain ⟨x, dx, v, l, rfl, h0, ⟨a, rfl, ha⟩, hz, k⟩ := h
  have hax : ∀ {H1 : Hp}, Frm [x] H H1 → SqL K H1 a (l.map nV) := fun {H1} f => by
    rcases ha with (h | ⟨o, h⟩) | h
    · exact .inl (.inl (f a _ h fun z => by rw [List.mem_singleton.mp z, h0] at h; cases h))
    · exact .inl (.inr ⟨o, f a _ h fun z => by rw [List.mem_singleton.mp z, h0] at h; cases h⟩)
    · exact .inr h
  have hs : ∀ {H1 : Hp}, Ex H1 H1 → Ev (tVar 0) (L2.start N_Stage___init__ [.ref x, .ref a]) H1 (.ref x) := fun _ => ev_var rfl
  have B0 : Bld H x (He.ga K "Stage") dx [] [] H := ⟨h0, Frm.refl _ _, (fun y hy => by cases hy), List.nodup_nil⟩
  refine q_bld B0 T.c_Stage T.n_Stage_positions (by decide) rfl (fun _ _ => ev_var rfl) (el_list (ev_var rfl) (hax B0.f)) fun p1 H1 f1 B1 => ?_
  refine q_bld B1 T.c_Stage T.n_Stage_targets (by show 1 < 1000; decide) rfl (fun _ _ => ev_var rfl) (el_list (ev_var rfl) (hax B1.f)) fun p2 H2 f2 B2 => ?_
  refine q_bld (xs := l.map fun _ => .int (-1)) B2 T.c_Stage T.n_Stage_holders (by show 2 < 1000; decide) rfl (fun _ _ => ev_var rfl) (el_is (el_lcL (fun _ => true) (fun _ => .int (-1)) (ev_var rfl) (hax B2.f) (by rw [List.length_map]; exact hz) (fun _ => rfl) (fun _ _ _ _ _ => et_yes) (fun _ _ _ _ _ _ => ev_c)) ?_) fun p3 H3 f3 B3 => ?_
  · show givenD _ _ _ = _
    rw [List.length_map, givenD_const]
  refine q_bldD (R := PrV) (ds := l.map fun _ => (0, 1)) prV_st B3 T.c_Stage T.n_Stage_ropes (by show 3 < 1000; decide) rfl (fun _ _ => ev_var rfl) (EvD.imp (evd_lcL (K := K) (xs := l.map nV) prV_st (fun _ => true) (fun _ => (0, 1)) (evd_of (ev_var rfl) fun H4 e4 => ⟨a, rfl, ex_l e4 (hax B3.f)⟩) (by rw [List.length_map]; exact hz) (fun _ => rfl) (fun _ _ _ _ _ => et_yes) (fun i x H4 e4 _ _ => EvD.imp (evd_tup (vs := [.int 0, .int 1]) (ea_cons ev_c (ea_cons ev_c ea_nil)) (Nat.le_of_lt (show 2 < 100000 by decide))) fun v H5 e5 p5 => ?_)) fun v H4 e4 p4 => ?_) fun p4 xr H4 f4 hr B4 => ?_
  · obtain ⟨t, rfl, ht⟩ := p5
    exact ⟨t, rfl, st_of ht⟩
  · obtain ⟨p, rfl, hp, h⟩ := p4
    rw [List.length_map, givenD_const] at h
    exact ⟨p, rfl, hp, h⟩
  refine q_bld B4 T.c_Stage T.n_Stage_pairs (by show 4 < 1000; decide) rfl (fun _ _ => ev_var rfl) (el_lst ea_nil (Nat.zero_le _)) fun p5 H5 f5 B5 => ?_
  refine q_bld B5 T.c_Stage T.n_Stage_cues (by show 5 < 1000; decide) rfl (fun _ _ => ev_var rfl) (el_lst ea_nil (Nat.zero_le _)) fun p6 H6 f6 B6 => ?_
  refine q_bld B6 T.c_Stage T.n_Stage_starts (by show 6 < 1000; decide) rfl (fun _ _ => ev_var rfl) (el_lst ea_nil (Nat.zero_le _)) fun p7 H7 f7 B7 => ?_
  refine q_bld B7 T.c_Stage T.n_Stage_ends (by show 7 < 1000; decide) rfl (fun _ _ => ev_var rfl) (el_lst ea_nil (Nat.zero_le _)) fun p8 H8 f8 B8 => ?_
  refine s_bldV (v := .int 0) B8 T.c_Stage T.n_Stage_now (by show 8 < 1000; decide) rfl (fun _ _ => ev_var rfl) ev_c fun H9 f9 B9 => ?_
  have fx := (((f5.trans f6).trans f7).trans f8).trans f9
  refine k ⟨x, dx, p1, p2, p3, p4, p5, p6, p7, p8⟩ H9 rfl rfl ⟨B9.o, ?_, ?_, ?_, ⟨xr, (B9.m (p4, xr) (by simp)).1, all2_st prV_st fx hr⟩, ⟨[], (B9.m (p5, []) (by simp)).1, .nil⟩, ⟨[], (B9.m (p6, []) (by simp)).1, .nil⟩, (B9.m (p7, []) (by simp)).1, (B9.m (p8, []) (by simp)).1, ?_⟩ B9.f ?_
  · rw [(B9.m (p1, l.map nV) (by simp)).1, marks_fresh]
  · rw [(B9.m (p2, l.map nV) (by simp)).1, aims_fresh]
  · rw [(B9.m (p3, l.map fun _ => .int (-1)) (by simp)).1]
    unfold Sy90.fresh
    rw [List.map_map]
    rfl
  · have nd := B9.nd
    have nx := fun y hy => (B9.m y hy).2.2
    simp only [List.map_cons, List.map_nil, List.nodup_cons, List.mem_cons, List.not_mem_nil, or_false, not_or, not_false_eq_true, List.nodup_nil, and_true, forall_eq_or_imp, forall_eq] at nd nx
    simp only [Adr.all, List.nodup_cons, List.mem_cons, List.not_mem_nil, or_false, not_or, not_false_eq_true, List.nodup_nil, and_true]
    obtain ⟨⟨_, _, _, _, _, _, _⟩, ⟨_, _, _, _, _, _⟩, ⟨_, _, _, _, _⟩, ⟨_, _, _, _⟩, ⟨_, _, _⟩, ⟨_, _⟩, _⟩ := nd
    obtain ⟨_, _, _, _, _, _, _, _⟩ := nx
    refine ⟨⟨?_, ?_, ?_, ?_, ?_, ?_, ?_, ?_⟩, ⟨?_, ?_, ?_, ?_, ?_, ?_, ?_⟩, ⟨?_, ?_, ?_, ?_, ?_, ?_⟩, ⟨?_, ?_, ?_, ?_, ?_⟩, ⟨?_, ?_, ?_, ?_⟩, ⟨?_, ?_, ?_⟩, ⟨?_, ?_⟩, ?_⟩ <;> first | assumption | exact Ne.symm (by assumption)
  · intro b hb hbx
    have nx := fun y hy => (B9.m y hy).2.1
    simp only [List.mem_cons, List.not_mem_nil, or_false, forall_eq_or_imp, forall_eq] at nx
    obtain ⟨_, _, _, _, _, _, _, _⟩ := nx
    simp only [Adr.all, List.mem_cons, List.not_mem_nil, or_false] at hb
    rcases hb with rfl | rfl | rfl | rfl | rfl | rfl | rfl | rfl | rfl
    · exact absurd rfl hbx
    all_goals assumption
theorem ok_Stage___init__ {P : Program} {w : World} {K : PySem.W.Frag} {mg : Str → Option Value} {base : Heap} (T : Tx K mg) : MakeE P w K mg base CX0 1 "Stage" ["self", "positions"] (sp_Stage___init__ K) := by
  obtain ⟨fd, F⟩ := T.d_Stage___init__
  have bd : Binds K fd ["self", "positions"] [] := F.bindsN fun _ _ _ _ _ _ us hl => match us, hl with | [_, _], _ => rfl
  have G : FnOk P w K mg base CX0 1 (He.ma K (He.ga K "Stage") "__init__") fd ["self", "positions"] (sp_Stage___init__ K) := by
    refine F.ok sc_Stage___init__ (fun vs H Q E h => sl_Stage___init__ h) (fun cdv A outer s H vs Q E hr h => ⟨t_Stage___init__ K, PSs.nox ?_, pure_Stage___init__ T vs H Q E h⟩)
    exact (pss_cons (ps_fld (pv 0) (pe_callTy cList rfl T.f_list bList (pa_cons (pv 1) pa_nil)) rfl)
  (pss_cons (ps_fld (pv 0) (pe_callTy cList rfl T.f_list bList (pa_cons (pv 1) pa_nil)) rfl)
  (pss_cons (ps_fld (pv 0) (pe_lc (own := [("position", 2)]) (g := (gName 2)) (tt := tYes) (te := (tC (.int (-1)))) rfl sc_Stage___init__.nd (pi_list (pv 1)) (blkOk_by (N := N_Stage___init__) (sc := defScope s_Stage___init__) (by decide +kernel)) (fun _ _ _ _ _ => (pg_name (i := 2) sc_Stage___init__.nd rfl (by first | exact Or.inl rfl | exact Or.inr rfl))) (fun _ _ _ _ _ => pts_nil) (fun _ _ _ _ _ => (pe_glob rfl T.m_NOBODY.2 ⟨_, rfl⟩))) rfl)
  (pss_cons (ps_fld (pv 0) (pe_lc (own := [("position", 2)]) (g := (gName 2)) (tt := tYes) (te := (tTup (tCons (tC (.int 0)) (tCons (tC (.int 1)) tNil)))) rfl sc_Stage___init__.nd (pi_list (pv 1)) (blkOk_by (N := N_Stage___init__) (sc := defScope s_Stage___init__) (by decide +kernel)) (fun _ _ _ _ _ => (pg_name (i := 2) sc_Stage___init__.nd rfl (by first | exact Or.inl rfl | exact Or.inr rfl))) (fun _ _ _ _ _ => pts_nil) (fun _ _ _ _ _ => (pe_tup (pa_cons pe_int (pa_cons pe_int pa_nil))))) rfl)
  (pss_cons (ps_fld (pv 0) (pe_lst pa_nil) rfl)
  (pss_cons (ps_fld (pv 0) (pe_lst pa_nil) rfl)
  (pss_cons (ps_fld (pv 0) (pe_lst pa_nil) rfl)
  (pss_cons (ps_fld (pv 0) (pe_lst pa_nil) rfl)
  (pss_one (ps_fld (pv 0) pe_int rfl))))))))))
  exact MakeE.mk ⟨fd, G, bd⟩ T.k_Stage T.g_Stage
end Sk
namespace Sk
open PySem L2 Evl Sc
theorem evad_of' {σ : L2.St} {H : Hp} {PA : List V → Hp → Prop} (k : ∀ H1, Ex H H1 → PA [] H1) : EvAD tNil σ H PA := fun H1 e _ q => q [] H1 (Ex.refl _) (k H1 e)
/-- a new stage -/
theorem evd_stage {K : PySem.W.Frag} {σ : L2.St} {H : Hp} {E : XK} {te : TE} {l : List Nat} (h : EvD te σ H fun v H1 => NsV K H1 v l) (hz : l.length ≤ 40000) :
    EvD (tMake (He.ga K "Stage") (sp_Stage___init__ K) [] E (tCons te tNil)) σ H fun v H1 => ∃ A, v = .ref A.a ∧ FrA A H ∧ StgAt K H1 A (Sy90.fresh l) (l.map fun _ => (0, 1)) := fun H1 e Q q => h H1 e _ fun v H2 e2 p2 => by
  intro x dx hx hdx hne
  have e0 : Ex H2 (upd (upd H2 dx (.own x)) x (.ins (He.ga K "Stage") dx [])) := (Ex.new hdx).mut hx
  refine ⟨x, dx, v, l, rfl, upd_same, nsV_x _ _ _ _ _ e0 p2, hz, fun A H3 ha _ S f hn => ⟨rfl, ?_⟩⟩
  subst ha
  have hfr : FrA A H2 := fun b hb => by
    by_cases c : b = A.a
    · rw [c]
      exact hx
    · have := hn b hb c
      rw [upd_ne c] at this
      by_cases c2 : b = dx
      · rw [c2, upd_same] at this
        cases this
      · rw [upd_ne c2] at this
        exact this
  refine q _ H3 (e2.trans (f.ex e0 fun b hb => by rw [List.mem_singleton.mp hb]; exact hx)) ⟨A, rfl, fun b hb => fresh_back (e.trans e2) (hfr b hb), S⟩

/-! ### copy -/
def sp_Stage_copy (K : PySem.W.Frag) : Sp := fun vs H Q _ => ∃ (A : Adr) (s : Sy90.St) (r : List (Nat × Nat)), vs = [.ref A.a] ∧ StgAt K H A s r ∧ Sz s ∧ ∀ A2 H2, Ex H H2 → StgAt K H2 A2 s r → FrA A2 H → Q (.ref A2.a) H2
theorem sl_Stage_copy {K : PySem.W.Frag} {vs : List V} {H : Hp} {Q : VK} {E : XK} (h : sp_Stage_copy K vs H Q E) : vs.length = 1 := by
  obtain ⟨_, _, _, rfl, _⟩ := h
  rfl
def t_Stage_copy (K : PySem.W.Frag) : TS :=
  (tSeq (tAsg (tMake (He.ga K "Stage") (sp_Stage___init__ K) [] E0 (tCons (tFld K (tVar 0) "positions") tNil)) (gName 1))
  (tSeq (sFld K (tVar 1) (tCB (rListS K) (tCons (tFld K (tVar 0) "targets") tNil)) "targets")
  (tSeq (sFld K (tVar 1) (tCB (rListS K) (tCons (tFld K (tVar 0) "holders") tNil)) "holders")
  (tSeq (sFld K (tVar 1) (tCB (rListS K) (tCons (tFld K (tVar 0) "ropes") tNil)) "ropes")
  (tSeq (sFld K (tVar 1) (tCB (rListS K) (tCons (tFld K (tVar 0) "pairs") tNil)) "pairs")
  (tSeq (sFld K (tVar 1) (tCB (rListS K) (tCons (tFld K (tVar 0) "cues") tNil)) "cues")
  (tSeq (sFld K (tVar 1) (tCB (rListS K) (tCons (tFld K (tVar 0) "starts") tNil)) "starts")
  (tSeq (sFld K (tVar 1) (tCB (rListS K) (tCons (tFld K (tVar 0) "ends") tNil)) "ends")
  (tSeq (sFld K (tVar 1) (tFld K (tVar 0) "now") "now")
  (tRet (tVar 1)))))))))))
theorem pure_Stage_copy {K : PySem.W.Frag} {mg : Str → Option Value} (T : Tx K mg) (vs : List V) (H : Hp) (Q : VK) (E : XK) (h : sp_Stage_copy K vs H Q E) : t_Stage_copy K { nx := fun _ H' => Q .non H', rt := Q } (start N_Stage_copy vs) H := by
  obtain ⟨A, s, r, rfl, S, z, k⟩ := h
  refine q_asgD (evd_stage (K := K) (l := Sy90.marks s) (evd_of (ev_p T S (ev_var rfl)) fun H1 e1 => ⟨A.p, rfl, sq_of (e1 _ _ S.fp)⟩) (by rw [marks_len]; have := z.n4; omega)) fun v H1 e1 p1 => ?_
  obtain ⟨A1, rfl, hfr, S1⟩ := p1
  obtain ⟨x, dx, p, t1, h1, r1, q1, c1, s1, en1⟩ := A1
  have hx : H x = none := hfr x (by simp [Adr.all])
  have nd1 := S1.nd
  simp only [Adr.all, List.nodup_cons, List.mem_cons, List.not_mem_nil, or_false, not_or, not_false_eq_true, List.nodup_nil, and_true] at nd1
  have eX : ∀ {H2 : Hp}, Frm [x] H H2 → Ex H H2 := fun f => f.ex (Ex.refl _) fun b hb => by rw [List.mem_singleton.mp hb]; exact hx
  have B1 : Bld H x (He.ga K "Stage") dx (stgF ⟨x, dx, p, t1, h1, r1, q1, c1, s1, en1⟩ 0) [(p, (Sy90.marks s).map nV)] H1 := ⟨S1.o, Frm.of e1, fun y hy => by
    rw [List.mem_singleton.mp hy]
    refine ⟨?_, hfr p (by simp [Adr.all]), Ne.symm nd1.1.1⟩
    have := S1.fp
    rw [marks_fresh] at this
    exact this, List.nodup_cons.mpr ⟨fun z => (by cases z), List.nodup_nil⟩⟩
  have hself : ∀ {H2 : Hp}, Ev (tVar 0) [some (.ref A.a), some (.ref x)] H2 (.ref A.a) := ev_var rfl
  refine q_bld B1 T.c_Stage T.n_Stage_targets (by show 9 < 1000; decide) rfl (fun _ _ => ev_var rfl) (el_list (ev_t T (S.x (eX B1.f)) hself) (sq_of (S.x (eX B1.f)).ft)) fun p2 H2 f2 B2 => ?_
  refine q_bld B2 T.c_Stage T.n_Stage_holders (by show 9 < 1000; decide) rfl (fun _ _ => ev_var rfl) (el_list (ev_h T (S.x (eX B2.f)) hself) (sq_of (S.x (eX B2.f)).fh)) fun p3 H3 f3 B3 => ?_
  obtain ⟨xr, hr1, hr2⟩ := S.fr
  refine q_bld B3 T.c_Stage T.n_Stage_ropes (by show 9 < 1000; decide) rfl (fun _ _ => ev_var rfl) (el_list (ev_r T (S.x (eX B3.f)) hself) (sq_of (eX B3.f _ _ hr1))) fun p4 H4 f4 B4 => ?_
  obtain ⟨xq, hq1, hq2⟩ := S.fq
  refine q_bld B4 T.c_Stage T.n_Stage_pairs (by show 9 < 1000; decide) rfl (fun _ _ => ev_var rfl) (el_list (ev_q T (S.x (eX B4.f)) hself) (sq_of (eX B4.f _ _ hq1))) fun p5 H5 f5 B5 => ?_
  obtain ⟨xc, hc1, hc2⟩ := S.fc
  refine q_bld B5 T.c_Stage T.n_Stage_cues (by show 9 < 1000; decide) rfl (fun _ _ => ev_var rfl) (el_list (ev_cs T (S.x (eX B5.f)) hself) (sq_of (eX B5.f _ _ hc1))) fun p6 H6 f6 B6 => ?_
  refine q_bld B6 T.c_Stage T.n_Stage_starts (by show 9 < 1000; decide) rfl (fun _ _ => ev_var rfl) (el_list (ev_ss T (S.x (eX B6.f)) hself) (sq_of (S.x (eX B6.f)).fs)) fun p7 H7 f7 B7 => ?_
  refine q_bld B7 T.c_Stage T.n_Stage_ends (by show 9 < 1000; decide) rfl (fun _ _ => ev_var rfl) (el_list (ev_es T (S.x (eX B7.f)) hself) (sq_of (S.x (eX B7.f)).fe)) fun p8 H8 f8 B8 => ?_
  refine q_bldV B8 T.c_Stage T.n_Stage_now (by show 9 < 1000; decide) rfl (fun _ _ => ev_var rfl) (ev_now T (S.x (eX B8.f)) hself) fun H9 f9 B9 => ?_
  refine s_ret (ev_var rfl) fun H10 e10 => ?_
  have B := B9.ext e10
  have eT := eX B.f
  refine k ⟨x, dx, p, p2, p3, p4, p5, p6, p7, p8⟩ H10 eT ⟨B.o, (B.m (p, (Sy90.marks s).map nV) (by simp)).1, (B.m (p2, (aims s).map nV) (by simp)).1, (B.m (p3, s.things.map fun x => byV x.by_) (by simp)).1, ⟨xr, (B.m (p4, xr) (by simp)).1, all2_x prV_st.x eT hr2⟩, ⟨xq, (B.m (p5, xq) (by simp)).1, all2_x trV_st.x eT hq2⟩, ⟨xc, (B.m (p6, xc) (by simp)).1, all2_x cueV_st.x eT hc2⟩, (B.m (p7, s.started.map opV) (by simp)).1, (B.m (p8, s.done.map opV) (by simp)).1, ?_⟩ ?_
  · have nd := B.nd
    have nx := fun y hy => (B.m y hy).2.2
    simp only [List.map_cons, List.map_nil, List.nodup_cons, List.mem_cons, List.not_mem_nil, or_false, not_or, not_false_eq_true, List.nodup_nil, and_true, forall_eq_or_imp, forall_eq] at nd nx
    simp only [Adr.all, List.nodup_cons, List.mem_cons, List.not_mem_nil, or_false, not_or, not_false_eq_true, List.nodup_nil, and_true]
    obtain ⟨⟨_, _, _, _, _, _, _⟩, ⟨_, _, _, _, _, _⟩, ⟨_, _, _, _, _⟩, ⟨_, _, _, _⟩, ⟨_, _, _⟩, ⟨_, _⟩, _⟩ := nd
    obtain ⟨_, _, _, _, _, _, _, _⟩ := nx
    refine ⟨⟨?_, ?_, ?_, ?_, ?_, ?_, ?_, ?_⟩, ⟨?_, ?_, ?_, ?_, ?_, ?_, ?_⟩, ⟨?_, ?_, ?_, ?_, ?_, ?_⟩, ⟨?_, ?_, ?_, ?_, ?_⟩, ⟨?_, ?_, ?_, ?_⟩, ⟨?_, ?_, ?_⟩, ⟨?_, ?_⟩, ?_⟩ <;> first | assumption | exact Ne.symm (by assumption)
  · intro b hb
    have nx := fun y hy => (B.m y hy).2.1
    simp only [List.mem_cons, List.not_mem_nil, or_false, forall_eq_or_imp, forall_eq] at nx
    obtain ⟨_, _, _, _, _, _, _, _⟩ := nx
    simp only [Adr.all, List.mem_cons, List.not_mem_nil, or_false] at hb
    rcases hb with rfl | rfl | rfl | rfl | rfl | rfl | rfl | rfl | rfl
    all_goals assumption
theorem ok_Stage_copy {P : Program} {w : World} {K : PySem.W.Frag} {mg : Str → Option Value} {base : Heap} (T : Tx K mg) (D_Stage___init__ : MakeE P w K mg base CX0 1 "Stage" ["self", "positions"] (sp_Stage___init__ K)) : MethE P w K mg base CX0 3 "Stage" "copy" ["self"] (sp_Stage_copy K) := by
  obtain ⟨fd, F⟩ := T.d_Stage_copy
  have bd : Binds K fd ["self"] [] := F.bindsN fun _ _ _ _ _ _ us hl => match us, hl with | [_], _ => rfl
  have G : FnOk P w K mg base CX0 3 (He.ma K (He.ga K "Stage") "copy") fd ["self"] (sp_Stage_copy K) := by
    refine F.ok sc_Stage_copy (fun vs H Q E h => sl_Stage_copy h) (fun cdv A outer s H vs Q E hr h => ⟨t_Stage_copy K, PSs.nox ?_, pure_Stage_copy T vs H Q E h⟩)
    exact (pss_cons (ps_set (i := 1) sc_Stage_copy.nd rfl (by first | exact Or.inl rfl | exact Or.inr rfl) (pe_makeE D_Stage___init__ (hr.mono (by decide)) rfl pass0 (by exact (pa_cons (pe_fld (pv 0) rfl) pa_nil))))
  (pss_cons (ps_fld (pv 1) (pe_callTy cList rfl T.f_list bList (pa_cons (pe_fld (pv 0) rfl) pa_nil)) rfl)
  (pss_cons (ps_fld (pv 1) (pe_callTy cList rfl T.f_list bList (pa_cons (pe_fld (pv 0) rfl) pa_nil)) rfl)
  (pss_cons (ps_fld (pv 1) (pe_callTy cList rfl T.f_list bList (pa_cons (pe_fld (pv 0) rfl) pa_nil)) rfl)
  (pss_cons (ps_fld (pv 1) (pe_callTy cList rfl T.f_list bList (pa_cons (pe_fld (pv 0) rfl) pa_nil)) rfl)
  (pss_cons (ps_fld (pv 1) (pe_callTy cList rfl T.f_list bList (pa_cons (pe_fld (pv 0) rfl) pa_nil)) rfl)
  (pss_cons (ps_fld (pv 1) (pe_callTy cList rfl T.f_list bList (pa_cons (pe_fld (pv 0) rfl) pa_nil)) rfl)
  (pss_cons (ps_fld (pv 1) (pe_callTy cList rfl T.f_list bList (pa_cons (pe_fld (pv 0) rfl) pa_nil)) rfl)
  (pss_cons (ps_fld (pv 1) (pe_fld (pv 0) rfl) rfl)
  (pss_one (ps_ret (pv 1))))))))))))
  exact MethE.mk ⟨fd, G, bd⟩ T.c_Stage T.e_Stage_copy
/-- a copy of a stage -/
theorem evd_copy {K : PySem.W.Frag} {σ : L2.St} {H : Hp} {E : XK} {te : TE} {A : Adr} {s : Sy90.St} {r : List (Nat × Nat)} (S : StgAt K H A s r) (z : Sz s) (h : Ev te σ H (.ref A.a)) :
    EvD (tMeth (He.ga K "Stage") "copy" (sp_Stage_copy K) [] E te tNil) σ H fun v H1 => ∃ A2, v = .ref A2.a ∧ StgAt K H1 A2 s r ∧ FrA A2 H :=
  evd_meth h S.o rfl (evad_of' fun H1 e1 => fun Q q E2 => ⟨A, s, r, rfl, S.x e1, z, fun A2 H2 e2 S2 hf => q _ H2 e2 ⟨A2, rfl, S2, fun b hb => fresh_back e1 (hf b hb)⟩⟩)
end Sk
namespace Sk
open PySem L2 Evl Sc
/-- over a list of pairs, told by their data, the targets two names -/
theorem evd_lcDP {K : PySem.W.Frag} {σ : L2.St} {H : Hp} {te : TE} {tt : TT} {α β : Type} {R : PR α} {tl : TE} {j k : Nat} {vs : List Nat} {ds : List β} (S : Hp → V → V → β → Prop) (hS : ∀ H H1 u w y, Ex H H1 → S H u w y → S H1 u w y) (hR : Stab R) (f : Nat → Bool) (d : Nat → α)
    (hl : EvD tl σ H fun v H1 => ∃ a xs, v = .ref a ∧ SqL K H1 a xs ∧ All2 (fun x y => ∃ T u w, x = .ref T ∧ SqT K H1 T [u, w] ∧ S H1 u w y) xs ds) (hz : ds.length ≤ 40000)
    (hw : ∀ x y, wipe (((wipe σ vs).set j (some x)).set k (some y)) vs = wipe σ vs)
    (ht : ∀ i u w y H1, Ex H H1 → ds[i]? = some y → S H1 u w y → EvT tt (((wipe σ vs).set j (some u)).set k (some w)) H1 (f i))
    (he : ∀ i u w y H1, Ex H H1 → ds[i]? = some y → S H1 u w y → f i = true → EvD te (((wipe σ vs).set j (some u)).set k (some w)) H1 fun v H3 => R K H3 v (d i)) :
    EvD (tLc (iList K tl) (gTup K 2 (gCons (gName j) (gCons (gName k) gNil))) tt te vs) σ H fun v H1 => ∃ p, v = .ref p ∧ H p = none ∧ LsAt R K H1 p (givenD ds.length f d) := by
  classical
  let G : Hp → Nat → V → V × V → Prop := fun H i x p => ∃ T y, x = .ref T ∧ SqT K H T [p.1, p.2] ∧ ds[i]? = some y ∧ S H p.1 p.2 y
  refine evd_lcW (R := R) (te := te) (n := ds.length) hR f d (fun H2 i x => if h : ∃ p, G H2 i x p then ((wipe σ vs).set j (some h.choose.1)).set k (some h.choose.2) else σ)
    (fun J H1 => ∃ a xs, J = Itl K a ∧ SqL K H1 a xs ∧ All2 (fun x y => ∃ T u w, x = .ref T ∧ SqT K H1 T [u, w] ∧ S H1 u w y) xs ds) (fun i H1 x H2 => H2 = H1 ∧ ∃ p, G H1 i x p) ?_ ?_ hz ?_
  · intro H1 e Rr kk
    refine hl H1 e _ fun v H2 e2 p => ?_
    obtain ⟨a, xs, rfl, ha, hb⟩ := p
    exact ⟨a, rfl, ⟨xs, ha⟩, kk _ H2 e2 ⟨a, xs, rfl, ha, hb⟩⟩
  · rintro J H2 e ⟨a, xs, rfl, ha, hb⟩
    rw [← All2.len hb]
    exact walk_list.mono (fun H3 e3 => ex_l e3 ha) fun i H3 x H4 hi e3 y => ⟨y.1, by
      obtain ⟨z, h1, T, u, w, rfl, h2, h3⟩ := All2.get hb y.2
      exact ⟨(u, w), T, z, rfl, ex_t e3 h2, h1, hS _ _ _ _ _ e3 h3⟩⟩
  · rintro i x H1 H2 e hi ⟨rfl, hp⟩
    have hc := hp.choose_spec
    obtain ⟨T, y, h1, h2, h3, h4⟩ := hc
    rw [dif_pos hp]
    exact ⟨Ex.refl _, fun Q q => ⟨T, _, h1, h2, rfl, _, _, rfl, _, _, rfl, rfl, q⟩, hw _ _, ht i _ _ y _ e h3 h4, fun hf => he i _ _ y _ e h3 h4 hf⟩
/-- x, y = e -/
theorem q_unp2 {K : PySem.W.Frag} {σ : L2.St} {H : Hp} {te : TE} {tz : TS} {D : Ends} {i j : Nat} {T : Addr} {x y : V} (h : Ev te σ H (.ref T)) (hT : SqT K H T [x, y]) (k : ∀ H1, Ex H H1 → tz D ((σ.set i (some x)).set j (some y)) H1) : tSeq (tAsg te (gTup K 2 (gCons (gName i) (gCons (gName j) gNil)))) tz D σ H :=
  h H (Ex.refl H) _ fun H1 e1 => ⟨T, [x, y], rfl, ex_t e1 hT, rfl, _, _, rfl, _, _, rfl, rfl, k H1 e1⟩

/-! ### frame_of -/
def sp_frame_of (K : PySem.W.Frag) : Sp := fun vs H Q _ => ∃ (A : Adr) (s : Sy90.St) (r : List (Nat × Nat)), vs = [.ref A.a] ∧ StgAt K H A s r ∧ RetD (fun v H2 => FrV K H2 v (frameOf s)) H Q
theorem sl_frame_of {K : PySem.W.Frag} {vs : List V} {H : Hp} {Q : VK} {E : XK} (h : sp_frame_of K vs H Q E) : vs.length = 1 := by
  obtain ⟨_, _, _, rfl, _⟩ := h
  rfl
def t_frame_of (K : PySem.W.Frag) : TS :=
  (tRet (tTup (tCons (tCB (rTupS K) (tCons (tFld K (tVar 0) "positions") tNil)) (tCons (tCB (rTupS K) (tCons (tFld K (tVar 0) "targets") tNil)) tNil))))
/-- tuple(xs) of a list -/
theorem evd_tupS {K : PySem.W.Frag} {σ : L2.St} {H : Hp} {te : TE} {a : Addr} {xs : List V} (h : Ev te σ H (.ref a)) (ha : H a = some (.lst xs)) : EvD (tCB (rTupS K) (tCons te tNil)) σ H fun v H1 => ∃ t, v = .ref t ∧ SqT K H1 t xs := fun H1 e Q q =>
  h H1 e _ fun H2 e2 => ⟨a, xs, rfl, .inl ⟨sq_of ((e.trans e2) a _ ha), fun t ht => q (.ref t) _ (e2.trans (Ex.new ht)) ⟨t, rfl, st_of upd_same⟩⟩⟩
theorem pure_frame_of {K : PySem.W.Frag} {mg : Str → Option Value} (T : Tx K mg) (vs : List V) (H : Hp) (Q : VK) (E : XK) (h : sp_frame_of K vs H Q E) : t_frame_of K { nx := fun _ H' => Q .non H', rt := Q } (start N_frame_of vs) H := by
  obtain ⟨A, s, r, rfl, S, k⟩ := h
  refine s_retD (evd_tupD (PA := fun vs H2 => ∃ p t, vs = [.ref p, .ref t] ∧ SqT K H2 p ((Sy90.marks s).map nV) ∧ SqT K H2 t ((aims s).map nV)) (evad_two (evd_tupS (K := K) (ev_p T S (ev_var rfl)) S.fp) ?_) ?_ ?_) k
  · rintro x H1 e1 ⟨p, rfl, hp⟩
    have S1 := S.x e1
    refine EvD.imp (evd_tupS (K := K) (ev_t T S1 (ev_var rfl)) S1.ft) ?_
    rintro y H2 e2 ⟨t, rfl, ht⟩
    exact ⟨p, t, rfl, ex_t e2 hp, ht⟩
  · rintro vs H1 ⟨p, t, rfl, _⟩
    exact Nat.le_of_lt (show 2 < 100000 by decide)
  · rintro vs H1 u hu ⟨p, t, rfl, hp, ht⟩
    exact ⟨u, p, t, rfl, st_of upd_same, ex_t (Ex.new hu) hp, ex_t (Ex.new hu) ht⟩
theorem ok_frame_of {P : Program} {w : World} {K : PySem.W.Frag} {mg : Str → Option Value} {base : Heap} (T : Tx K mg) : DefE P w K mg base CX0 1 "frame_of" ["stage"] (sp_frame_of K) := by
  obtain ⟨fd, F⟩ := T.d_frame_of
  have bd : Binds K fd ["stage"] [] := F.bindsN fun _ _ _ _ _ _ us hl => match us, hl with | [_], _ => rfl
  have G : FnOk P w K mg base CX0 1 (He.ga K "frame_of") fd ["stage"] (sp_frame_of K) := by
    refine F.ok sc_frame_of (fun vs H Q E h => sl_frame_of h) (fun cdv A outer s H vs Q E hr h => ⟨t_frame_of K, PSs.nox ?_, pure_frame_of T vs H Q E h⟩)
    exact (pss_one (ps_ret (pe_tup (pa_cons (pe_callTy cTup rfl T.f_tuple bTuple (pa_cons (pe_fld (pv 0) rfl) pa_nil)) (pa_cons (pe_callTy cTup rfl T.f_tuple bTuple (pa_cons (pe_fld (pv 0) rfl) pa_nil)) pa_nil)))))
  exact DefE.mk ⟨fd, G, bd⟩ T.g_frame_of T.p_frame_of
theorem evd_frame {K : PySem.W.Frag} {σ : L2.St} {H : Hp} {te : TE} {E : XK} {A : Adr} {s : Sy90.St} {r : List (Nat × Nat)} (S : StgAt K H A s r) (h : Ev te σ H (.ref A.a)) : EvD (tCall (sp_frame_of K) [] E (tCons te tNil)) σ H fun v H2 => FrV K H2 v (frameOf s) :=
  evd_callV (ea_cons h ea_nil) fun H1 e1 Q q E => ⟨A, s, r, rfl, S.x e1, q⟩

/-! ### film_from -/
def sp_film_from (K : PySem.W.Frag) : Sp := fun vs H Q _ => ∃ (A : Adr) (s : Sy90.St) (r : List (Nat × Nat)), vs = [.ref A.a] ∧ StgAt K H A s r ∧ Ok s ∧ RetD (fun v H2 => LlV FrV K H2 v ((filmP s).map frameOf)) H Q
theorem sl_film_from {K : PySem.W.Frag} {vs : List V} {H : Hp} {Q : VK} {E : XK} (h : sp_film_from K vs H Q E) : vs.length = 1 := by
  obtain ⟨_, _, _, rfl, _⟩ := h
  rfl
def t_film_from (K : PySem.W.Frag) : TS :=
  (tSeq (tAsg (tMeth (He.ga K "Stage") "copy" (sp_Stage_copy K) [] E0 (tVar 0) tNil) (gName 1))
  (tSeq (tAsg (tLst (tCons (tCall (sp_frame_of K) [] E0 (tCons (tVar 1) tNil)) tNil)) (gName 2))
  (tSeq (tWhile (tNot (tB (tMeth (He.ga K "Stage") "is_quiet" (sp_Stage_is_quiet K) [] E0 (tVar 1) tNil))) (tSeq (tDrop (tMeth (He.ga K "Stage") "pass_second" (sp_Stage_pass_second K) [] E0 (tVar 1) tNil))
  (tDrop (tBM K "list" rAppend (tVar 2) (tCons (tCall (sp_frame_of K) [] E0 (tCons (tVar 1) tNil)) tNil)))))
  (tRet (tVar 2)))))
theorem StgAt.notin {K : PySem.W.Frag} {H : Hp} {A : Adr} {s : Sy90.St} {r : List (Nat × Nat)} (S : StgAt K H A s r) {l : Addr} (h : H l = none) : l ∉ A.all := fun hp => by
  simp only [Adr.all, List.mem_cons, List.not_mem_nil, or_false] at hp
  rcases hp with rfl | rfl | rfl | rfl | rfl | rfl | rfl | rfl | rfl
  · rw [S.o] at h; cases h
  · rw [S.fp] at h; cases h
  · rw [S.ft] at h; cases h
  · rw [S.fh] at h; cases h
  · rw [S.fr.choose_spec.1] at h; cases h
  · rw [S.fq.choose_spec.1] at h; cases h
  · rw [S.fc.choose_spec.1] at h; cases h
  · rw [S.fs] at h; cases h
  · rw [S.fe] at h; cases h
theorem StgAt.all {K : PySem.W.Frag} {H : Hp} {A : Adr} {s : Sy90.St} {r : List (Nat × Nat)} (S : StgAt K H A s r) {b : Addr} (h : b ∈ A.all) : H b ≠ none := fun z => S.notin z h
theorem StgAt.mutL {K : PySem.W.Frag} {H : Hp} {A : Adr} {s : Sy90.St} {r : List (Nat × Nat)} (S : StgAt K H A s r) {l : Addr} {xs : List V} {o : HO} (hl : l ∉ A.all) (h : H l = some (.lst xs)) : StgAt K (upd H l o) A s r := S.off (M := [l]) (Frm.upd List.mem_cons_self) (Fix.mutL h) fun b hb z => hl (List.mem_singleton.mp z ▸ hb)
theorem pure_film_from {K : PySem.W.Frag} {mg : Str → Option Value} (T : Tx K mg) (vs : List V) (H : Hp) (Q : VK) (E : XK) (h : sp_film_from K vs H Q E) : t_film_from K { nx := fun _ H' => Q .non H', rt := Q } (start N_film_from vs) H := by
  obtain ⟨A, s, r, rfl, S, W, k⟩ := h
  have z := W.toWf.sz
  obtain ⟨q, hq, F⟩ := firstQ W
  refine q_asgD (evd_copy S z (ev_var rfl)) fun v H1 e1 p1 => ?_
  obtain ⟨A2, rfl, S2, hf⟩ := p1
  refine q_asgD (P := fun v H2 => LlV FrV K H2 v ((List.range 1).map fun i => frameOf (Sy90.after s i)) ∧ ∃ l, v = .ref l ∧ H1 l = none) (fun H2 e2 Q2 q2 => evad_one (PA := fun vs H3 => ∃ u, vs = [u] ∧ FrV K H3 u (frameOf s)) (EvD.imp (evd_frame S2 (ev_var rfl)) fun v H3 e3 p3 => ⟨v, rfl, p3⟩) H2 e2 _ fun vs H3 e3 p3 => ?_) fun v H2 e2 p2 => ?_
  · obtain ⟨u, rfl, hu⟩ := p3
    exact ⟨Nat.le_of_lt (show 1 < _ by decide), fun p hp => q2 _ _ (e3.trans (Ex.new hp)) ⟨⟨p, _, rfl, upd_same, .cons (frV_st.x _ _ _ _ _ (Ex.new hp) hu) .nil⟩, p, rfl, fresh_back (e2.trans e3) hp⟩⟩
  obtain ⟨⟨l', xs0, rfl, hl1, hl2⟩, l, hl3, hl4⟩ := p2
  cases hl3
  have hlA := S2.notin hl4
  have hM : ∀ b ∈ l' :: A2.all, H b = none := fun b hb => by
    rcases List.mem_cons.mp hb with rfl | hb
    · exact fresh_back e1 hl4
    · exact hf b hb
  refine q_while (fun m σ' H' => ∃ n ys, m = q - n ∧ n ≤ q ∧ σ' = [some (.ref A.a), some (.ref A2.a), some (.ref l')] ∧ StgAt K H' A2 (Sy90.after s n) r ∧ Frm (l' :: A2.all) H2 H' ∧ H' l' = some (.lst ys) ∧ All2 (FrV K H') ys ((List.range (n + 1)).map fun i => frameOf (Sy90.after s i))) q
    ⟨0, xs0, rfl, Nat.zero_le _, rfl, S2.x e2, Frm.refl _ _, hl1, hl2⟩ ?_
  rintro m σ' H' ⟨n, ys, rfl, hn, rfl, S3, f3, h3, h4⟩
  have W3 := after_ok n W
  have z3 := W3.toWf.sz
  refine ⟨!quiet (Sy90.after s n), et_not (et_B (ev_quiet S3 z3 (ev_var rfl))), fun hb H4 e4 => ?_, fun hb H4 e4 => ?_⟩
  · have hnq : n ≠ q := fun c => by
      rw [c, F.yes] at hb
      cases hb
    refine ⟨fun σ2 H2' => ∃ ys, σ2 = [some (.ref A.a), some (.ref A2.a), some (.ref l')] ∧ StgAt K H2' A2 (Sy90.after s (n + 1)) r ∧ Frm (l' :: A2.all) H2 H2' ∧ H2' l' = some (.lst ys) ∧ All2 (FrV K H2') ys ((List.range (n + 1 + 1)).map fun i => frameOf (Sy90.after s i)), ?_, ?_⟩
    · rintro σ2 H2' ⟨ys, a, b, c, d, e⟩
      exact ⟨q - (n + 1), by omega, n + 1, ys, rfl, by omega, a, b, c, d, e⟩
    · have S4 := S3.x e4
      refine q_mut (ev_var rfl) S4.o rfl ea_nil fun H5 e5 => ⟨A2, _, r, rfl, S4.x e5, z3, fun H6 S6 f6 => ?_⟩
      rw [← tick_eq W3, ← after_succ] at S6
      have h6 : H6 l' = some (.lst ys) := f6 l' _ ((e4.trans e5) l' _ h3) hlA
      have fx6 : Fix H' H6 := (Fix.of (e4.trans e5)).trans ((S4.x e5).fix f6)
      have hyl : ys.length ≤ 60 := by
        rw [All2.len h4, List.length_map, List.length_range]
        omega
      refine s_appD (P := fun v H7 => FrV K H7 v (frameOf (Sy90.after s (n + 1)))) h6 (ev_var rfl) (evd_frame S6 (ev_var rfl)) (by omega) fun v H7 e7 p7 => ?_
      have h7 := e7 l' _ h6
      have fx : Fix H7 (upd H7 l' (.lst (ys ++ [v]))) := Fix.mutL h7
      refine ⟨_, rfl, (S6.x e7).mutL hlA h7, ?_, upd_same, ?_⟩
      · refine (f3.trans ((Frm.of (e4.trans e5)).trans (f6.mono fun x hx => List.mem_cons_of_mem _ hx))).trans ((Frm.of e7).trans (Frm.upd List.mem_cons_self))
      · rw [List.range_succ (n := n + 1), List.map_append]
        exact All2.snoc (all2_st frV_st ((fx6.trans (Fix.of e7)).trans fx) h4) (frV_st _ _ _ _ _ fx p7)
  · have hnq : n = q := by
      by_cases c : n = q
      · exact c
      · rw [F.no n (by omega)] at hb
        cases hb
    subst hnq
    refine s_ret (ev_var rfl) fun H5 e5 => k _ H5 ?_ ⟨l', ys, rfl, (e4.trans e5) l' _ h3, ?_⟩
    · exact (Frm.ex (e1.trans e2) hM f3).trans (e4.trans e5)
    · rw [filmP_eq hq F, List.map_map]
      exact all2_x frV_st.x (e4.trans e5) h4
theorem ok_film_from {P : Program} {w : World} {K : PySem.W.Frag} {mg : Str → Option Value} {base : Heap} (T : Tx K mg) (D_Stage_copy : MethE P w K mg base (CX0) 3 "Stage" "copy" ["self"] (sp_Stage_copy K)) (D_Stage_is_quiet : MethE P w K mg base (CX0) 3 "Stage" "is_quiet" ["self"] (sp_Stage_is_quiet K)) (D_Stage_pass_second : MethE P w K mg base (CX0) 4 "Stage" "pass_second" ["self"] (sp_Stage_pass_second K)) (D_frame_of : DefE P w K mg base (CX0) 1 "frame_of" ["stage"] (sp_frame_of K)) : DefE P w K mg base CX0 5 "film_from" ["stage"] (sp_film_from K) := by
  obtain ⟨fd, F⟩ := T.d_film_from
  have bd : Binds K fd ["stage"] [] := F.bindsN fun _ _ _ _ _ _ us hl => match us, hl with | [_], _ => rfl
  have G : FnOk P w K mg base CX0 5 (He.ga K "film_from") fd ["stage"] (sp_film_from K) := by
    refine F.ok sc_film_from (fun vs H Q E h => sl_film_from h) (fun cdv A outer s H vs Q E hr h => ⟨t_film_from K, PSs.nox ?_, pure_film_from T vs H Q E h⟩)
    exact (pss_cons (ps_set (i := 1) sc_film_from.nd rfl (by first | exact Or.inl rfl | exact Or.inr rfl) (pe_methE0 (pv 0) D_Stage_copy (hr.mono (by decide)) pass0))
  (pss_cons (ps_set (i := 2) sc_film_from.nd rfl (by first | exact Or.inl rfl | exact Or.inr rfl) (pe_lst (pa_cons (pe_callE D_frame_of (hr.mono (by decide)) rfl pass0 (by exact (pa_cons (pv 1) pa_nil))) pa_nil)))
  (pss_cons (ps_while PassesOwn.never (pt_not (pt_val (pe_methE0 (pv 1) D_Stage_is_quiet (hr.mono (by decide)) pass0))) (pss_cons (ps_expr (pe_methE0 (pv 1) D_Stage_pass_second (hr.mono (by decide)) pass0))
  (pss_one (ps_expr (pe_bm PySem.F.plainAttrs_list PySem.F.slot_list_append PySem.F.type_list_append mt_append (pv 2) (pa_cons (pe_callE D_frame_of (hr.mono (by decide)) rfl pass0 (by exact (pa_cons (pv 1) pa_nil))) pa_nil))))))
  (pss_one (ps_ret (pv 2))))))
  exact DefE.mk ⟨fd, G, bd⟩ T.g_film_from T.p_film_from
theorem evd_film {K : PySem.W.Frag} {σ : L2.St} {H : Hp} {te : TE} {E : XK} {A : Adr} {s : Sy90.St} {r : List (Nat × Nat)} (S : StgAt K H A s r) (W : Ok s) (h : Ev te σ H (.ref A.a)) : EvD (tCall (sp_film_from K) [] E (tCons te tNil)) σ H fun v H2 => LlV FrV K H2 v ((filmP s).map frameOf) :=
  evd_callV (ea_cons h ea_nil) fun H1 e1 Q q E => ⟨A, s, r, rfl, S.x e1, W, q⟩
end Sk
namespace Sk
open PySem L2 Evl Sc
/-! ### frame_at -/
def sp_frame_at (K : PySem.W.Frag) : Sp := fun vs H Q _ => ∃ (v : V) (fl : List Fr) (n : Nat) (f : Fr), vs = [v, nV n] ∧ LsV FrV K H v fl ∧ fl[min n (fl.length - 1)]? = some f ∧ RetD (fun v H2 => FrV K H2 v f) H Q
theorem sl_frame_at {K : PySem.W.Frag} {vs : List V} {H : Hp} {Q : VK} {E : XK} (h : sp_frame_at K vs H Q E) : vs.length = 2 := by
  obtain ⟨_, _, _, _, rfl, _⟩ := h
  rfl
def t_frame_at (K : PySem.W.Frag) : TS :=
  (tRet (tOp (rIxL K) (tVar 0) (tCB rMin2 (tCons (tVar 1) (tCons (tOp rSubI (tCB (rLenS K) (tCons (tVar 0) tNil)) (tC (.int 1))) tNil)))))
theorem pure_frame_at {K : PySem.W.Frag} {mg : Str → Option Value} (T : Tx K mg) (vs : List V) (H : Hp) (Q : VK) (E : XK) (h : sp_frame_at K vs H Q E) : t_frame_at K { nx := fun _ H' => Q .non H', rt := Q } (start N_frame_at vs) H := by
  obtain ⟨v, fl, n, f, rfl, ⟨a, xs, rfl, h1, h2⟩, hf, k⟩ := h
  have hl : xs.length = fl.length := All2.len h2
  have hi := (List.getElem?_eq_some_iff.mp hf).1
  obtain ⟨x, hx, hxf⟩ := All2.get2 h2 hf
  have hat : atI xs ((min n (fl.length - 1) : Nat) : Int) = some x := atI_nat hx
  refine s_retD (P := fun v H2 => FrV K H2 v f) (evd_of (ev_op (ev_var rfl) (ev_is (w := nV (min n (fl.length - 1))) (ev_cb (ea_cons (ev_var rfl) (ea_cons (ev_op (ev_cb (ea_cons (ev_var rfl) ea_nil) (rc_len (Or.inl h1))) ev_c rv_I0) ea_nil)) rc_min2) (congrArg V.int ?_)) (rv_ixL h1 hat)) fun H1 e1 => frV_st.x _ _ _ _ _ e1 hxf) k
  rw [hl]
  split <;> omega
theorem ok_frame_at {P : Program} {w : World} {K : PySem.W.Frag} {mg : Str → Option Value} {base : Heap} (T : Tx K mg) : DefE P w K mg base CX0 1 "frame_at" ["film", "time"] (sp_frame_at K) := by
  obtain ⟨fd, F⟩ := T.d_frame_at
  have bd : Binds K fd ["film", "time"] [] := F.bindsN fun _ _ _ _ _ _ us hl => match us, hl with | [_, _], _ => rfl
  have G : FnOk P w K mg base CX0 1 (He.ga K "frame_at") fd ["film", "time"] (sp_frame_at K) := by
    refine F.ok sc_frame_at (fun vs H Q E h => sl_frame_at h) (fun cdv A outer s H vs Q E hr h => ⟨t_frame_at K, PSs.nox ?_, pure_frame_at T vs H Q E h⟩)
    exact (pss_one (ps_ret (pe_ix ix_list (pv 0) (pe_callB (cMin2 rfl) rfl T.f_min bMin (pa_cons (pv 1) (pa_cons (pe_op oSub (pe_callB cLen rfl T.f_len bLen (pa_cons (pv 0) pa_nil)) pe_int) pa_nil))) (fun _ _ => rfl))))
  exact DefE.mk ⟨fd, G, bd⟩ T.g_frame_at T.p_frame_at
theorem spd_frame_at {K : PySem.W.Frag} {H : Hp} {v : V} {fl : List Fr} {n : Nat} {f : Fr} (h : LsV FrV K H v fl) (hf : fl[min n (fl.length - 1)]? = some f) : SpD (sp_frame_at K) [v, nV n] H fun v H2 => FrV K H2 v f := fun Q q E => ⟨v, fl, n, f, rfl, h, hf, q⟩

/-! ### many_moving_in -/
def sp_many_moving_in (K : PySem.W.Frag) : Sp := fun vs H Q _ => ∃ (v : V) (f : Fr), vs = [v] ∧ FrV K H v f ∧ f.2.length = f.1.length ∧ f.1.length ≤ 40000 ∧ RetV (nV ((List.range f.1.length).filter fun b => decide (f.1.getD b 0 ≠ f.2.getD b 0)).length) H Q
theorem sl_many_moving_in {K : PySem.W.Frag} {vs : List V} {H : Hp} {Q : VK} {E : XK} (h : sp_many_moving_in K vs H Q E) : vs.length = 1 := by
  obtain ⟨_, _, rfl, _⟩ := h
  rfl
def t_many_moving_in (K : PySem.W.Frag) : TS :=
  (tSeq (tAsg (tVar 0) (gTup K 2 (gCons (gName 1) (gCons (gName 2) gNil))))
  (tRet (tCB (rLenS K) (tCons (tLc (iRng1 (tCons (tCB (rLenS K) (tCons (tVar 1) tNil)) tNil)) (gName 3) (tTest (tOp rNe (tOp (rIxT K) (tVar 1) (tVar 3)) (tOp (rIxT K) (tVar 2) (tVar 3)))) (tVar 3) [3]) tNil))))
theorem at_nat {ns : List Nat} {k : Nat} (h : k < ns.length) : atI (ns.map nV) ((k : Nat) : Int) = some (nV (ns.getD k 0)) := atI_nat (nums_at h)
theorem pure_many_moving_in {K : PySem.W.Frag} {mg : Str → Option Value} (T : Tx K mg) (vs : List V) (H : Hp) (Q : VK) (E : XK) (h : sp_many_moving_in K vs H Q E) : t_many_moving_in K { nx := fun _ H' => Q .non H', rt := Q } (start N_many_moving_in vs) H := by
  obtain ⟨v, f, rfl, ⟨a, p, t, rfl, ha, hp, ht⟩, hl, hz, k⟩ := h
  refine q_unp2 (ev_var rfl) ha fun H1 e1 => ?_
  have hp1 := ex_t e1 hp
  have ht1 := ex_t e1 ht
  refine s_ret (ev_is (ev_lenN (el_lcR1 (n := ((f.1.length : Nat) : Int)) (fun b => decide (f.1.getD b 0 ≠ f.2.getD b 0)) nV (ea_cons (ev_is (ev_cb (ea_cons (ev_var rfl) ea_nil) (rc_len (Or.inr hp1))) (congrArg (fun n : Nat => nV n) (List.length_map ..))) ea_nil) (by omega) (fun _ => rfl) ?_ ?_)) ?_) fun H2 e2 => k H2 (e1.trans e2)
  · intro i H2 e2 hi
    have hi1 : i < f.1.length := by omega
    refine et_is (et_test (ev_op (ev_op (ev_var rfl) (ev_var rfl) (rv_ixT (ex_t e2 hp1) (at_nat hi1))) (ev_op (ev_var rfl) (ev_var rfl) (rv_ixT (ex_t e2 ht1) (at_nat (show i < f.2.length by omega)))) (rv_ne rfl))) ?_
    rw [← decide_not]
    exact decide_eq_decide.mpr (not_congr ⟨fun h => by have := V.int.inj h; omega, fun h => by rw [h]⟩)
  · intro i H2 e2 hi _
    exact ev_var rfl
  · unfold given
    rw [List.length_map, Int.toNat_natCast]
theorem ok_many_moving_in {P : Program} {w : World} {K : PySem.W.Frag} {mg : Str → Option Value} {base : Heap} (T : Tx K mg) : DefE P w K mg base CX0 1 "many_moving_in" ["frame"] (sp_many_moving_in K) := by
  obtain ⟨fd, F⟩ := T.d_many_moving_in
  have bd : Binds K fd ["frame"] [] := F.bindsN fun _ _ _ _ _ _ us hl => match us, hl with | [_], _ => rfl
  have G : FnOk P w K mg base CX0 1 (He.ga K "many_moving_in") fd ["frame"] (sp_many_moving_in K) := by
    refine F.ok sc_many_moving_in (fun vs H Q E h => sl_many_moving_in h) (fun cdv A outer s H vs Q E hr h => ⟨t_many_moving_in K, PSs.nox ?_, pure_many_moving_in T vs H Q E h⟩)
    exact (pss_cons (ps_asg (pv 0) (pg_tup rfl (pgs_cons (pg_name (i := 1) sc_many_moving_in.nd rfl (by first | exact Or.inl rfl | exact Or.inr rfl)) (pgs_cons (pg_name (i := 2) sc_many_moving_in.nd rfl (by first | exact Or.inl rfl | exact Or.inr rfl)) pgs_nil))))
  (pss_one (ps_ret (pe_callB cLen rfl T.f_len bLen (pa_cons (pe_lc (own := [("bar", 3)]) (g := (gName 3)) (tt := (tTest (tOp rNe (tOp (rIxT K) (tVar 1) (tVar 3)) (tOp (rIxT K) (tVar 2) (tVar 3))))) (te := (tVar 3)) rfl sc_many_moving_in.nd (pi_range1 rfl T.f_range (pa_cons (pe_callB cLen rfl T.f_len bLen (pa_cons (pv 1) pa_nil)) pa_nil)) (blkOk_by (N := N_many_moving_in) (sc := defScope s_many_moving_in) (by decide +kernel)) (fun _ _ _ _ _ => (pg_name (i := 3) sc_many_moving_in.nd rfl (by first | exact Or.inl rfl | exact Or.inr rfl))) (fun _ _ _ _ _ => (pts_one (pt_cmpR oNe (pe_ix ix_tup (pv 1) (pv 3) (fun _ _ => rfl)) (pe_ix ix_tup (pv 2) (pv 3) (fun _ _ => rfl)) (nomark _)))) (fun _ _ _ _ _ => (pv 3))) pa_nil)))))
  exact DefE.mk ⟨fd, G, bd⟩ T.g_many_moving_in T.p_many_moving_in
theorem spv_many_moving_in {K : PySem.W.Frag} {H : Hp} {v : V} {f : Fr} (h : FrV K H v f) (hl : f.2.length = f.1.length) (hz : f.1.length ≤ 40000) : SpV (sp_many_moving_in K) [v] H (nV ((List.range f.1.length).filter fun b => decide (f.1.getD b 0 ≠ f.2.getD b 0)).length) := fun H1 e Q q E =>
  ⟨v, f, rfl, frV_st.x _ _ _ _ _ e h, hl, hz, q⟩

/-! ### violation_in -/
def OpPr : PR (Option (Nat × Nat)) := fun K H v o => match o with
  | none => v = .non
  | some x => PrV K H v x
theorem opPr_x : StabX OpPr := fun K H H' v o e h => match o, h with
  | none, h => h
  | some x, h => prV_st.x K H H' v x e h
def sp_violation_in (K : PySem.W.Frag) : Sp := fun vs H Q _ => ∃ (v1 v2 : V) (fl : List Fr) (pairs : List (Nat × Nat × Nat)), vs = [v1, v2] ∧ LsV FrV K H v1 fl ∧ LsV TrV K H v2 pairs ∧ (∀ f ∈ fl, ∀ p ∈ pairs, p.1 < f.1.length ∧ p.2.1 < f.1.length) ∧ RetD (fun v H2 => OpPr K H2 v (violF pairs 0 fl)) H Q
theorem sl_violation_in {K : PySem.W.Frag} {vs : List V} {H : Hp} {Q : VK} {E : XK} (h : sp_violation_in K vs H Q E) : vs.length = 2 := by
  obtain ⟨_, _, _, _, rfl, _⟩ := h
  rfl
def t_violation_in (K : PySem.W.Frag) : TS :=
  (tSeq (tFor (iEnum K (tCons (tVar 0) tNil)) (gTup K 2 (gCons (gName 2) (gCons (gName 3) gNil))) (tSeq (tAsg (tCall (sp_first_violated K) [] E0 (tCons (tVar 1) (tCons (tOp (rIxT K) (tVar 3) (tC (.int 0))) tNil))) (gName 4))
  (tIfS (tTest (tOp rNotN (tVar 4) (tC .non))) (tRet (tTup (tCons (tVar 2) (tCons (tVar 4) tNil)))) tNext)))
  (tRet (tC .non)))
theorem violF_none (pairs : List (Nat × Nat × Nat)) : ∀ (fl : List Fr) (t : Nat), (∀ f ∈ fl, fouledF pairs f.1 = none) → violF pairs t fl = none
  | [], _, _ => rfl
  | f :: r, t, h => by
    unfold violF
    rw [h f List.mem_cons_self]
    exact violF_none pairs r (t + 1) fun g hg => h g (List.mem_cons_of_mem _ hg)
theorem violF_at (pairs : List (Nat × Nat × Nat)) : ∀ (fl : List Fr) (t i : Nat) (f : Fr) (p : Nat), fl[i]? = some f → (∀ j g, j < i → fl[j]? = some g → fouledF pairs g.1 = none) → fouledF pairs f.1 = some p → violF pairs t fl = some (t + i, p)
  | [], _, _, _, _, h, _, _ => by cases h
  | g :: r, t, 0, f, p, h, _, hf => by
    cases h
    unfold violF
    rw [hf]
    rfl
  | g :: r, t, i + 1, f, p, h, hn, hf => by
    unfold violF
    rw [hn 0 g (by omega) rfl]
    have := violF_at pairs r (t + 1) i f p h (fun j g' hj hg => hn (j + 1) g' (by omega) hg) hf
    rw [show t + (i + 1) = t + 1 + i by omega]
    exact this
theorem pure_violation_in {K : PySem.W.Frag} {mg : Str → Option Value} (T : Tx K mg) (vs : List V) (H : Hp) (Q : VK) (E : XK) (h : sp_violation_in K vs H Q E) : t_violation_in K { nx := fun _ H' => Q .non H', rt := Q } (start N_violation_in vs) H := by
  obtain ⟨v1, v2, fl, pairs, rfl, ⟨a, xs, rfl, h1, h2⟩, hp, hb, k⟩ := h
  have hl : xs.length = fl.length := All2.len h2
  refine q_forEn (a := a) (xs := xs) (by walk_at "ev") h1 (fun i σ' H' => ∃ o2 o3 o4, σ' = [some (.ref a), some v2, o2, o3, o4] ∧ Ex H H' ∧ ∀ j g, j < i → fl[j]? = some g → fouledF pairs g.1 = none)
    (fun H2 e2 => ⟨none, none, none, rfl, e2, fun j _ z => absurd z (Nat.not_lt_zero _)⟩) (fun i σ' H' _ p => ?_) ?_ ?_
  · obtain ⟨_, _, _, _, e, _⟩ := p
    exact ex_l e h1
  · rintro i x σ' H' U hi ⟨o2, o3, o4, rfl, e, hn⟩ hU
    have eA : Ex H (upd H' U (.tup [nV i, x])) := e.trans (Ex.new hU)
    obtain ⟨f, hf, hxf⟩ := All2.get h2 hi
    obtain ⟨T, p, t, rfl, hT, hp1, ht⟩ := frV_st.x _ _ _ _ _ eA hxf
    have hbf := hb f (List.mem_of_getElem? hf)
    refine q_asg (v := opV (fouledF pairs f.1)) (ev_call (ea_cons (ev_var rfl) (ea_cons (ev_op (ev_var rfl) ev_c (rv_ixT (i := 0) hT rfl)) ea_nil)) (spv_first_violated (lsV_x trV_st.x _ _ _ _ _ eA hp) (.inr hp1) hbf)) fun H1 e1 => ?_
    cases hg : fouledF pairs f.1 with
    | none =>
      refine s_when (et_nn0 (ev_var rfl)) (fun z => by cases z) fun _ H2 e2 => ⟨_, _, _, rfl, eA.trans (e1.trans e2), fun j g hj hjg => ?_⟩
      by_cases c : j = i
      · subst c
        rw [hf] at hjg
        cases hjg
        exact hg
      · exact hn j g (by omega) hjg
    | some q =>
      refine s_when (et_nn1 (v := nV q) (ev_var rfl) nofun) (fun _ H2 e2 => ?_) fun z => by cases z
      refine s_retD (evd_tup (vs := [nV i, nV q]) (ea_cons (ev_var rfl) (ea_cons (ev_var rfl) ea_nil)) (Nat.le_of_lt (show 2 < 100000 by decide))) fun v H3 e3 p3 => k v H3 (eA.trans (e1.trans (e2.trans e3))) ?_
      obtain ⟨u, rfl, hu⟩ := p3
      have := violF_at pairs fl 0 i f q hf hn hg
      rw [Nat.zero_add] at this
      rw [this]
      exact ⟨u, rfl, st_of hu⟩
  · rintro σ' H' ⟨o2, o3, o4, rfl, e, hn⟩
    refine s_ret ev_c fun H2 e2 => k _ H2 (e.trans e2) ?_
    rw [violF_none pairs fl 0 fun f hf => ?_]
    · exact rfl
    · obtain ⟨j, hj, rfl⟩ := List.getElem_of_mem hf
      exact hn j _ (by omega) (List.getElem?_eq_getElem hj)
theorem ok_violation_in {P : Program} {w : World} {K : PySem.W.Frag} {mg : Str → Option Value} {base : Heap} (T : Tx K mg) (D_first_violated : DefE P w K mg base (CX0) 2 "first_violated" ["pairs", "positions"] (sp_first_violated K)) : DefE P w K mg base CX0 3 "violation_in" ["film", "pairs"] (sp_violation_in K) := by
  obtain ⟨fd, F⟩ := T.d_violation_in
  have bd : Binds K fd ["film", "pairs"] [] := F.bindsN fun _ _ _ _ _ _ us hl => match us, hl with | [_, _], _ => rfl
  have G : FnOk P w K mg base CX0 3 (He.ga K "violation_in") fd ["film", "pairs"] (sp_violation_in K) := by
    refine F.ok sc_violation_in (fun vs H Q E h => sl_violation_in h) (fun cdv A outer s H vs Q E hr h => ⟨t_violation_in K, PSs.nox ?_, pure_violation_in T vs H Q E h⟩)
    exact (pss_cons (ps_for PassesOwn.never rfl (pi_enum rfl T.f_enumerate (pa_cons (pv 0) pa_nil)) (pg_tup rfl (pgs_cons (pg_name (i := 2) sc_violation_in.nd rfl (by first | exact Or.inl rfl | exact Or.inr rfl)) (pgs_cons (pg_name (i := 3) sc_violation_in.nd rfl (by first | exact Or.inl rfl | exact Or.inr rfl)) pgs_nil))) (pss_cons (ps_set (i := 4) sc_violation_in.nd rfl (by first | exact Or.inl rfl | exact Or.inr rfl) (pe_callE D_first_violated (hr.mono (by decide)) rfl pass0 (by exact (pa_cons (pv 1) (pa_cons (pe_ix ix_tup (pv 3) pe_int (fun _ _ => rfl)) pa_nil)))))
  (pss_one (ps_if (pt_cmpR oNotN (pv 4) pe_non (nomark _)) (pss_one (ps_ret (pe_tup (pa_cons (pv 2) (pa_cons (pv 4) pa_nil))))) pss_nil))))
  (pss_one (ps_ret pe_non)))
  exact DefE.mk ⟨fd, G, bd⟩ T.g_violation_in T.p_violation_in
theorem spd_violation_in {K : PySem.W.Frag} {H : Hp} {v1 v2 : V} {fl : List Fr} {pairs : List (Nat × Nat × Nat)} (h1 : LsV FrV K H v1 fl) (h2 : LsV TrV K H v2 pairs) (hb : ∀ f ∈ fl, ∀ p ∈ pairs, p.1 < f.1.length ∧ p.2.1 < f.1.length) :
    SpD (sp_violation_in K) [v1, v2] H fun v H2 => OpPr K H2 v (violF pairs 0 fl) := fun Q q E => ⟨v1, v2, fl, pairs, rfl, h1, h2, hb, q⟩

/-! ### directions_of -/
def sp_directions_of (K : PySem.W.Frag) : Sp := fun vs H Q _ => ∃ (v : V) (fl : List Fr) (b : Nat), vs = [v, nV b] ∧ LsV FrV K H v fl ∧ fl.length ≤ 40000 ∧ (∀ f ∈ fl, b < f.1.length ∧ b < f.2.length) ∧ RetL ((fl.map fun f => dirF f b).map V.int) H Q
theorem sl_directions_of {K : PySem.W.Frag} {vs : List V} {H : Hp} {Q : VK} {E : XK} (h : sp_directions_of K vs H Q E) : vs.length = 2 := by
  obtain ⟨_, _, _, rfl, _⟩ := h
  rfl
def t_directions_of (K : PySem.W.Frag) : TS :=
  (tRet (tLc (iList K (tVar 0)) (gTup K 2 (gCons (gName 2) (gCons (gName 3) gNil))) tYes (tCall (sp_sign_of K) [] E0 (tCons (tOp rSubI (tOp (rIxT K) (tVar 3) (tVar 1)) (tOp (rIxT K) (tVar 2) (tVar 1))) tNil)) [2, 3]))
def FrS (K : PySem.W.Frag) (H : Hp) (u w : V) (f : Fr) : Prop := ∃ p t, u = .ref p ∧ w = .ref t ∧ SqT K H p (f.1.map nV) ∧ SqT K H t (f.2.map nV)
theorem pure_directions_of {K : PySem.W.Frag} {mg : Str → Option Value} (T : Tx K mg) (vs : List V) (H : Hp) (Q : VK) (E : XK) (h : sp_directions_of K vs H Q E) : t_directions_of K { nx := fun _ H' => Q .non H', rt := Q } (start N_directions_of vs) H := by
  obtain ⟨v, fl, b, rfl, ⟨a, xs, rfl, h1, h2⟩, hz, hb, k⟩ := h
  refine s_retD (evd_lcDP (K := K) (R := IntV) (FrS K) (fun H H1 u w f e h => ?_) intV_st (fun _ => true) (fun i => dirF (fl.getD i ([], [])) b) (evd_of (ev_var rfl) fun H1 e1 => ⟨a, xs, rfl, ex_l e1 h1, all2_mono (fun x y h => ?_) (all2_x frV_st.x e1 h2)⟩) hz (fun _ _ => rfl) (fun _ _ _ _ _ _ _ _ => et_yes) ?_) ?_
  · obtain ⟨p, t, a1, a2, a3, a4⟩ := h
    exact ⟨p, t, a1, a2, ex_t e a3, ex_t e a4⟩
  · obtain ⟨T, p, t, rfl, hT, hp, ht⟩ := h
    exact ⟨T, _, _, rfl, hT, p, t, rfl, rfl, hp, ht⟩
  · rintro i u w f H1 e1 hf ⟨p, t, rfl, rfl, hp, ht⟩ _
    obtain ⟨b1, b2⟩ := hb f (List.mem_of_getElem? hf)
    rw [getD_at hf]
    exact evd_of (ev_call (ea_cons (ev_op (ev_op (ev_var rfl) (ev_var rfl) (rv_ixT ht (at_nat b2))) (ev_op (ev_var rfl) (ev_var rfl) (rv_ixT hp (at_nat b1))) rv_I0) ea_nil) spv_sign_of) fun _ _ => rfl
  · rintro v H1 e1 ⟨p, rfl, hp, ys, h4, h5⟩
    have h5 := all2_int h5
    rw [givenD_all, map_getD fl ([], []) fun f => dirF f b] at h5
    subst h5
    exact k p H1 hp e1 h4
theorem ok_directions_of {P : Program} {w : World} {K : PySem.W.Frag} {mg : Str → Option Value} {base : Heap} (T : Tx K mg) (D_sign_of : DefE P w K mg base (CX0) 1 "sign_of" ["number"] (sp_sign_of K)) : DefE P w K mg base CX0 2 "directions_of" ["film", "bar"] (sp_directions_of K) := by
  obtain ⟨fd, F⟩ := T.d_directions_of
  have bd : Binds K fd ["film", "bar"] [] := F.bindsN fun _ _ _ _ _ _ us hl => match us, hl with | [_, _], _ => rfl
  have G : FnOk P w K mg base CX0 2 (He.ga K "directions_of") fd ["film", "bar"] (sp_directions_of K) := by
    refine F.ok sc_directions_of (fun vs H Q E h => sl_directions_of h) (fun cdv A outer s H vs Q E hr h => ⟨t_directions_of K, PSs.nox ?_, pure_directions_of T vs H Q E h⟩)
    exact (pss_one (ps_ret (pe_lc (own := [("positions", 2), ("targets", 3)]) (g := (gTup K 2 (gCons (gName 2) (gCons (gName 3) gNil)))) (tt := tYes) (te := (tCall (sp_sign_of K) [] E0 (tCons (tOp rSubI (tOp (rIxT K) (tVar 3) (tVar 1)) (tOp (rIxT K) (tVar 2) (tVar 1))) tNil))) rfl sc_directions_of.nd (pi_list (pv 0)) (blkOk_by (N := N_directions_of) (sc := defScope s_directions_of) (by decide +kernel)) (fun _ _ _ _ _ => (pg_tup rfl (pgs_cons (pg_name (i := 2) sc_directions_of.nd rfl (by first | exact Or.inl rfl | exact Or.inr rfl)) (pgs_cons (pg_name (i := 3) sc_directions_of.nd rfl (by first | exact Or.inl rfl | exact Or.inr rfl)) pgs_nil)))) (fun _ _ _ _ _ => pts_nil) (fun _ _ _ _ _ => (pe_callE D_sign_of (hr.mono (by decide)) rfl pass0 (by exact (pa_cons (pe_op oSub (pe_ix ix_tup (pv 3) (pv 1) (fun _ _ => rfl)) (pe_ix ix_tup (pv 2) (pv 1) (fun _ _ => rfl))) pa_nil)))))))
  exact DefE.mk ⟨fd, G, bd⟩ T.g_directions_of T.p_directions_of
theorem spl_directions_of {K : PySem.W.Frag} {H : Hp} {v : V} {fl : List Fr} {b : Nat} (h : LsV FrV K H v fl) (hz : fl.length ≤ 40000) (hb : ∀ f ∈ fl, b < f.1.length ∧ b < f.2.length) : SpL (sp_directions_of K) [v, nV b] H ((fl.map fun f => dirF f b).map V.int) := fun H1 e Q q E =>
  ⟨v, fl, b, rfl, lsV_x frV_st.x _ _ _ _ _ e h, hz, hb, fun p H2 hp e2 h2 => q p H2 hp e2 h2⟩
end Sk
namespace Sk
open PySem L2 Evl Sc
/-! ### runs_in -/
def sp_runs_in (K : PySem.W.Frag) : Sp := fun vs H Q _ => ∃ (a : Addr) (ds : List Int), vs = [.ref a] ∧ SqL K H a (ds.map V.int) ∧ 1 ≤ ds.length ∧ ds.length ≤ 40000 ∧ RetD (fun v H2 => LlV PrV K H2 v (runsP ds)) H Q
theorem sl_runs_in {K : PySem.W.Frag} {vs : List V} {H : Hp} {Q : VK} {E : XK} (h : sp_runs_in K vs H Q E) : vs.length = 1 := by
  obtain ⟨_, _, rfl, _⟩ := h
  rfl
def t_runs_in (K : PySem.W.Frag) : TS :=
  (tSeq (tAsg (tLst tNil) (gName 1))
  (tSeq (tAsg (tC (.int 0)) (gName 2))
  (tSeq (tFor (iRng2 (tCons (tC (.int 1)) (tCons (tCB (rLenS K) (tCons (tVar 0) tNil)) tNil))) (gName 3) (tIfS (tTest (tOp rNe (tOp (rIxL K) (tVar 0) (tVar 3)) (tOp (rIxL K) (tVar 0) (tOp rSubI (tVar 3) (tC (.int 1)))))) (tSeq (tIfS (tTest (tOp rNe (tOp (rIxL K) (tVar 0) (tOp rSubI (tVar 3) (tC (.int 1)))) (tC (.int 0)))) (tDrop (tBM K "list" rAppend (tVar 1) (tCons (tTup (tCons (tVar 2) (tCons (tVar 3) tNil))) tNil))) tNext)
  (tAsg (tVar 3) (gName 2))) tNext))
  (tRet (tVar 1)))))
theorem at_int {ds : List Int} {k : Nat} (h : k < ds.length) : atI (ds.map V.int) ((k : Nat) : Int) = some (.int (ds.getD k 0)) := atI_nat (by
  rw [List.getElem?_map, at_getD 0 h]
  rfl)
def runsUp (ds : List Int) (n : Nat) : List (Nat × Nat) × Nat := (List.range n).foldl (fun a i => runStep ds a (i + 1)) ([], 0)
theorem runsUp_succ (ds : List Int) (n : Nat) : runsUp ds (n + 1) = runStep ds (runsUp ds n) (n + 1) := by
  unfold runsUp
  rw [List.range_succ, List.foldl_append]
  rfl
theorem runsUp_len (ds : List Int) : ∀ n, (runsUp ds n).1.length ≤ n
  | 0 => Nat.le_refl _
  | n + 1 => by
    have ih := runsUp_len ds n
    rw [runsUp_succ]
    unfold runStep
    split
    · dsimp only
      split
      · rw [List.length_append, List.length_singleton]
        omega
      · omega
    · omega
theorem pure_runs_in {K : PySem.W.Frag} {mg : Str → Option Value} (T : Tx K mg) (vs : List V) (H : Hp) (Q : VK) (E : XK) (h : sp_runs_in K vs H Q E) : t_runs_in K { nx := fun _ H' => Q .non H', rt := Q } (start N_runs_in vs) H := by
  obtain ⟨a, ds, rfl, ha, hn, hz, k⟩ := h
  refine q_asgL (el_lst ea_nil (by decide)) fun l H1 hl e1 h1 => ?_
  refine q_asg ev_c fun H2 e2 => ?_
  have e12 := e1.trans e2
  refine q_forR2 (lo := 1) (n := ((ds.length : Nat) : Int)) (ea_cons ev_c (ea_cons (ev_is (ev_cb (ea_cons (ev_var rfl) ea_nil) (rc_len (Or.inl (ex_l e12 ha)))) (congrArg (fun n : Nat => nV n) (List.length_map ..))) ea_nil)) (by omega)
    (fun i σ' H' => ∃ o3 ys, σ' = [some (.ref a), some (.ref l), some (nV (runsUp ds i).2), o3] ∧ Ex H (off H' l) ∧ H' l = some (.lst ys) ∧ All2 (PrV K H') ys (runsUp ds i).1)
    (fun H3 e3 => ⟨none, [], rfl, off_ex (e12.trans e3) hl, (e2.trans e3) l _ h1, .nil⟩) ?_ ?_
  · rintro i σ' H' hi ⟨o3, ys, rfl, e, h3, h4⟩
    have hi1 : i + 1 < ds.length := by omega
    have et : (1 : Int) + (i : Int) = ((i + 1 : Nat) : Int) := by omega
    rw [et]
    have eI := e.trans off_in
    have hyl : ys.length ≤ i := by
      rw [All2.len h4]
      exact runsUp_len ds i
    have hev1 : ∀ {H2 : Hp} {o : Option V}, Ex H' H2 → Ev (tOp (rIxL K) (tVar 0) (tOp rSubI (tVar 3) (tC (.int 1)))) [some (.ref a), some (.ref l), o, some (nV (i + 1))] H2 (.int (ds.getD i 0)) := fun ee => ev_op (ev_var rfl) (ev_is (w := nV i) (ev_op (ev_var rfl) ev_c rv_I0) (congrArg V.int (by omega))) (rv_ixL (ex_l (eI.trans ee) ha) (at_int (by omega)))
    refine s_when (b := decide (ds.getD (i + 1) 0 ≠ ds.getD i 0)) (et_is (et_test (ev_op (ev_op (ev_var rfl) (ev_var rfl) (rv_ixL (ex_l eI ha) (at_int hi1))) (hev1 (Ex.refl _)) (rv_ne rfl))) ?_) (fun hb H5 e5 => ?_) fun hb H5 e5 => ?_
    · rw [← decide_not]
      exact decide_eq_decide.mpr (not_congr ⟨fun h => V.int.inj h, fun h => by rw [h]⟩)
    · have hb := of_decide_eq_true hb
      refine q_when (b := decide (ds.getD i 0 ≠ 0)) (et_is (et_test (ev_op (hev1 e5) ev_c (rv_ne rfl))) ?_) (fun hc H6 e6 => ?_) fun hc H6 e6 => ?_
      · rw [← decide_not]
        exact decide_eq_decide.mpr (not_congr ⟨fun h => V.int.inj h, fun h => by rw [h]⟩)
      · have hc := of_decide_eq_true hc
        have h6 := (e5.trans e6) l _ h3
        refine s_appD (P := fun v H7 => PrV K H7 v ((runsUp ds i).2, i + 1)) h6 (ev_var rfl) (EvD.imp (evd_tup (vs := [nV (runsUp ds i).2, nV (i + 1)]) (ea_cons (ev_var rfl) (ea_cons (ev_var rfl) ea_nil)) (Nat.le_of_lt (show 2 < 100000 by decide))) fun v H7 e7 p7 => ?_) (by omega) fun v H7 e7 p7 => ?_
        · obtain ⟨t, rfl, ht⟩ := p7
          exact ⟨t, rfl, st_of ht⟩
        · have h7 := e7 l _ h6
          have fx : Fix H7 (upd H7 l (.lst (ys ++ [v]))) := Fix.mutL h7
          refine s_asg (v := nV (i + 1)) (ev_var rfl) fun H8 e8 => ⟨some (nV (i + 1)), ys ++ [v], ?_, ?_, e8 l _ upd_same, ?_⟩
          · rw [runsUp_succ]
            unfold runStep
            rw [Nat.add_sub_cancel, if_pos hb]
            rfl
          · refine (e.trans (off_mono (e5.trans (e6.trans e7)))).trans ?_
            rw [← off_upd (H := H7) (l := l) (o := .lst (ys ++ [v]))]
            exact off_mono e8
          · rw [runsUp_succ]
            unfold runStep
            rw [Nat.add_sub_cancel, if_pos hb, if_pos hc]
            exact all2_x prV_st.x e8 (All2.snoc (all2_st prV_st ((Fix.of (e5.trans (e6.trans e7))).trans fx) h4) (prV_st _ _ _ _ _ fx p7))
      · have hc := of_decide_eq_false hc
        refine s_asg (v := nV (i + 1)) (ev_var rfl) fun H8 e8 => ⟨some (nV (i + 1)), ys, ?_, e.trans (off_mono (e5.trans (e6.trans e8))), (e5.trans (e6.trans e8)) l _ h3, ?_⟩
        · rw [runsUp_succ]
          unfold runStep
          rw [Nat.add_sub_cancel, if_pos hb]
          rfl
        · rw [runsUp_succ]
          unfold runStep
          rw [Nat.add_sub_cancel, if_pos hb, if_neg hc]
          exact all2_x prV_st.x (e5.trans (e6.trans e8)) h4
    · have hb := of_decide_eq_false hb
      refine ⟨some (nV (i + 1)), ys, ?_, e.trans (off_mono e5), e5 l _ h3, ?_⟩
      · rw [runsUp_succ]
        unfold runStep
        rw [Nat.add_sub_cancel, if_neg hb]
        rfl
      · rw [runsUp_succ]
        unfold runStep
        rw [Nat.add_sub_cancel, if_neg hb]
        exact all2_x prV_st.x e5 h4
  · rintro σ' H' ⟨o3, ys, rfl, e, h3, h4⟩
    refine s_ret (ev_var rfl) fun H3 e3 => k _ H3 ((e.trans off_in).trans e3) ⟨l, ys, rfl, e3 l _ h3, ?_⟩
    rw [show (((ds.length : Nat) : Int) - 1).toNat = ds.length - 1 by omega] at h4
    exact all2_x prV_st.x e3 h4
theorem ok_runs_in {P : Program} {w : World} {K : PySem.W.Frag} {mg : Str → Option Value} {base : Heap} (T : Tx K mg) : DefE P w K mg base CX0 1 "runs_in" ["directions"] (sp_runs_in K) := by
  obtain ⟨fd, F⟩ := T.d_runs_in
  have bd : Binds K fd ["directions"] [] := F.bindsN fun _ _ _ _ _ _ us hl => match us, hl with | [_], _ => rfl
  have G : FnOk P w K mg base CX0 1 (He.ga K "runs_in") fd ["directions"] (sp_runs_in K) := by
    refine F.ok sc_runs_in (fun vs H Q E h => sl_runs_in h) (fun cdv A outer s H vs Q E hr h => ⟨t_runs_in K, PSs.nox ?_, pure_runs_in T vs H Q E h⟩)
    exact (pss_cons (ps_set (i := 1) sc_runs_in.nd rfl (by first | exact Or.inl rfl | exact Or.inr rfl) (pe_lst pa_nil))
  (pss_cons (ps_set (i := 2) sc_runs_in.nd rfl (by first | exact Or.inl rfl | exact Or.inr rfl) pe_int)
  (pss_cons (ps_for PassesOwn.never rfl (pi_range2 rfl T.f_range (pa_cons pe_int (pa_cons (pe_callB cLen rfl T.f_len bLen (pa_cons (pv 0) pa_nil)) pa_nil))) (pg_name (i := 3) sc_runs_in.nd rfl (by first | exact Or.inl rfl | exact Or.inr rfl)) (pss_one (ps_if (pt_cmpR oNe (pe_ix ix_list (pv 0) (pv 3) (fun _ _ => rfl)) (pe_ix ix_list (pv 0) (pe_op oSub (pv 3) pe_int) (fun _ _ => rfl)) (nomark _)) (pss_cons (ps_if (pt_cmpR oNe (pe_ix ix_list (pv 0) (pe_op oSub (pv 3) pe_int) (fun _ _ => rfl)) pe_int (nomark _)) (pss_one (ps_expr (pe_bm PySem.F.plainAttrs_list PySem.F.slot_list_append PySem.F.type_list_append mt_append (pv 1) (pa_cons (pe_tup (pa_cons (pv 2) (pa_cons (pv 3) pa_nil))) pa_nil)))) pss_nil)
  (pss_one (ps_set (i := 2) sc_runs_in.nd rfl (by first | exact Or.inl rfl | exact Or.inr rfl) (pv 3)))) pss_nil)))
  (pss_one (ps_ret (pv 1))))))
  exact DefE.mk ⟨fd, G, bd⟩ T.g_runs_in T.p_runs_in
theorem spd_runs_in {K : PySem.W.Frag} {H : Hp} {a : Addr} {ds : List Int} (h : SqL K H a (ds.map V.int)) (hn : 1 ≤ ds.length) (hz : ds.length ≤ 40000) : SpD (sp_runs_in K) [.ref a] H fun v H2 => LlV PrV K H2 v (runsP ds) := fun Q q E => ⟨a, ds, rfl, h, hn, hz, q⟩

/-! ### movements_in -/
def sp_movements_in (K : PySem.W.Frag) : Sp := fun vs H Q _ => ∃ (v : V) (fl : List Fr) (nb : Nat), vs = [v] ∧ LsV FrV K H v fl ∧ 1 ≤ fl.length ∧ fl.length ≤ 10000 ∧ nb ≤ 4 ∧ (∀ f ∈ fl, f.1.length = nb ∧ f.2.length = nb) ∧ RetD (fun v H2 => LlV TrV K H2 v (movesF nb fl)) H Q
theorem sl_movements_in {K : PySem.W.Frag} {vs : List V} {H : Hp} {Q : VK} {E : XK} (h : sp_movements_in K vs H Q E) : vs.length = 1 := by
  obtain ⟨_, _, _, rfl, _⟩ := h
  rfl
def t_movements_in (K : PySem.W.Frag) : TS :=
  (tSeq (tAsg (tLst tNil) (gName 1))
  (tSeq (tFor (iRng1 (tCons (tCB (rLenS K) (tCons (tOp (rIxT K) (tOp (rIxL K) (tVar 0) (tC (.int 0))) (tC (.int 0))) tNil)) tNil)) (gName 2) (tDrop (tBM K "list" rExtend (tVar 1) (tCons (tLc (iList K (tCall (sp_runs_in K) [] E0 (tCons (tCall (sp_directions_of K) [] E0 (tCons (tVar 0) (tCons (tVar 2) tNil))) tNil))) (gTup K 2 (gCons (gName 3) (gCons (gName 4) gNil))) tYes (tTup (tCons (tVar 2) (tCons (tVar 3) (tCons (tVar 4) tNil)))) [3, 4]) tNil))))
  (tRet (tVar 1))))
def movesUp (fl : List Fr) (n : Nat) : List (Nat × Nat × Nat) := (List.range n).flatMap fun b => (runsP (fl.map fun f => dirF f b)).map fun x => (b, x.1, x.2)
theorem movesUp_succ (fl : List Fr) (n : Nat) : movesUp fl (n + 1) = movesUp fl n ++ (runsP (fl.map fun f => dirF f n)).map fun x => (n, x.1, x.2) := by
  unfold movesUp
  rw [List.range_succ, List.flatMap_append]
  congr 1
  rw [List.flatMap_cons, List.flatMap_nil, List.append_nil]
theorem runsP_len (ds : List Int) : (runsP ds).length ≤ ds.length := Nat.le_trans (runsUp_len ds (ds.length - 1)) (Nat.sub_le _ _)
theorem movesUp_len (fl : List Fr) : ∀ n, (movesUp fl n).length ≤ fl.length * n
  | 0 => Nat.zero_le _
  | n + 1 => by
    have ih := movesUp_len fl n
    rw [movesUp_succ, List.length_append, List.length_map, Nat.mul_succ]
    have := runsP_len (fl.map fun f => dirF f n)
    rw [List.length_map] at this
    omega
def PrS (u w : V) (x : Nat × Nat) : Prop := u = nV x.1 ∧ w = nV x.2
theorem pure_movements_in {K : PySem.W.Frag} {mg : Str → Option Value} (T : Tx K mg) (vs : List V) (H : Hp) (Q : VK) (E : XK) (h : sp_movements_in K vs H Q E) : t_movements_in K { nx := fun _ H' => Q .non H', rt := Q } (start N_movements_in vs) H := by
  obtain ⟨v, fl, nb, rfl, h0, hn, hz, h4b, hb, k⟩ := h
  have h0' := h0
  obtain ⟨a, xs, rfl, h1, h2⟩ := h0
  obtain ⟨x0, hx0, T0, p0, t0, rfl, hT0, hp0, ht0⟩ := All2.get2 h2 (List.getElem?_eq_getElem (show 0 < fl.length by omega))
  have hat0 : atI xs ((0 : Nat) : Int) = some (.ref T0) := atI_nat hx0
  have hnb := (hb _ (List.getElem_mem (show 0 < fl.length by omega))).1
  refine q_asgL (el_lst ea_nil (by decide)) fun l H1 hl e1 h1l => ?_
  refine q_forR1 (n := ((nb : Nat) : Int)) (ea_cons (ev_is (ev_cb (ea_cons (ev_op (ev_op (y := nV 0) (ev_var rfl) ev_c (rv_ixL (ex_l e1 h1) hat0)) ev_c (rv_ixT (v := .ref p0) (i := 0) (ex_t e1 hT0) rfl)) ea_nil) (rc_len (Or.inr (ex_t e1 hp0)))) (congrArg (fun n : Nat => nV n) (by rw [List.length_map]; exact hnb))) ea_nil) (by omega)
    (fun i σ' H' => ∃ o2 ys, σ' = [some (.ref a), some (.ref l), o2, none, none] ∧ Ex H (off H' l) ∧ H' l = some (.lst ys) ∧ All2 (TrV K H') ys (movesUp fl i))
    (fun H3 e3 => ⟨none, [], rfl, off_ex (e1.trans e3) hl, e3 l _ h1l, .nil⟩) ?_ ?_
  · rintro i σ' H' hi ⟨o2, ys, rfl, e, h3, h4⟩
    have hi1 : i < nb := by omega
    have eI := e.trans off_in
    have hyl : ys.length ≤ fl.length * i := by
      rw [All2.len h4]
      exact movesUp_len fl i
    have hyb : fl.length * i ≤ 10000 * 4 := Nat.mul_le_mul hz (by omega)
    have hrl := runsP_len (fl.map fun f => dirF f i)
    rw [List.length_map] at hrl
    refine s_extD (P := fun v H5 => ∃ p, v = .ref p ∧ H' p = none ∧ LsAt TrV K H5 p ((runsP (fl.map fun f => dirF f i)).map fun x => (i, x.1, x.2)) ∧ Ex H' H5) h3 (ev_var rfl) (EvD.imp (evd_lcDP (K := K) (R := TrV) (ds := runsP (fl.map fun f => dirF f i)) (fun _ => PrS) (fun _ _ _ _ _ _ h => h) trV_st (fun _ => true) (fun j => (i, ((runsP (fl.map fun f => dirF f i)).getD j (0, 0)).1, ((runsP (fl.map fun f => dirF f i)).getD j (0, 0)).2)) ?_ (by omega) (fun _ _ => rfl) (fun _ _ _ _ _ _ _ _ => et_yes) ?_) fun v H5 e5 p5 => ?_) ?_
    · refine evd_call (evad_one (EvD.imp (evd_L (el_call (ea_cons (ev_var rfl) (ea_cons (ev_var rfl) ea_nil)) (spl_directions_of (lsV_x frV_st.x _ _ _ _ _ eI h0') (by omega) fun f hf => ⟨by rw [(hb f hf).1]; exact hi1, by rw [(hb f hf).2]; exact hi1⟩))) fun v H5 e5 p5 => ?_))
      obtain ⟨p, rfl, _, hp⟩ := p5
      refine fun Q2 q2 E2 => spd_runs_in (sq_of hp) (by rw [List.length_map]; exact hn) (by rw [List.length_map]; omega) Q2 (fun v H6 e6 p6 => q2 v H6 e6 ?_) E2
      obtain ⟨b, zs, rfl, hz1, hz2⟩ := p6
      refine ⟨b, zs, rfl, sq_of hz1, all2_mono (fun x y h => ?_) hz2⟩
      obtain ⟨T, rfl, hT⟩ := h
      exact ⟨T, _, _, rfl, hT, rfl, rfl⟩
    · rintro j u w y H5 e5 hy ⟨rfl, rfl⟩ _
      rw [getD_at hy]
      refine EvD.imp (evd_tup (vs := [nV i, nV y.1, nV y.2]) (ea_cons (ev_var rfl) (ea_cons (ev_var rfl) (ea_cons (ev_var rfl) ea_nil))) (Nat.le_of_lt (show 3 < 100000 by decide))) fun v H6 e6 p6 => ?_
      obtain ⟨t, rfl, ht⟩ := p6
      exact ⟨t, rfl, st_of ht⟩
    · obtain ⟨p, rfl, hp, zs, hz1, hz2⟩ := p5
      rw [givenD_all, map_getD (runsP (fl.map fun f => dirF f i)) (0, 0) fun x => (i, x.1, x.2)] at hz2
      refine ⟨p, zs, rfl, hz1, ?_, p, rfl, hp, ⟨zs, hz1, hz2⟩, e5⟩
      rw [All2.len hz2, List.length_map]
      omega
    · rintro b zs H5 e5 hb5 ⟨p, hp1, hp, ⟨zs2, hz1, hz2⟩, e5'⟩
      cases hp1
      rw [hz1] at hb5
      cases hb5
      have h5 := e5 l _ h3
      have fx : Fix H5 (upd H5 l (.lst (ys ++ zs))) := Fix.mutL h5
      refine ⟨_, ys ++ zs, rfl, ?_, upd_same, ?_⟩
      · rw [off_upd]
        exact e.trans (off_mono e5)
      · rw [movesUp_succ]
        exact All2.append (all2_st trV_st ((Fix.of e5).trans fx) h4) (all2_st trV_st fx hz2)
  · rintro σ' H' ⟨o2, ys, rfl, e, h3, h4⟩
    rw [Int.toNat_natCast] at h4
    exact s_ret (ev_var rfl) fun H3 e3 => k _ H3 ((e.trans off_in).trans e3) ⟨l, ys, rfl, e3 l _ h3, all2_x trV_st.x e3 h4⟩
theorem ok_movements_in {P : Program} {w : World} {K : PySem.W.Frag} {mg : Str → Option Value} {base : Heap} (T : Tx K mg) (D_directions_of : DefE P w K mg base (CX0) 2 "directions_of" ["film", "bar"] (sp_directions_of K)) (D_runs_in : DefE P w K mg base (CX0) 1 "runs_in" ["directions"] (sp_runs_in K)) : DefE P w K mg base CX0 3 "movements_in" ["film"] (sp_movements_in K) := by
  obtain ⟨fd, F⟩ := T.d_movements_in
  have bd : Binds K fd ["film"] [] := F.bindsN fun _ _ _ _ _ _ us hl => match us, hl with | [_], _ => rfl
  have G : FnOk P w K mg base CX0 3 (He.ga K "movements_in") fd ["film"] (sp_movements_in K) := by
    refine F.ok sc_movements_in (fun vs H Q E h => sl_movements_in h) (fun cdv A outer s H vs Q E hr h => ⟨t_movements_in K, PSs.nox ?_, pure_movements_in T vs H Q E h⟩)
    exact (pss_cons (ps_set (i := 1) sc_movements_in.nd rfl (by first | exact Or.inl rfl | exact Or.inr rfl) (pe_lst pa_nil))
  (pss_cons (ps_for PassesOwn.never rfl (pi_range1 rfl T.f_range (pa_cons (pe_callB cLen rfl T.f_len bLen (pa_cons (pe_ix ix_tup (pe_ix ix_list (pv 0) pe_int (fun _ _ => rfl)) pe_int (fun _ _ => rfl)) pa_nil)) pa_nil)) (pg_name (i := 2) sc_movements_in.nd rfl (by first | exact Or.inl rfl | exact Or.inr rfl)) (pss_one (ps_expr (pe_bm PySem.F.plainAttrs_list PySem.F.slot_list_extend PySem.F.type_list_extend mt_extend (pv 1) (pa_cons (pe_lc (own := [("begin", 3), ("end", 4)]) (g := (gTup K 2 (gCons (gName 3) (gCons (gName 4) gNil)))) (tt := tYes) (te := (tTup (tCons (tVar 2) (tCons (tVar 3) (tCons (tVar 4) tNil))))) rfl sc_movements_in.nd (pi_list (pe_callE D_runs_in (hr.mono (by decide)) rfl pass0 (by exact (pa_cons (pe_callE D_directions_of (hr.mono (by decide)) rfl pass0 (by exact (pa_cons (pv 0) (pa_cons (pv 2) pa_nil)))) pa_nil)))) (blkOk_by (N := N_movements_in) (sc := defScope s_movements_in) (by decide +kernel)) (fun _ _ _ _ _ => (pg_tup rfl (pgs_cons (pg_name (i := 3) sc_movements_in.nd rfl (by first | exact Or.inl rfl | exact Or.inr rfl)) (pgs_cons (pg_name (i := 4) sc_movements_in.nd rfl (by first | exact Or.inl rfl | exact Or.inr rfl)) pgs_nil)))) (fun _ _ _ _ _ => pts_nil) (fun _ _ _ _ _ => (pe_tup (pa_cons (pv 2) (pa_cons (pv 3) (pa_cons (pv 4) pa_nil)))))) pa_nil)))))
  (pss_one (ps_ret (pv 1)))))
  exact DefE.mk ⟨fd, G, bd⟩ T.g_movements_in T.p_movements_in
theorem spd_movements_in {K : PySem.W.Frag} {H : Hp} {v : V} {fl : List Fr} {nb : Nat} (h : LsV FrV K H v fl) (hn : 1 ≤ fl.length) (hz : fl.length ≤ 10000) (h4 : nb ≤ 4) (hb : ∀ f ∈ fl, f.1.length = nb ∧ f.2.length = nb) :
    SpD (sp_movements_in K) [v] H fun v H2 => LlV TrV K H2 v (movesF nb fl) := fun Q q E => ⟨v, fl, nb, rfl, h, hn, hz, h4, hb, q⟩
end Sk
namespace Sk
open PySem L2 Evl Sc
open Sy90 (tick called after ENOUGH startOf fouled foul)
/-! ### courses -/
def crsF (f a : Addr) : List (Str × V) := [("frames", .ref f), ("stage", .ref a)]
def CrsV (K : PySem.W.Frag) (H : Hp) (v : V) (fs : List Sy90.St) (u : Sy90.St) (r : List (Nat × Nat)) : Prop := ∃ a dx f A, v = .ref a ∧ H a = some (.ins (He.ga K "Course") dx (crsF f A.a)) ∧ LsAt FrV K H f (fs.map frameOf) ∧ StgAt K H A u r
theorem CrsV.ext {K : PySem.W.Frag} {H H' : Hp} {v : V} {fs : List Sy90.St} {u : Sy90.St} {r : List (Nat × Nat)} (h : CrsV K H v fs u r) (e : Ex H H') : CrsV K H' v fs u r := by
  obtain ⟨a, dx, f, A, h1, h2, h3, h4⟩ := h
  exact ⟨a, dx, f, A, h1, e a _ h2, lsAt_x frV_st.x e h3, h4.x e⟩
/-- a course that doesn't hold the object Z -/
def CrsZ (K : PySem.W.Frag) (Z : Addr) (H : Hp) (v : V) (fs : List Sy90.St) (u : Sy90.St) (r : List (Nat × Nat)) : Prop := ∃ a dx f A, v = .ref a ∧ H a = some (.ins (He.ga K "Course") dx (crsF f A.a)) ∧ LsAt FrV K H f (fs.map frameOf) ∧ StgAt K H A u r ∧ a ≠ Z ∧ f ≠ Z ∧ Z ∉ A.all
section
variable {K : PySem.W.Frag} {Z : Addr} {H H' : Hp} {v : V} {fs : List Sy90.St} {u : Sy90.St} {r : List (Nat × Nat)}
theorem CrsZ.ext (h : CrsZ K Z H v fs u r) (e : Ex H H') : CrsZ K Z H' v fs u r := by
  obtain ⟨a, dx, f, A, h1, h2, h3, h4, h5⟩ := h
  exact ⟨a, dx, f, A, h1, e a _ h2, lsAt_x frV_st.x e h3, h4.x e, h5⟩
theorem CrsZ.crs (h : CrsZ K Z H v fs u r) : CrsV K H v fs u r := by
  obtain ⟨a, dx, f, A, h1, h2, h3, h4, _⟩ := h
  exact ⟨a, dx, f, A, h1, h2, h3, h4⟩
theorem CrsV.z (h : CrsV K H v fs u r) (hz : H Z = none) : CrsZ K Z H v fs u r := by
  obtain ⟨a, dx, f, A, h1, h2, h3, h4⟩ := h
  exact ⟨a, dx, f, A, h1, h2, h3, h4, ne_of_none h2 hz, ne_of_none h3.choose_spec.1 hz, h4.notin hz⟩
theorem CrsZ.mut {ys : List V} {o : HO} (h : CrsZ K Z H v fs u r) (hz : H Z = some (.lst ys)) : CrsZ K Z (upd H Z o) v fs u r := by
  obtain ⟨a, dx, f, A, h1, h2, h3, h4, h5, h6, h7⟩ := h
  have fx : Fix H (upd H Z o) := Fix.mutL hz
  refine ⟨a, dx, f, A, h1, by rw [upd_ne h5]; exact h2, lsAt_keep frV_st fx (fun o h => by rw [upd_ne h6]; exact h) h3, h4.mutL h7 hz, h5, h6, h7⟩
end
def sp_Course___init__ (K : PySem.W.Frag) : Sp := fun vs H Q _ => ∃ (x dx f a : Addr), vs = [.ref x, .ref f, .ref a] ∧ H x = some (.ins (He.ga K "Course") dx []) ∧
  ∀ H2, H2 x = some (.ins (He.ga K "Course") dx (crsF f a)) → Frm [x] H H2 → Q .non H2
theorem sl_Course___init__ {K : PySem.W.Frag} {vs : List V} {H : Hp} {Q : VK} {E : XK} (h : sp_Course___init__ K vs H Q E) : vs.length = 3 := by
  obtain ⟨_, _, _, _, rfl, _⟩ := h
  rfl
def t_Course___init__ (K : PySem.W.Frag) : TS :=
  (tSeq (sFld K (tVar 0) (tVar 1) "frames")
  (sFld K (tVar 0) (tVar 2) "stage"))
theorem pure_Course___init__ {K : PySem.W.Frag} {mg : Str → Option Value} (T : Tx K mg) (vs : List V) (H : Hp) (Q : VK) (E : XK) (h : sp_Course___init__ K vs H Q E) : t_Course___init__ K { nx := fun _ H' => Q .non H', rt := Q } (start N_Course___init__ vs) H := by
  obtain ⟨x, dx, f, a, rfl, h0, k⟩ := h
  have fu : ∀ {H : Hp} {o : HO}, Frm [x] H (upd H x o) := fun {H o} => Frm.upd List.mem_cons_self
  refine q_fld (ev_var rfl) h0 T.c_Course T.n_Course_frames (by show 0 < 1000; decide) (ev_var rfl) fun H1 e1 => ?_
  refine s_fld (ev_var rfl) upd_same T.c_Course T.n_Course_stage (by show 1 < 1000; decide) (ev_var rfl) fun H2 e2 => ?_
  exact k _ upd_same ((((Frm.of e1).trans fu).trans (Frm.of e2)).trans fu)
theorem ok_Course___init__ {P : Program} {w : World} {K : PySem.W.Frag} {mg : Str → Option Value} {base : Heap} (T : Tx K mg) : MakeE P w K mg base CX0 1 "Course" ["self", "frames", "stage"] (sp_Course___init__ K) := by
  obtain ⟨fd, F⟩ := T.d_Course___init__
  have bd : Binds K fd ["self", "frames", "stage"] [] := F.bindsN fun _ _ _ _ _ _ us hl => match us, hl with | [_, _, _], _ => rfl
  have G : FnOk P w K mg base CX0 1 (He.ma K (He.ga K "Course") "__init__") fd ["self", "frames", "stage"] (sp_Course___init__ K) := by
    refine F.ok sc_Course___init__ (fun vs H Q E h => sl_Course___init__ h) (fun cdv A outer s H vs Q E hr h => ⟨t_Course___init__ K, PSs.nox ?_, pure_Course___init__ T vs H Q E h⟩)
    exact (pss_cons (ps_fld (pv 0) (pv 1) rfl)
  (pss_one (ps_fld (pv 0) (pv 2) rfl)))
  exact MakeE.mk ⟨fd, G, bd⟩ T.k_Course T.g_Course
/-- a new course -/
theorem evd_course {K : PySem.W.Frag} {σ : L2.St} {H : Hp} {E : XK} {ta : TA} {fs : List Sy90.St} {u : Sy90.St} {r : List (Nat × Nat)} (h : EvAD ta σ H fun vs H1 => ∃ (f : Addr) (A : Adr), vs = [.ref f, .ref A.a] ∧ LsAt FrV K H1 f (fs.map frameOf) ∧ StgAt K H1 A u r) :
    EvD (tMake (He.ga K "Course") (sp_Course___init__ K) [] E ta) σ H fun v H1 => CrsV K H1 v fs u r := fun H1 e Q q => h H1 e _ fun vs H2 e2 p2 => by
  obtain ⟨f, A, rfl, hf, hA⟩ := p2
  intro x dx hx hdx hne
  refine ⟨x, dx, f, A.a, rfl, upd_same, fun H3 h3 f3 => ⟨rfl, ?_⟩⟩
  have e3 : Ex H2 H3 := f3.ex (H1 := upd (upd H2 dx (.own x)) x (.ins (He.ga K "Course") dx [])) ((Ex.new hdx).mut hx) fun b hb => by rw [List.mem_singleton.mp hb]; exact hx
  exact q (.ref x) H3 (e2.trans e3) ⟨x, dx, f, A, rfl, h3, lsAt_x frV_st.x e3 hf, hA.x e3⟩
theorem evd_courseZ {K : PySem.W.Frag} {Z : Addr} {σ : L2.St} {H : Hp} {E : XK} {ta : TA} {fs : List Sy90.St} {u : Sy90.St} {r : List (Nat × Nat)} (hz : H Z ≠ none) (h : EvAD ta σ H fun vs H1 => ∃ (f : Addr) (A : Adr), vs = [.ref f, .ref A.a] ∧ LsAt FrV K H1 f (fs.map frameOf) ∧ StgAt K H1 A u r ∧ f ≠ Z ∧ Z ∉ A.all) :
    EvD (tMake (He.ga K "Course") (sp_Course___init__ K) [] E ta) σ H fun v H1 => CrsZ K Z H1 v fs u r := fun H1 e Q q => h H1 e _ fun vs H2 e2 p2 => by
  obtain ⟨f, A, rfl, hf, hA, n1, n2⟩ := p2
  intro x dx hx hdx hne
  refine ⟨x, dx, f, A.a, rfl, upd_same, fun H3 h3 f3 => ⟨rfl, ?_⟩⟩
  have e3 : Ex H2 H3 := f3.ex (H1 := upd (upd H2 dx (.own x)) x (.ins (He.ga K "Course") dx [])) ((Ex.new hdx).mut hx) fun b hb => by rw [List.mem_singleton.mp hb]; exact hx
  exact q (.ref x) H3 (e2.trans e3) ⟨x, dx, f, A, rfl, h3, lsAt_x frV_st.x e3 hf, hA.x e3, fun z => hz (by rw [← z]; exact fresh_back (e.trans e2) hx), n1, n2⟩
section
variable {K : PySem.W.Frag} {mg : Str → Option Value} {H : Hp} {σ : L2.St} {ta : TE} {a dx f s : Addr}
theorem ev_frames (T : Tx K mg) (ho : H a = some (.ins (He.ga K "Course") dx (crsF f s))) (h : Ev ta σ H (.ref a)) : Ev (tFld K ta "frames") σ H (.ref f) := ev_fld h ho T.c_Course T.n_Course_frames rfl
theorem ev_stage (T : Tx K mg) (ho : H a = some (.ins (He.ga K "Course") dx (crsF f s))) (h : Ev ta σ H (.ref a)) : Ev (tFld K ta "stage") σ H (.ref s) := ev_fld h ho T.c_Course T.n_Course_stage rfl
end

/-! ### Course.time, Course.whole_film -/
def sp_Course_time (K : PySem.W.Frag) : Sp := fun vs H Q _ => ∃ (v : V) (fs : List Sy90.St) (u : Sy90.St) (r : List (Nat × Nat)), vs = [v] ∧ CrsV K H v fs u r ∧ RetV (nV fs.length) H Q
theorem sl_Course_time {K : PySem.W.Frag} {vs : List V} {H : Hp} {Q : VK} {E : XK} (h : sp_Course_time K vs H Q E) : vs.length = 1 := by
  obtain ⟨_, _, _, _, rfl, _⟩ := h
  rfl
def t_Course_time (K : PySem.W.Frag) : TS :=
  (tRet (tCB (rLenS K) (tCons (tFld K (tVar 0) "frames") tNil)))
theorem pure_Course_time {K : PySem.W.Frag} {mg : Str → Option Value} (T : Tx K mg) (vs : List V) (H : Hp) (Q : VK) (E : XK) (h : sp_Course_time K vs H Q E) : t_Course_time K { nx := fun _ H' => Q .non H', rt := Q } (start N_Course_time vs) H := by
  obtain ⟨v, fs, u, r, rfl, ⟨a, dx, f, A, rfl, ho, hf, S⟩, k⟩ := h
  obtain ⟨xs, h1, h2⟩ := hf
  refine s_ret (ev_is (ev_cb (ea_cons (ev_frames T ho (ev_var rfl)) ea_nil) (rc_len (Or.inl (sq_of h1)))) (congrArg (fun n : Nat => nV n) ?_)) fun H1 e1 => k H1 e1
  rw [All2.len h2, List.length_map]
theorem ok_Course_time {P : Program} {w : World} {K : PySem.W.Frag} {mg : Str → Option Value} {base : Heap} (T : Tx K mg) : MethE P w K mg base CX0 1 "Course" "time" ["self"] (sp_Course_time K) := by
  obtain ⟨fd, F⟩ := T.d_Course_time
  have bd : Binds K fd ["self"] [] := F.bindsN fun _ _ _ _ _ _ us hl => match us, hl with | [_], _ => rfl
  have G : FnOk P w K mg base CX0 1 (He.ma K (He.ga K "Course") "time") fd ["self"] (sp_Course_time K) := by
    refine F.ok sc_Course_time (fun vs H Q E h => sl_Course_time h) (fun cdv A outer s H vs Q E hr h => ⟨t_Course_time K, PSs.nox ?_, pure_Course_time T vs H Q E h⟩)
    exact (pss_one (ps_ret (pe_callB cLen rfl T.f_len bLen (pa_cons (pe_fld (pv 0) rfl) pa_nil))))
  exact MethE.mk ⟨fd, G, bd⟩ T.c_Course T.e_Course_time
theorem ev_time {K : PySem.W.Frag} {H : Hp} {fs : List Sy90.St} {u : Sy90.St} {r : List (Nat × Nat)} {σ : L2.St} {ta : TE} {E : XK} {v : V} (C : CrsV K H v fs u r) (h : Ev ta σ H v) :
    Ev (tMeth (He.ga K "Course") "time" (sp_Course_time K) [] E ta tNil) σ H (nV fs.length) := by
  have C' := C
  obtain ⟨a, dx, f, A, rfl, ho, hf, S⟩ := C
  exact ev_meth h ho rfl ea_nil fun H1 e Q q E => ⟨_, fs, u, r, rfl, C'.ext e, q⟩

def sp_Course_whole_film (K : PySem.W.Frag) : Sp := fun vs H Q _ => ∃ (v : V) (fs : List Sy90.St) (u : Sy90.St) (r : List (Nat × Nat)), vs = [v] ∧ CrsV K H v fs u r ∧ Ok u ∧ fs.length ≤ 40000 ∧ RetD (fun v H2 => LlV FrV K H2 v ((fs ++ filmP u).map frameOf)) H Q
theorem sl_Course_whole_film {K : PySem.W.Frag} {vs : List V} {H : Hp} {Q : VK} {E : XK} (h : sp_Course_whole_film K vs H Q E) : vs.length = 1 := by
  obtain ⟨_, _, _, _, rfl, _⟩ := h
  rfl
def t_Course_whole_film (K : PySem.W.Frag) : TS :=
  (tRet (tOp rCat (tFld K (tVar 0) "frames") (tCall (sp_film_from K) [] E0 (tCons (tFld K (tVar 0) "stage") tNil))))
/-- lists joined, as data -/
theorem rvd_cat {K : PySem.W.Frag} {H : Hp} {α : Type} {R : PR α} {x y : V} {ds es : List α} (hR : StabX R) (h1 : LlV R K H x ds) (h2 : LlV R K H y es) (hz : ds.length + es.length ≤ 16000000) : RVD rCat x y H fun v H2 => LlV R K H2 v (ds ++ es) := by
  obtain ⟨a, xs, rfl, a1, a2⟩ := h1
  obtain ⟨b, ys, rfl, b1, b2⟩ := h2
  refine fun Q q => rv_cat a1 b1 (by rw [All2.len a2, All2.len b2]; exact hz) Q fun v H2 e2 p2 => q v H2 e2 ?_
  obtain ⟨c, rfl, _, hc⟩ := p2
  exact ⟨c, _, rfl, hc, All2.append (all2_x hR e2 a2) (all2_x hR e2 b2)⟩
theorem LsAt.ll {K : PySem.W.Frag} {H : Hp} {α : Type} {R : PR α} {a : Addr} {ds : List α} (h : LsAt R K H a ds) : LlV R K H (.ref a) ds := by
  obtain ⟨xs, h1, h2⟩ := h
  exact ⟨a, xs, rfl, h1, h2⟩
theorem pure_Course_whole_film {K : PySem.W.Frag} {mg : Str → Option Value} (T : Tx K mg) (vs : List V) (H : Hp) (Q : VK) (E : XK) (h : sp_Course_whole_film K vs H Q E) : t_Course_whole_film K { nx := fun _ H' => Q .non H', rt := Q } (start N_Course_whole_film vs) H := by
  obtain ⟨v, fs, u, r, rfl, ⟨a, dx, f, A, rfl, ho, hf, S⟩, W, hz, k⟩ := h
  refine s_retD (P := fun v H2 => LlV FrV K H2 v ((fs ++ filmP u).map frameOf)) (evd_op (P1 := fun x _ => x = .ref f) (evd_of (ev_frames T ho (ev_var rfl)) fun _ _ => rfl) fun x H1 e1 p1 => ?_) k
  subst p1
  refine EvD.imp (evd_film (S.x e1) W (ev_stage T (e1 a _ ho) (ev_var rfl))) fun y H2 e2 p2 => ?_
  rw [List.map_append]
  have := (filmP_len W).2
  exact rvd_cat frV_st.x (LsAt.ll (lsAt_x frV_st.x (e1.trans e2) hf)) p2 (by rw [List.length_map, List.length_map]; omega)
theorem ok_Course_whole_film {P : Program} {w : World} {K : PySem.W.Frag} {mg : Str → Option Value} {base : Heap} (T : Tx K mg) (D_film_from : DefE P w K mg base (CX0) 5 "film_from" ["stage"] (sp_film_from K)) : MethE P w K mg base CX0 6 "Course" "whole_film" ["self"] (sp_Course_whole_film K) := by
  obtain ⟨fd, F⟩ := T.d_Course_whole_film
  have bd : Binds K fd ["self"] [] := F.bindsN fun _ _ _ _ _ _ us hl => match us, hl with | [_], _ => rfl
  have G : FnOk P w K mg base CX0 6 (He.ma K (He.ga K "Course") "whole_film") fd ["self"] (sp_Course_whole_film K) := by
    refine F.ok sc_Course_whole_film (fun vs H Q E h => sl_Course_whole_film h) (fun cdv A outer s H vs Q E hr h => ⟨t_Course_whole_film K, PSs.nox ?_, pure_Course_whole_film T vs H Q E h⟩)
    exact (pss_one (ps_ret (pe_op oCat (pe_fld (pv 0) rfl) (pe_callE D_film_from (hr.mono (by decide)) rfl pass0 (by exact (pa_cons (pe_fld (pv 0) rfl) pa_nil))))))
  exact MethE.mk ⟨fd, G, bd⟩ T.c_Course T.e_Course_whole_film

theorem evad_v {σ : L2.St} {H : Hp} {ta : TA} {vs : List V} {PA : List V → Hp → Prop} (h : EvA ta σ H vs) (k : ∀ H1, Ex H H1 → PA vs H1) : EvAD ta σ H PA := fun H1 e _ q => h H1 e _ fun H2 e2 => q vs H2 e2 (k H2 (e.trans e2))
/-! ### called_in -/
def sp_called_in (K : PySem.W.Frag) : Sp := fun vs H Q _ => ∃ (Z : Addr) (v : V) (k : Nat) (fs : List Sy90.St) (u : Sy90.St) (r : List (Nat × Nat)), vs = [v, nV k] ∧ H Z ≠ none ∧ CrsZ K Z H v fs u r ∧ Wf u ∧ k < u.cues.length ∧ startOf u k = none ∧ RetD (fun v H2 => CrsZ K Z H2 v fs (called u k) r) H Q
theorem sl_called_in {K : PySem.W.Frag} {vs : List V} {H : Hp} {Q : VK} {E : XK} (h : sp_called_in K vs H Q E) : vs.length = 2 := by
  obtain ⟨_, _, _, _, _, _, rfl, _⟩ := h
  rfl
def t_called_in (K : PySem.W.Frag) : TS :=
  (tSeq (tAsg (tMeth (He.ga K "Stage") "copy" (sp_Stage_copy K) [] E0 (tFld K (tVar 0) "stage") tNil) (gName 2))
  (tSeq (tDrop (tMeth (He.ga K "Stage") "call" (sp_Stage_call K) [] E0 (tVar 2) (tCons (tVar 1) tNil)))
  (tRet (tMake (He.ga K "Course") (sp_Course___init__ K) [] E0 (tCons (tFld K (tVar 0) "frames") (tCons (tVar 2) tNil))))))
theorem pure_called_in {K : PySem.W.Frag} {mg : Str → Option Value} (T : Tx K mg) (vs : List V) (H : Hp) (Q : VK) (E : XK) (h : sp_called_in K vs H Q E) : t_called_in K { nx := fun _ H' => Q .non H', rt := Q } (start N_called_in vs) H := by
  obtain ⟨Z, v, i, fs, u, r, rfl, hZ, ⟨a, dx, f, A, rfl, ho, hf, S, n1, n2, n3⟩, W, hi, hu, k⟩ := h
  have hZx : ∀ {H2 : Hp}, Ex H H2 → H2 Z ≠ none := fun e z => hZ (fresh_back e z)
  have z := W.sz
  refine q_asgD (evd_copy S z (ev_stage T ho (ev_var rfl))) fun v H1 e1 p1 => ?_
  obtain ⟨A2, rfl, S2, hfr⟩ := p1
  refine q_mut (ev_var rfl) S2.o rfl (ea_cons (ev_var rfl) ea_nil) fun H2 e2 => ⟨A2, u, r, i, rfl, S2.x e2, z, hi, fun H3 S3 f3 => ?_⟩
  rw [← called_eq W hi hu] at S3
  have e3 : Ex H H3 := f3.ex (e1.trans e2) hfr
  exact s_retD (evd_courseZ (K := K) (Z := Z) (fs := fs) (u := called u i) (r := r) (hZx e3) (evad_v (ea_cons (ev_frames T (e3 a _ ho) (ev_var rfl)) (ea_cons (ev_var rfl) ea_nil)) fun H4 e4 => ⟨f, A2, rfl, lsAt_x frV_st.x (e3.trans e4) hf, S3.x e4, n2, fun z => hZ (hfr Z z)⟩)) fun v H4 e4 p4 => k v H4 (e3.trans e4) p4
theorem ok_called_in {P : Program} {w : World} {K : PySem.W.Frag} {mg : Str → Option Value} {base : Heap} (T : Tx K mg) (D_Course___init__ : MakeE P w K mg base CX0 1 "Course" ["self", "frames", "stage"] (sp_Course___init__ K)) (D_Stage_call : MethE P w K mg base (CX0) 3 "Stage" "call" ["self", "number"] (sp_Stage_call K)) (D_Stage_copy : MethE P w K mg base (CX0) 3 "Stage" "copy" ["self"] (sp_Stage_copy K)) : DefE P w K mg base CX0 4 "called_in" ["course", "cue"] (sp_called_in K) := by
  obtain ⟨fd, F⟩ := T.d_called_in
  have bd : Binds K fd ["course", "cue"] [] := F.bindsN fun _ _ _ _ _ _ us hl => match us, hl with | [_, _], _ => rfl
  have G : FnOk P w K mg base CX0 4 (He.ga K "called_in") fd ["course", "cue"] (sp_called_in K) := by
    refine F.ok sc_called_in (fun vs H Q E h => sl_called_in h) (fun cdv A outer s H vs Q E hr h => ⟨t_called_in K, PSs.nox ?_, pure_called_in T vs H Q E h⟩)
    exact (pss_cons (ps_set (i := 2) sc_called_in.nd rfl (by first | exact Or.inl rfl | exact Or.inr rfl) (pe_methE0 (pe_fld (pv 0) rfl) D_Stage_copy (hr.mono (by decide)) pass0))
  (pss_cons (ps_expr (pe_methE (pv 2) D_Stage_call (hr.mono (by decide)) pass0 (by exact (pa_cons (pv 1) pa_nil))))
  (pss_one (ps_ret (pe_makeE D_Course___init__ (hr.mono (by decide)) rfl pass0 (by exact (pa_cons (pe_fld (pv 0) rfl) (pa_cons (pv 2) pa_nil))))))))
  exact DefE.mk ⟨fd, G, bd⟩ T.g_called_in T.p_called_in
theorem spd_called_in {K : PySem.W.Frag} {Z : Addr} {H : Hp} {v : V} {k : Nat} {fs : List Sy90.St} {u : Sy90.St} {r : List (Nat × Nat)} (hZ : H Z ≠ none) (C : CrsZ K Z H v fs u r) (W : Wf u) (hk : k < u.cues.length) (hu : startOf u k = none) : SpD (sp_called_in K) [v, nV k] H fun v H2 => CrsZ K Z H2 v fs (called u k) r := fun Q q E =>
  ⟨Z, v, k, fs, u, r, rfl, hZ, C, W, hk, hu, q⟩

/-! ### second_later -/
def sp_second_later (K : PySem.W.Frag) : Sp := fun vs H Q _ => ∃ (Z : Addr) (v : V) (fs : List Sy90.St) (u : Sy90.St) (r : List (Nat × Nat)), vs = [v] ∧ H Z ≠ none ∧ CrsZ K Z H v fs u r ∧ Ok u ∧ fs.length ≤ 40000 ∧ RetD (fun v H2 => CrsZ K Z H2 v (fs ++ [u]) (tick u) r) H Q
theorem sl_second_later {K : PySem.W.Frag} {vs : List V} {H : Hp} {Q : VK} {E : XK} (h : sp_second_later K vs H Q E) : vs.length = 1 := by
  obtain ⟨_, _, _, _, _, rfl, _⟩ := h
  rfl
def t_second_later (K : PySem.W.Frag) : TS :=
  (tSeq (tAsg (tMeth (He.ga K "Stage") "copy" (sp_Stage_copy K) [] E0 (tFld K (tVar 0) "stage") tNil) (gName 1))
  (tSeq (tDrop (tMeth (He.ga K "Stage") "pass_second" (sp_Stage_pass_second K) [] E0 (tVar 1) tNil))
  (tRet (tMake (He.ga K "Course") (sp_Course___init__ K) [] E0 (tCons (tOp rCat (tFld K (tVar 0) "frames") (tLst (tCons (tCall (sp_frame_of K) [] E0 (tCons (tFld K (tVar 0) "stage") tNil)) tNil))) (tCons (tVar 1) tNil))))))
theorem pure_second_later {K : PySem.W.Frag} {mg : Str → Option Value} (T : Tx K mg) (vs : List V) (H : Hp) (Q : VK) (E : XK) (h : sp_second_later K vs H Q E) : t_second_later K { nx := fun _ H' => Q .non H', rt := Q } (start N_second_later vs) H := by
  obtain ⟨Z, v, fs, u, r, rfl, hZ, ⟨a, dx, f, A, rfl, ho, hf, S, n1, n2, n3⟩, W, hz, k⟩ := h
  have hZx : ∀ {H2 : Hp}, Ex H H2 → H2 Z ≠ none := fun e z => hZ (fresh_back e z)
  have z := W.toWf.sz
  refine q_asgD (evd_copy S z (ev_stage T ho (ev_var rfl))) fun v H1 e1 p1 => ?_
  obtain ⟨A2, rfl, S2, hfr⟩ := p1
  refine q_mut (ev_var rfl) S2.o rfl ea_nil fun H2 e2 => ⟨A2, u, r, rfl, S2.x e2, z, fun H3 S3 f3 => ?_⟩
  rw [← tick_eq W] at S3
  have e3 : Ex H H3 := f3.ex (e1.trans e2) hfr
  refine s_retD (evd_courseZ (K := K) (Z := Z) (fs := fs ++ [u]) (u := tick u) (r := r) (hZx e3) (evad_cons (P := fun v H4 => ∃ c, v = .ref c ∧ c ≠ Z ∧ LsAt FrV K H4 c ((fs ++ [u]).map frameOf)) (evd_op (P1 := fun x _ => x = .ref f) (evd_of (ev_frames T (e3 a _ ho) (ev_var rfl)) fun _ _ => rfl) fun x H4 e4 p4 => ?_) fun x H4 e4 p4 => evad_one (evd_of (ev_var rfl) fun H5 e5 => ?_))) fun v H4 e4 p4 => k v H4 (e3.trans e4) p4
  · subst p4
    refine EvD.imp (evd_lstD (P := fun v H5 => LlV FrV K H5 v [frameOf u]) (PA := fun vs H5 => ∃ w, vs = [w] ∧ FrV K H5 w (frameOf u)) (evad_one (EvD.imp (evd_frame (S.x (e3.trans e4)) (ev_stage T ((e3.trans e4) a _ ho) (ev_var rfl))) fun v H5 e5 p5 => ⟨v, rfl, p5⟩)) ?_ ?_) fun y H5 e5 p5 => ?_
    · rintro vs H5 ⟨w, rfl, _⟩
      exact Nat.le_of_lt (show 1 < 100000 by decide)
    · rintro vs H5 p hp ⟨w, rfl, hw⟩
      exact ⟨p, _, rfl, upd_same, .cons (frV_st.x _ _ _ _ _ (Ex.new hp) hw) .nil⟩
    · rw [List.map_append]
      obtain ⟨b, ys, rfl, b1, b2⟩ := p5
      have e35 := (e3.trans e4).trans e5
      obtain ⟨xs, a1, a2⟩ := lsAt_x frV_st.x e35 hf
      refine fun Q2 q2 => rv_cat a1 b1 (by rw [All2.len a2, All2.len b2, List.length_map]; simp; omega) Q2 fun v H6 e6 p6 => q2 v H6 e6 ?_
      obtain ⟨c, rfl, hcn, hc⟩ := p6
      exact ⟨c, rfl, fun z => hZx e35 (z ▸ hcn), _, hc, All2.append (all2_x frV_st.x e6 a2) (all2_x frV_st.x e6 b2)⟩
  · obtain ⟨c, rfl, hcZ, xs, hc1, hc2⟩ := p4
    exact ⟨c, A2, rfl, ⟨xs, e5 c _ hc1, all2_x frV_st.x e5 hc2⟩, S3.x (e4.trans e5), hcZ, fun z => hZ (hfr Z z)⟩
theorem ok_second_later {P : Program} {w : World} {K : PySem.W.Frag} {mg : Str → Option Value} {base : Heap} (T : Tx K mg) (D_Course___init__ : MakeE P w K mg base CX0 1 "Course" ["self", "frames", "stage"] (sp_Course___init__ K)) (D_Stage_copy : MethE P w K mg base (CX0) 3 "Stage" "copy" ["self"] (sp_Stage_copy K)) (D_Stage_pass_second : MethE P w K mg base (CX0) 4 "Stage" "pass_second" ["self"] (sp_Stage_pass_second K)) (D_frame_of : DefE P w K mg base (CX0) 1 "frame_of" ["stage"] (sp_frame_of K)) : DefE P w K mg base CX0 5 "second_later" ["course"] (sp_second_later K) := by
  obtain ⟨fd, F⟩ := T.d_second_later
  have bd : Binds K fd ["course"] [] := F.bindsN fun _ _ _ _ _ _ us hl => match us, hl with | [_], _ => rfl
  have G : FnOk P w K mg base CX0 5 (He.ga K "second_later") fd ["course"] (sp_second_later K) := by
    refine F.ok sc_second_later (fun vs H Q E h => sl_second_later h) (fun cdv A outer s H vs Q E hr h => ⟨t_second_later K, PSs.nox ?_, pure_second_later T vs H Q E h⟩)
    exact (pss_cons (ps_set (i := 1) sc_second_later.nd rfl (by first | exact Or.inl rfl | exact Or.inr rfl) (pe_methE0 (pe_fld (pv 0) rfl) D_Stage_copy (hr.mono (by decide)) pass0))
  (pss_cons (ps_expr (pe_methE0 (pv 1) D_Stage_pass_second (hr.mono (by decide)) pass0))
  (pss_one (ps_ret (pe_makeE D_Course___init__ (hr.mono (by decide)) rfl pass0 (by exact (pa_cons (pe_op oCat (pe_fld (pv 0) rfl) (pe_lst (pa_cons (pe_callE D_frame_of (hr.mono (by decide)) rfl pass0 (by exact (pa_cons (pe_fld (pv 0) rfl) pa_nil))) pa_nil))) (pa_cons (pv 1) pa_nil))))))))
  exact DefE.mk ⟨fd, G, bd⟩ T.g_second_later T.p_second_later
theorem spd_second_later {K : PySem.W.Frag} {Z : Addr} {H : Hp} {v : V} {fs : List Sy90.St} {u : Sy90.St} {r : List (Nat × Nat)} (hZ : H Z ≠ none) (C : CrsZ K Z H v fs u r) (W : Ok u) (hz : fs.length ≤ 40000) : SpD (sp_second_later K) [v] H fun v H2 => CrsZ K Z H2 v (fs ++ [u]) (tick u) r := fun Q q E => ⟨Z, v, fs, u, r, rfl, hZ, C, W, hz, q⟩

/-! ### is_safe_now -/
/-- a course of a stage with ropes, sized -/
structure Crs (S : Sy92.St) (calls : List (Nat × Nat)) (fs : List Sy90.St) (u : Sy90.St) : Prop extends Here S calls fs u where
  rl : S.ropes.length = S.stage.things.length
  pr : ∀ p ∈ u.pairs, p.1 < u.things.length ∧ p.2.1 < u.things.length
  fl : ∀ w ∈ fs, w.things.length = S.stage.things.length
  fz : fs.length ≤ 9000
theorem filmP_things {u : Sy90.St} (W : Ok u) : ∀ w ∈ filmP u, w.things.length = u.things.length := fun w hw => by
  obtain ⟨q, hq, F⟩ := firstQ W
  rw [filmP_eq hq F] at hw
  obtain ⟨i, _, rfl⟩ := List.mem_map.mp hw
  exact (after_same i u).2.2.2
theorem Crs.ms {S : Sy92.St} {calls : List (Nat × Nat)} {fs : List Sy90.St} {u : Sy90.St} (C : Crs S calls fs u) : MsP S.ropes (movesP S.stage.things.length (fs ++ filmP u)) := by
  have h := fun x hx => movesP_lt (film_ends C.ok fs) (x := x) (nb := S.stage.things.length) hx
  exact ⟨fun x hx => by rw [C.rl]; exact (h x hx).1, fun x hx => (h x hx).2.1, fun r hr => (C.ropes r hr).2.1⟩
def sp_is_safe_now (K : PySem.W.Frag) : Sp := fun vs H Q _ => ∃ (v : V) (h : Nat) (S : Sy92.St) (calls : List (Nat × Nat)) (fs : List Sy90.St) (u : Sy90.St), vs = [v, nV h] ∧ CrsV K H v fs u S.ropes ∧ Crs S calls fs u ∧ RetV (.bl (safeP S fs u h)) H Q
theorem sl_is_safe_now {K : PySem.W.Frag} {vs : List V} {H : Hp} {Q : VK} {E : XK} (h : sp_is_safe_now K vs H Q E) : vs.length = 2 := by
  obtain ⟨_, _, _, _, _, _, rfl, _⟩ := h
  rfl
def t_is_safe_now (K : PySem.W.Frag) : TS :=
  (tSeq (tAsg (tCall (sp_film_from K) [] E0 (tCons (tFld K (tVar 0) "stage") tNil)) (gName 2))
  (tSeq (tIfS (tTest (tOp rNotN (tCall (sp_violation_in K) [] E0 (tCons (tVar 2) (tCons (tFld K (tFld K (tVar 0) "stage") "pairs") tNil))) (tC .non))) (tRet (tC (.bl false))) tNext)
  (tRet (tCall (sp_are_feasible K) [] E0 (tCons (tFld K (tFld K (tVar 0) "stage") "ropes") (tCons (tCall (sp_movements_in K) [] E0 (tCons (tOp rCat (tFld K (tVar 0) "frames") (tVar 2)) tNil)) (tCons (tVar 1) tNil)))))))
theorem et_nnP {K : PySem.W.Frag} {te : TE} {σ : L2.St} {H : Hp} {o : Option (Nat × Nat)} (h : EvD te σ H fun v H1 => OpPr K H1 v o) : EvT (tTest (tOp rNotN te (tC .non))) σ H o.isSome := et_test (ev_of (evd_op h fun x H1 e1 p1 => evd_of ev_c fun H2 e2 => by
  refine fun Q q => ⟨rfl, q _ H2 (Ex.refl H2) ?_⟩
  cases o with
  | none =>
    have p1 : x = .non := p1
    rw [p1]
    rfl
  | some l =>
    obtain ⟨a, rfl, _⟩ := p1
    rfl))
theorem pure_is_safe_now {K : PySem.W.Frag} {mg : Str → Option Value} (T : Tx K mg) (vs : List V) (H : Hp) (Q : VK) (E : XK) (h : sp_is_safe_now K vs H Q E) : t_is_safe_now K { nx := fun _ H' => Q .non H', rt := Q } (start N_is_safe_now vs) H := by
  obtain ⟨v, h, S, calls, fs, u, rfl, ⟨a, dx, f, A, rfl, ho, hf, St⟩, C, k⟩ := h
  have W := C.ok
  have n4 := W.toWf.n4
  have hlen : u.things.length = S.stage.things.length := C.len
  have hft := filmP_things W
  have hfz := filmP_len W
  refine q_asgD (evd_film St W (ev_stage T ho (ev_var rfl))) fun v H1 e1 p1 => ?_
  have ho1 := e1 a _ ho
  have S1 := St.x e1
  have hfoul : (foul u).isSome = (violF u.pairs 0 ((filmP u).map frameOf)).isSome := by rw [foul_eq W]
  refine q_when (b := (foul u).isSome) (et_is (et_nnP (K := K) (evd_callV (ea_cons (ev_var rfl) (ea_cons (ev_q T S1 (ev_stage T ho1 (ev_var rfl))) ea_nil)) fun H2 e2 => spd_violation_in (lsV_x frV_st.x _ _ _ _ _ e2 p1.s) ((LsAt.v (lsAt_x trV_st.x e2 S1.fq))) ?_)) hfoul.symm) (fun hb H2 e2 => ?_) fun hb H2 e2 => ?_
  · intro g hg p hp
    obtain ⟨w, hw, rfl⟩ := List.mem_map.mp hg
    show p.1 < (Sy90.marks w).length ∧ p.2.1 < (Sy90.marks w).length
    rw [marks_len, hft w hw]
    exact C.pr p hp
  · refine s_ret (ev_is ev_c (congrArg V.bl ?_)) fun H3 e3 => k H3 ((e1.trans e2).trans e3)
    unfold safeP
    obtain ⟨x, hx⟩ := Option.isSome_iff_exists.mp hb
    rw [hx]
    rfl
  · have e02 := e1.trans e2
    have hn : (foul u).isNone = true := by
      rw [← Option.not_isSome, hb]
      rfl
    have hms := C.ms
    have hml : (movesP S.stage.things.length (fs ++ filmP u)).length ≤ 40000 := by
      rw [← movesF_eq]
      have := movesUp_len ((fs ++ filmP u).map frameOf) S.stage.things.length
      rw [List.length_map, List.length_append] at this
      have h2 : (fs.length + (filmP u).length) * S.stage.things.length ≤ 9056 * 4 := Nat.mul_le_mul (by have := C.fz; omega) (by omega)
      show (movesUp _ _).length ≤ _
      omega
    refine s_retD (P := fun v _ => v = .bl (safeP S fs u h)) (evd_call (evad_cons (P := fun v _ => v = .ref A.r) (evd_of (ev_r T (S1.x e2) (ev_stage T (e2 a _ ho1) (ev_var rfl))) fun _ _ => rfl) fun x H3 e3 p3 => evad_cons (P := fun v H4 => LlV TrV K H4 v (movesP S.stage.things.length (fs ++ filmP u))) (evd_call (evad_one (evd_op (P1 := fun x _ => x = .ref f) (evd_of (ev_frames T ((e2.trans e3) a _ ho1) (ev_var rfl)) fun _ _ => rfl) fun y H4 e4 p4 => evd_of (ev_var rfl) fun H5 e5 => ?_))) fun y H4 e4 p4 => evad_one (evd_of (ev_var rfl) fun H5 e5 => ?_))) fun v H3 e3 p3 => by rw [p3]; exact k H3 (e02.trans e3)
    · subst p4
      have e25 := e2.trans (e3.trans (e4.trans e5))
      refine fun Q2 q2 => rvd_cat (α := Fr) (R := FrV) frV_st.x (LsAt.ll (lsAt_x frV_st.x (e1.trans e25) hf)) (llV_x frV_st.x _ _ _ _ _ e25 p1) (by rw [List.length_map, List.length_map]; have := C.fz; omega) Q2 fun v H6 e6 p6 => q2 v H6 e6 ?_
      refine fun Q3 q3 E3 => spd_movements_in (nb := S.stage.things.length) p6.s (by rw [List.length_append, List.length_map, List.length_map]; omega) (by rw [List.length_append, List.length_map, List.length_map]; have := C.fz; omega) (by omega) (fun g hg => ?_) Q3 (fun v H7 e7 p7 => q3 v H7 e7 ?_) E3
      · rw [← List.map_append] at hg
        obtain ⟨w, hw, rfl⟩ := List.mem_map.mp hg
        have : w.things.length = S.stage.things.length := by
          rcases List.mem_append.mp hw with hw | hw
          · exact C.fl w hw
          · rw [hft w hw, hlen]
        refine ⟨?_, ?_⟩
        · show (Sy90.marks w).length = _
          rw [marks_len, this]
        · show (aims w).length = _
          rw [aims_len, this]
      · rw [← List.map_append, movesF_eq] at p7
        exact p7
    · subst p3
      refine fun Q2 q2 E2 => spv_are_feasible (LsAt.v (lsAt_x prV_st.x (e2.trans (e3.trans (e4.trans e5))) S1.fr)) (llV_x trV_st.x _ _ _ _ _ e5 p4).s hms hml H5 (Ex.refl H5) Q2 (fun H6 e6 => q2 _ H6 e6 ?_) E2
      unfold safeP
      rw [hn, few_eq]
      rfl
theorem ok_is_safe_now {P : Program} {w : World} {K : PySem.W.Frag} {mg : Str → Option Value} {base : Heap} (T : Tx K mg) (D_are_feasible : DefE P w K mg base (CX0) 14 "are_feasible" ["ropes", "movements", "hands"] (sp_are_feasible K)) (D_film_from : DefE P w K mg base (CX0) 5 "film_from" ["stage"] (sp_film_from K)) (D_movements_in : DefE P w K mg base (CX0) 3 "movements_in" ["film"] (sp_movements_in K)) (D_violation_in : DefE P w K mg base (CX0) 3 "violation_in" ["film", "pairs"] (sp_violation_in K)) : DefE P w K mg base CX0 15 "is_safe_now" ["course", "hands"] (sp_is_safe_now K) := by
  obtain ⟨fd, F⟩ := T.d_is_safe_now
  have bd : Binds K fd ["course", "hands"] [] := F.bindsN fun _ _ _ _ _ _ us hl => match us, hl with | [_, _], _ => rfl
  have G : FnOk P w K mg base CX0 15 (He.ga K "is_safe_now") fd ["course", "hands"] (sp_is_safe_now K) := by
    refine F.ok sc_is_safe_now (fun vs H Q E h => sl_is_safe_now h) (fun cdv A outer s H vs Q E hr h => ⟨t_is_safe_now K, PSs.nox ?_, pure_is_safe_now T vs H Q E h⟩)
    exact (pss_cons (ps_set (i := 2) sc_is_safe_now.nd rfl (by first | exact Or.inl rfl | exact Or.inr rfl) (pe_callE D_film_from (hr.mono (by decide)) rfl pass0 (by exact (pa_cons (pe_fld (pv 0) rfl) pa_nil))))
  (pss_cons (ps_if (pt_cmpR oNotN (pe_callE D_violation_in (hr.mono (by decide)) rfl pass0 (by exact (pa_cons (pv 2) (pa_cons (pe_fld (pe_fld (pv 0) rfl) rfl) pa_nil)))) pe_non (nomark _)) (pss_one (ps_ret pe_bl)) pss_nil)
  (pss_one (ps_ret (pe_callE D_are_feasible (hr.mono (by decide)) rfl pass0 (by exact (pa_cons (pe_fld (pe_fld (pv 0) rfl) rfl) (pa_cons (pe_callE D_movements_in (hr.mono (by decide)) rfl pass0 (by exact (pa_cons (pe_op oCat (pe_fld (pv 0) rfl) (pv 2)) pa_nil))) (pa_cons (pv 1) pa_nil)))))))))
  exact DefE.mk ⟨fd, G, bd⟩ T.g_is_safe_now T.p_is_safe_now
theorem spv_is_safe_now {K : PySem.W.Frag} {H : Hp} {v : V} {h : Nat} {S : Sy92.St} {calls : List (Nat × Nat)} {fs : List Sy90.St} {u : Sy90.St} (hv : CrsV K H v fs u S.ropes) (C : Crs S calls fs u) : SpV (sp_is_safe_now K) [v, nV h] H (.bl (safeP S fs u h)) := fun H1 e Q q E =>
  ⟨v, h, S, calls, fs, u, rfl, hv.ext e, C, q⟩
end Sk
namespace Sk
open PySem L2 Evl Sc
open Sy90 (tick called after ENOUGH startOf fouled foul)
/-! ### first_safe -/
def OpCr (K : PySem.W.Frag) (Z : Addr) (H : Hp) (v : V) (fs : List Sy90.St) (u : Sy90.St) (k : Nat) (r : List (Nat × Nat)) : Option Nat → Prop
  | none => v = .non
  | some n => CrsZ K Z H v (fs ++ (List.range n).map (after u)) (called (after u n) k) r
def sp_first_safe (K : PySem.W.Frag) : Sp := fun vs H Q _ => ∃ (Z : Addr) (v : V) (k h : Nat) (S : Sy92.St) (calls : List (Nat × Nat)) (fs : List Sy90.St) (u : Sy90.St), vs = [v, nV k, nV h] ∧ H Z ≠ none ∧ CrsZ K Z H v fs u S.ropes ∧ Crs S calls fs u ∧ fs.length + 80 ≤ 9000 ∧ k < u.cues.length ∧
  RetD (fun v H2 => OpCr K Z H2 v fs u k S.ropes (Sy92.next S u fs.length calls h k)) H Q
theorem sl_first_safe {K : PySem.W.Frag} {vs : List V} {H : Hp} {Q : VK} {E : XK} (h : sp_first_safe K vs H Q E) : vs.length = 3 := by
  obtain ⟨_, _, _, _, _, _, _, _, rfl, _⟩ := h
  rfl
def t_first_safe (K : PySem.W.Frag) : TS :=
  (tSeq (tAsg (tVar 0) (gName 3))
  (tSeq (tAsg (tC (.int 0)) (gName 4))
  (tSeq (tWhile (tTest (tOp rLeI (tVar 4) (tC (.int 20)))) (tSeq (tIfS (tOr (tB (tMeth (He.ga K "Stage") "has_started" (sp_Stage_has_started K) [] E0 (tFld K (tVar 3) "stage") (tCons (tVar 1) tNil))) (tTest (tOp rNotN (tCall (sp_first_violated K) [] E0 (tCons (tFld K (tFld K (tVar 3) "stage") "pairs") (tCons (tFld K (tFld K (tVar 3) "stage") "positions") tNil))) (tC .non)))) (tRet (tC .non)) tNext)
  (tSeq (tAsg (tCall (sp_called_in K) [] E0 (tCons (tVar 3) (tCons (tVar 1) tNil))) (gName 5))
  (tSeq (tIfS (tB (tCall (sp_is_safe_now K) [] E0 (tCons (tVar 5) (tCons (tVar 2) tNil)))) (tRet (tVar 5)) tNext)
  (tSeq (tIfS (tB (tMeth (He.ga K "Stage") "is_quiet" (sp_Stage_is_quiet K) [] E0 (tFld K (tVar 3) "stage") tNil)) (tAsg (tOp rAddI (tVar 4) (tC (.int 1))) (gName 4)) tNext)
  (tAsg (tCall (sp_second_later K) [] E0 (tCons (tVar 3) tNil)) (gName 3)))))))
  (tRet (tC .non)))))
theorem Crs.later {S : Sy92.St} {calls : List (Nat × Nat)} {fs : List Sy90.St} {u : Sy90.St} {k : Nat} (C : Crs S calls fs u) (n : Nat) (hk : k < u.cues.length) (hu : startOf (after u n) k = none) (hz : fs.length + n ≤ 9000) : Crs S (calls ++ [(fs.length + n, k)]) (fs ++ (List.range n).map (after u)) (called (after u n) k) := by
  refine { C.toHere.later n hk hu with rl := C.rl, pr := fun p hp => ?_, fl := fun w hw => ?_, fz := by rw [List.length_append, List.length_map, List.length_range]; exact hz }
  · rw [called_pairs, (after_same n u).2.2.1] at hp
    rw [called_len, (after_same n u).2.2.2]
    exact C.pr p hp
  · rcases List.mem_append.mp hw with hw | hw
    · exact C.fl w hw
    · obtain ⟨i, _, rfl⟩ := List.mem_map.mp hw
      rw [(after_same i u).2.2.2, C.len]
theorem range_snoc (fs : List Sy90.St) (u : Sy90.St) (n : Nat) : fs ++ (List.range n).map (after u) ++ [after u n] = fs ++ (List.range (n + 1)).map (after u) := by
  rw [List.append_assoc, List.range_succ, List.map_append]
  rfl
theorem op_some {o : Option Nat} : (!decide (opV o = .non)) = o.isSome := by cases o <;> rfl
theorem pure_first_safe {K : PySem.W.Frag} {mg : Str → Option Value} (T : Tx K mg) (vs : List V) (H : Hp) (Q : VK) (E : XK) (h : sp_first_safe K vs H Q E) : t_first_safe K { nx := fun _ H' => Q .non H', rt := Q } (start N_first_safe vs) H := by
  obtain ⟨Z, v, i, h, S, calls, fs, u, rfl, hZ, hv, C, hz, hi, k⟩ := h
  have hZx : ∀ {H2 : Hp}, Ex H H2 → H2 Z ≠ none := fun e z => hZ (fresh_back e z)
  obtain ⟨q, hq, F⟩ := firstQ C.ok
  refine q_asg (ev_var rfl) fun H1 e1 => ?_
  refine q_asg ev_c fun H2 e2 => ?_
  refine q_while (fun m σ' H' => ∃ n qo vh o5, m = (q + 21) - n ∧ n ≤ q + 21 ∧ qo = n - q ∧ σ' = [some v, some (nV i), some (nV h), some vh, some (nV qo), o5] ∧ Tried S fs u h i n ∧ CrsZ K Z H' vh (fs ++ (List.range n).map (after u)) (after u n) S.ropes ∧ Ex H H') (q + 21)
    ⟨0, 0, v, none, rfl, Nat.zero_le _, by omega, rfl, Tried.start, by rw [List.range_zero, List.map_nil, List.append_nil]; exact hv.ext (e1.trans e2), e1.trans e2⟩ ?_
  rintro m σ' H' ⟨n, qo, vh, o5, rfl, hn, rfl, rfl, Tr, hc, e⟩
  refine ⟨decide (n ≤ q + 20), et_is (et_test (ev_op (ev_var rfl) ev_c rv_I0)) (decide_eq_decide.mpr (by omega)), fun hb H3 e3 => ?_, fun hb H3 e3 => ?_⟩
  · have hb := of_decide_eq_true hb
    have W := after_ok n C.ok
    have z := W.toWf.sz
    obtain ⟨g1, g2, g3, g4⟩ := after_same n u
    have hin : i < (after u n).cues.length := by rw [g1]; exact hi
    refine ⟨fun σ2 H2 => ∃ vh o5, σ2 = [some v, some (nV i), some (nV h), some vh, some (nV (n + 1 - q)), o5] ∧ Tried S fs u h i (n + 1) ∧ CrsZ K Z H2 vh (fs ++ (List.range (n + 1)).map (after u)) (after u (n + 1)) S.ropes ∧ Ex H H2, ?_, ?_⟩
    · rintro σ2 H2 ⟨vh, o5, a, b, c, d⟩
      exact ⟨q + 21 - (n + 1), by omega, n + 1, n + 1 - q, vh, o5, rfl, by omega, rfl, a, b, c, d⟩
    · have hc3 := hc.ext e3
      have e03 := e.trans e3
      have hc4 := hc3
      obtain ⟨a, dx, f, A, rfl, ho, hf, St, _⟩ := hc4
      have hpr : ∀ p ∈ (after u n).pairs, p.1 < (Sy90.marks (after u n)).length ∧ p.2.1 < (Sy90.marks (after u n)).length := fun p hp => by
        rw [marks_len, g4]
        rw [g3] at hp
        exact C.pr p hp
      refine q_when (b := stopP (after u n) i) (et_is (et_or (et_B (ev_started St (ev_stage T ho (ev_var rfl)) (ev_var rfl) (by rw [z.ls]; exact hin))) fun _ => et_test (ev_op (ev_call (ea_cons (ev_q T St (ev_stage T ho (ev_var rfl))) (ea_cons (ev_p T St (ev_stage T ho (ev_var rfl))) ea_nil)) (spv_first_violated (LsAt.v St.fq) (.inl (sq_of St.fp)) hpr)) ev_c rv_notN)) ?_) (fun hs H4 e4 => ?_) fun hs H4 e4 => ?_
      · rw [op_some, fouledF_eq]
        rfl
      · refine s_ret ev_c fun H5 e5 => k _ H5 (e03.trans (e4.trans e5)) ?_
        rw [next_stop Tr C.toHere hi hs]
        exact rfl
      · have hst : startOf (after u n) i = none := by
          have := hs
          unfold stopP at this
          rw [Bool.or_eq_false_iff] at this
          simpa using this.1
        refine q_asgD (evd_callV (ea_cons (ev_var rfl) (ea_cons (ev_var rfl) ea_nil)) fun H5 e5 => spd_called_in (hZx (e03.trans (e4.trans e5))) (hc3.ext (e4.trans e5)) W.toWf hin hst) fun w H5 e5 p5 => ?_
        have CL := C.later n hi hst (by omega)
        have e05 := e03.trans (e4.trans e5)
        refine q_when (et_B (ev_call (ea_cons (ev_var rfl) (ea_cons (ev_var rfl) ea_nil)) (spv_is_safe_now p5.crs CL))) (fun hy H6 e6 => ?_) fun hy H6 e6 => ?_
        · refine s_ret (ev_var rfl) fun H7 e7 => k _ H7 (e05.trans (e6.trans e7)) ?_
          rw [next_now Tr C.toHere hi hq F hb hs hy]
          exact p5.ext (e6.trans e7)
        · have Tr2 := Tr.more hs hy
          have e46 := e4.trans (e5.trans e6)
          have St6 := St.x e46
          have hqz : quiet (after u n) = decide (q ≤ n) := by
            by_cases c : q ≤ n
            · rw [decide_eq_true c]
              have := (quiet_after (after_ok q C.ok) F.yes (n - q)).2.2
              rw [← after_add, show q + (n - q) = n by omega] at this
              exact this
            · rw [decide_eq_false c]
              exact F.no n (by omega)
          refine q_ifAsg (v := nV (n + 1 - q)) (b := decide (q ≤ n)) (et_is (et_B (ev_quiet St6 z (ev_stage T (e46 a _ ho) (ev_var rfl)))) hqz) (fun hb2 => ?_) (fun hb2 => ?_) fun H7 e7 => ?_
          · have := of_decide_eq_true hb2
            exact ev_is (ev_op (ev_var rfl) ev_c rv_I0) (congrArg V.int (by omega))
          · have := of_decide_eq_false hb2
            rw [show n + 1 - q = n - q by omega]
            rfl
          · refine s_asgD (evd_callV (ea_cons (ev_var rfl) ea_nil) fun H8 e8 => spd_second_later (hZx (e03.trans (e46.trans (e7.trans e8)))) (hc3.ext (e46.trans (e7.trans e8))) W (by rw [List.length_append, List.length_map, List.length_range]; omega)) fun w2 H8 e8 p8 => ?_
            rw [range_snoc, ← after_succ] at p8
            exact ⟨w2, _, rfl, Tr2, p8, e03.trans (e46.trans (e7.trans e8))⟩
  · have hb := of_decide_eq_false hb
    have : n = q + 21 := by omega
    subst this
    refine s_ret ev_c fun H4 e4 => k _ H4 (e.trans (e3.trans e4)) ?_
    rw [next_none C.toHere hi hq F Tr]
    exact rfl
theorem ok_first_safe {P : Program} {w : World} {K : PySem.W.Frag} {mg : Str → Option Value} {base : Heap} (T : Tx K mg) (D_Stage_has_started : MethE P w K mg base (CX0) 1 "Stage" "has_started" ["self", "number"] (sp_Stage_has_started K)) (D_Stage_is_quiet : MethE P w K mg base (CX0) 3 "Stage" "is_quiet" ["self"] (sp_Stage_is_quiet K)) (D_called_in : DefE P w K mg base (CX0) 4 "called_in" ["course", "cue"] (sp_called_in K)) (D_first_violated : DefE P w K mg base (CX0) 2 "first_violated" ["pairs", "positions"] (sp_first_violated K)) (D_is_safe_now : DefE P w K mg base (CX0) 15 "is_safe_now" ["course", "hands"] (sp_is_safe_now K)) (D_second_later : DefE P w K mg base (CX0) 5 "second_later" ["course"] (sp_second_later K)) : DefE P w K mg base CX0 16 "first_safe" ["course", "cue", "hands"] (sp_first_safe K) := by
  obtain ⟨fd, F⟩ := T.d_first_safe
  have bd : Binds K fd ["course", "cue", "hands"] [] := F.bindsN fun _ _ _ _ _ _ us hl => match us, hl with | [_, _, _], _ => rfl
  have G : FnOk P w K mg base CX0 16 (He.ga K "first_safe") fd ["course", "cue", "hands"] (sp_first_safe K) := by
    refine F.ok sc_first_safe (fun vs H Q E h => sl_first_safe h) (fun cdv A outer s H vs Q E hr h => ⟨t_first_safe K, PSs.nox ?_, pure_first_safe T vs H Q E h⟩)
    exact (pss_cons (ps_set (i := 3) sc_first_safe.nd rfl (by first | exact Or.inl rfl | exact Or.inr rfl) (pv 0))
  (pss_cons (ps_set (i := 4) sc_first_safe.nd rfl (by first | exact Or.inl rfl | exact Or.inr rfl) pe_int)
  (pss_cons (ps_while PassesOwn.never (pt_cmpR oLe (pv 4) (pe_glob rfl T.m_LONGEST_WALK.2 ⟨_, rfl⟩) (nomark _)) (pss_cons (ps_if (PW.pt (pw_or (pt_val (pe_methE (pe_fld (pv 3) rfl) D_Stage_has_started (hr.mono (by decide)) pass0 (by exact (pa_cons (pv 1) pa_nil)))) (pw_or1 (pt_cmpR oNotN (pe_callE D_first_violated (hr.mono (by decide)) rfl pass0 (by exact (pa_cons (pe_fld (pe_fld (pv 3) rfl) rfl) (pa_cons (pe_fld (pe_fld (pv 3) rfl) rfl) pa_nil)))) pe_non (nomark _))))) (pss_one (ps_ret pe_non)) pss_nil)
  (pss_cons (ps_set (i := 5) sc_first_safe.nd rfl (by first | exact Or.inl rfl | exact Or.inr rfl) (pe_callE D_called_in (hr.mono (by decide)) rfl pass0 (by exact (pa_cons (pv 3) (pa_cons (pv 1) pa_nil)))))
  (pss_cons (ps_if (pt_val (pe_callE D_is_safe_now (hr.mono (by decide)) rfl pass0 (by exact (pa_cons (pv 5) (pa_cons (pv 2) pa_nil))))) (pss_one (ps_ret (pv 5))) pss_nil)
  (pss_cons (ps_if (pt_val (pe_methE0 (pe_fld (pv 3) rfl) D_Stage_is_quiet (hr.mono (by decide)) pass0)) (pss_one (ps_set (i := 4) sc_first_safe.nd rfl (by first | exact Or.inl rfl | exact Or.inr rfl) (pe_op oAdd (pv 4) pe_int))) pss_nil)
  (pss_one (ps_set (i := 3) sc_first_safe.nd rfl (by first | exact Or.inl rfl | exact Or.inr rfl) (pe_callE D_second_later (hr.mono (by decide)) rfl pass0 (by exact (pa_cons (pv 3) pa_nil))))))))))
  (pss_one (ps_ret pe_non)))))
  exact DefE.mk ⟨fd, G, bd⟩ T.g_first_safe T.p_first_safe
theorem spd_first_safe {K : PySem.W.Frag} {Z : Addr} {H : Hp} {v : V} {k h : Nat} {S : Sy92.St} {calls : List (Nat × Nat)} {fs : List Sy90.St} {u : Sy90.St} (hZ : H Z ≠ none) (hv : CrsZ K Z H v fs u S.ropes) (C : Crs S calls fs u) (hz : fs.length + 80 ≤ 9000) (hk : k < u.cues.length) :
    SpD (sp_first_safe K) [v, nV k, nV h] H fun v H2 => OpCr K Z H2 v fs u k S.ropes (Sy92.next S u fs.length calls h k) := fun Q q E => ⟨Z, v, k, h, S, calls, fs, u, rfl, hZ, hv, C, hz, hk, q⟩

/-! ### scheduled -/
/-- the times and the course, or None -/
def OpSc (K : PySem.W.Frag) (H : Hp) (v : V) (S : Sy92.St) : Option (List (Nat × Nat) × Sy90.St × Nat) → Prop
  | none => v = .non
  | some x => ∃ T lt c fs, v = .ref T ∧ SqT K H T [.ref lt, c] ∧ H lt = some (.lst ((x.1.map fun (y : Nat × Nat) => y.1).map nV)) ∧ CrsV K H c fs x.2.1 S.ropes ∧ Crs S x.1 fs x.2.1 ∧ fs.length = x.2.2
def sp_scheduled (K : PySem.W.Frag) : Sp := fun vs H Q _ => ∃ (A : Adr) (v : V) (l : List Nat) (h : Nat) (S : Sy92.St), vs = [.ref A.a, v, nV h] ∧ StgAt K H A S.stage S.ropes ∧ Crs S [] [] S.stage ∧ NsV K H v l ∧ l.length ≤ 10 ∧ (∀ k ∈ l, k < S.stage.cues.length) ∧ RetD (fun v H2 => OpSc K H2 v S (Sy92.row S h l S.stage 0 [])) H Q
theorem sl_scheduled {K : PySem.W.Frag} {vs : List V} {H : Hp} {Q : VK} {E : XK} (h : sp_scheduled K vs H Q E) : vs.length = 3 := by
  obtain ⟨_, _, _, _, _, rfl, _⟩ := h
  rfl
def t_scheduled (K : PySem.W.Frag) : TS :=
  (tSeq (tAsg (tMake (He.ga K "Course") (sp_Course___init__ K) [] E0 (tCons (tLst tNil) (tCons (tVar 0) tNil))) (gName 3))
  (tSeq (tAsg (tLst tNil) (gName 4))
  (tSeq (tFor (iList K (tVar 1)) (gName 5) (tSeq (tAsg (tCall (sp_first_safe K) [] E0 (tCons (tVar 3) (tCons (tVar 5) (tCons (tVar 2) tNil)))) (gName 3))
  (tSeq (tIfS (tTest (tOp rIsN (tVar 3) (tC .non))) (tRet (tC .non)) tNext)
  (tDrop (tBM K "list" rAppend (tVar 4) (tCons (tMeth (He.ga K "Course") "time" (sp_Course_time K) [] E0 (tVar 3) tNil) tNil))))))
  (tRet (tTup (tCons (tVar 4) (tCons (tVar 3) tNil)))))))
theorem pure_scheduled {K : PySem.W.Frag} {mg : Str → Option Value} (T : Tx K mg) (vs : List V) (H : Hp) (Q : VK) (E : XK) (h : sp_scheduled K vs H Q E) : t_scheduled K { nx := fun _ H' => Q .non H', rt := Q } (start N_scheduled vs) H := by
  obtain ⟨A, v, l, h, S, rfl, St, C0, ⟨al, rfl, hl⟩, hlz, hlk, k⟩ := h
  refine q_asgD (evd_course (K := K) (fs := []) (u := S.stage) (r := S.ropes) (evad_cons (evd_lst ea_nil (Nat.zero_le _)) fun x H1 e1 p1 => evad_one (evd_of (ev_var rfl) fun H2 e2 => ?_))) fun c H1 e1 p1 => ?_
  · obtain ⟨p, rfl, _, hp⟩ := p1
    exact ⟨p, A, rfl, ⟨[], e2 p _ hp, .nil⟩, St.x (e1.trans e2)⟩
  refine q_asgL (el_lst ea_nil (Nat.zero_le _)) fun lt H2 hn e2 h2 => ?_
  have hn0 := fresh_back e1 hn
  have hlt0 : ∀ {H3 : Hp} {xs : List V}, H3 lt = some (.lst xs) → H3 lt ≠ none := fun h z => by rw [h] at z; cases z
  refine q_forLn (a := al) (xs := l.map nV) (ev_var rfl) (ex_l (e1.trans e2) hl) (fun i σ' H' => ∃ c o5 calls fs u, σ' = [some (.ref A.a), some (.ref al), some (nV h), some c, some (.ref lt), o5] ∧ Sy92.row S h l S.stage 0 [] = Sy92.row S h (l.drop i) u fs.length calls ∧ CrsZ K lt H' c fs u S.ropes ∧ Crs S calls fs u ∧ fs.length ≤ 80 * i ∧ H' lt = some (.lst ((calls.map fun (y : Nat × Nat) => y.1).map nV)) ∧ calls.length ≤ i ∧ Ex H (off H' lt) ∧ u.cues.length = S.stage.cues.length)
    (fun H3 e3 => ⟨c, none, [], [], S.stage, rfl, rfl, (p1.z hn).ext (e2.trans e3), C0, Nat.zero_le _, (e3 lt _ h2), Nat.zero_le _, off_ex (e1.trans (e2.trans e3)) hn0, rfl⟩) (fun i σ' H' _ p => ?_) ?_ ?_
  · obtain ⟨_, _, _, _, _, _, _, _, _, _, _, _, e, _⟩ := p
    exact ex_l (e.trans off_in) hl
  · rintro i x σ' H' hx ⟨c, o5, calls, fs, u, rfl, hrow, hc, C, hfz, h3, hcz, e, hcu⟩
    have hi : i < l.length := by
      have := (List.getElem?_eq_some_iff.mp hx).1
      rw [List.length_map] at this
      exact this
    rw [nums_at hi] at hx
    cases hx
    generalize hkd : l.getD i 0 = kk
    have hmem : kk ∈ l := by
      rw [← hkd]
      exact List.mem_of_getElem? (at_getD 0 hi)
    have hdrop : l.drop i = kk :: l.drop (i + 1) := by
      rw [List.drop_eq_getElem_cons hi, ← hkd, List.getD_eq_getElem?_getD, List.getElem?_eq_getElem hi]
      rfl
    have hku : kk < u.cues.length := by rw [hcu]; exact hlk kk hmem
    have hrow2 : Sy92.row S h l S.stage 0 [] = (Sy92.next S u fs.length calls h kk).bind fun n => Sy92.row S h (l.drop (i + 1)) (called (after u n) kk) (fs.length + n) (calls ++ [(fs.length + n, kk)]) := by
      rw [hrow, hdrop]
      rfl
    have e' := e.trans off_in
    refine q_asgD (P := fun v H2 => OpCr K lt H2 v fs u kk S.ropes (Sy92.next S u fs.length calls h kk)) (evd_callV (ea_cons (ev_var rfl) (ea_cons (ev_var rfl) (ea_cons (ev_var rfl) ea_nil))) fun H4 e4 => spd_first_safe (hlt0 (e4 lt _ h3)) (hc.ext e4) C (by omega) hku) fun w H4 e4 p4 => ?_
    cases hnx : Sy92.next S u fs.length calls h kk with
    | none =>
      rw [hnx] at p4
      have p4 : w = .non := p4
      subst p4
      refine q_when (et_in1 (ev_var rfl)) (fun _ H5 e5 => s_ret ev_c fun H6 e6 => k _ H6 (e'.trans (e4.trans (e5.trans e6))) ?_) fun z => by cases z
      rw [hrow2, hnx]
      exact rfl
    | some n =>
      rw [hnx] at p4
      have p4 : CrsZ K lt H4 w (fs ++ (List.range n).map (after u)) (called (after u n) kk) S.ropes := p4
      have p5 := p4
      obtain ⟨ca, cd, cf, cA, rfl, _⟩ := p5
      obtain ⟨q, hq, F⟩ := firstQ C.ok
      obtain ⟨hst, hn75⟩ : startOf (after u n) kk = none ∧ n ≤ 76 := by
        unfold Sy92.next at hnx
        split at hnx
        · cases hnx
        · have hmay := List.find?_some hnx
          have hmem := List.mem_range.mp (List.mem_of_find?_eq_some hnx)
          unfold Sy92.wait_ at hmem
          rw [still_eq C.ok hq F] at hmem
          unfold Sy92.mayAt Sy90.safeAt at hmay
          simp only [Bool.and_eq_true] at hmay
          exact ⟨Option.isNone_iff_eq_none.mp hmay.1.2.1, by omega⟩
      have CL := C.later n hku hst (by omega)
      refine q_when (et_in0 (v := .ref ca) (ev_var rfl) nofun) (fun z => by cases z) fun _ H5 e5 => ?_
      have h5 := (e4.trans e5) lt _ h3
      refine s_app h5 (ev_var rfl) (ev_time (p4.crs.ext e5) (ev_var rfl)) (by rw [List.length_map, List.length_map]; omega) fun H6 e6 => ?_
      have h6 := e6 lt _ h5
      have hfl : (fs ++ (List.range n).map (after u)).length = fs.length + n := by rw [List.length_append, List.length_map, List.length_range]
      refine ⟨_, _, calls ++ [(fs.length + n, kk)], fs ++ (List.range n).map (after u), called (after u n) kk, rfl, ?_, (p4.ext (e5.trans e6)).mut h6, CL, by omega, ?_, by rw [List.length_append, List.length_singleton]; omega, ?_, ?_⟩
      · rw [hrow2, hnx, hfl]
        rfl
      · rw [upd_same, List.map_append, List.map_append, hfl]
        rfl
      · rw [off_upd]
        exact e.trans (off_mono (e4.trans (e5.trans e6)))
      · rw [called_cues, (after_same n u).1, hcu]
  · rintro σ' H' ⟨c, o5, calls, fs, u, rfl, hrow, hc, C, hfz, h3, hcz, e, hcu⟩
    rw [List.length_map, List.drop_length] at hrow
    refine s_retD (P := fun v H4 => OpSc K H4 v S (Sy92.row S h l S.stage 0 [])) (EvD.imp (evd_tup (vs := [.ref lt, c]) (ea_cons (ev_var rfl) (ea_cons (ev_var rfl) ea_nil)) (Nat.le_of_lt (show 2 < 100000 by decide))) fun v H4 e4 p4 => ?_) fun v H4 e4 p4 => k v H4 ((e.trans off_in).trans e4) p4
    obtain ⟨t, rfl, ht⟩ := p4
    rw [hrow]
    exact ⟨t, lt, c, fs, rfl, st_of ht, e4 lt _ h3, hc.crs.ext e4, C, rfl⟩
theorem ok_scheduled {P : Program} {w : World} {K : PySem.W.Frag} {mg : Str → Option Value} {base : Heap} (T : Tx K mg) (D_Course___init__ : MakeE P w K mg base CX0 1 "Course" ["self", "frames", "stage"] (sp_Course___init__ K)) (D_Course_time : MethE P w K mg base (CX0) 1 "Course" "time" ["self"] (sp_Course_time K)) (D_first_safe : DefE P w K mg base (CX0) 16 "first_safe" ["course", "cue", "hands"] (sp_first_safe K)) : DefE P w K mg base CX0 17 "scheduled" ["stage", "cues", "hands"] (sp_scheduled K) := by
  obtain ⟨fd, F⟩ := T.d_scheduled
  have bd : Binds K fd ["stage", "cues", "hands"] [] := F.bindsN fun _ _ _ _ _ _ us hl => match us, hl with | [_, _, _], _ => rfl
  have G : FnOk P w K mg base CX0 17 (He.ga K "scheduled") fd ["stage", "cues", "hands"] (sp_scheduled K) := by
    refine F.ok sc_scheduled (fun vs H Q E h => sl_scheduled h) (fun cdv A outer s H vs Q E hr h => ⟨t_scheduled K, PSs.nox ?_, pure_scheduled T vs H Q E h⟩)
    exact (pss_cons (ps_set (i := 3) sc_scheduled.nd rfl (by first | exact Or.inl rfl | exact Or.inr rfl) (pe_makeE D_Course___init__ (hr.mono (by decide)) rfl pass0 (by exact (pa_cons (pe_lst pa_nil) (pa_cons (pv 0) pa_nil)))))
  (pss_cons (ps_set (i := 4) sc_scheduled.nd rfl (by first | exact Or.inl rfl | exact Or.inr rfl) (pe_lst pa_nil))
  (pss_cons (ps_for PassesOwn.never rfl (pi_list (pv 1)) (pg_name (i := 5) sc_scheduled.nd rfl (by first | exact Or.inl rfl | exact Or.inr rfl)) (pss_cons (ps_set (i := 3) sc_scheduled.nd rfl (by first | exact Or.inl rfl | exact Or.inr rfl) (pe_callE D_first_safe (hr.mono (by decide)) rfl pass0 (by exact (pa_cons (pv 3) (pa_cons (pv 5) (pa_cons (pv 2) pa_nil))))))
  (pss_cons (ps_if (pt_cmpR oIsN (pv 3) pe_non (nomark _)) (pss_one (ps_ret pe_non)) pss_nil)
  (pss_one (ps_expr (pe_bm PySem.F.plainAttrs_list PySem.F.slot_list_append PySem.F.type_list_append mt_append (pv 4) (pa_cons (pe_methE0 (pv 3) D_Course_time (hr.mono (by decide)) pass0) pa_nil)))))))
  (pss_one (ps_ret (pe_tup (pa_cons (pv 4) (pa_cons (pv 3) pa_nil))))))))
  exact DefE.mk ⟨fd, G, bd⟩ T.g_scheduled T.p_scheduled
theorem spd_scheduled {K : PySem.W.Frag} {H : Hp} {A : Adr} {v : V} {l : List Nat} {h : Nat} {S : Sy92.St} (St : StgAt K H A S.stage S.ropes) (C : Crs S [] [] S.stage) (hl : NsV K H v l) (hz : l.length ≤ 10) (hk : ∀ k ∈ l, k < S.stage.cues.length) :
    SpD (sp_scheduled K) [.ref A.a, v, nV h] H fun v H2 => OpSc K H2 v S (Sy92.row S h l S.stage 0 []) := fun Q q E => ⟨A, v, l, h, S, rfl, St, C, hl, hz, hk, q⟩
end Sk
namespace Sk
open PySem L2 Evl Sc
/-! ### Refused -/
def codeF (c : Int) : List (Str × V) := [("code", .int c)]
def sp_Refused___init__ (K : PySem.W.Frag) : Sp := fun vs H Q _ => ∃ (a : Addr) (c : Int), vs = [.ref a, .int c] ∧ H a = some (exo a (He.ga K "Refused") none) ∧
  ∀ H1 dx, Ex H H1 → H1 dx = none → dx ≠ a → Q .non (upd (upd H1 dx (exd dx (codeF c))) a (exo a (He.ga K "Refused") (some dx)))
theorem sl_Refused___init__ {K : PySem.W.Frag} {vs : List V} {H : Hp} {Q : VK} {E : XK} (h : sp_Refused___init__ K vs H Q E) : vs.length = 2 := by
  obtain ⟨_, _, rfl, _⟩ := h
  rfl
def t_Refused___init__ (K : PySem.W.Frag) : TS := tSeq (tDrop (tVeI K (tCons (tVar 0) (tCons (tC (.str "refused")) tNil)))) (tOst K "code" (tVar 0) (tVar 1))
theorem s_veinit {K : PySem.W.Frag} {σ : L2.St} {H : Hp} {ta : TA} {D : Ends} {a C : Addr} {ws : List V} (h : EvA ta σ H (.ref a :: ws)) (hl : ws.length ≤ 1000) (x : OexC K C) (ha : H a = some (exo a C none)) (k : ∀ H1, Ex H H1 → D.nx σ H1) : tDrop (tVeI K ta) D σ H :=
  h H (Ex.refl H) _ fun H1 e1 => ⟨a, C, ws, rfl, hl, x, e1 a _ ha, k H1 e1⟩
theorem q_veinit {K : PySem.W.Frag} {σ : L2.St} {H : Hp} {ta : TA} {tz : TS} {D : Ends} {a C : Addr} {ws : List V} (h : EvA ta σ H (.ref a :: ws)) (hl : ws.length ≤ 1000) (x : OexC K C) (ha : H a = some (exo a C none)) (k : ∀ H1, Ex H H1 → tz D σ H1) : tSeq (tDrop (tVeI K ta)) tz D σ H :=
  s_veinit (D := { D with nx := tz D }) h hl x ha k
theorem pure_Refused___init__ {K : PySem.W.Frag} {mg : Str → Option Value} (T : Tx K mg) (vs : List V) (H : Hp) (Q : VK) (E : XK) (h : sp_Refused___init__ K vs H Q E) : t_Refused___init__ K { nx := fun _ H' => Q .non H', rt := Q } (start N_Refused___init__ vs) H := by
  obtain ⟨a, c, rfl, ha, k⟩ := h
  have ev : EvA (tCons (tVar 0) (tCons (tC (.str "refused")) tNil)) (L2.start N_Refused___init__ [.ref a, .int c]) H [.ref a, .str "refused"] := ea_cons (ev_var rfl) (ea_cons ev_c ea_nil)
  refine q_veinit ev (Nat.le_of_lt (show 1 < 1000 by decide)) T.r.x ha fun H1 e1 => ?_
  refine ev_var (v := .int c) (i := 1) rfl H1 (Ex.refl _) _ fun H2 e2 => ev_var (v := .ref a) (i := 0) rfl H2 (Ex.refl _) _ fun H3 e3 => ?_
  have e03 := (e1.trans e2).trans e3
  exact ⟨a, He.ga K "Refused", rfl, T.r.x, T.n_Refused_code, .inl ⟨e03 a _ ha, fun dx hd hne => k H3 dx e03 hd hne⟩⟩
theorem ok_Refused___init__ {P : Program} {w : World} {K : PySem.W.Frag} {mg : Str → Option Value} {base : Heap} (T : Tx K mg) : ∃ fd, FnOk P w K mg base CX0 1 (He.ma K (He.ga K "Refused") "__init__") fd ["self", "code"] (sp_Refused___init__ K) ∧ Binds K fd ["self", "code"] [] := by
  obtain ⟨fd, F⟩ := T.d_Refused___init__
  have bd : Binds K fd ["self", "code"] [] := F.bindsN fun _ _ _ _ _ _ us hl => match us, hl with | [_, _], _ => rfl
  have G : FnOk P w K mg base CX0 1 (He.ma K (He.ga K "Refused") "__init__") fd ["self", "code"] (sp_Refused___init__ K) := by
    refine F.ok sc_Refused___init__ (fun vs H Q E h => sl_Refused___init__ h) (fun cdv A outer s H vs Q E hr h => ⟨t_Refused___init__ K, PSs.nox ?_, pure_Refused___init__ T vs H Q E h⟩)
    exact (pss_cons (ps_expr (pe_veinit rfl T.f_ValueError (ve_init K) (pa_cons (pv 0) (pa_cons pe_str pa_nil)))) (pss_one (ps_ost (pv 0) (pv 1))))
  exact ⟨fd, G, bd⟩

/-! ### want -/
/-- a refusal with a code -/
def RetX (K : PySem.W.Frag) (c : Int) (H : Hp) (E : XK) : Prop := ∀ d H2, Ex H H2 → H2 d = some (.xd (codeF c)) → E (.ref (He.ga K "Refused")) (some d) H2
theorem RetX.go {K : PySem.W.Frag} {c : Int} {H H1 : Hp} {E : XK} (h : RetX K c H E) (e : Ex H H1) : RetX K c H1 E := fun d H2 e2 h2 => h d H2 (e.trans e2) h2
def sp_want (K : PySem.W.Frag) : Sp := fun vs H Q E => ∃ (b : Bool) (c : Int), vs = [.bl b, .int c] ∧ (b = true → RetV .non H Q) ∧ (b = false → RetX K c H E)
theorem sl_want {K : PySem.W.Frag} {vs : List V} {H : Hp} {Q : VK} {E : XK} (h : sp_want K vs H Q E) : vs.length = 2 := by
  obtain ⟨_, _, rfl, _⟩ := h
  rfl
def t_want (K : PySem.W.Frag) (E : XK) : TS := tIfS (tNot (tB (tVar 0))) (fun _ σ H => tMkO (He.ga K "Refused") (sp_Refused___init__ K) [] (tCons (tVar 1) tNil) σ H fun cls d H' => E cls d H') tNext
theorem pure_want {K : PySem.W.Frag} {mg : Str → Option Value} (T : Tx K mg) (vs : List V) (H : Hp) (Q : VK) (E : XK) (h : sp_want K vs H Q E) : t_want K E { nx := fun _ H' => Q .non H', rt := Q } (start N_want vs) H := by
  obtain ⟨b, c, rfl, k1, k2⟩ := h
  refine s_when (b := !b) (et_not (et_B (ev_var rfl))) (fun hb H1 e1 => ?_) fun hb H1 e1 => ?_
  · have hb : b = false := by cases b <;> first | rfl | cases hb
    refine (ea_cons (ev_var rfl) ea_nil : EvA (tCons (tVar 1) tNil) (L2.start N_want [.bl b, .int c]) H1 [.int c]) H1 (Ex.refl _) _ fun H2 e2 => ⟨Nat.le_of_lt (show 1 < 1000 by decide), fun a ha => ?_⟩
    refine ⟨a, c, rfl, upd_same, fun H3 dx e3 hd hne => ⟨rfl, dx, codeF c, upd_same, ?_, ?_, ?_⟩⟩
    · rw [upd_ne hne]
      exact upd_same
    · have := fresh_back e3 hd
      rw [upd_ne hne] at this
      exact this
    · refine k2 hb dx _ ?_ upd_same
      refine (e1.trans e2).trans fun x o hx => ?_
      have hxa : x ≠ a := ne_of_none hx ha
      have hx3 : H3 x = some o := e3 x o (by rw [upd_ne hxa]; exact hx)
      have hxd : x ≠ dx := ne_of_none hx3 hd
      rw [upd_ne hxd, del_ne hxa, upd_ne hxa, upd_ne hxd]
      exact hx3
  · have hb : b = true := by cases b <;> first | rfl | cases hb
    exact k1 hb H1 e1
theorem ok_want {P : Program} {w : World} {K : PySem.W.Frag} {mg : Str → Option Value} {base : Heap} (T : Tx K mg) : DefE P w K mg base (L2.CX P w) 3 "want" ["is_so", "code"] (sp_want K) := by
  obtain ⟨fd, F⟩ := T.d_want
  have bd : Binds K fd ["is_so", "code"] [] := F.bindsN fun _ _ _ _ _ _ us hl => match us, hl with | [_, _], _ => rfl
  obtain ⟨fdR, FR, bR⟩ := ok_Refused___init__ (P := P) (w := w) (base := base) T
  have G : FnOk P w K mg base (L2.CX P w) 3 (He.ga K "want") fd ["is_so", "code"] (sp_want K) := by
    refine F.ok sc_want (fun vs H Q E h => sl_want h) (fun cdv A outer s H vs Q E hr h => ⟨t_want K E, ?_, pure_want T vs H Q E h⟩)
    exact (pss_one (ps_if (pt_not (pt_val (pv 0))) (pss_one (ps_raise (W := fun cls d _ H => E cls d H) rfl (takes_of rfl rfl rfl rfl) (pmk_oex T.r.x T.r.i T.r.t FR (hr.mono (by decide)) bR .nil pass0 rfl T.g_Refused (by exact (pa_cons (pv 1) pa_nil))))) pss_nil))
  exact DefE.mk ⟨fd, G, bd⟩ T.g_want T.p_want
/-- want(e, c) -/
theorem s_refuse {K : PySem.W.Frag} {σ : L2.St} {H : Hp} {te tc : TE} {D : Ends} {E : XK} {b : Bool} {c : Int} (h : Ev te σ H (.bl b)) (hc : Ev tc σ H (.int c)) (k1 : b = true → ∀ H1, Ex H H1 → D.nx σ H1) (k2 : b = false → RetX K c H E) :
    tDrop (tCall (sp_want K) [] E (tCons te (tCons tc tNil))) D σ H := by
  have hA : EvA (tCons te (tCons tc tNil)) σ H [.bl b, .int c] := ea_cons h (ea_cons hc ea_nil)
  show tCons te (tCons tc tNil) σ H fun vs H1 => sp_want K (vs ++ []) H1 (fun _ H2 => D.nx σ H2) E
  exact hA H (Ex.refl H) _ fun H1 e1 => ⟨b, c, rfl, fun hb H2 e2 => k1 hb H2 (e1.trans e2), fun hb => (k2 hb).go e1⟩
theorem q_refuse {K : PySem.W.Frag} {σ : L2.St} {H : Hp} {te tc : TE} {tz : TS} {D : Ends} {E : XK} {b : Bool} {c : Int} (h : Ev te σ H (.bl b)) (hc : Ev tc σ H (.int c)) (k1 : b = true → ∀ H1, Ex H H1 → tz D σ H1) (k2 : b = false → RetX K c H E) :
    tSeq (tDrop (tCall (sp_want K) [] E (tCons te (tCons tc tNil)))) tz D σ H := s_refuse (D := { D with nx := tz D }) h hc k1 k2
end Sk
namespace Sk
open PySem L2 Evl Sc
/-! ### listed -/
def SqV : PR (List V) := fun K H v ys => ∃ b, v = .ref b ∧ (SqL K H b ys ∨ SqT K H b ys)
theorem sqV_x : StabX SqV := fun K H H' v ys e ⟨b, h, h1⟩ => ⟨b, h, h1.imp (ex_l e) (ex_t e)⟩
def sp_listed (K : PySem.W.Frag) : Sp := fun vs H Q _ => ∃ (v : V) (xs : List V), vs = [v] ∧ SqV K H v xs ∧ xs.length ≤ 1000000 ∧ RetL (nV xs.length :: xs) H Q
theorem sl_listed {K : PySem.W.Frag} {vs : List V} {H : Hp} {Q : VK} {E : XK} (h : sp_listed K vs H Q E) : vs.length = 1 := by
  obtain ⟨_, _, rfl, _⟩ := h
  rfl
def t_listed (K : PySem.W.Frag) : TS :=
  (tRet (tOp rCat (tLst (tCons (tCB (rLenS K) (tCons (tVar 0) tNil)) tNil)) (tCB (rListS K) (tCons (tVar 0) tNil))))
/-- list(x) -/
theorem el_listS {K : PySem.W.Frag} {σ : L2.St} {H : Hp} {te : TE} {v : V} {xs : List V} (h : Ev te σ H v) (hx : SqV K H v xs) : EvL (tCB (rListS K) (tCons te tNil)) σ H xs := fun H1 e Q q => by
  obtain ⟨b, rfl, hb⟩ := hx
  exact h H1 e _ fun H2 e2 => ⟨b, xs, rfl, hb.imp (ex_l (e.trans e2)) (ex_t (e.trans e2)), fun p hp => q p _ (fresh_back e2 hp) (e2.trans (Ex.new hp)) upd_same⟩
/-- lists joined -/
theorem el_cat {σ : L2.St} {H : Hp} {ta tb : TE} {xs ys : List V} (ha : EvL ta σ H xs) (hb : EvL tb σ H ys) (hz : xs.length + ys.length ≤ 16000000) : EvL (tOp rCat ta tb) σ H (xs ++ ys) := fun H1 e Q q =>
  ha H1 e _ fun a H2 ha e2 h2 => hb H2 (e.trans e2) _ fun b H3 hb e3 h3 => ⟨a, b, xs, ys, rfl, rfl, e3 a _ h2, h3, Nat.le_trans hz (by decide), fun c hc => q c _ (fresh_back (e2.trans e3) hc) ((e2.trans e3).trans (Ex.new hc)) upd_same⟩
theorem pure_listed {K : PySem.W.Frag} {mg : Str → Option Value} (T : Tx K mg) (vs : List V) (H : Hp) (Q : VK) (E : XK) (h : sp_listed K vs H Q E) : t_listed K { nx := fun _ H' => Q .non H', rt := Q } (start N_listed vs) H := by
  obtain ⟨v, xs, rfl, hx, hz, k⟩ := h
  have hx' := hx
  obtain ⟨b, rfl, hb⟩ := hx
  refine s_retL (el_is (el_cat (xs := [nV xs.length]) (el_lst (ea_cons (ev_cb (ea_cons (ev_var rfl) ea_nil) (rc_len hb)) ea_nil) (Nat.le_of_lt (show 1 < 100000 by decide))) (el_listS (ev_var rfl) hx') (by simp; omega)) rfl) k
theorem ok_listed {P : Program} {w : World} {K : PySem.W.Frag} {mg : Str → Option Value} {base : Heap} (T : Tx K mg) : DefE P w K mg base CX0 1 "listed" ["row"] (sp_listed K) := by
  obtain ⟨fd, F⟩ := T.d_listed
  have bd : Binds K fd ["row"] [] := F.bindsN fun _ _ _ _ _ _ us hl => match us, hl with | [_], _ => rfl
  have G : FnOk P w K mg base CX0 1 (He.ga K "listed") fd ["row"] (sp_listed K) := by
    refine F.ok sc_listed (fun vs H Q E h => sl_listed h) (fun cdv A outer s H vs Q E hr h => ⟨t_listed K, PSs.nox ?_, pure_listed T vs H Q E h⟩)
    exact (pss_one (ps_ret (pe_op oCat (pe_lst (pa_cons (pe_callB cLen rfl T.f_len bLen (pa_cons (pv 0) pa_nil)) pa_nil)) (pe_callTy cList rfl T.f_list bList (pa_cons (pv 0) pa_nil)))))
  exact DefE.mk ⟨fd, G, bd⟩ T.g_listed T.p_listed
theorem spl_listed {K : PySem.W.Frag} {H : Hp} {v : V} {xs : List V} (h : SqV K H v xs) (hz : xs.length ≤ 1000000) : SpL (sp_listed K) [v] H (nV xs.length :: xs) := fun H1 e Q q E => ⟨v, xs, rfl, sqV_x _ _ _ _ _ e h, hz, fun p H2 hp e2 h2 => q p H2 hp e2 h2⟩
/-- listed(x) of a value, of a new list -/
theorem el_listed {K : PySem.W.Frag} {σ : L2.St} {H : Hp} {te : TE} {v : V} {xs : List V} {E : XK} (h : Ev te σ H v) (hx : SqV K H v xs) (hz : xs.length ≤ 1000000) : EvL (tCall (sp_listed K) [] E (tCons te tNil)) σ H (nV xs.length :: xs) := el_call (ea_cons h ea_nil) (spl_listed hx hz)
theorem el_listedL {K : PySem.W.Frag} {σ : L2.St} {H : Hp} {te : TE} {xs : List V} {E : XK} (h : EvL te σ H xs) (hz : xs.length ≤ 1000000) : EvL (tCall (sp_listed K) [] E (tCons te tNil)) σ H (nV xs.length :: xs) := fun H1 e Q q =>
  h H1 e _ fun p H2 hp e2 h2 => spl_listed (K := K) ⟨p, rfl, .inl (sq_of h2)⟩ hz H2 (Ex.refl H2) Q (fun b H3 hb e3 h3 => q b H3 (fresh_back e2 hb) (e2.trans e3) h3) E

/-! ### joined -/
def sp_joined (K : PySem.W.Frag) : Sp := fun vs H Q _ => ∃ (v : V) (rows : List (List V)), vs = [v] ∧ LsV SqV K H v rows ∧ rows.flatten.length ≤ 1000000 ∧ RetL rows.flatten H Q
theorem sl_joined {K : PySem.W.Frag} {vs : List V} {H : Hp} {Q : VK} {E : XK} (h : sp_joined K vs H Q E) : vs.length = 1 := by
  obtain ⟨_, _, rfl, _⟩ := h
  rfl
def t_joined (K : PySem.W.Frag) : TS :=
  (tSeq (tAsg (tLst tNil) (gName 1))
  (tSeq (tFor (iList K (tVar 0)) (gName 2) (tDrop (tBM K "list" rExtend (tVar 1) (tCons (tCB (rListS K) (tCons (tVar 2) tNil)) tNil))))
  (tRet (tVar 1))))
theorem flat_take {rows : List (List V)} {i : Nat} {y : List V} (h : rows[i]? = some y) : (rows.take (i + 1)).flatten = (rows.take i).flatten ++ y := by
  rw [take_succ_at h, List.flatten_append]
  simp
theorem flat_take_le (rows : List (List V)) (i : Nat) : (rows.take i).flatten.length ≤ rows.flatten.length := by
  conv => rhs; rw [← List.take_append_drop i rows, List.flatten_append, List.length_append]
  omega
theorem pure_joined {K : PySem.W.Frag} {mg : Str → Option Value} (T : Tx K mg) (vs : List V) (H : Hp) (Q : VK) (E : XK) (h : sp_joined K vs H Q E) : t_joined K { nx := fun _ H' => Q .non H', rt := Q } (start N_joined vs) H := by
  obtain ⟨v, rows, rfl, ⟨a, xs, rfl, h1, h2⟩, hz, k⟩ := h
  have hl : xs.length = rows.length := All2.len h2
  refine q_asgL (el_lst ea_nil (Nat.zero_le _)) fun l H1 hn e1 h1l => ?_
  refine q_forLn (a := a) (xs := xs) (ev_var rfl) (ex_l e1 h1) (fun i σ' H' => ∃ o2, σ' = [some (.ref a), some (.ref l), o2] ∧ Ex H (off H' l) ∧ H' l = some (.lst (rows.take i).flatten))
    (fun H2 e2 => ⟨none, rfl, off_ex (e1.trans e2) hn, e2 l _ h1l⟩) (fun i σ' H' _ p => ?_) ?_ ?_
  · obtain ⟨_, _, e, _⟩ := p
    exact ex_l (e.trans off_in) h1
  · rintro i x σ' H' hx ⟨o2, rfl, e, h3⟩
    obtain ⟨y, hy, hxy⟩ := All2.get h2 hx
    have eI := e.trans off_in
    have h4 := flat_take_le rows (i + 1)
    rw [flat_take hy, List.length_append] at h4
    refine s_extD (P := fun v H5 => ∃ b, v = .ref b ∧ H5 b = some (.lst y)) h3 (ev_var rfl) (EvD.imp (evd_L (el_listS (K := K) (ev_var rfl) (sqV_x _ _ _ _ _ eI hxy))) fun v H5 e5 p5 => ?_) fun b zs H5 e5 hb p5 => ?_
    · obtain ⟨p, rfl, _, hp⟩ := p5
      exact ⟨p, y, rfl, hp, by omega, p, rfl, hp⟩
    · obtain ⟨b2, e6, h6⟩ := p5
      cases e6
      rw [h6] at hb
      cases hb
      refine ⟨_, rfl, ?_, ?_⟩
      · rw [off_upd]
        exact e.trans (off_mono e5)
      · rw [upd_same, flat_take hy]
  · rintro σ' H' ⟨o2, rfl, e, h3⟩
    rw [hl, List.take_length] at h3
    exact s_ret (ev_var rfl) fun H2 e2 => k l H2 hn ((e.trans off_in).trans e2) (e2 l _ h3)
theorem ok_joined {P : Program} {w : World} {K : PySem.W.Frag} {mg : Str → Option Value} {base : Heap} (T : Tx K mg) : DefE P w K mg base CX0 1 "joined" ["rows"] (sp_joined K) := by
  obtain ⟨fd, F⟩ := T.d_joined
  have bd : Binds K fd ["rows"] [] := F.bindsN fun _ _ _ _ _ _ us hl => match us, hl with | [_], _ => rfl
  have G : FnOk P w K mg base CX0 1 (He.ga K "joined") fd ["rows"] (sp_joined K) := by
    refine F.ok sc_joined (fun vs H Q E h => sl_joined h) (fun cdv A outer s H vs Q E hr h => ⟨t_joined K, PSs.nox ?_, pure_joined T vs H Q E h⟩)
    exact (pss_cons (ps_set (i := 1) sc_joined.nd rfl (by first | exact Or.inl rfl | exact Or.inr rfl) (pe_lst pa_nil))
  (pss_cons (ps_for PassesOwn.never rfl (pi_list (pv 0)) (pg_name (i := 2) sc_joined.nd rfl (by first | exact Or.inl rfl | exact Or.inr rfl)) (pss_one (ps_expr (pe_bm PySem.F.plainAttrs_list PySem.F.slot_list_extend PySem.F.type_list_extend mt_extend (pv 1) (pa_cons (pe_callTy cList rfl T.f_list bList (pa_cons (pv 2) pa_nil)) pa_nil)))))
  (pss_one (ps_ret (pv 1)))))
  exact DefE.mk ⟨fd, G, bd⟩ T.g_joined T.p_joined
theorem spl_joined {K : PySem.W.Frag} {H : Hp} {v : V} {rows : List (List V)} (h : LsV SqV K H v rows) (hz : rows.flatten.length ≤ 1000000) : SpL (sp_joined K) [v] H rows.flatten := fun H1 e Q q E => ⟨v, rows, rfl, lsV_x sqV_x _ _ _ _ _ e h, hz, fun p H2 hp e2 h2 => q p H2 hp e2 h2⟩

/-! ### are_unlike -/
def sp_are_unlike (K : PySem.W.Frag) : Sp := fun vs H Q _ => ∃ (v : V) (l : List Nat), vs = [v] ∧ NsV K H v l ∧ l.length ≤ 4000 ∧ RetV (.bl (Sy90.distinct l)) H Q
theorem sl_are_unlike {K : PySem.W.Frag} {vs : List V} {H : Hp} {Q : VK} {E : XK} (h : sp_are_unlike K vs H Q E) : vs.length = 1 := by
  obtain ⟨_, _, rfl, _⟩ := h
  rfl
def t_are_unlike (K : PySem.W.Frag) : TS :=
  (tRet (tOp rEq (tLenSet K (tVar 0)) (tCB (rLenS K) (tCons (tVar 0) tNil))))
theorem distinct_iff : ∀ l : List Nat, Sy90.distinct l = true ↔ l.Nodup
  | [] => by simp [Sy90.distinct]
  | a :: l => by
    unfold Sy90.distinct
    rw [Bool.and_eq_true, distinct_iff l, List.nodup_cons]
    simp
theorem nodup_cast (l : List Nat) : (l.map fun (n : Nat) => (n : Int)).Nodup ↔ l.Nodup := by
  constructor
  · intro h
    exact (List.pairwise_map.mp h).imp fun hne e => hne (by rw [e])
  · intro h
    exact nodup_map h fun x _ y _ n z => n (by omega)
theorem pure_are_unlike {K : PySem.W.Frag} {mg : Str → Option Value} (T : Tx K mg) (vs : List V) (H : Hp) (Q : VK) (E : XK) (h : sp_are_unlike K vs H Q E) : t_are_unlike K { nx := fun _ H' => Q .non H', rt := Q } (start N_are_unlike vs) H := by
  obtain ⟨v, l, rfl, ⟨a, rfl, ha⟩, hz, k⟩ := h
  have hl : (l.map nV).length = l.length := List.length_map ..
  refine s_ret (ev_of (evd_op (P1 := fun x _ => ∃ m : Nat, x = nV m ∧ (m = l.length ↔ l.Nodup)) (fun H1 e1 Q1 q1 => ?_) fun x H1 e1 p1 => evd_of (ev_cb (ea_cons (ev_var rfl) ea_nil) (rc_len (Or.inl (ex_l e1 ha)))) fun H2 e2 => ?_)) fun H1 e1 => k H1 e1
  · refine ev_var (v := .ref a) (i := 0) rfl H1 (Ex.refl _) _ fun H2 e2 => ⟨a, l.map fun (n : Nat) => (n : Int), rfl, by rw [← map_nV]; exact ex_l (e1.trans e2) ha, by rw [List.length_map]; exact hz, fun m hm => q1 _ H2 e2 ⟨m, rfl, ?_⟩⟩
    rw [List.length_map, nodup_cast] at hm
    exact hm
  · obtain ⟨m, rfl, hm⟩ := p1
    refine fun Q2 q2 => ⟨rfl, q2 _ H2 (Ex.refl _) (congrArg V.bl ?_)⟩
    rw [hl]
    by_cases c : l.Nodup
    · rw [(distinct_iff l).mpr c, hm.mpr c]
      exact decide_eq_true rfl
    · have hd : Sy90.distinct l = false := by
        cases h : Sy90.distinct l with
        | false => rfl
        | true => exact absurd ((distinct_iff l).mp h) c
      rw [hd]
      refine decide_eq_false fun z => c (hm.mp ?_)
      have := V.int.inj z
      omega
theorem ok_are_unlike {P : Program} {w : World} {K : PySem.W.Frag} {mg : Str → Option Value} {base : Heap} (T : Tx K mg) : DefE P w K mg base CX0 1 "are_unlike" ["row"] (sp_are_unlike K) := by
  obtain ⟨fd, F⟩ := T.d_are_unlike
  have bd : Binds K fd ["row"] [] := F.bindsN fun _ _ _ _ _ _ us hl => match us, hl with | [_], _ => rfl
  have G : FnOk P w K mg base CX0 1 (He.ga K "are_unlike") fd ["row"] (sp_are_unlike K) := by
    refine F.ok sc_are_unlike (fun vs H Q E h => sl_are_unlike h) (fun cdv A outer s H vs Q E hr h => ⟨t_are_unlike K, PSs.nox ?_, pure_are_unlike T vs H Q E h⟩)
    exact (pss_one (ps_ret (pe_cmpR oEq (pe_lenSet rfl T.f_len rfl T.f_set (pv 0)) (pe_callB cLen rfl T.f_len bLen (pa_cons (pv 0) pa_nil)) (nomark _))))
  exact DefE.mk ⟨fd, G, bd⟩ T.g_are_unlike T.p_are_unlike
theorem spv_are_unlike {K : PySem.W.Frag} {H : Hp} {v : V} {l : List Nat} (h : NsV K H v l) (hz : l.length ≤ 4000) : SpV (sp_are_unlike K) [v] H (.bl (Sy90.distinct l)) := fun H1 e Q q E => ⟨v, l, rfl, nsV_x _ _ _ _ _ e h, hz, q⟩

/-! ### moves_of -/
def movesL (l : List Nat) : List (Nat × Nat) := (List.range (l.length / 2)).map fun k => (l.getD (2 * k) 0, l.getD (2 * k + 1) 0)
def sp_moves_of (K : PySem.W.Frag) : Sp := fun vs H Q _ => ∃ (v : V) (l : List Nat), vs = [v] ∧ NsV K H v l ∧ l.length ≤ 4000 ∧ RetD (fun v H2 => LlV PrV K H2 v (movesL l)) H Q
theorem sl_moves_of {K : PySem.W.Frag} {vs : List V} {H : Hp} {Q : VK} {E : XK} (h : sp_moves_of K vs H Q E) : vs.length = 1 := by
  obtain ⟨_, _, rfl, _⟩ := h
  rfl
def t_moves_of (K : PySem.W.Frag) : TS :=
  (tRet (tLc (iRng1 (tCons (tOp rFdivI (tCB (rLenS K) (tCons (tVar 0) tNil)) (tC (.int 2))) tNil)) (gName 1) tYes (tTup (tCons (tOp (rIxL K) (tVar 0) (tOp rMulI (tC (.int 2)) (tVar 1))) (tCons (tOp (rIxL K) (tVar 0) (tOp rAddI (tOp rMulI (tC (.int 2)) (tVar 1)) (tC (.int 1)))) tNil))) [1]))
theorem pure_moves_of {K : PySem.W.Frag} {mg : Str → Option Value} (T : Tx K mg) (vs : List V) (H : Hp) (Q : VK) (E : XK) (h : sp_moves_of K vs H Q E) : t_moves_of K { nx := fun _ H' => Q .non H', rt := Q } (start N_moves_of vs) H := by
  obtain ⟨v, l, rfl, ⟨a, rfl, ha⟩, hz, k⟩ := h
  have hl : (l.map nV).length = l.length := List.length_map ..
  refine s_retD (evd_lcR (K := K) prV_st (fun _ => true) (fun k => (l.getD (2 * k) 0, l.getD (2 * k + 1) 0)) (n := l.length / 2) (ea_cons (ev_is (ev_op (ev_cb (ea_cons (ev_var rfl) ea_nil) (rc_len (Or.inl ha))) ev_c (rv_I ⟨by decide, by decide⟩)) (congrArg V.int (by rw [hl]; omega))) ea_nil) (by omega) (fun _ => rfl) (fun _ _ _ _ => et_yes) ?_) fun v H1 e1 p1 => k v H1 e1 ?_
  · intro i H1 e1 hi _
    have ha1 := ex_l e1 ha
    have hm : ∀ {H2 : Hp}, Ev (tOp rMulI (tC (.int 2)) (tVar 1)) [some (.ref a), some (nV i)] H2 (nV (2 * i)) := ev_is (ev_op ev_c (ev_var rfl) (rv_I (.inl ⟨by decide, by decide⟩))) (congrArg V.int (by omega))
    refine EvD.imp (evd_tup (vs := [nV (l.getD (2 * i) 0), nV (l.getD (2 * i + 1) 0)]) (ea_cons (ev_op (ev_var rfl) hm (rv_ixL ha1 (at_nat (by omega)))) (ea_cons (ev_op (ev_var rfl) (ev_is (w := nV (2 * i + 1)) (ev_op hm ev_c rv_I0) (congrArg V.int (by omega))) (rv_ixL ha1 (at_nat (by omega)))) ea_nil)) (Nat.le_of_lt (show 2 < 100000 by decide))) fun v H2 e2 p2 => ?_
    obtain ⟨t, rfl, ht⟩ := p2
    exact ⟨t, rfl, st_of ht⟩
  · obtain ⟨p, rfl, hp, xs, h4, h5⟩ := p1
    rw [givenD_all] at h5
    exact ⟨p, xs, rfl, h4, h5⟩
theorem ok_moves_of {P : Program} {w : World} {K : PySem.W.Frag} {mg : Str → Option Value} {base : Heap} (T : Tx K mg) : DefE P w K mg base CX0 1 "moves_of" ["row"] (sp_moves_of K) := by
  obtain ⟨fd, F⟩ := T.d_moves_of
  have bd : Binds K fd ["row"] [] := F.bindsN fun _ _ _ _ _ _ us hl => match us, hl with | [_], _ => rfl
  have G : FnOk P w K mg base CX0 1 (He.ga K "moves_of") fd ["row"] (sp_moves_of K) := by
    refine F.ok sc_moves_of (fun vs H Q E h => sl_moves_of h) (fun cdv A outer s H vs Q E hr h => ⟨t_moves_of K, PSs.nox ?_, pure_moves_of T vs H Q E h⟩)
    exact (pss_one (ps_ret (pe_lc (own := [("k", 1)]) (g := (gName 1)) (tt := tYes) (te := (tTup (tCons (tOp (rIxL K) (tVar 0) (tOp rMulI (tC (.int 2)) (tVar 1))) (tCons (tOp (rIxL K) (tVar 0) (tOp rAddI (tOp rMulI (tC (.int 2)) (tVar 1)) (tC (.int 1)))) tNil)))) rfl sc_moves_of.nd (pi_range1 rfl T.f_range (pa_cons (pe_op oFdiv (pe_callB cLen rfl T.f_len bLen (pa_cons (pv 0) pa_nil)) pe_int) pa_nil)) (blkOk_by (N := N_moves_of) (sc := defScope s_moves_of) (by decide +kernel)) (fun _ _ _ _ _ => (pg_name (i := 1) sc_moves_of.nd rfl (by first | exact Or.inl rfl | exact Or.inr rfl))) (fun _ _ _ _ _ => pts_nil) (fun _ _ _ _ _ => (pe_tup (pa_cons (pe_ix ix_list (pv 0) (pe_op oMul pe_int (pv 1)) (fun _ _ => rfl)) (pa_cons (pe_ix ix_list (pv 0) (pe_op oAdd (pe_op oMul pe_int (pv 1)) pe_int) (fun _ _ => rfl)) pa_nil)))))))
  exact DefE.mk ⟨fd, G, bd⟩ T.g_moves_of T.p_moves_of
theorem spd_moves_of {K : PySem.W.Frag} {H : Hp} {v : V} {l : List Nat} (h : NsV K H v l) (hz : l.length ≤ 4000) : SpD (sp_moves_of K) [v] H fun v H2 => LlV PrV K H2 v (movesL l) := fun Q q E => ⟨v, l, rfl, h, hz, q⟩
end Sk
namespace Sk
open PySem L2 Evl Sc
/-! ### are_moves -/
theorem movesL_cons (a b : Nat) (l : List Nat) : movesL (a :: b :: l) = (a, b) :: movesL l := by
  unfold movesL
  rw [show (a :: b :: l).length / 2 = l.length / 2 + 1 by simp only [List.length_cons]; omega, List.range_succ_eq_map, List.map_cons, List.map_map]
  refine congrArg (List.cons (a, b)) (List.map_congr_left fun k _ => ?_)
  show ((a :: b :: l).getD (2 * (k + 1)) 0, (a :: b :: l).getD (2 * (k + 1) + 1) 0) = _
  rw [show 2 * (k + 1) = 2 * k + 1 + 1 by omega, show 2 * k + 1 + 1 + 1 = (2 * k + 1) + 1 + 1 by omega]
  rfl
theorem couples_eq : ∀ (l : List Nat), Sy90.couples l = if l.length % 2 = 0 then some (movesL l) else none
  | [] => rfl
  | [a] => rfl
  | a :: b :: l => by
    have ih := couples_eq l
    unfold Sy90.couples
    rw [ih, movesL_cons]
    simp only [List.length_cons]
    by_cases c : l.length % 2 = 0
    · rw [if_pos c, if_pos (by omega)]
      rfl
    · rw [if_neg c, if_neg (by omega)]
      rfl
theorem movesL_len (l : List Nat) : (movesL l).length = l.length / 2 := by
  unfold movesL
  rw [List.length_map, List.length_range]
def moveOk (n : Nat) (x : Nat × Nat) : Bool := decide (x.1 < n) && decide (x.2 ≤ 6)
theorem list_eq (s : Sy90.St) (l : List Nat) : Sy90.list s l = if (!(decide (l = []) || decide (l.length % 2 = 1)) && ((movesL l).all (moveOk s.things.length) && Sy90.distinct ((movesL l).map fun (x : Nat × Nat) => x.1))) = true then some (movesL l) else none := by
  unfold Sy90.list
  rw [couples_eq]
  by_cases c : l.length % 2 = 0
  · rw [if_pos c]
    show (if _ then none else some (movesL l)) = _
    have he : (movesL l).isEmpty = decide (l = []) := by
      cases l with
      | nil => rfl
      | cons a r =>
        have := movesL_len (a :: r)
        cases hm : movesL (a :: r) with
        | nil =>
          rw [hm] at this
          simp only [List.length_nil, List.length_cons] at this c
          omega
        | cons x y => rfl
    have ha : ((movesL l).any fun (x : Nat × Nat) => decide (s.things.length ≤ x.1) || decide (6 < x.2)) = !(movesL l).all (moveOk s.things.length) := by
      rw [List.not_all_eq_any_not]
      congr 1
      funext x
      unfold moveOk
      by_cases c1 : x.1 < s.things.length <;> by_cases c2 : x.2 ≤ 6 <;> simp [c1, c2] <;> omega
    rw [he, ha, decide_eq_false (show ¬ l.length % 2 = 1 by omega), Bool.or_false]
    cases decide (l = []) <;> cases (movesL l).all (moveOk s.things.length) <;> cases Sy90.distinct ((movesL l).map fun (x : Nat × Nat) => x.1) <;> rfl
  · rw [if_neg c, decide_eq_true (show l.length % 2 = 1 by omega), Bool.or_true]
    rfl
def sp_are_moves (K : PySem.W.Frag) : Sp := fun vs H Q _ => ∃ (A : Adr) (s : Sy90.St) (r : List (Nat × Nat)) (v : V) (l : List Nat), vs = [.ref A.a, v] ∧ StgAt K H A s r ∧ NsV K H v l ∧ l.length ≤ 4000 ∧ RetV (.bl (Sy90.list s l).isSome) H Q
theorem sl_are_moves {K : PySem.W.Frag} {vs : List V} {H : Hp} {Q : VK} {E : XK} (h : sp_are_moves K vs H Q E) : vs.length = 2 := by
  obtain ⟨_, _, _, _, _, rfl, _⟩ := h
  rfl
def t_are_moves (K : PySem.W.Frag) : TS :=
  (tSeq (tIfS (tOr (tTest (tOp (rEqD K) (tVar 1) (tLst tNil))) (tTest (tOp rEq (tOp rModI (tCB (rLenS K) (tCons (tVar 1) tNil)) (tC (.int 2))) (tC (.int 1))))) (tRet (tC (.bl false))) tNext)
  (tSeq (tAsg (tCall (sp_moves_of K) [] E0 (tCons (tVar 1) tNil)) (gName 2))
  (tSeq (tIfS (tNot (tB (tCB (rAll K) (tCons (tLc (iList K (tVar 2)) (gTup K 2 (gCons (gName 3) (gCons (gName 4) gNil))) tYes (tAndV (tOp rLtI (tVar 3) (tCB (rLenS K) (tCons (tFld K (tVar 0) "positions") tNil))) (tOp rLeI (tVar 4) (tC (.int 6)))) [3, 4]) tNil)))) (tRet (tC (.bl false))) tNext)
  (tRet (tCall (sp_are_unlike K) [] E0 (tCons (tLc (iList K (tVar 2)) (gTup K 2 (gCons (gName 3) (gCons (gName 4) gNil))) tYes (tVar 3) [3, 4]) tNil))))))
theorem eqv_nil (l : List Nat) : PyData.eqv (.list ((l.map fun (n : Nat) => (n : Int)).map PySem.W.Datum.toD)) (.list []) = decide (l = []) := by
  cases l with
  | nil => simp [PyData.eqv, PyData.eqvAll]
  | cons a r => simp [PyData.eqv, PyData.eqvAll]
theorem nums_dp {K : PySem.W.Frag} {H : Hp} : ∀ l : List Nat, DpAll K H (l.map nV) ((l.map fun (n : Nat) => (n : Int)).map PySem.W.Datum.toD)
  | [] => .nil
  | n :: r => .cons (.int n) (nums_dp r)
/-- x == [] -/
theorem ev_isNil {K : PySem.W.Frag} {σ : L2.St} {H : Hp} {te : TE} {a : Addr} {l : List Nat} (h : Ev te σ H (.ref a)) (ha : SqL K H a (l.map nV)) : Ev (tOp (rEqD K) te (tLst tNil)) σ H (.bl (decide (l = []))) := ev_of (evd_op (P1 := fun x _ => x = .ref a) (evd_of h fun _ _ => rfl) fun x H1 e1 p1 => EvD.imp (evd_lst ea_nil (Nat.zero_le _)) fun y H2 e2 p2 => by
  obtain ⟨b, rfl, _, hb⟩ := p2
  subst p1
  exact fun Q q => ⟨_, _, Dp.lst (ex_l (e1.trans e2) ha) (nums_dp l), Dp.lst (sq_of hb) .nil, PySem.W.shaped_ints _, rfl, q _ H2 (Ex.refl _) (congrArg V.bl (eqv_nil l))⟩)
theorem ev_neNil {K : PySem.W.Frag} {σ : L2.St} {H : Hp} {te : TE} {a : Addr} {l : List Nat} (h : Ev te σ H (.ref a)) (ha : SqL K H a (l.map nV)) : Ev (tOp (rNeD K) te (tLst tNil)) σ H (.bl (!decide (l = []))) := ev_of (evd_op (P1 := fun x _ => x = .ref a) (evd_of h fun _ _ => rfl) fun x H1 e1 p1 => EvD.imp (evd_lst ea_nil (Nat.zero_le _)) fun y H2 e2 p2 => by
  obtain ⟨b, rfl, _, hb⟩ := p2
  subst p1
  exact fun Q q => ⟨_, _, Dp.lst (ex_l (e1.trans e2) ha) (nums_dp l), Dp.lst (sq_of hb) .nil, PySem.W.shaped_ints _, rfl, q _ H2 (Ex.refl _) (congrArg V.bl (congrArg Bool.not (eqv_nil l)))⟩)
theorem pure_are_moves {K : PySem.W.Frag} {mg : Str → Option Value} (T : Tx K mg) (vs : List V) (H : Hp) (Q : VK) (E : XK) (h : sp_are_moves K vs H Q E) : t_are_moves K { nx := fun _ H' => Q .non H', rt := Q } (start N_are_moves vs) H := by
  obtain ⟨A, s, r, v, l, rfl, S, ⟨a, rfl, ha⟩, hz, k⟩ := h
  have hl : (l.map nV).length = l.length := List.length_map ..
  have h2 : (movesL l).length ≤ 4000 := by rw [movesL_len]; omega
  rw [list_eq] at k
  refine q_when (b := decide (l = []) || decide (l.length % 2 = 1)) (et_or (et_test (ev_isNil (ev_var rfl) ha)) fun _ => et_is (et_test (ev_op (ev_op (ev_cb (ea_cons (ev_var rfl) ea_nil) (rc_len (Or.inl ha))) ev_c (rv_I (by decide))) ev_c (rv_eq rfl))) (decide_eq_decide.mpr ⟨fun z => by have := V.int.inj z; rw [hl] at this; omega, fun z => congrArg V.int (by rw [hl]; omega)⟩)) (fun hb H1 e1 => ?_) fun hb H1 e1 => ?_
  · rw [hb] at k
    exact s_ret ev_c fun H2 e2 => k H2 (e1.trans e2)
  · rw [hb] at k
    refine q_asgD (evd_callV (ea_cons (ev_var rfl) ea_nil) fun H2 e2 => spd_moves_of ⟨a, rfl, ex_l (e1.trans e2) ha⟩ hz) fun w H2 e2 p2 => ?_
    obtain ⟨m, xs, rfl, hm1, hm2⟩ := p2
    have hm3 : All2 (fun x y => ∃ T u w, x = V.ref T ∧ SqT K H2 T [u, w] ∧ PrS u w y) xs (movesL l) := all2_mono (fun x y h => by
      obtain ⟨T, rfl, hT⟩ := h
      exact ⟨T, _, _, rfl, hT, rfl, rfl⟩) hm2
    have e02 := e1.trans e2
    have mx : ∀ {H3 : Hp}, Ex H2 H3 → All2 (fun x y => ∃ T u w, x = V.ref T ∧ SqT K H3 T [u, w] ∧ PrS u w y) xs (movesL l) := fun e => all2_mono (fun x y h => by
      obtain ⟨T, u, w, h1, h2, h3⟩ := h
      exact ⟨T, u, w, h1, ex_t e h2, h3⟩) hm3
    refine q_when (b := !(movesL l).all (moveOk s.things.length)) (et_not (et_B (ev_cbD (z := .bl ((movesL l).all (moveOk s.things.length))) (evd_lcDP (K := K) (R := BlV) (fun _ => PrS) (fun _ _ _ _ _ _ h => h) blV_st (fun _ => true) (fun i => moveOk s.things.length ((movesL l).getD i (0, 0))) (evd_of (v := .ref m) (ev_var rfl) fun H3 e3 => ⟨m, xs, rfl, sq_of (e3 m _ hm1), mx e3⟩) (by omega) (fun _ _ => rfl) (fun _ _ _ _ _ _ _ _ => et_yes) ?_) ?_))) (fun hc H3 e3 => ?_) fun hc H3 e3 => ?_
    · rintro i u w y H3 e3 hy ⟨rfl, rfl⟩ _
      rw [getD_at hy]
      have S3 := S.x (e02.trans e3)
      refine evd_of (ev_andV (a := decide (y.1 < s.things.length)) (b := decide (y.2 ≤ 6)) (ev_is (ev_op (ev_var rfl) (ev_cb (ea_cons (ev_p T S3 (ev_var rfl)) ea_nil) (rc_len (Or.inl (sq_of S3.fp)))) rv_I0) (congrArg V.bl (decide_eq_decide.mpr ?_))) fun _ => ev_is (ev_op (ev_var rfl) ev_c rv_I0) (congrArg V.bl (decide_eq_decide.mpr (by omega)))) fun _ _ => rfl
      rw [List.length_map, marks_len]
      omega
    · rintro x H3 e3 ⟨p, rfl, _, zs, h6, h7⟩
      have h7 := all2_bl h7
      rw [givenD_all, map_getD (movesL l) (0, 0) (moveOk s.things.length)] at h7
      subst h7
      refine RC_is (rc_all (sq_of h6)) (congrArg V.bl ?_)
      rw [List.all_map]
      rfl
    · have hc : (movesL l).all (moveOk s.things.length) = false := by
        cases h : (movesL l).all (moveOk s.things.length) <;> rw [h] at hc <;> first | rfl | cases hc
      rw [hc] at k
      exact s_ret ev_c fun H4 e4 => k H4 (e02.trans (e3.trans e4))
    · have hc : (movesL l).all (moveOk s.things.length) = true := by
        cases h : (movesL l).all (moveOk s.things.length) <;> rw [h] at hc <;> first | rfl | cases hc
      rw [hc] at k
      have hk : (if (!false && (true && Sy90.distinct ((movesL l).map fun (x : Nat × Nat) => x.1))) = true then some (movesL l) else none).isSome = Sy90.distinct ((movesL l).map fun (x : Nat × Nat) => x.1) := by
        cases Sy90.distinct ((movesL l).map fun (x : Nat × Nat) => x.1) <;> rfl
      rw [hk] at k
      refine s_retD (P := fun v _ => v = .bl (Sy90.distinct ((movesL l).map fun (x : Nat × Nat) => x.1))) (evd_call (evad_one (EvD.imp (evd_lcDP (K := K) (R := NumV) (fun _ => PrS) (fun _ _ _ _ _ _ h => h) numV_st (fun _ => true) (fun i => ((movesL l).getD i (0, 0)).1) (evd_of (v := .ref m) (ev_var rfl) fun H4 e4 => ⟨m, xs, rfl, sq_of ((e3.trans e4) m _ hm1), mx (e3.trans e4)⟩) (by omega) (fun _ _ => rfl) (fun _ _ _ _ _ _ _ _ => et_yes) ?_) fun v H4 e4 p4 => ?_))) fun v H4 e4 p4 => by rw [p4]; exact k H4 (e02.trans (e3.trans e4))
      · rintro i u w y H4 e4 hy ⟨rfl, rfl⟩ _
        rw [getD_at hy]
        exact evd_of (ev_var rfl) fun _ _ => rfl
      · obtain ⟨p, rfl, _, zs, h6, h7⟩ := p4
        have h7 := all2_num h7
        rw [givenD_all, map_getD (movesL l) (0, 0) fun x => x.1] at h7
        subst h7
        exact fun Q2 q2 E2 => spv_are_unlike (K := K) (nlV_of h6).s (by rw [List.length_map]; omega) H4 (Ex.refl _) Q2 (fun H5 e5 => q2 _ H5 e5 rfl) E2
theorem ok_are_moves {P : Program} {w : World} {K : PySem.W.Frag} {mg : Str → Option Value} {base : Heap} (T : Tx K mg) (D_are_unlike : DefE P w K mg base (CX0) 1 "are_unlike" ["row"] (sp_are_unlike K)) (D_moves_of : DefE P w K mg base (CX0) 1 "moves_of" ["row"] (sp_moves_of K)) : DefE P w K mg base CX0 2 "are_moves" ["stage", "row"] (sp_are_moves K) := by
  obtain ⟨fd, F⟩ := T.d_are_moves
  have bd : Binds K fd ["stage", "row"] [] := F.bindsN fun _ _ _ _ _ _ us hl => match us, hl with | [_, _], _ => rfl
  have G : FnOk P w K mg base CX0 2 (He.ga K "are_moves") fd ["stage", "row"] (sp_are_moves K) := by
    refine F.ok sc_are_moves (fun vs H Q E h => sl_are_moves h) (fun cdv A outer s H vs Q E hr h => ⟨t_are_moves K, PSs.nox ?_, pure_are_moves T vs H Q E h⟩)
    exact (pss_cons (ps_if (PW.pt (pw_or (pt_cmpR (op_eqD (hu64 hr)) (pv 1) (pe_lst pa_nil) (nomark _)) (pw_or1 (pt_cmpR oEq (pe_op oMod (pe_callB cLen rfl T.f_len bLen (pa_cons (pv 1) pa_nil)) pe_int) pe_int (nomark _))))) (pss_one (ps_ret pe_bl)) pss_nil)
  (pss_cons (ps_set (i := 2) sc_are_moves.nd rfl (by first | exact Or.inl rfl | exact Or.inr rfl) (pe_callE D_moves_of (hr.mono (by decide)) rfl pass0 (by exact (pa_cons (pv 1) pa_nil))))
  (pss_cons (ps_if (pt_not (pt_val (pe_callB (cr_all rfl) rfl T.f_all bAll (pa_cons (pe_lc (own := [("bar", 3), ("target", 4)]) (g := (gTup K 2 (gCons (gName 3) (gCons (gName 4) gNil)))) (tt := tYes) (te := (tAndV (tOp rLtI (tVar 3) (tCB (rLenS K) (tCons (tFld K (tVar 0) "positions") tNil))) (tOp rLeI (tVar 4) (tC (.int 6))))) rfl sc_are_moves.nd (pi_list (pv 2)) (blkOk_by (N := N_are_moves) (sc := defScope s_are_moves) (by decide +kernel)) (fun _ _ _ _ _ => (pg_tup rfl (pgs_cons (pg_name (i := 3) sc_are_moves.nd rfl (by first | exact Or.inl rfl | exact Or.inr rfl)) (pgs_cons (pg_name (i := 4) sc_are_moves.nd rfl (by first | exact Or.inl rfl | exact Or.inr rfl)) pgs_nil)))) (fun _ _ _ _ _ => pts_nil) (fun _ _ _ _ _ => (pe_and (pe_cmpR oLt (pv 3) (pe_callB cLen rfl T.f_len bLen (pa_cons (pe_fld (pv 0) rfl) pa_nil)) (nomark _)) (pe_one (pe_cmpR oLe (pv 4) (pe_glob rfl T.m_MOST_PLACE.2 ⟨_, rfl⟩) (nomark _)))))) pa_nil)))) (pss_one (ps_ret pe_bl)) pss_nil)
  (pss_one (ps_ret (pe_callE D_are_unlike (hr.mono (by decide)) rfl pass0 (by exact (pa_cons (pe_lc (own := [("bar", 3), ("target", 4)]) (g := (gTup K 2 (gCons (gName 3) (gCons (gName 4) gNil)))) (tt := tYes) (te := (tVar 3)) rfl sc_are_moves.nd (pi_list (pv 2)) (blkOk_by (N := N_are_moves) (sc := defScope s_are_moves) (by decide +kernel)) (fun _ _ _ _ _ => (pg_tup rfl (pgs_cons (pg_name (i := 3) sc_are_moves.nd rfl (by first | exact Or.inl rfl | exact Or.inr rfl)) (pgs_cons (pg_name (i := 4) sc_are_moves.nd rfl (by first | exact Or.inl rfl | exact Or.inr rfl)) pgs_nil)))) (fun _ _ _ _ _ => pts_nil) (fun _ _ _ _ _ => (pv 3))) pa_nil))))))))
  exact DefE.mk ⟨fd, G, bd⟩ T.g_are_moves T.p_are_moves
theorem spv_are_moves {K : PySem.W.Frag} {H : Hp} {A : Adr} {s : Sy90.St} {r : List (Nat × Nat)} {v : V} {l : List Nat} (S : StgAt K H A s r) (h : NsV K H v l) (hz : l.length ≤ 4000) : SpV (sp_are_moves K) [.ref A.a, v] H (.bl (Sy90.list s l).isSome) := fun H1 e Q q E => ⟨A, s, r, v, l, rfl, S.x e, nsV_x _ _ _ _ _ e h, hz, q⟩
end Sk
namespace Sk
open PySem L2 Evl Sc
theorem RV_is {r : R2} {x y z w : V} {H : Hp} (h : RV r x y H z) (e : z = w) : RV r x y H w := e ▸ h
/-! ### the loft -/
def lftF (a : Addr) : List (Str × V) := [("stage", .ref a)]
structure LftAt (K : PySem.W.Frag) (H : Hp) (l dx : Addr) (A : Adr) (S : Sy92.St) : Prop where
  o : H l = some (.ins (He.ga K "Loft") dx (lftF A.a))
  st : StgAt K H A S.stage S.ropes
  n : l ∉ A.all
def outV (a : Sy92.Ans) : List V := (Sy92Neutral.out a).map V.int
/-- what a call that answers hands back -/
def RetA (K : PySem.W.Frag) (l dx : Addr) (A : Adr) (S : Sy92.St) (ans : List V) (H : Hp) (Q : VK) : Prop := ∀ A2 p H2, LftAt K H2 l dx A2 S → Frm (l :: A.all) H H2 → (∀ b ∈ A2.all, b ∈ A.all ∨ H b = none) → (H p = none ∨ p ∈ l :: A.all) → H2 p = some (.lst ans) → Q (.ref p) H2
/-- an answer, or a refusal that leaves the state -/
def RetC (K : PySem.W.Frag) (l dx : Addr) (A : Adr) (S : Sy92.St) (r : Sy92.St × Sy92.Ans) (H : Hp) (Q : VK) (E : XK) : Prop := (∀ c, r = (S, Sy92.ok c) → RetX K c H E) ∧ RetA K l dx A r.1 (outV r.2) H Q
section
variable {K : PySem.W.Frag} {mg : Str → Option Value} {H H1 : Hp} {l dx : Addr} {A : Adr} {S : Sy92.St} {σ : L2.St} {ta : TE} {Q : VK} {E : XK}
theorem LftAt.x (L : LftAt K H l dx A S) (e : Ex H H1) : LftAt K H1 l dx A S := ⟨e l _ L.o, L.st.x e, L.n⟩
theorem ev_st (T : Tx K mg) (L : LftAt K H l dx A S) (h : Ev ta σ H (.ref l)) : Ev (tFld K ta "stage") σ H (.ref A.a) := ev_fld h L.o T.c_Loft T.n_Loft_stage rfl
theorem RetA.new {ans : List V} (k : RetA K l dx A S ans H Q) (L : LftAt K H l dx A S) : RetL ans H Q := fun p H2 hp e h => k A p H2 (L.x e) (Frm.of e) (fun b hb => .inl hb) (.inl hp) h
/-- behind writes -/
theorem RetA.fin {ans : List V} {A2 : Adr} {p : Addr} {H2 H3 : Hp} (k : RetA K l dx A S ans H Q) (f : Frm (l :: A.all) H H2) (L : LftAt K H2 l dx A2 S) (n : ∀ b ∈ A2.all, b ∈ A.all ∨ H b = none) (hp : H2 p = none) (e : Ex H2 H3) (h : H3 p = some (.lst ans)) : Q (.ref p) H3 := by
  refine k A2 p H3 (L.x e) (f.trans (Frm.of e)) n ?_ h
  by_cases c : p ∈ l :: A.all
  · exact .inr c
  · refine .inl ?_
    cases q : H p with
    | none => rfl
    | some o =>
      have := f p o q c
      rw [hp] at this
      cases this
theorem RetA.go {ans : List V} (k : RetA K l dx A S ans H Q) (e : Ex H H1) : RetA K l dx A S ans H1 Q := fun A2 p H2 L f n hp h => k A2 p H2 L ((Frm.of e).trans f) (fun b hb => (n b hb).imp id (fresh_back e)) (hp.imp (fresh_back e) id) h
end
theorem out_ok (v : Int) : outV (Sy92.ok v) = [.int v] := rfl

/-! ### Loft() -/
def sp_Loft___init__ (K : PySem.W.Frag) : Sp := fun vs H Q _ => ∃ (x dx : Addr), vs = [.ref x] ∧ H x = some (.ins (He.ga K "Loft") dx []) ∧ ∀ A H2, LftAt K H2 x dx A Sy92.init → Frm [x] H H2 → (∀ b ∈ A.all, H b = none) → Q .non H2
theorem sl_Loft___init__ {K : PySem.W.Frag} {vs : List V} {H : Hp} {Q : VK} {E : XK} (h : sp_Loft___init__ K vs H Q E) : vs.length = 1 := by
  obtain ⟨_, _, rfl, _⟩ := h
  rfl
def t_Loft___init__ (K : PySem.W.Frag) : TS :=
  (sFld K (tVar 0) (tMake (He.ga K "Stage") (sp_Stage___init__ K) [] E0 (tCons (tLst (tCons (tC (.int 0)) tNil)) tNil)) "stage")
theorem pure_Loft___init__ {K : PySem.W.Frag} {mg : Str → Option Value} (T : Tx K mg) (vs : List V) (H : Hp) (Q : VK) (E : XK) (h : sp_Loft___init__ K vs H Q E) : t_Loft___init__ K { nx := fun _ H' => Q .non H', rt := Q } (start N_Loft___init__ vs) H := by
  obtain ⟨x, dx, rfl, h0, k⟩ := h
  refine s_fldD (P := fun v H1 => ∃ A, v = .ref A.a ∧ FrA A H ∧ StgAt K H1 A (Sy90.fresh [0]) ([0].map fun _ => (0, 1))) h0 T.c_Loft T.n_Loft_stage (by show 0 < 1000; decide) (ev_var rfl) (evd_stage (K := K) (EvD.imp (evd_lst (vs := [nV 0]) (ea_cons ev_c ea_nil) (Nat.le_of_lt (show 1 < 100000 by decide))) fun v H1 e1 p1 => ?_) (by decide)) ?_ fun v H1 e1 p1 => ?_
  · obtain ⟨p, rfl, _, hp⟩ := p1
    exact (nlV_of (ns := [0]) hp).s
  · rintro v H1 H2 e ⟨A, h1, h2, h3⟩
    exact ⟨A, h1, h2, h3.x e⟩
  · obtain ⟨A, rfl, hf, hA⟩ := p1
    have hx : x ∉ A.all := fun z => by
      rw [hf x z] at h0
      cases h0
    have fx : Fix H1 (upd H1 x (.ins (He.ga K "Loft") dx (lftF A.a))) := Fix.mut (e1 x _ h0) rfl
    exact k A _ ⟨upd_same, hA.off (M := [x]) (Frm.upd List.mem_cons_self) fx fun b hb z => hx (List.mem_singleton.mp z ▸ hb), hx⟩ ((Frm.of e1).trans (Frm.upd List.mem_cons_self)) hf
theorem ok_Loft___init__ {P : Program} {w : World} {K : PySem.W.Frag} {mg : Str → Option Value} {base : Heap} (T : Tx K mg) (D_Stage___init__ : MakeE P w K mg base CX0 1 "Stage" ["self", "positions"] (sp_Stage___init__ K)) : MakeE P w K mg base CX0 3 "Loft" ["self"] (sp_Loft___init__ K) := by
  obtain ⟨fd, F⟩ := T.d_Loft___init__
  have bd : Binds K fd ["self"] [] := F.bindsN fun _ _ _ _ _ _ us hl => match us, hl with | [_], _ => rfl
  have G : FnOk P w K mg base CX0 3 (He.ma K (He.ga K "Loft") "__init__") fd ["self"] (sp_Loft___init__ K) := by
    refine F.ok sc_Loft___init__ (fun vs H Q E h => sl_Loft___init__ h) (fun cdv A outer s H vs Q E hr h => ⟨t_Loft___init__ K, PSs.nox ?_, pure_Loft___init__ T vs H Q E h⟩)
    exact (pss_one (ps_fld (pv 0) (pe_makeE D_Stage___init__ (hr.mono (by decide)) rfl pass0 (by exact (pa_cons (pe_lst (pa_cons pe_int pa_nil)) pa_nil))) rfl))
  exact MakeE.mk ⟨fd, G, bd⟩ T.k_Loft T.g_Loft

/-! ### want_bar, want_cue, want_none_started -/
def sp_Loft_want_bar (K : PySem.W.Frag) : Sp := fun vs H Q E => ∃ (l dx : Addr) (A : Adr) (S : Sy92.St) (k : Nat), vs = [.ref l, nV k] ∧ LftAt K H l dx A S ∧ (k < S.stage.things.length → RetV .non H Q) ∧ (S.stage.things.length ≤ k → RetX K (-2) H E)
theorem sl_Loft_want_bar {K : PySem.W.Frag} {vs : List V} {H : Hp} {Q : VK} {E : XK} (h : sp_Loft_want_bar K vs H Q E) : vs.length = 2 := by
  obtain ⟨_, _, _, _, _, rfl, _⟩ := h
  rfl
def t_Loft_want_bar (K : PySem.W.Frag) (E : XK) : TS :=
  (tDrop (tCall (sp_want K) [] E (tCons (tOp rLtI (tVar 1) (tCB (rLenS K) (tCons (tFld K (tFld K (tVar 0) "stage") "positions") tNil))) (tCons (tC (.int (-2))) tNil))))
theorem pure_Loft_want_bar {K : PySem.W.Frag} {mg : Str → Option Value} (T : Tx K mg) (vs : List V) (H : Hp) (Q : VK) (E : XK) (h : sp_Loft_want_bar K vs H Q E) : t_Loft_want_bar K E { nx := fun _ H' => Q .non H', rt := Q } (start N_Loft_want_bar vs) H := by
  obtain ⟨l, dx, A, S, i, rfl, L, k1, k2⟩ := h
  refine s_refuse (b := decide (i < S.stage.things.length)) (ev_is (ev_op (ev_var rfl) (ev_cb (ea_cons (ev_p T L.st (ev_st T L (ev_var rfl))) ea_nil) (rc_len (Or.inl (sq_of L.st.fp)))) rv_I0) (congrArg V.bl (decide_eq_decide.mpr ?_))) ev_c (fun hb H1 e1 => k1 (of_decide_eq_true hb) H1 e1) fun hb => k2 (by have := of_decide_eq_false hb; omega)
  rw [List.length_map, marks_len]
  omega
theorem ok_Loft_want_bar {P : Program} {w : World} {K : PySem.W.Frag} {mg : Str → Option Value} {base : Heap} (T : Tx K mg) (D_want : DefE P w K mg base (L2.CX P w) 3 "want" ["is_so", "code"] (sp_want K)) : MethE P w K mg base (L2.CX P w) 4 "Loft" "want_bar" ["self", "bar"] (sp_Loft_want_bar K) := by
  obtain ⟨fd, F⟩ := T.d_Loft_want_bar
  have bd : Binds K fd ["self", "bar"] [] := F.bindsN fun _ _ _ _ _ _ us hl => match us, hl with | [_, _], _ => rfl
  have G : FnOk P w K mg base (L2.CX P w) 4 (He.ma K (He.ga K "Loft") "want_bar") fd ["self", "bar"] (sp_Loft_want_bar K) := by
    refine F.ok sc_Loft_want_bar (fun vs H Q E h => sl_Loft_want_bar h) (fun cdv A outer s H vs Q E hr h => ⟨t_Loft_want_bar K E, ?_, pure_Loft_want_bar T vs H Q E h⟩)
    exact (pss_one (ps_expr (pe_callE D_want (hr.mono (by decide)) rfl (passes_call (takes_of rfl rfl rfl rfl) (fun _ _ _ _ h => h)) (by exact (pa_cons (pe_cmpR oLt (pv 1) (pe_callB cLen rfl T.f_len bLen (pa_cons (pe_fld (pe_fld (pv 0) rfl) rfl) pa_nil)) (nomark _)) (pa_cons (pe_glob rfl T.m_MISSING.2 ⟨_, rfl⟩) pa_nil))))))
  exact MethE.mk ⟨fd, G, bd⟩ T.c_Loft T.e_Loft_want_bar
def sp_Loft_want_cue (K : PySem.W.Frag) : Sp := fun vs H Q E => ∃ (l dx : Addr) (A : Adr) (S : Sy92.St) (k : Nat), vs = [.ref l, nV k] ∧ LftAt K H l dx A S ∧ (k < S.stage.cues.length → RetV .non H Q) ∧ (S.stage.cues.length ≤ k → RetX K (-2) H E)
theorem sl_Loft_want_cue {K : PySem.W.Frag} {vs : List V} {H : Hp} {Q : VK} {E : XK} (h : sp_Loft_want_cue K vs H Q E) : vs.length = 2 := by
  obtain ⟨_, _, _, _, _, rfl, _⟩ := h
  rfl
def t_Loft_want_cue (K : PySem.W.Frag) (E : XK) : TS :=
  (tDrop (tCall (sp_want K) [] E (tCons (tOp rLtI (tVar 1) (tCB (rLenS K) (tCons (tFld K (tFld K (tVar 0) "stage") "cues") tNil))) (tCons (tC (.int (-2))) tNil))))
theorem pure_Loft_want_cue {K : PySem.W.Frag} {mg : Str → Option Value} (T : Tx K mg) (vs : List V) (H : Hp) (Q : VK) (E : XK) (h : sp_Loft_want_cue K vs H Q E) : t_Loft_want_cue K E { nx := fun _ H' => Q .non H', rt := Q } (start N_Loft_want_cue vs) H := by
  obtain ⟨l, dx, A, S, i, rfl, L, k1, k2⟩ := h
  refine s_refuse (b := decide (i < S.stage.cues.length)) (ev_is (ev_op (ev_var rfl) (ev_cb (ea_cons (ev_cs T L.st (ev_st T L (ev_var rfl))) ea_nil) (rc_len (Or.inl (sq_of L.st.fc.choose_spec.1)))) rv_I0) (congrArg V.bl (decide_eq_decide.mpr ?_))) ev_c (fun hb H1 e1 => k1 (of_decide_eq_true hb) H1 e1) fun hb => k2 (by have := of_decide_eq_false hb; omega)
  rw [All2.len L.st.fc.choose_spec.2]
  omega
theorem ok_Loft_want_cue {P : Program} {w : World} {K : PySem.W.Frag} {mg : Str → Option Value} {base : Heap} (T : Tx K mg) (D_want : DefE P w K mg base (L2.CX P w) 3 "want" ["is_so", "code"] (sp_want K)) : MethE P w K mg base (L2.CX P w) 4 "Loft" "want_cue" ["self", "cue"] (sp_Loft_want_cue K) := by
  obtain ⟨fd, F⟩ := T.d_Loft_want_cue
  have bd : Binds K fd ["self", "cue"] [] := F.bindsN fun _ _ _ _ _ _ us hl => match us, hl with | [_, _], _ => rfl
  have G : FnOk P w K mg base (L2.CX P w) 4 (He.ma K (He.ga K "Loft") "want_cue") fd ["self", "cue"] (sp_Loft_want_cue K) := by
    refine F.ok sc_Loft_want_cue (fun vs H Q E h => sl_Loft_want_cue h) (fun cdv A outer s H vs Q E hr h => ⟨t_Loft_want_cue K E, ?_, pure_Loft_want_cue T vs H Q E h⟩)
    exact (pss_one (ps_expr (pe_callE D_want (hr.mono (by decide)) rfl (passes_call (takes_of rfl rfl rfl rfl) (fun _ _ _ _ h => h)) (by exact (pa_cons (pe_cmpR oLt (pv 1) (pe_callB cLen rfl T.f_len bLen (pa_cons (pe_fld (pe_fld (pv 0) rfl) rfl) pa_nil)) (nomark _)) (pa_cons (pe_glob rfl T.m_MISSING.2 ⟨_, rfl⟩) pa_nil))))))
  exact MethE.mk ⟨fd, G, bd⟩ T.c_Loft T.e_Loft_want_cue
def sp_Loft_want_none_started (K : PySem.W.Frag) : Sp := fun vs H Q E => ∃ (l dx : Addr) (A : Adr) (S : Sy92.St), vs = [.ref l] ∧ LftAt K H l dx A S ∧ Sz S.stage ∧ (Sy90.begun S.stage = false → RetV .non H Q) ∧ (Sy90.begun S.stage = true → RetX K (-4) H E)
theorem sl_Loft_want_none_started {K : PySem.W.Frag} {vs : List V} {H : Hp} {Q : VK} {E : XK} (h : sp_Loft_want_none_started K vs H Q E) : vs.length = 1 := by
  obtain ⟨_, _, _, _, rfl, _⟩ := h
  rfl
def t_Loft_want_none_started (K : PySem.W.Frag) (E : XK) : TS :=
  (tDrop (tCall (sp_want K) [] E (tCons (tOp rEq (tMeth (He.ga K "Stage") "many_started" (sp_Stage_many_started K) [] E0 (tFld K (tVar 0) "stage") tNil) (tC (.int 0))) (tCons (tC (.int (-4))) tNil))))
theorem count_begun (s : Sy90.St) : decide (nV (Sy90.count s.started) = .int 0) = !Sy90.begun s := by
  unfold Sy90.count Sy90.begun
  rw [← any_len (fun (x : Option Nat) => x.isSome) s.started]
  exact decide_eq_decide.mpr ⟨fun h => by have := V.int.inj h; omega, fun h => by rw [h]; rfl⟩
theorem pure_Loft_want_none_started {K : PySem.W.Frag} {mg : Str → Option Value} (T : Tx K mg) (vs : List V) (H : Hp) (Q : VK) (E : XK) (h : sp_Loft_want_none_started K vs H Q E) : t_Loft_want_none_started K E { nx := fun _ H' => Q .non H', rt := Q } (start N_Loft_want_none_started vs) H := by
  obtain ⟨l, dx, A, S, rfl, L, z, k1, k2⟩ := h
  refine s_refuse (b := !Sy90.begun S.stage) (ev_is (ev_op (ev_many_started L.st z (ev_st T L (ev_var rfl))) ev_c (rv_eq rfl)) (congrArg V.bl (count_begun _))) ev_c (fun hb H1 e1 => k1 (by simpa using hb) H1 e1) fun hb => k2 (by simpa using hb)
theorem ok_Loft_want_none_started {P : Program} {w : World} {K : PySem.W.Frag} {mg : Str → Option Value} {base : Heap} (T : Tx K mg) (D_Stage_many_started : MethE P w K mg base (CX0) 1 "Stage" "many_started" ["self"] (sp_Stage_many_started K)) (D_want : DefE P w K mg base (L2.CX P w) 3 "want" ["is_so", "code"] (sp_want K)) : MethE P w K mg base (L2.CX P w) 4 "Loft" "want_none_started" ["self"] (sp_Loft_want_none_started K) := by
  obtain ⟨fd, F⟩ := T.d_Loft_want_none_started
  have bd : Binds K fd ["self"] [] := F.bindsN fun _ _ _ _ _ _ us hl => match us, hl with | [_], _ => rfl
  have G : FnOk P w K mg base (L2.CX P w) 4 (He.ma K (He.ga K "Loft") "want_none_started") fd ["self"] (sp_Loft_want_none_started K) := by
    refine F.ok sc_Loft_want_none_started (fun vs H Q E h => sl_Loft_want_none_started h) (fun cdv A outer s H vs Q E hr h => ⟨t_Loft_want_none_started K E, ?_, pure_Loft_want_none_started T vs H Q E h⟩)
    exact (pss_one (ps_expr (pe_callE D_want (hr.mono (by decide)) rfl (passes_call (takes_of rfl rfl rfl rfl) (fun _ _ _ _ h => h)) (by exact (pa_cons (pe_cmpR oEq (pe_methE0 (pe_fld (pv 0) rfl) D_Stage_many_started (hr.mono (by decide)) pass0) pe_int (nomark _)) (pa_cons (pe_glob rfl T.m_TOO_LATE.2 ⟨_, rfl⟩) pa_nil))))))
  exact MethE.mk ⟨fd, G, bd⟩ T.c_Loft T.e_Loft_want_none_started
section
variable {K : PySem.W.Frag} {H : Hp} {l dx : Addr} {A : Adr} {S : Sy92.St} {σ : L2.St} {ta tb : TE} {tz : TS} {D : Ends} {E : XK} {k : Nat}
theorem q_wantBar (L : LftAt K H l dx A S) (h : Ev ta σ H (.ref l)) (hb : Ev tb σ H (nV k)) (k1 : k < S.stage.things.length → ∀ H1, Ex H H1 → tz D σ H1) (k2 : S.stage.things.length ≤ k → RetX K (-2) H E) : tSeq (tDrop (tMeth (He.ga K "Loft") "want_bar" (sp_Loft_want_bar K) [] E ta (tCons tb tNil))) tz D σ H :=
  q_mut h L.o rfl (ea_cons hb ea_nil) fun H1 e1 => ⟨l, dx, A, S, k, rfl, L.x e1, fun hk H2 e2 => k1 hk H2 (e1.trans e2), fun hk => (k2 hk).go e1⟩
theorem q_wantCue (L : LftAt K H l dx A S) (h : Ev ta σ H (.ref l)) (hb : Ev tb σ H (nV k)) (k1 : k < S.stage.cues.length → ∀ H1, Ex H H1 → tz D σ H1) (k2 : S.stage.cues.length ≤ k → RetX K (-2) H E) : tSeq (tDrop (tMeth (He.ga K "Loft") "want_cue" (sp_Loft_want_cue K) [] E ta (tCons tb tNil))) tz D σ H :=
  q_mut h L.o rfl (ea_cons hb ea_nil) fun H1 e1 => ⟨l, dx, A, S, k, rfl, L.x e1, fun hk H2 e2 => k1 hk H2 (e1.trans e2), fun hk => (k2 hk).go e1⟩
theorem q_wantNone (L : LftAt K H l dx A S) (z : Sz S.stage) (h : Ev ta σ H (.ref l)) (k1 : Sy90.begun S.stage = false → ∀ H1, Ex H H1 → tz D σ H1) (k2 : Sy90.begun S.stage = true → RetX K (-4) H E) : tSeq (tDrop (tMeth (He.ga K "Loft") "want_none_started" (sp_Loft_want_none_started K) [] E ta tNil)) tz D σ H :=
  q_mut h L.o rfl ea_nil fun H1 e1 => ⟨l, dx, A, S, rfl, L.x e1, z, fun hk H2 e2 => k1 hk H2 (e1.trans e2), fun hk => (k2 hk).go e1⟩
end

/-! ### begin -/
def sp_Loft_begin (K : PySem.W.Frag) : Sp := fun vs H Q E => ∃ (l dx : Addr) (A : Adr) (S : Sy92.St) (v : V) (r : List Nat), vs = [.ref l, v] ∧ LftAt K H l dx A S ∧ NsV K H v r ∧ r.length ≤ 4000 ∧ RetC K l dx A S (Sy92.step S (.begins r)) H Q E
theorem sl_Loft_begin {K : PySem.W.Frag} {vs : List V} {H : Hp} {Q : VK} {E : XK} (h : sp_Loft_begin K vs H Q E) : vs.length = 2 := by
  obtain ⟨_, _, _, _, _, _, rfl, _⟩ := h
  rfl
def t_Loft_begin (K : PySem.W.Frag) (E : XK) : TS :=
  (tSeq (tDrop (tCall (sp_want K) [] E (tCons (tAndV (tChain rLeI rLeI (tC (.int 1)) (tCB (rLenS K) (tCons (tVar 1) tNil)) (tC (.int 4))) (tCB (rAll K) (tCons (tLc (iList K (tVar 1)) (gName 2) tYes (tOp rLeI (tVar 2) (tC (.int 6))) [2]) tNil))) (tCons (tC (.int (-1))) tNil))))
  (tSeq (sFld K (tVar 0) (tMake (He.ga K "Stage") (sp_Stage___init__ K) [] E0 (tCons (tVar 1) tNil)) "stage")
  (tRet (tLst (tCons (tCB (rLenS K) (tCons (tVar 1) tNil)) tNil)))))
theorem begins_no {S : Sy92.St} {r : List Nat} (h : ((decide (1 ≤ r.length) && decide (r.length ≤ 4)) && r.all fun m => decide (m ≤ 6)) = false) : Sy92.step S (.begins r) = (S, Sy92.ok (-1)) := by
  have hc : r.length < 1 ∨ 4 < r.length ∨ r.any (fun (m : Nat) => decide (6 < m)) = true := by
    by_cases c1 : r.length < 1
    · exact .inl c1
    · by_cases c2 : 4 < r.length
      · exact .inr (.inl c2)
      · rw [decide_eq_true (show 1 ≤ r.length by omega), decide_eq_true (show r.length ≤ 4 by omega), Bool.true_and, Bool.true_and] at h
        refine .inr (.inr ?_)
        rw [List.any_eq_true]
        rw [List.all_eq_false] at h
        obtain ⟨m, hm, h2⟩ := h
        exact ⟨m, hm, by simp at h2 ⊢; omega⟩
  have e : Sy90.step S.stage (.begins r) = (S.stage, Sy90.ok (-1)) := if_pos hc
  show (if (Sy90.step S.stage (.begins r)).2.v < 0 then (S, (Sy90.step S.stage (.begins r)).2) else _) = _
  rw [e]
  rfl
theorem begins_yes {S : Sy92.St} {r : List Nat} (h : ((decide (1 ≤ r.length) && decide (r.length ≤ 4)) && r.all fun m => decide (m ≤ 6)) = true) : Sy92.step S (.begins r) = (⟨Sy90.fresh r, r.map fun (_ : Nat) => (0, 1)⟩, Sy92.ok (r.length : Nat)) := by
  simp only [Bool.and_eq_true, decide_eq_true_eq, List.all_eq_true] at h
  obtain ⟨⟨h1, h2⟩, h3⟩ := h
  have e : Sy90.step S.stage (.begins r) = (Sy90.fresh r, Sy90.ok (r.length : Nat)) := if_neg (by
    simp only [not_or, List.any_eq_true, decide_eq_true_eq, not_exists, not_and]
    exact ⟨by omega, by omega, fun m hm => by have := h3 m hm; omega⟩)
  show (if (Sy90.step S.stage (.begins r)).2.v < 0 then (S, (Sy90.step S.stage (.begins r)).2) else (⟨(Sy90.step S.stage (.begins r)).1, r.map fun (_ : Nat) => (0, 1)⟩, (Sy90.step S.stage (.begins r)).2)) = _
  rw [e]
  exact if_neg (by show ¬ ((r.length : Nat) : Int) < 0; omega)
theorem pure_Loft_begin {K : PySem.W.Frag} {mg : Str → Option Value} (T : Tx K mg) (vs : List V) (H : Hp) (Q : VK) (E : XK) (h : sp_Loft_begin K vs H Q E) : t_Loft_begin K E { nx := fun _ H' => Q .non H', rt := Q } (start N_Loft_begin vs) H := by
  obtain ⟨l, dx, A, S, v, r, rfl, L, ⟨a, rfl, ha⟩, hz, k1, k2⟩ := h
  have hl : (r.map nV).length = r.length := List.length_map ..
  refine q_refuse (b := ((decide (1 ≤ r.length) && decide (r.length ≤ 4)) && r.all fun m => decide (m ≤ 6))) (ev_andV (ev_chain (x := .int 1) (y := nV r.length) (z := .int 4) ev_c (ev_is (ev_cb (ea_cons (ev_var rfl) ea_nil) (rc_len (Or.inl ha))) (congrArg (fun n : Nat => nV n) hl)) (RV_is rv_I0 (congrArg V.bl (decide_eq_decide.mpr (by omega)))) fun _ => ⟨ev_c, RV_is rv_I0 (congrArg V.bl (decide_eq_decide.mpr (by omega)))⟩) fun _ => ev_cbD (evd_lcL (K := K) blV_st (fun _ => true) (fun i => decide (r.getD i 0 ≤ 6)) (xs := r.map nV) (evd_of (ev_var rfl) fun H1 e1 => ⟨a, rfl, ex_l e1 ha⟩) (by omega) (fun _ => rfl) (fun _ _ _ _ _ => et_yes) ?_) ?_) ev_c (fun hb H1 e1 => ?_) fun hb => ?_
  · intro i x H1 e1 hx _
    have hi : i < r.length := by
      have := (List.getElem?_eq_some_iff.mp hx).1
      omega
    rw [nums_at hi] at hx
    cases hx
    exact evd_of (ev_is (ev_op (ev_var rfl) ev_c rv_I0) (congrArg V.bl (decide_eq_decide.mpr (by omega)))) fun _ _ => rfl
  · rintro x H1 e1 ⟨p, rfl, _, zs, h6, h7⟩
    have h7 := all2_bl h7
    rw [givenD_all, hl, map_getD r 0 fun m => decide (m ≤ 6)] at h7
    subst h7
    refine RC_is (rc_all (sq_of h6)) (congrArg V.bl ?_)
    rw [List.all_map]
    rfl
  · rw [begins_yes hb] at k2
    have L1 := L.x e1
    refine q_fldD (P := fun v H2 => ∃ A2, v = .ref A2.a ∧ FrA A2 H1 ∧ StgAt K H2 A2 (Sy90.fresh r) (r.map fun _ => (0, 1))) L1.o T.c_Loft T.n_Loft_stage (by show 1 < 1000; decide) (ev_var rfl) (evd_stage (K := K) (evd_of (ev_var rfl) fun H2 e2 => ⟨a, rfl, ex_l (e1.trans e2) ha⟩) (by omega)) ?_ fun v H2 e2 p2 => ?_
    · rintro v H2 H3 e ⟨A2, h1, h2, h3⟩
      exact ⟨A2, h1, h2, h3.x e⟩
    · obtain ⟨A2, rfl, hf, hA⟩ := p2
      have hx : l ∉ A2.all := fun z => by
        have := L1.o
        rw [hf l z] at this
        cases this
      have fx : Fix H2 (upd H2 l (.ins (He.ga K "Loft") dx (lftF A2.a))) := Fix.mut (e2 l _ L1.o) rfl
      have L3 : LftAt K (upd H2 l (.ins (He.ga K "Loft") dx (lftF A2.a))) l dx A2 ⟨Sy90.fresh r, r.map fun _ => (0, 1)⟩ := ⟨upd_same, hA.off (M := [l]) (Frm.upd List.mem_cons_self) fx fun b hb z => hx (List.mem_singleton.mp z ▸ hb), hx⟩
      have f3 : Frm (l :: A.all) H (upd H2 l (.ins (He.ga K "Loft") dx (lftF A2.a))) := (Frm.of (e1.trans e2)).trans (Frm.upd List.mem_cons_self)
      have ha3 : SqL K (upd H2 l (.ins (He.ga K "Loft") dx (lftF A2.a))) a (r.map nV) := by
        rcases ex_l (e1.trans e2) ha with (h | ⟨o, h⟩) | h
        · exact .inl (.inl (by rw [upd_ne fun z => by rw [z, (e1.trans e2) l _ L.o] at h; cases h]; exact h))
        · exact .inl (.inr ⟨o, by rw [upd_ne fun z => by rw [z, (e1.trans e2) l _ L.o] at h; cases h]; exact h⟩)
        · exact .inr h
      show tRet _ _ _ (upd H2 l (.ins (He.ga K "Loft") dx (lftF A2.a)))
      generalize upd H2 l (.ins (He.ga K "Loft") dx (lftF A2.a)) = H3 at L3 f3 ha3
      refine s_retL (xs := [nV r.length]) (el_lst (ea_cons (ev_is (ev_cb (ea_cons (ev_var rfl) ea_nil) (rc_len (Or.inl ha3))) (congrArg (fun n : Nat => nV n) hl)) ea_nil) (Nat.le_of_lt (show 1 < 100000 by decide))) fun p H4 hp e4 h4 => ?_
      exact k2.fin f3 L3 (fun b hb => .inr (fresh_back e1 (hf b hb))) hp e4 h4
  · exact k1 (-1) (begins_no hb)
theorem ok_Loft_begin {P : Program} {w : World} {K : PySem.W.Frag} {mg : Str → Option Value} {base : Heap} (T : Tx K mg) (D_Stage___init__ : MakeE P w K mg base CX0 1 "Stage" ["self", "positions"] (sp_Stage___init__ K)) (D_want : DefE P w K mg base (L2.CX P w) 3 "want" ["is_so", "code"] (sp_want K)) : MethE P w K mg base (L2.CX P w) 4 "Loft" "begin" ["self", "row"] (sp_Loft_begin K) := by
  obtain ⟨fd, F⟩ := T.d_Loft_begin
  have bd : Binds K fd ["self", "row"] [] := F.bindsN fun _ _ _ _ _ _ us hl => match us, hl with | [_, _], _ => rfl
  have G : FnOk P w K mg base (L2.CX P w) 4 (He.ma K (He.ga K "Loft") "begin") fd ["self", "row"] (sp_Loft_begin K) := by
    refine F.ok sc_Loft_begin (fun vs H Q E h => sl_Loft_begin h) (fun cdv A outer s H vs Q E hr h => ⟨t_Loft_begin K E, ?_, pure_Loft_begin T vs H Q E h⟩)
    exact (pss_cons (ps_expr (pe_callE D_want (hr.mono (by decide)) rfl (passes_call (takes_of rfl rfl rfl rfl) (fun _ _ _ _ h => h)) (by exact (pa_cons (pe_and (pe_chain oLe oLe pe_int (pe_callB cLen rfl T.f_len bLen (pa_cons (pv 1) pa_nil)) (pe_glob rfl T.m_MOST_BARS.2 ⟨_, rfl⟩)) (pe_one (pe_callB (cr_all rfl) rfl T.f_all bAll (pa_cons (pe_lc (own := [("position", 2)]) (g := (gName 2)) (tt := tYes) (te := (tOp rLeI (tVar 2) (tC (.int 6)))) rfl sc_Loft_begin.nd (pi_list (pv 1)) (blkOk_by (N := N_Loft_begin) (sc := defScope s_Loft_begin) (by decide +kernel)) (fun _ _ _ _ _ => (pg_name (i := 2) sc_Loft_begin.nd rfl (by first | exact Or.inl rfl | exact Or.inr rfl))) (fun _ _ _ _ _ => pts_nil) (fun _ _ _ _ _ => (pe_cmpR oLe (pv 2) (pe_glob rfl T.m_MOST_PLACE.2 ⟨_, rfl⟩) (nomark _)))) pa_nil)))) (pa_cons (pe_glob rfl T.m_WRONG.2 ⟨_, rfl⟩) pa_nil)))))
  (pss_cons (ps_fld (pv 0) (pe_makeE D_Stage___init__ (hr.mono (by decide)) rfl pass0 (by exact (pa_cons (pv 1) pa_nil))) rfl)
  (pss_one (ps_ret (pe_lst (pa_cons (pe_callB cLen rfl T.f_len bLen (pa_cons (pv 1) pa_nil)) pa_nil))))))
  exact MethE.mk ⟨fd, G, bd⟩ T.c_Loft T.e_Loft_begin
end Sk
namespace Sk
open PySem L2 Evl Sc
/-! ### words for writes, calls at the end -/
section
variable {K : PySem.W.Frag} {σ : L2.St} {H : Hp} {ta tb te : TE} {t : TA} {v z : V} {P : V → Hp → Prop} {PA : List V → Hp → Prop} {D : Ends} {tz : TS} {C : Addr} {m : Str} {sp : Sp} {dvs vs : List V} {E : XK} {a dx : Addr} {fs : List (Str × V)}
theorem s_subD {p : Addr} {xs : List V} {j : Nat} (hp : H p = some (.lst xs)) (ho : Ev ta σ H (.ref p)) (hi : Ev tb σ H (nV j)) (hj : j < xs.length) (hv : EvD te σ H P) (hk : ∀ v H1 H2, Ex H1 H2 → P v H1 → P v H2) (k : ∀ v H1, Ex H H1 → P v H1 → D.nx σ (upd H1 p (.lst (xs.set j v)))) : tAsg te (gSub ta tb rSetL) D σ H :=
  hv H (Ex.refl H) _ fun v H1 e1 p1 => ho H1 e1 _ fun H2 e2 => hi H2 (e1.trans e2) _ fun H3 e3 => ⟨p, xs, (j : Int), j, rfl, rfl, ((e1.trans e2).trans e3) p _ hp, ixN_nat hj, k v H3 ((e1.trans e2).trans e3) (hk v H1 H3 (e2.trans e3) p1)⟩
theorem q_subD {p : Addr} {xs : List V} {j : Nat} (hp : H p = some (.lst xs)) (ho : Ev ta σ H (.ref p)) (hi : Ev tb σ H (nV j)) (hj : j < xs.length) (hv : EvD te σ H P) (hk : ∀ v H1 H2, Ex H1 H2 → P v H1 → P v H2) (k : ∀ v H1, Ex H H1 → P v H1 → tz D σ (upd H1 p (.lst (xs.set j v)))) : tSeq (tAsg te (gSub ta tb rSetL)) tz D σ H :=
  s_subD (D := { D with nx := tz D }) hp ho hi hj hv hk k
/-- return o.m(..) -/
theorem s_retM (h : Ev ta σ H (.ref a)) (ho : H a = some (.ins C dx fs)) (hl : fs.lookup m = none) (ha : EvA t σ H vs) (k : ∀ H1, Ex H H1 → sp (.ref a :: (vs ++ dvs)) H1 D.rt E) : tRet (tMeth C m sp dvs E ta t) D σ H :=
  h H (Ex.refl H) _ fun H2 e2 => ⟨a, dx, fs, rfl, e2 a _ ho, hl, ha H2 e2 _ fun H3 e3 => k H3 (e2.trans e3)⟩
/-- return [o.m(..)] -/
theorem s_retLM (h : Ev ta σ H (.ref a)) (ho : H a = some (.ins C dx fs)) (hl : fs.lookup m = none) (ha : EvAD t σ H PA) (k : ∀ vs H1, Ex H H1 → PA vs H1 → sp (.ref a :: (vs ++ dvs)) H1 (fun v H2 => ∀ p, H2 p = none → D.rt (.ref p) (upd H2 p (.lst [v]))) E) (hsp : ∀ vs H1 Q Q2, (∀ v H2, Q v H2 → Q2 v H2) → sp vs H1 Q E → sp vs H1 Q2 E) :
    tRet (tLst (tCons (tMeth C m sp dvs E ta t) tNil)) D σ H :=
  h H (Ex.refl H) _ fun H2 e2 => ⟨a, dx, fs, rfl, e2 a _ ho, hl, ha H2 e2 _ fun vs H3 e3 p3 => hsp _ _ _ _ (fun v H4 q => ⟨Nat.le_of_lt (show 1 < sizeLine by decide), fun p hp => q p hp⟩) (k vs H3 (e2.trans e3) p3)⟩
end
theorem All2.put {α β : Type} {R : α → β → Prop} {l : List α} {m : List β} (h : All2 R l m) {x : α} {y : β} (r : R x y) : ∀ (i : Nat), All2 R (l.set i x) (m.set i y) := by
  induction h with
  | nil => exact fun _ => .nil
  | cons r2 t ih =>
    intro i
    cases i with
    | zero => exact .cons r t
    | succ i => exact .cons r2 (ih i)

/-! ### set_rope -/
def sp_Loft_set_rope (K : PySem.W.Frag) : Sp := fun vs H Q E => ∃ (l dx : Addr) (A : Adr) (S : Sy92.St) (k p n : Nat), vs = [.ref l, nV k, nV p, nV n] ∧ LftAt K H l dx A S ∧ InvS S ∧ RetC K l dx A S (Sy92.step S (.rope k p n)) H Q E
theorem sl_Loft_set_rope {K : PySem.W.Frag} {vs : List V} {H : Hp} {Q : VK} {E : XK} (h : sp_Loft_set_rope K vs H Q E) : vs.length = 4 := by
  obtain ⟨_, _, _, _, _, _, _, rfl, _⟩ := h
  rfl
def t_Loft_set_rope (K : PySem.W.Frag) (E : XK) : TS :=
  (tSeq (tDrop (tMeth (He.ga K "Loft") "want_bar" (sp_Loft_want_bar K) [] E (tVar 0) (tCons (tVar 1) tNil)))
  (tSeq (tDrop (tCall (sp_want K) [] E (tCons (tAndV (tOp rLeI (tVar 2) (tC (.int 20))) (tChain rLeI rLeI (tC (.int 1)) (tVar 3) (tC (.int 3)))) (tCons (tC (.int (-1))) tNil))))
  (tSeq (tDrop (tMeth (He.ga K "Loft") "want_none_started" (sp_Loft_want_none_started K) [] E (tVar 0) tNil))
  (tSeq (tAsg (tTup (tCons (tVar 2) (tCons (tVar 3) tNil))) (gSub (tFld K (tFld K (tVar 0) "stage") "ropes") (tVar 1) rSetL))
  (tRet (tLst (tCons (tCB (rSum K) (tCons (tLc (iList K (tFld K (tFld K (tVar 0) "stage") "ropes")) (gTup K 2 (gCons (gName 4) (gCons (gName 5) gNil))) tYes (tVar 5) [4, 5]) tNil)) tNil)))))))
theorem pure_Loft_set_rope {K : PySem.W.Frag} {mg : Str → Option Value} (T : Tx K mg) (vs : List V) (H : Hp) (Q : VK) (E : XK) (h : sp_Loft_set_rope K vs H Q E) : t_Loft_set_rope K E { nx := fun _ H' => Q .non H', rt := Q } (start N_Loft_set_rope vs) H := by
  obtain ⟨l, dx, A, S, i, p, n, rfl, L, I, k1, k2⟩ := h
  have z := I.ok.toWf.sz
  have rl := I.rl
  have n4 := z.n4
  refine q_wantBar L (ev_var rfl) (ev_var rfl) (fun hi H1 e1 => ?_) fun hi => k1 (-2) (if_pos hi)
  have L1 := L.x e1
  have k1a := fun (c : Int) (h : (if 20 < p ∨ n < 1 ∨ 3 < n then (S, Sy92.ok (-1)) else if Sy90.begun S.stage = true then (S, Sy92.ok (-4)) else ({ S with ropes := S.ropes.set i (p, n) }, Sy92.ok ((((S.ropes.set i (p, n)).map fun (x : Nat × Nat) => x.2).foldl (fun (a b : Nat) => a + b) 0 : Nat) : Int))) = (S, Sy92.ok c)) => k1 c ((if_neg (show ¬ S.stage.things.length ≤ i by omega)).trans h)
  refine q_refuse (b := decide (p ≤ 20) && (decide (1 ≤ n) && decide (n ≤ 3))) (ev_andV (ev_is (ev_op (ev_var rfl) ev_c rv_I0) (congrArg V.bl (decide_eq_decide.mpr (by omega)))) fun _ => ev_chain (x := .int 1) (y := nV n) (z := .int 3) ev_c (ev_var rfl) (RV_is rv_I0 (congrArg V.bl (decide_eq_decide.mpr (by omega)))) fun _ => ⟨ev_c, RV_is rv_I0 (congrArg V.bl (decide_eq_decide.mpr (by omega)))⟩) ev_c (fun hb H2 e2 => ?_) fun hb => (k1a (-1) (if_pos ?_)).go e1
  · simp only [Bool.and_eq_true, decide_eq_true_eq] at hb
    have k1b := fun (c : Int) h => k1a c ((if_neg (show ¬ (20 < p ∨ n < 1 ∨ 3 < n) by omega)).trans h)
    have L2' := L1.x e2
    have e12 := e1.trans e2
    refine q_wantNone L2' z (ev_var rfl) (fun hg H3 e3 => ?_) fun hg => (k1b (-4) (if_pos hg)).go e12
    have est : Sy92.step S (.rope i p n) = ({ S with ropes := S.ropes.set i (p, n) }, Sy92.ok ((((S.ropes.set i (p, n)).map fun (x : Nat × Nat) => x.2).foldl (fun (a b : Nat) => a + b) 0 : Nat) : Int)) := by
      refine (if_neg (show ¬ S.stage.things.length ≤ i by omega)).trans ((if_neg (show ¬ (20 < p ∨ n < 1 ∨ 3 < n) by omega)).trans (if_neg ?_))
      rw [hg]
      decide
    rw [est] at k2
    have L3 := L2'.x e3
    have e13 := e12.trans e3
    obtain ⟨xs, hx1, hx2⟩ := L3.st.fr
    have hxl : xs.length = S.ropes.length := All2.len hx2
    refine q_subD (P := fun v H4 => PrV K H4 v (p, n)) hx1 (ev_r T L3.st (ev_st T L3 (ev_var rfl))) (ev_var rfl) (by omega) (EvD.imp (evd_tup (vs := [nV p, nV n]) (ea_cons (ev_var rfl) (ea_cons (ev_var rfl) ea_nil)) (Nat.le_of_lt (show 2 < 100000 by decide))) fun v H4 e4 p4 => ?_) (fun v H1 H2 e h => prV_st.x _ _ _ _ _ e h) fun v H4 e4 p4 => ?_
    · obtain ⟨t, rfl, ht⟩ := p4
      exact ⟨t, rfl, st_of ht⟩
    · have L4 := L3.x e4
      have hx3 := e4 A.r _ hx1
      have hxr := All2.put (all2_x prV_st.x e4 hx2) p4 i
      have S5 : StgAt K (upd H4 A.r (.lst (xs.set i v))) A S.stage (S.ropes.set i (p, n)) := L4.st.putR hxr rfl rfl rfl rfl rfl rfl rfl rfl
      have f5 : Frm (l :: A.all) H (upd H4 A.r (.lst (xs.set i v))) := (Frm.of (e13.trans e4)).trans (Frm.upd (by simp [Adr.all]))
      have L5 : LftAt K (upd H4 A.r (.lst (xs.set i v))) l dx A { S with ropes := S.ropes.set i (p, n) } := ⟨by rw [upd_ne fun z => L4.n (by rw [z]; simp [Adr.all])]; exact L4.o, S5, L4.n⟩
      show tRet _ _ _ (upd H4 A.r (.lst (xs.set i v)))
      generalize upd H4 A.r (.lst (xs.set i v)) = H5 at L5 f5 S5
      obtain ⟨ys, hy1, hy2⟩ := L5.st.fr
      have hyl : ys.length = (S.ropes.set i (p, n)).length := All2.len hy2
      have hrl : (S.ropes.set i (p, n)).length = S.ropes.length := List.length_set ..
      refine s_retL (xs := [nV ((S.ropes.set i (p, n)).map fun (x : Nat × Nat) => x.2).sum]) (el_lst (ea_cons (ev_cbD (evd_lcDP (K := K) (R := NumV) (ds := S.ropes.set i (p, n)) (fun _ => PrS) (fun _ _ _ _ _ _ h => h) numV_st (fun _ => true) (fun j => ((S.ropes.set i (p, n)).getD j (0, 0)).2) (evd_of (v := .ref A.r) (ev_r T L5.st (ev_st T L5 (ev_var rfl))) fun H6 e6 => ⟨A.r, ys, rfl, sq_of (e6 _ _ hy1), all2_mono (fun x y h => ?_) (all2_x prV_st.x e6 hy2)⟩) (by omega) (fun _ _ => rfl) (fun _ _ _ _ _ _ _ _ => et_yes) ?_) ?_) ea_nil) (Nat.le_of_lt (show 1 < 100000 by decide))) fun q H6 hq e6 h6 => ?_
      · obtain ⟨T1, rfl, hT⟩ := h
        exact ⟨T1, _, _, rfl, hT, rfl, rfl⟩
      · rintro j u w y H6 e6 hy ⟨rfl, rfl⟩ _
        rw [getD_at hy]
        exact evd_of (ev_var rfl) fun _ _ => rfl
      · rintro x H6 e6 ⟨q, rfl, _, zs, h6, h7⟩
        have h7 := all2_num h7
        rw [givenD_all, map_getD (S.ropes.set i (p, n)) (0, 0) fun x => x.2] at h7
        rw [h7, map_nV] at h6
        exact RC_is (rc_sum (sq_of h6)) (congrArg V.int (sum_cast _))
      · refine k2.fin f5 L5 (fun b hb => .inl hb) hq e6 ?_
        rw [h6, foldl_add, Nat.zero_add]
        rfl
  · rw [Bool.and_eq_false_iff, Bool.and_eq_false_iff] at hb
    simp only [decide_eq_false_iff_not] at hb
    omega
theorem ok_Loft_set_rope {P : Program} {w : World} {K : PySem.W.Frag} {mg : Str → Option Value} {base : Heap} (T : Tx K mg) (D_Loft_want_bar : MethE P w K mg base (L2.CX P w) 4 "Loft" "want_bar" ["self", "bar"] (sp_Loft_want_bar K)) (D_Loft_want_none_started : MethE P w K mg base (L2.CX P w) 4 "Loft" "want_none_started" ["self"] (sp_Loft_want_none_started K)) (D_want : DefE P w K mg base (L2.CX P w) 3 "want" ["is_so", "code"] (sp_want K)) : MethE P w K mg base (L2.CX P w) 5 "Loft" "set_rope" ["self", "bar", "position", "crew"] (sp_Loft_set_rope K) := by
  obtain ⟨fd, F⟩ := T.d_Loft_set_rope
  have bd : Binds K fd ["self", "bar", "position", "crew"] [] := F.bindsN fun _ _ _ _ _ _ us hl => match us, hl with | [_, _, _, _], _ => rfl
  have G : FnOk P w K mg base (L2.CX P w) 5 (He.ma K (He.ga K "Loft") "set_rope") fd ["self", "bar", "position", "crew"] (sp_Loft_set_rope K) := by
    refine F.ok sc_Loft_set_rope (fun vs H Q E h => sl_Loft_set_rope h) (fun cdv A outer s H vs Q E hr h => ⟨t_Loft_set_rope K E, ?_, pure_Loft_set_rope T vs H Q E h⟩)
    exact (pss_cons (ps_expr (pe_methE (pv 0) D_Loft_want_bar (hr.mono (by decide)) (passes_call (takes_of rfl rfl rfl rfl) (fun _ _ _ _ h => h)) (by exact (pa_cons (pv 1) pa_nil))))
  (pss_cons (ps_expr (pe_callE D_want (hr.mono (by decide)) rfl (passes_call (takes_of rfl rfl rfl rfl) (fun _ _ _ _ h => h)) (by exact (pa_cons (pe_and (pe_cmpR oLe (pv 2) (pe_glob rfl T.m_MOST_ROPE.2 ⟨_, rfl⟩) (nomark _)) (pe_one (pe_chain oLe oLe pe_int (pv 3) (pe_glob rfl T.m_MOST_CREW.2 ⟨_, rfl⟩)))) (pa_cons (pe_glob rfl T.m_WRONG.2 ⟨_, rfl⟩) pa_nil)))))
  (pss_cons (ps_expr (pe_methE0 (pv 0) D_Loft_want_none_started (hr.mono (by decide)) (passes_call (takes_of rfl rfl rfl rfl) (fun _ _ _ _ h => h))))
  (pss_cons (ps_asg (pe_tup (pa_cons (pv 2) (pa_cons (pv 3) pa_nil))) (pg_sub (pe_fld (pe_fld (pv 0) rfl) rfl) (pv 1) set_list))
  (pss_one (ps_ret (pe_lst (pa_cons (pe_callB (cr_sum rfl) rfl T.f_sum bSum (pa_cons (pe_lc (own := [("place", 4), ("own_crew", 5)]) (g := (gTup K 2 (gCons (gName 4) (gCons (gName 5) gNil)))) (tt := tYes) (te := (tVar 5)) rfl sc_Loft_set_rope.nd (pi_list (pe_fld (pe_fld (pv 0) rfl) rfl)) (blkOk_by (N := N_Loft_set_rope) (sc := defScope s_Loft_set_rope) (by decide +kernel)) (fun _ _ _ _ _ => (pg_tup rfl (pgs_cons (pg_name (i := 4) sc_Loft_set_rope.nd rfl (by first | exact Or.inl rfl | exact Or.inr rfl)) (pgs_cons (pg_name (i := 5) sc_Loft_set_rope.nd rfl (by first | exact Or.inl rfl | exact Or.inr rfl)) pgs_nil)))) (fun _ _ _ _ _ => pts_nil) (fun _ _ _ _ _ => (pv 5))) pa_nil)) pa_nil))))))))
  exact MethE.mk ⟨fd, G, bd⟩ T.c_Loft T.e_Loft_set_rope
end Sk
namespace Sk
open PySem L2 Evl Sc
/-! ### add_pair -/
theorem thr_eq (S : Sy92.St) (c : Sy90.Call) (a : Sy92.Ans) (h : Sy90.step S.stage c = (S.stage, a)) : Sy92.through S c = (S, a) := by
  unfold Sy92.through
  rw [h]
theorem foulsQ_eq (s : Sy90.St) (p : Nat × Nat × Nat) : foulsQ (Sy90.marks s) p = Sy90.fouls s p := by
  unfold foulsQ Sy90.fouls
  rw [marks_at, marks_at]
def sp_Loft_add_pair (K : PySem.W.Frag) : Sp := fun vs H Q E => ∃ (l dx : Addr) (A : Adr) (S : Sy92.St) (a b g : Nat), vs = [.ref l, nV a, nV b, nV g] ∧ LftAt K H l dx A S ∧ InvS S ∧ RetC K l dx A S (Sy92.step S (.pair a b g)) H Q E
theorem sl_Loft_add_pair {K : PySem.W.Frag} {vs : List V} {H : Hp} {Q : VK} {E : XK} (h : sp_Loft_add_pair K vs H Q E) : vs.length = 4 := by
  obtain ⟨_, _, _, _, _, _, _, rfl, _⟩ := h
  rfl
def t_Loft_add_pair (K : PySem.W.Frag) (E : XK) : TS :=
  (tSeq (tDrop (tMeth (He.ga K "Loft") "want_bar" (sp_Loft_want_bar K) [] E (tVar 0) (tCons (tVar 1) tNil)))
  (tSeq (tDrop (tMeth (He.ga K "Loft") "want_bar" (sp_Loft_want_bar K) [] E (tVar 0) (tCons (tVar 2) tNil)))
  (tSeq (tDrop (tCall (sp_want K) [] E (tCons (tAndV (tOp rNe (tVar 1) (tVar 2)) (tChain rLeI rLeI (tC (.int 2)) (tVar 3) (tC (.int 5)))) (tCons (tC (.int (-1))) tNil))))
  (tSeq (tDrop (tMeth (He.ga K "Loft") "want_none_started" (sp_Loft_want_none_started K) [] E (tVar 0) tNil))
  (tSeq (tAsg (tTup (tCons (tVar 1) (tCons (tVar 2) (tCons (tVar 3) tNil)))) (gName 4))
  (tSeq (tDrop (tCall (sp_want K) [] E (tCons (tNotV (tCall (sp_is_pair_violated K) [] E0 (tCons (tVar 4) (tCons (tFld K (tFld K (tVar 0) "stage") "positions") tNil)))) (tCons (tC (.int (-4))) tNil))))
  (tSeq (tDrop (tCall (sp_want K) [] E (tCons (tOp rLtI (tCB (rLenS K) (tCons (tFld K (tFld K (tVar 0) "stage") "pairs") tNil)) (tC (.int 4))) (tCons (tC (.int (-5))) tNil))))
  (tSeq (tDrop (tBM K "list" rAppend (tFld K (tFld K (tVar 0) "stage") "pairs") (tCons (tVar 4) tNil)))
  (tRet (tLst (tCons (tOp rSubI (tCB (rLenS K) (tCons (tFld K (tFld K (tVar 0) "stage") "pairs") tNil)) (tC (.int 1))) tNil)))))))))))
theorem pure_Loft_add_pair {K : PySem.W.Frag} {mg : Str → Option Value} (T : Tx K mg) (vs : List V) (H : Hp) (Q : VK) (E : XK) (h : sp_Loft_add_pair K vs H Q E) : t_Loft_add_pair K E { nx := fun _ H' => Q .non H', rt := Q } (start N_Loft_add_pair vs) H := by
  obtain ⟨l, dx, A, S, a, b, g, rfl, L, I, k1, k2⟩ := h
  have z := I.ok.toWf.sz
  have p4 := I.p4
  have no : ∀ c : Int, Sy90.step S.stage (.pair a b g) = (S.stage, Sy90.ok c) → RetX K c H E := fun c h => k1 c (thr_eq S _ _ h)
  refine q_wantBar L (ev_var rfl) (ev_var rfl) (fun ha H1 e1 => ?_) fun ha => no (-2) (if_pos (.inl ha))
  have L1 := L.x e1
  refine q_wantBar L1 (ev_var rfl) (ev_var rfl) (fun hb H2 e2 => ?_) fun hb => (no (-2) (if_pos (.inr hb))).go e1
  have L2' := L1.x e2
  have e12 := e1.trans e2
  have no2 := fun (c : Int) h => no c ((if_neg (show ¬ (S.stage.things.length ≤ a ∨ S.stage.things.length ≤ b) by omega)).trans h)
  refine q_refuse (b := decide (a ≠ b) && (decide (2 ≤ g) && decide (g ≤ 5))) (ev_andV (ev_is (ev_op (ev_var rfl) (ev_var rfl) (rv_ne rfl)) (congrArg V.bl ?_)) fun _ => ev_chain (x := .int 2) (y := nV g) (z := .int 5) ev_c (ev_var rfl) (RV_is rv_I0 (congrArg V.bl (decide_eq_decide.mpr (by omega)))) fun _ => ⟨ev_c, RV_is rv_I0 (congrArg V.bl (decide_eq_decide.mpr (by omega)))⟩) ev_c (fun hc H3 e3 => ?_) fun hc => (no2 (-1) (if_pos ?_)).go e12
  · rw [← decide_not]
    exact decide_eq_decide.mpr (not_congr ⟨fun h => by have := V.int.inj h; omega, fun h => by rw [h]⟩)
  · simp only [Bool.and_eq_true, decide_eq_true_eq] at hc
    have no3 := fun (c : Int) h => no2 c ((if_neg (show ¬ (a = b ∨ g < 2 ∨ 5 < g) by omega)).trans h)
    have L3 := L2'.x e3
    have e13 := e12.trans e3
    refine q_wantNone L3 z (ev_var rfl) (fun hg H4 e4 => ?_) fun hg => (no3 (-4) (if_pos (.inl hg))).go e13
    have L4 := L3.x e4
    have e14 := e13.trans e4
    refine q_asgD (P := fun v H5 => TrV K H5 v (a, b, g)) (EvD.imp (evd_tup (vs := [nV a, nV b, nV g]) (ea_cons (ev_var rfl) (ea_cons (ev_var rfl) (ea_cons (ev_var rfl) ea_nil))) (Nat.le_of_lt (show 3 < 100000 by decide))) fun v H5 e5 p5 => ?_) fun v H5 e5 p5 => ?_
    · obtain ⟨t, rfl, ht⟩ := p5
      exact ⟨t, rfl, st_of ht⟩
    · have L5 := L4.x e5
      have e15 := e14.trans e5
      refine q_refuse (b := !Sy90.fouls S.stage (a, b, g)) (ev_notV (ev_is (ev_call (ea_cons (ev_var rfl) (ea_cons (ev_p T L5.st (ev_st T L5 (ev_var rfl))) ea_nil)) (spv_is_pair_violated p5 (.inl (sq_of L5.st.fp)) (by rw [marks_len]; exact ha) (by rw [marks_len]; exact hb))) (congrArg V.bl (foulsQ_eq _ _)))) ev_c (fun hf H6 e6 => ?_) fun hf => (no3 (-4) (if_pos (.inr (by simpa using hf)))).go e15
      have hf : Sy90.fouls S.stage (a, b, g) = false := by simpa using hf
      have no4 := fun (c : Int) h => no3 c ((if_neg (show ¬ (Sy90.begun S.stage = true ∨ Sy90.fouls S.stage (a, b, g) = true) by rw [hg, hf]; decide)).trans h)
      have L6 := L5.x e6
      have e16 := e15.trans e6
      obtain ⟨xs, hx1, hx2⟩ := L6.st.fq
      have hxl : xs.length = S.stage.pairs.length := All2.len hx2
      refine q_refuse (b := decide (S.stage.pairs.length < 4)) (ev_is (ev_op (ev_cb (ea_cons (ev_q T L6.st (ev_st T L6 (ev_var rfl))) ea_nil) (rc_len (Or.inl (sq_of hx1)))) ev_c rv_I0) (congrArg V.bl (decide_eq_decide.mpr (by omega)))) ev_c (fun hp H7 e7 => ?_) fun hp => (no4 (-5) (if_pos (by have := of_decide_eq_false hp; omega))).go e16
      have hp := of_decide_eq_true hp
      have est : Sy92.step S (.pair a b g) = ({ S with stage := { S.stage with pairs := S.stage.pairs ++ [(a, b, g)] } }, Sy92.ok (S.stage.pairs.length : Nat)) := by
        show Sy92.through S _ = _
        unfold Sy92.through
        rw [show Sy90.step S.stage (.pair a b g) = ({ S.stage with pairs := S.stage.pairs ++ [(a, b, g)] }, Sy90.ok (S.stage.pairs.length : Nat)) from (if_neg (show ¬ (S.stage.things.length ≤ a ∨ S.stage.things.length ≤ b) by omega)).trans ((if_neg (show ¬ (a = b ∨ g < 2 ∨ 5 < g) by omega)).trans ((if_neg (show ¬ (Sy90.begun S.stage = true ∨ Sy90.fouls S.stage (a, b, g) = true) by rw [hg, hf]; decide)).trans (if_neg (show ¬ 4 ≤ S.stage.pairs.length by omega))))]
        rfl
      rw [est] at k2
      have L7 := L6.x e7
      have e17 := e16.trans e7
      have hx7 := e7 _ _ hx1
      have hxr := All2.snoc (all2_x trV_st.x e7 hx2) (trV_st.x _ _ _ _ _ (e6.trans e7) p5)
      refine q_app hx7 (ev_q T L7.st (ev_st T L7 (ev_var rfl))) (ev_var rfl) (by omega) fun H8 e8 => ?_
      have L8 := L7.x e8
      have S9 : StgAt K (upd H8 A.q (.lst (xs ++ [v]))) A { S.stage with pairs := S.stage.pairs ++ [(a, b, g)] } S.ropes := L8.st.putQ (all2_x trV_st.x e8 hxr) rfl rfl rfl rfl rfl rfl rfl
      have f9 : Frm (l :: A.all) H (upd H8 A.q (.lst (xs ++ [v]))) := (Frm.of (e17.trans e8)).trans (Frm.upd (by simp [Adr.all]))
      have L9 : LftAt K (upd H8 A.q (.lst (xs ++ [v]))) l dx A { S with stage := { S.stage with pairs := S.stage.pairs ++ [(a, b, g)] } } := ⟨by rw [upd_ne fun z => L8.n (by rw [z]; simp [Adr.all])]; exact L8.o, S9, L8.n⟩
      show tRet _ _ _ (upd H8 A.q (.lst (xs ++ [v])))
      generalize upd H8 A.q (.lst (xs ++ [v])) = H9 at L9 f9 S9
      obtain ⟨ys, hy1, hy2⟩ := L9.st.fq
      have hyl : ys.length = (S.stage.pairs ++ [(a, b, g)]).length := All2.len hy2
      rw [List.length_append, List.length_singleton] at hyl
      refine s_retL (xs := [nV S.stage.pairs.length]) (el_lst (ea_cons (ev_is (ev_op (ev_cb (ea_cons (ev_q T L9.st (ev_st T L9 (ev_var rfl))) ea_nil) (rc_len (Or.inl (sq_of hy1)))) ev_c rv_I0) (congrArg V.int (by omega))) ea_nil) (Nat.le_of_lt (show 1 < 100000 by decide))) fun q H10 hq e10 h10 => ?_
      exact k2.fin f9 L9 (fun b hb => .inl hb) hq e10 h10
  · rw [Bool.and_eq_false_iff, Bool.and_eq_false_iff] at hc
    simp only [decide_eq_false_iff_not] at hc
    omega
theorem ok_Loft_add_pair {P : Program} {w : World} {K : PySem.W.Frag} {mg : Str → Option Value} {base : Heap} (T : Tx K mg) (D_Loft_want_bar : MethE P w K mg base (L2.CX P w) 4 "Loft" "want_bar" ["self", "bar"] (sp_Loft_want_bar K)) (D_Loft_want_none_started : MethE P w K mg base (L2.CX P w) 4 "Loft" "want_none_started" ["self"] (sp_Loft_want_none_started K)) (D_is_pair_violated : DefE P w K mg base (CX0) 1 "is_pair_violated" ["pair", "positions"] (sp_is_pair_violated K)) (D_want : DefE P w K mg base (L2.CX P w) 3 "want" ["is_so", "code"] (sp_want K)) : MethE P w K mg base (L2.CX P w) 5 "Loft" "add_pair" ["self", "bar", "other", "clearance"] (sp_Loft_add_pair K) := by
  obtain ⟨fd, F⟩ := T.d_Loft_add_pair
  have bd : Binds K fd ["self", "bar", "other", "clearance"] [] := F.bindsN fun _ _ _ _ _ _ us hl => match us, hl with | [_, _, _, _], _ => rfl
  have G : FnOk P w K mg base (L2.CX P w) 5 (He.ma K (He.ga K "Loft") "add_pair") fd ["self", "bar", "other", "clearance"] (sp_Loft_add_pair K) := by
    refine F.ok sc_Loft_add_pair (fun vs H Q E h => sl_Loft_add_pair h) (fun cdv A outer s H vs Q E hr h => ⟨t_Loft_add_pair K E, ?_, pure_Loft_add_pair T vs H Q E h⟩)
    exact (pss_cons (ps_expr (pe_methE (pv 0) D_Loft_want_bar (hr.mono (by decide)) (passes_call (takes_of rfl rfl rfl rfl) (fun _ _ _ _ h => h)) (by exact (pa_cons (pv 1) pa_nil))))
  (pss_cons (ps_expr (pe_methE (pv 0) D_Loft_want_bar (hr.mono (by decide)) (passes_call (takes_of rfl rfl rfl rfl) (fun _ _ _ _ h => h)) (by exact (pa_cons (pv 2) pa_nil))))
  (pss_cons (ps_expr (pe_callE D_want (hr.mono (by decide)) rfl (passes_call (takes_of rfl rfl rfl rfl) (fun _ _ _ _ h => h)) (by exact (pa_cons (pe_and (pe_cmpR oNe (pv 1) (pv 2) (nomark _)) (pe_one (pe_chain oLe oLe (pe_glob rfl T.m_LEAST_CLEARANCE.2 ⟨_, rfl⟩) (pv 3) (pe_glob rfl T.m_MOST_CLEARANCE.2 ⟨_, rfl⟩)))) (pa_cons (pe_glob rfl T.m_WRONG.2 ⟨_, rfl⟩) pa_nil)))))
  (pss_cons (ps_expr (pe_methE0 (pv 0) D_Loft_want_none_started (hr.mono (by decide)) (passes_call (takes_of rfl rfl rfl rfl) (fun _ _ _ _ h => h))))
  (pss_cons (ps_set (i := 4) sc_Loft_add_pair.nd rfl (by first | exact Or.inl rfl | exact Or.inr rfl) (pe_tup (pa_cons (pv 1) (pa_cons (pv 2) (pa_cons (pv 3) pa_nil)))))
  (pss_cons (ps_expr (pe_callE D_want (hr.mono (by decide)) rfl (passes_call (takes_of rfl rfl rfl rfl) (fun _ _ _ _ h => h)) (by exact (pa_cons (pe_not (pe_callE D_is_pair_violated (hr.mono (by decide)) rfl pass0 (by exact (pa_cons (pv 4) (pa_cons (pe_fld (pe_fld (pv 0) rfl) rfl) pa_nil))))) (pa_cons (pe_glob rfl T.m_TOO_LATE.2 ⟨_, rfl⟩) pa_nil)))))
  (pss_cons (ps_expr (pe_callE D_want (hr.mono (by decide)) rfl (passes_call (takes_of rfl rfl rfl rfl) (fun _ _ _ _ h => h)) (by exact (pa_cons (pe_cmpR oLt (pe_callB cLen rfl T.f_len bLen (pa_cons (pe_fld (pe_fld (pv 0) rfl) rfl) pa_nil)) (pe_glob rfl T.m_MOST_PAIRS.2 ⟨_, rfl⟩) (nomark _)) (pa_cons (pe_glob rfl T.m_TOO_MANY.2 ⟨_, rfl⟩) pa_nil)))))
  (pss_cons (ps_expr (pe_bm PySem.F.plainAttrs_list PySem.F.slot_list_append PySem.F.type_list_append mt_append (pe_fld (pe_fld (pv 0) rfl) rfl) (pa_cons (pv 4) pa_nil)))
  (pss_one (ps_ret (pe_lst (pa_cons (pe_op oSub (pe_callB cLen rfl T.f_len bLen (pa_cons (pe_fld (pe_fld (pv 0) rfl) rfl) pa_nil)) pe_int) pa_nil))))))))))))
  exact MethE.mk ⟨fd, G, bd⟩ T.c_Loft T.e_Loft_add_pair

/-! ### put_cue -/
def sp_Loft_put_cue (K : PySem.W.Frag) : Sp := fun vs H Q E => ∃ (l dx : Addr) (A : Adr) (S : Sy92.St) (ev : Int) (c w v : V) (r : List Nat) (u : Option (Nat × Nat × Nat)), vs = [.ref l, .int ev, c, w, v] ∧ LftAt K H l dx A S ∧ InvS S ∧ NsV K H v r ∧ r.length ≤ 4000 ∧ upE u ev c w ∧
  RetC K l dx A S ({ S with stage := (Sy90.more S.stage (movesL r) u).1 }, (Sy90.more S.stage (movesL r) u).2) H Q E
theorem sl_Loft_put_cue {K : PySem.W.Frag} {vs : List V} {H : Hp} {Q : VK} {E : XK} (h : sp_Loft_put_cue K vs H Q E) : vs.length = 5 := by
  obtain ⟨_, _, _, _, _, _, _, _, _, _, rfl, _⟩ := h
  rfl
def t_Loft_put_cue (K : PySem.W.Frag) (E : XK) : TS :=
  (tSeq (tDrop (tMeth (He.ga K "Loft") "want_none_started" (sp_Loft_want_none_started K) [] E (tVar 0) tNil))
  (tSeq (tDrop (tCall (sp_want K) [] E (tCons (tOp rLtI (tCB (rLenS K) (tCons (tFld K (tFld K (tVar 0) "stage") "cues") tNil)) (tC (.int 5))) (tCons (tC (.int (-5))) tNil))))
  (tRet (tLst (tCons (tMeth (He.ga K "Stage") "add_cue" (sp_Stage_add_cue K) [] E0 (tFld K (tVar 0) "stage") (tCons (tMake (He.ga K "Cue") (sp_Cue___init__ K) [] E0 (tCons (tCB (rTupS K) (tCons (tCall (sp_moves_of K) [] E0 (tCons (tVar 4) tNil)) tNil)) (tCons (tVar 1) (tCons (tVar 2) (tCons (tVar 3) tNil))))) tNil)) tNil)))))
theorem sp_add_cue_mono {K : PySem.W.Frag} {E : XK} (vs : List V) (H1 : Hp) (Q Q2 : VK) (h : ∀ v H2, Q v H2 → Q2 v H2) (p : sp_Stage_add_cue K vs H1 Q E) : sp_Stage_add_cue K vs H1 Q2 E := by
  obtain ⟨A, s, r, v, c, h1, h2, h3, h4, k⟩ := p
  exact ⟨A, s, r, v, c, h1, h2, h3, h4, fun H2 a b => h _ _ (k H2 a b)⟩
theorem pure_Loft_put_cue {K : PySem.W.Frag} {mg : Str → Option Value} (T : Tx K mg) (vs : List V) (H : Hp) (Q : VK) (E : XK) (h : sp_Loft_put_cue K vs H Q E) : t_Loft_put_cue K E { nx := fun _ H' => Q .non H', rt := Q } (start N_Loft_put_cue vs) H := by
  obtain ⟨l, dx, A, S, ev, c, w, v, r, u, rfl, L, I, ⟨a, rfl, ha⟩, hz, hu, k1, k2⟩ := h
  have z := I.ok.toWf.sz
  have no : ∀ i : Int, Sy90.more S.stage (movesL r) u = (S.stage, Sy90.ok i) → RetX K i H E := fun i h => k1 i (by rw [h]; rfl)
  refine q_wantNone L z (ev_var rfl) (fun hg H1 e1 => ?_) fun hg => no (-4) (if_pos hg)
  have no2 := fun (i : Int) h => no i ((if_neg (show ¬ Sy90.begun S.stage = true by rw [hg]; decide)).trans h)
  have L1 := L.x e1
  obtain ⟨xs, hx1, hx2⟩ := L1.st.fc
  have hxl : xs.length = S.stage.cues.length := All2.len hx2
  refine q_refuse (b := decide (S.stage.cues.length < 5)) (ev_is (ev_op (ev_cb (ea_cons (ev_cs T L1.st (ev_st T L1 (ev_var rfl))) ea_nil) (rc_len (Or.inl (sq_of hx1)))) ev_c rv_I0) (congrArg V.bl (decide_eq_decide.mpr (by omega)))) ev_c (fun hp H2 e2 => ?_) fun hp => (no2 (-5) (if_pos (by have := of_decide_eq_false hp; omega))).go e1
  have hp := of_decide_eq_true hp
  have L2' := L1.x e2
  have e12 := e1.trans e2
  have est : Sy90.more S.stage (movesL r) u = (addC S.stage ⟨movesL r, u⟩, Sy90.ok (S.stage.cues.length : Nat)) := (if_neg (show ¬ Sy90.begun S.stage = true by rw [hg]; decide)).trans (if_neg (show ¬ 5 ≤ S.stage.cues.length by omega))
  rw [est] at k2
  refine s_retLM (PA := fun vs H3 => ∃ v, vs = [v] ∧ CueV K H3 v ⟨movesL r, u⟩) (ev_st T L2' (ev_var rfl)) L2'.st.o rfl (evad_one (EvD.imp (evd_cue (K := K) (c := ⟨movesL r, u⟩) (evad_cons (P := fun v H3 => ∃ m, v = .ref m ∧ MvV K H3 m (movesL r)) (evd_cbD (evd_call (P := fun v H3 => LlV PrV K H3 v (movesL r)) (evad_one (evd_of (ev_var rfl) fun H3 e3 => spd_moves_of ⟨a, rfl, ex_l (e12.trans e3) ha⟩ hz))) ?_) fun x H3 e3 p3 => evad_v (vs := [.int ev, c, w]) (ea_cons (ev_var rfl) (ea_cons (ev_var rfl) (ea_cons (ev_var rfl) ea_nil))) fun H4 e4 => ?_)) fun v H3 e3 p3 => ⟨v, rfl, p3⟩)) (fun vs H3 e3 p3 => ?_) sp_add_cue_mono
  · rintro x H3 e3 ⟨b, ys, rfl, hb1, hb2⟩
    refine fun Q2 q2 => ⟨b, ys, rfl, .inl ⟨sq_of hb1, fun t ht => q2 (.ref t) _ (Ex.new ht) ⟨t, rfl, ys, st_of upd_same, all2_x prV_st.x (Ex.new ht) hb2⟩⟩⟩
  · obtain ⟨m, rfl, hm⟩ := p3
    exact ⟨m, ev, c, w, rfl, mvV_fix (Fix.of e4) hm, hu⟩
  · obtain ⟨v, rfl, hv⟩ := p3
    have L3 := L2'.x e3
    refine ⟨A, S.stage, S.ropes, v, _, rfl, L3.st, z, hv, fun H4 S4 f4 p hp => ?_⟩
    have L4 : LftAt K H4 l dx A { S with stage := addC S.stage ⟨movesL r, u⟩ } := ⟨f4 l _ L3.o L3.n, S4, L3.n⟩
    exact k2.fin ((Frm.of (e12.trans e3)).trans (f4.mono fun x hx => List.mem_cons_of_mem _ hx)) L4 (fun b hb => .inl hb) hp (Ex.new hp) upd_same
theorem ok_Loft_put_cue {P : Program} {w : World} {K : PySem.W.Frag} {mg : Str → Option Value} {base : Heap} (T : Tx K mg) (D_Cue___init__ : MakeE P w K mg base CX0 1 "Cue" ["self", "moves", "event", "leader", "delay"] (sp_Cue___init__ K)) (D_Loft_want_none_started : MethE P w K mg base (L2.CX P w) 4 "Loft" "want_none_started" ["self"] (sp_Loft_want_none_started K)) (D_Stage_add_cue : MethE P w K mg base (CX0) 1 "Stage" "add_cue" ["self", "cue"] (sp_Stage_add_cue K)) (D_moves_of : DefE P w K mg base (CX0) 1 "moves_of" ["row"] (sp_moves_of K)) (D_want : DefE P w K mg base (L2.CX P w) 3 "want" ["is_so", "code"] (sp_want K)) : MethE P w K mg base (L2.CX P w) 5 "Loft" "put_cue" ["self", "event", "leader", "delay", "row"] (sp_Loft_put_cue K) := by
  obtain ⟨fd, F⟩ := T.d_Loft_put_cue
  have bd : Binds K fd ["self", "event", "leader", "delay", "row"] [] := F.bindsN fun _ _ _ _ _ _ us hl => match us, hl with | [_, _, _, _, _], _ => rfl
  have G : FnOk P w K mg base (L2.CX P w) 5 (He.ma K (He.ga K "Loft") "put_cue") fd ["self", "event", "leader", "delay", "row"] (sp_Loft_put_cue K) := by
    refine F.ok sc_Loft_put_cue (fun vs H Q E h => sl_Loft_put_cue h) (fun cdv A outer s H vs Q E hr h => ⟨t_Loft_put_cue K E, ?_, pure_Loft_put_cue T vs H Q E h⟩)
    exact (pss_cons (ps_expr (pe_methE0 (pv 0) D_Loft_want_none_started (hr.mono (by decide)) (passes_call (takes_of rfl rfl rfl rfl) (fun _ _ _ _ h => h))))
  (pss_cons (ps_expr (pe_callE D_want (hr.mono (by decide)) rfl (passes_call (takes_of rfl rfl rfl rfl) (fun _ _ _ _ h => h)) (by exact (pa_cons (pe_cmpR oLt (pe_callB cLen rfl T.f_len bLen (pa_cons (pe_fld (pe_fld (pv 0) rfl) rfl) pa_nil)) (pe_glob rfl T.m_MOST_CUES.2 ⟨_, rfl⟩) (nomark _)) (pa_cons (pe_glob rfl T.m_TOO_MANY.2 ⟨_, rfl⟩) pa_nil)))))
  (pss_one (ps_ret (pe_lst (pa_cons (pe_methE (pe_fld (pv 0) rfl) D_Stage_add_cue (hr.mono (by decide)) pass0 (by exact (pa_cons (pe_makeE D_Cue___init__ (hr.mono (by decide)) rfl pass0 (by exact (pa_cons (pe_callTy cTup rfl T.f_tuple bTuple (pa_cons (pe_callE D_moves_of (hr.mono (by decide)) rfl pass0 (by exact (pa_cons (pv 4) pa_nil))) pa_nil)) (pa_cons (pv 1) (pa_cons (pv 2) (pa_cons (pv 3) pa_nil)))))) pa_nil))) pa_nil))))))
  exact MethE.mk ⟨fd, G, bd⟩ T.c_Loft T.e_Loft_put_cue

/-! ### add_cue -/
def sp_Loft_add_cue (K : PySem.W.Frag) : Sp := fun vs H Q E => ∃ (l dx : Addr) (A : Adr) (S : Sy92.St) (v : V) (r : List Nat), vs = [.ref l, v] ∧ LftAt K H l dx A S ∧ InvS S ∧ NsV K H v r ∧ r.length ≤ 4000 ∧ RetC K l dx A S (Sy92.step S (.cue r)) H Q E
theorem sl_Loft_add_cue {K : PySem.W.Frag} {vs : List V} {H : Hp} {Q : VK} {E : XK} (h : sp_Loft_add_cue K vs H Q E) : vs.length = 2 := by
  obtain ⟨_, _, _, _, _, _, rfl, _⟩ := h
  rfl
def t_Loft_add_cue (K : PySem.W.Frag) (E : XK) : TS :=
  (tSeq (tDrop (tCall (sp_want K) [] E (tCons (tCall (sp_are_moves K) [] E0 (tCons (tFld K (tVar 0) "stage") (tCons (tVar 1) tNil))) (tCons (tC (.int (-1))) tNil))))
  (tRet (tMeth (He.ga K "Loft") "put_cue" (sp_Loft_put_cue K) [] E (tVar 0) (tCons (tC (.int (-1))) (tCons (tC (.int 0)) (tCons (tC (.int 0)) (tCons (tVar 1) tNil)))))))
theorem list_some {s : Sy90.St} {l : List Nat} (h : (Sy90.list s l).isSome = true) : Sy90.list s l = some (movesL l) := by
  rw [list_eq] at h ⊢
  split at h
  · rename_i hc
    rw [if_pos hc]
  · cases h
theorem RetC.go {K : PySem.W.Frag} {l dx : Addr} {A : Adr} {S : Sy92.St} {r : Sy92.St × Sy92.Ans} {H H1 : Hp} {Q : VK} {E : XK} (k : RetC K l dx A S r H Q E) (e : Ex H H1) : RetC K l dx A S r H1 Q E := ⟨fun c h => (k.1 c h).go e, k.2.go e⟩
theorem pure_Loft_add_cue {K : PySem.W.Frag} {mg : Str → Option Value} (T : Tx K mg) (vs : List V) (H : Hp) (Q : VK) (E : XK) (h : sp_Loft_add_cue K vs H Q E) : t_Loft_add_cue K E { nx := fun _ H' => Q .non H', rt := Q } (start N_Loft_add_cue vs) H := by
  obtain ⟨l, dx, A, S, v, r, rfl, L, I, hv, hz, k⟩ := h
  refine q_refuse (b := (Sy90.list S.stage r).isSome) (ev_call (ea_cons (ev_st T L (ev_var rfl)) (ea_cons (ev_var rfl) ea_nil)) (spv_are_moves L.st hv hz)) ev_c (fun hb H1 e1 => ?_) fun hb => k.1 (-1) (thr_eq S _ _ ?_)
  · refine s_retM (ev_var rfl) (L.x e1).o rfl (ea_cons ev_c (ea_cons ev_c (ea_cons ev_c (ea_cons (ev_var rfl) ea_nil)))) fun H2 e2 => ⟨l, dx, A, S, -1, .int 0, .int 0, v, r, none, rfl, L.x (e1.trans e2), I, nsV_x _ _ _ _ _ (e1.trans e2) hv, hz, rfl, ?_⟩
    have hs := list_some hb
    have est : Sy92.step S (.cue r) = ({ S with stage := (Sy90.more S.stage (movesL r) none).1 }, (Sy90.more S.stage (movesL r) none).2) := by
      have e90 : Sy90.step S.stage (.cue r) = Sy90.more S.stage (movesL r) none := by
        unfold Sy90.step
        dsimp only
        rw [hs]
      show Sy92.through S (.cue r) = _
      unfold Sy92.through
      rw [e90]
    rw [est] at k
    exact k.go (e1.trans e2)
  · have hn : Sy90.list S.stage r = none := by
      cases h : Sy90.list S.stage r with
      | none => rfl
      | some m =>
        rw [h] at hb
        cases hb
    unfold Sy90.step
    dsimp only
    rw [hn]
    rfl
theorem ok_Loft_add_cue {P : Program} {w : World} {K : PySem.W.Frag} {mg : Str → Option Value} {base : Heap} (T : Tx K mg) (D_Loft_put_cue : MethE P w K mg base (L2.CX P w) 5 "Loft" "put_cue" ["self", "event", "leader", "delay", "row"] (sp_Loft_put_cue K)) (D_are_moves : DefE P w K mg base (CX0) 2 "are_moves" ["stage", "row"] (sp_are_moves K)) (D_want : DefE P w K mg base (L2.CX P w) 3 "want" ["is_so", "code"] (sp_want K)) : MethE P w K mg base (L2.CX P w) 6 "Loft" "add_cue" ["self", "row"] (sp_Loft_add_cue K) := by
  obtain ⟨fd, F⟩ := T.d_Loft_add_cue
  have bd : Binds K fd ["self", "row"] [] := F.bindsN fun _ _ _ _ _ _ us hl => match us, hl with | [_, _], _ => rfl
  have G : FnOk P w K mg base (L2.CX P w) 6 (He.ma K (He.ga K "Loft") "add_cue") fd ["self", "row"] (sp_Loft_add_cue K) := by
    refine F.ok sc_Loft_add_cue (fun vs H Q E h => sl_Loft_add_cue h) (fun cdv A outer s H vs Q E hr h => ⟨t_Loft_add_cue K E, ?_, pure_Loft_add_cue T vs H Q E h⟩)
    exact (pss_cons (ps_expr (pe_callE D_want (hr.mono (by decide)) rfl (passes_call (takes_of rfl rfl rfl rfl) (fun _ _ _ _ h => h)) (by exact (pa_cons (pe_callE D_are_moves (hr.mono (by decide)) rfl pass0 (by exact (pa_cons (pe_fld (pv 0) rfl) (pa_cons (pv 1) pa_nil)))) (pa_cons (pe_glob rfl T.m_WRONG.2 ⟨_, rfl⟩) pa_nil)))))
  (pss_one (ps_ret (pe_methE (pv 0) D_Loft_put_cue (hr.mono (by decide)) (passes_call (takes_of rfl rfl rfl rfl) (fun _ _ _ _ h => h)) (by exact (pa_cons (pe_glob rfl T.m_CALLED.2 ⟨_, rfl⟩) (pa_cons pe_int (pa_cons pe_int (pa_cons (pv 1) pa_nil)))))))))
  exact MethE.mk ⟨fd, G, bd⟩ T.c_Loft T.e_Loft_add_cue

/-! ### add_follow -/
def sp_Loft_add_follow (K : PySem.W.Frag) : Sp := fun vs H Q E => ∃ (l dx : Addr) (A : Adr) (S : Sy92.St) (e c d : Nat) (v : V) (r : List Nat), vs = [.ref l, nV e, nV c, nV d, v] ∧ LftAt K H l dx A S ∧ InvS S ∧ NsV K H v r ∧ r.length ≤ 4000 ∧ RetC K l dx A S (Sy92.step S (.follow e c d r)) H Q E
theorem sl_Loft_add_follow {K : PySem.W.Frag} {vs : List V} {H : Hp} {Q : VK} {E : XK} (h : sp_Loft_add_follow K vs H Q E) : vs.length = 5 := by
  obtain ⟨_, _, _, _, _, _, _, _, _, rfl, _⟩ := h
  rfl
def t_Loft_add_follow (K : PySem.W.Frag) (E : XK) : TS :=
  (tSeq (tDrop (tCall (sp_want K) [] E (tCons (tCall (sp_are_moves K) [] E0 (tCons (tFld K (tVar 0) "stage") (tCons (tVar 4) tNil))) (tCons (tC (.int (-1))) tNil))))
  (tSeq (tDrop (tCall (sp_want K) [] E (tCons (tAndV (tOp (rIn K false) (tVar 1) (tTup (tCons (tC (.int 0)) (tCons (tC (.int 1)) tNil)))) (tOp rLeI (tVar 3) (tC (.int 5)))) (tCons (tC (.int (-1))) tNil))))
  (tSeq (tDrop (tMeth (He.ga K "Loft") "want_cue" (sp_Loft_want_cue K) [] E (tVar 0) (tCons (tVar 2) tNil)))
  (tRet (tMeth (He.ga K "Loft") "put_cue" (sp_Loft_put_cue K) [] E (tVar 0) (tCons (tVar 1) (tCons (tVar 2) (tCons (tVar 3) (tCons (tVar 4) tNil)))))))))
theorem in01 (e : Nat) : inV (nV e) [.int 0, .int 1] = decide (e ≤ 1) := by
  have := inV_nats e [0, 1]
  rw [show ([0, 1] : List Nat).map nV = [V.int 0, V.int 1] from rfl] at this
  rw [this]
  by_cases h : e ≤ 1
  · rw [decide_eq_true h]
    have : e = 0 ∨ e = 1 := by omega
    rcases this with rfl | rfl <;> rfl
  · rw [decide_eq_false h]
    simp
    omega
theorem pure_Loft_add_follow {K : PySem.W.Frag} {mg : Str → Option Value} (T : Tx K mg) (vs : List V) (H : Hp) (Q : VK) (E : XK) (h : sp_Loft_add_follow K vs H Q E) : t_Loft_add_follow K E { nx := fun _ H' => Q .non H', rt := Q } (start N_Loft_add_follow vs) H := by
  obtain ⟨l, dx, A, S, e, c, d, v, r, rfl, L, I, hv, hz, k⟩ := h
  refine q_refuse (b := (Sy90.list S.stage r).isSome) (ev_call (ea_cons (ev_st T L (ev_var rfl)) (ea_cons (ev_var rfl) ea_nil)) (spv_are_moves L.st hv hz)) ev_c (fun hb H1 e1 => ?_) fun hb => k.1 (-1) (thr_eq S _ _ ?_)
  · have hs := list_some hb
    have est : ∀ x, (if 1 < e ∨ 5 < d then (S.stage, Sy90.ok (-1)) else if S.stage.cues.length ≤ c then (S.stage, Sy90.ok (-2)) else Sy90.more S.stage (movesL r) (some (e, c, d))) = x → Sy90.step S.stage (.follow e c d r) = x := fun x h => by
      unfold Sy90.step
      dsimp only
      rw [hs]
      exact h
    refine q_refuse (b := decide (e ≤ 1) && decide (d ≤ 5)) (ev_andV (ev_is (ev_inU (xs := [.int 0, .int 1]) (ev_var rfl) (eu_tup (ea_cons ev_c (ea_cons ev_c ea_nil)) (Nat.le_of_lt (show 2 < 100000 by decide))) rfl rfl) (congrArg V.bl (in01 e))) fun _ => ev_is (ev_op (ev_var rfl) ev_c rv_I0) (congrArg V.bl (decide_eq_decide.mpr (by omega)))) ev_c (fun hc H2 e2 => ?_) fun hc => (k.1 (-1) (thr_eq S _ _ (est _ (if_pos ?_)))).go e1
    · simp only [Bool.and_eq_true, decide_eq_true_eq] at hc
      have L2' := L.x (e1.trans e2)
      refine q_wantCue L2' (ev_var rfl) (ev_var rfl) (fun hk H3 e3 => ?_) fun hk => (k.1 (-2) (thr_eq S _ _ (est _ ((if_neg (show ¬ (1 < e ∨ 5 < d) by omega)).trans (if_pos hk))))).go (e1.trans e2)
      have e13 := (e1.trans e2).trans e3
      refine s_retM (ev_var rfl) (L.x e13).o rfl (ea_cons (ev_var rfl) (ea_cons (ev_var rfl) (ea_cons (ev_var rfl) (ea_cons (ev_var rfl) ea_nil)))) fun H4 e4 => ⟨l, dx, A, S, e, nV c, nV d, v, r, some (e, c, d), rfl, L.x (e13.trans e4), I, nsV_x _ _ _ _ _ (e13.trans e4) hv, hz, ⟨rfl, rfl, rfl⟩, ?_⟩
      have est2 : Sy92.step S (.follow e c d r) = ({ S with stage := (Sy90.more S.stage (movesL r) (some (e, c, d))).1 }, (Sy90.more S.stage (movesL r) (some (e, c, d))).2) := by
        show Sy92.through S (.follow e c d r) = _
        unfold Sy92.through
        rw [est _ ((if_neg (show ¬ (1 < e ∨ 5 < d) by omega)).trans (if_neg (show ¬ S.stage.cues.length ≤ c by omega)))]
      rw [est2] at k
      exact k.go (e13.trans e4)
    · rw [Bool.and_eq_false_iff] at hc
      simp only [decide_eq_false_iff_not] at hc
      omega
  · have hn : Sy90.list S.stage r = none := by
      cases h : Sy90.list S.stage r with
      | none => rfl
      | some m =>
        rw [h] at hb
        cases hb
    unfold Sy90.step
    dsimp only
    rw [hn]
    rfl
theorem ok_Loft_add_follow {P : Program} {w : World} {K : PySem.W.Frag} {mg : Str → Option Value} {base : Heap} (T : Tx K mg) (D_Loft_put_cue : MethE P w K mg base (L2.CX P w) 5 "Loft" "put_cue" ["self", "event", "leader", "delay", "row"] (sp_Loft_put_cue K)) (D_Loft_want_cue : MethE P w K mg base (L2.CX P w) 4 "Loft" "want_cue" ["self", "cue"] (sp_Loft_want_cue K)) (D_are_moves : DefE P w K mg base (CX0) 2 "are_moves" ["stage", "row"] (sp_are_moves K)) (D_want : DefE P w K mg base (L2.CX P w) 3 "want" ["is_so", "code"] (sp_want K)) : MethE P w K mg base (L2.CX P w) 6 "Loft" "add_follow" ["self", "event", "cue", "delay", "row"] (sp_Loft_add_follow K) := by
  obtain ⟨fd, F⟩ := T.d_Loft_add_follow
  have bd : Binds K fd ["self", "event", "cue", "delay", "row"] [] := F.bindsN fun _ _ _ _ _ _ us hl => match us, hl with | [_, _, _, _, _], _ => rfl
  have G : FnOk P w K mg base (L2.CX P w) 6 (He.ma K (He.ga K "Loft") "add_follow") fd ["self", "event", "cue", "delay", "row"] (sp_Loft_add_follow K) := by
    refine F.ok sc_Loft_add_follow (fun vs H Q E h => sl_Loft_add_follow h) (fun cdv A outer s H vs Q E hr h => ⟨t_Loft_add_follow K E, ?_, pure_Loft_add_follow T vs H Q E h⟩)
    exact (pss_cons (ps_expr (pe_callE D_want (hr.mono (by decide)) rfl (passes_call (takes_of rfl rfl rfl rfl) (fun _ _ _ _ h => h)) (by exact (pa_cons (pe_callE D_are_moves (hr.mono (by decide)) rfl pass0 (by exact (pa_cons (pe_fld (pv 0) rfl) (pa_cons (pv 4) pa_nil)))) (pa_cons (pe_glob rfl T.m_WRONG.2 ⟨_, rfl⟩) pa_nil)))))
  (pss_cons (ps_expr (pe_callE D_want (hr.mono (by decide)) rfl (passes_call (takes_of rfl rfl rfl rfl) (fun _ _ _ _ h => h)) (by exact (pa_cons (pe_and (pe_cmpR oIn (pv 1) (pe_tup (pa_cons (pe_glob rfl T.m_STARTED.2 ⟨_, rfl⟩) (pa_cons (pe_glob rfl T.m_DONE.2 ⟨_, rfl⟩) pa_nil))) (by with_unfolding_all rfl)) (pe_one (pe_cmpR oLe (pv 3) (pe_glob rfl T.m_MOST_DELAY.2 ⟨_, rfl⟩) (nomark _)))) (pa_cons (pe_glob rfl T.m_WRONG.2 ⟨_, rfl⟩) pa_nil)))))
  (pss_cons (ps_expr (pe_methE (pv 0) D_Loft_want_cue (hr.mono (by decide)) (passes_call (takes_of rfl rfl rfl rfl) (fun _ _ _ _ h => h)) (by exact (pa_cons (pv 2) pa_nil))))
  (pss_one (ps_ret (pe_methE (pv 0) D_Loft_put_cue (hr.mono (by decide)) (passes_call (takes_of rfl rfl rfl rfl) (fun _ _ _ _ h => h)) (by exact (pa_cons (pv 1) (pa_cons (pv 2) (pa_cons (pv 3) (pa_cons (pv 4) pa_nil)))))))))))
  exact MethE.mk ⟨fd, G, bd⟩ T.c_Loft T.e_Loft_add_follow

/-! ### call -/
def sp_Loft_call (K : PySem.W.Frag) : Sp := fun vs H Q E => ∃ (l dx : Addr) (A : Adr) (S : Sy92.St) (c : Nat), vs = [.ref l, nV c] ∧ LftAt K H l dx A S ∧ InvS S ∧ RetC K l dx A S (Sy92.step S (.go c)) H Q E
theorem sl_Loft_call {K : PySem.W.Frag} {vs : List V} {H : Hp} {Q : VK} {E : XK} (h : sp_Loft_call K vs H Q E) : vs.length = 2 := by
  obtain ⟨_, _, _, _, _, rfl, _⟩ := h
  rfl
def t_Loft_call (K : PySem.W.Frag) (E : XK) : TS :=
  (tSeq (tDrop (tMeth (He.ga K "Loft") "want_cue" (sp_Loft_want_cue K) [] E (tVar 0) (tCons (tVar 1) tNil)))
  (tSeq (tDrop (tCall (sp_want K) [] E (tCons (tNotV (tMeth (He.ga K "Stage") "has_started" (sp_Stage_has_started K) [] E0 (tFld K (tVar 0) "stage") (tCons (tVar 1) tNil))) (tCons (tC (.int (-3))) tNil))))
  (tSeq (tDrop (tMeth (He.ga K "Stage") "call" (sp_Stage_call K) [] E0 (tFld K (tVar 0) "stage") (tCons (tVar 1) tNil)))
  (tRet (tLst (tCons (tMeth (He.ga K "Stage") "many_started" (sp_Stage_many_started K) [] E0 (tFld K (tVar 0) "stage") tNil) tNil))))))
theorem pure_Loft_call {K : PySem.W.Frag} {mg : Str → Option Value} (T : Tx K mg) (vs : List V) (H : Hp) (Q : VK) (E : XK) (h : sp_Loft_call K vs H Q E) : t_Loft_call K E { nx := fun _ H' => Q .non H', rt := Q } (start N_Loft_call vs) H := by
  obtain ⟨l, dx, A, S, c, rfl, L, I, k1, k2⟩ := h
  have z := I.ok.toWf.sz
  refine q_wantCue L (ev_var rfl) (ev_var rfl) (fun hk H1 e1 => ?_) fun hk => k1 (-2) (thr_eq S _ _ (if_pos hk))
  have L1 := L.x e1
  refine q_refuse (b := !(Sy90.startOf S.stage c).isSome) (ev_notV (ev_started L1.st (ev_st T L1 (ev_var rfl)) (ev_var rfl) (by rw [z.ls]; exact hk))) ev_c (fun hu H2 e2 => ?_) fun hu => (k1 (-3) (thr_eq S _ _ ((if_neg (show ¬ S.stage.cues.length ≤ c by omega)).trans (if_pos (by simpa using hu))))).go e1
  have hu : Sy90.startOf S.stage c = none := by simpa using hu
  have L2' := L1.x e2
  have e12 := e1.trans e2
  have est : Sy92.step S (.go c) = ({ S with stage := Sy90.called S.stage c }, Sy92.ok (Sy90.count (Sy90.called S.stage c).started : Nat)) := by
    show Sy92.through S _ = _
    unfold Sy92.through
    rw [show Sy90.step S.stage (.go c) = (Sy90.called S.stage c, Sy90.ok (Sy90.count (Sy90.called S.stage c).started : Nat)) from (if_neg (show ¬ S.stage.cues.length ≤ c by omega)).trans (if_neg (by rw [hu]; decide))]
    rfl
  rw [est] at k2
  refine q_mut (ev_st T L2' (ev_var rfl)) L2'.st.o rfl (ea_cons (ev_var rfl) ea_nil) fun H3 e3 => ⟨A, S.stage, S.ropes, c, rfl, L2'.st.x e3, z, hk, fun H4 S4 f4 => ?_⟩
  rw [← called_eq I.ok.toWf hk hu] at S4
  have z4 := (called_ok I.ok.toWf hk hu).toWf.sz
  have L4 : LftAt K H4 l dx A { S with stage := Sy90.called S.stage c } := ⟨f4 l _ (e3 l _ L2'.o) L2'.n, S4, L2'.n⟩
  refine s_retL (xs := [nV (Sy90.count (Sy90.called S.stage c).started)]) (el_lst (ea_cons (ev_many_started L4.st z4 (ev_st T L4 (ev_var rfl))) ea_nil) (Nat.le_of_lt (show 1 < 100000 by decide))) fun q H5 hq e5 h5 => ?_
  exact k2.fin ((Frm.of (e12.trans e3)).trans (f4.mono fun x hx => List.mem_cons_of_mem _ hx)) L4 (fun b hb => .inl hb) hq e5 h5
theorem ok_Loft_call {P : Program} {w : World} {K : PySem.W.Frag} {mg : Str → Option Value} {base : Heap} (T : Tx K mg) (D_Loft_want_cue : MethE P w K mg base (L2.CX P w) 4 "Loft" "want_cue" ["self", "cue"] (sp_Loft_want_cue K)) (D_Stage_call : MethE P w K mg base (CX0) 3 "Stage" "call" ["self", "number"] (sp_Stage_call K)) (D_Stage_has_started : MethE P w K mg base (CX0) 1 "Stage" "has_started" ["self", "number"] (sp_Stage_has_started K)) (D_Stage_many_started : MethE P w K mg base (CX0) 1 "Stage" "many_started" ["self"] (sp_Stage_many_started K)) (D_want : DefE P w K mg base (L2.CX P w) 3 "want" ["is_so", "code"] (sp_want K)) : MethE P w K mg base (L2.CX P w) 5 "Loft" "call" ["self", "cue"] (sp_Loft_call K) := by
  obtain ⟨fd, F⟩ := T.d_Loft_call
  have bd : Binds K fd ["self", "cue"] [] := F.bindsN fun _ _ _ _ _ _ us hl => match us, hl with | [_, _], _ => rfl
  have G : FnOk P w K mg base (L2.CX P w) 5 (He.ma K (He.ga K "Loft") "call") fd ["self", "cue"] (sp_Loft_call K) := by
    refine F.ok sc_Loft_call (fun vs H Q E h => sl_Loft_call h) (fun cdv A outer s H vs Q E hr h => ⟨t_Loft_call K E, ?_, pure_Loft_call T vs H Q E h⟩)
    exact (pss_cons (ps_expr (pe_methE (pv 0) D_Loft_want_cue (hr.mono (by decide)) (passes_call (takes_of rfl rfl rfl rfl) (fun _ _ _ _ h => h)) (by exact (pa_cons (pv 1) pa_nil))))
  (pss_cons (ps_expr (pe_callE D_want (hr.mono (by decide)) rfl (passes_call (takes_of rfl rfl rfl rfl) (fun _ _ _ _ h => h)) (by exact (pa_cons (pe_not (pe_methE (pe_fld (pv 0) rfl) D_Stage_has_started (hr.mono (by decide)) pass0 (by exact (pa_cons (pv 1) pa_nil)))) (pa_cons (pe_glob rfl T.m_IS_STARTED.2 ⟨_, rfl⟩) pa_nil)))))
  (pss_cons (ps_expr (pe_methE (pe_fld (pv 0) rfl) D_Stage_call (hr.mono (by decide)) pass0 (by exact (pa_cons (pv 1) pa_nil))))
  (pss_one (ps_ret (pe_lst (pa_cons (pe_methE0 (pe_fld (pv 0) rfl) D_Stage_many_started (hr.mono (by decide)) pass0) pa_nil)))))))
  exact MethE.mk ⟨fd, G, bd⟩ T.c_Loft T.e_Loft_call
end Sk
namespace Sk
open PySem L2 Evl Sc
/-! ### wait -/
def sp_Loft_wait (K : PySem.W.Frag) : Sp := fun vs H Q E => ∃ (l dx : Addr) (A : Adr) (S : Sy92.St) (n : Nat), vs = [.ref l, nV n] ∧ LftAt K H l dx A S ∧ InvS S ∧ RetC K l dx A S (Sy92.step S (.wait n)) H Q E
theorem sl_Loft_wait {K : PySem.W.Frag} {vs : List V} {H : Hp} {Q : VK} {E : XK} (h : sp_Loft_wait K vs H Q E) : vs.length = 2 := by
  obtain ⟨_, _, _, _, _, rfl, _⟩ := h
  rfl
def t_Loft_wait (K : PySem.W.Frag) (E : XK) : TS :=
  (tSeq (tDrop (tCall (sp_want K) [] E (tCons (tOp rLeI (tVar 1) (tC (.int 200))) (tCons (tC (.int (-1))) tNil))))
  (tSeq (tFor (iRng1 (tCons (tVar 1) tNil)) (gName 2) (tDrop (tMeth (He.ga K "Stage") "pass_second" (sp_Stage_pass_second K) [] E0 (tFld K (tVar 0) "stage") tNil)))
  (tRet (tLst (tCons (tFld K (tFld K (tVar 0) "stage") "now") tNil)))))
theorem pure_Loft_wait {K : PySem.W.Frag} {mg : Str → Option Value} (T : Tx K mg) (vs : List V) (H : Hp) (Q : VK) (E : XK) (h : sp_Loft_wait K vs H Q E) : t_Loft_wait K E { nx := fun _ H' => Q .non H', rt := Q } (start N_Loft_wait vs) H := by
  obtain ⟨l, dx, A, S, n, rfl, L, I, k1, k2⟩ := h
  refine q_refuse (b := decide (n ≤ 200)) (ev_is (ev_op (ev_var rfl) ev_c rv_I0) (congrArg V.bl (decide_eq_decide.mpr (by omega)))) ev_c (fun hb H1 e1 => ?_) fun hb => k1 (-1) (thr_eq S _ _ (if_pos (by have := of_decide_eq_false hb; omega)))
  have hb := of_decide_eq_true hb
  have est : Sy92.step S (.wait n) = ({ S with stage := Sy90.after S.stage n }, Sy92.ok (S.stage.second + n : Nat)) := by
    show Sy92.through S _ = _
    unfold Sy92.through
    rw [show Sy90.step S.stage (.wait n) = (Sy90.after S.stage n, Sy90.ok (S.stage.second + n : Nat)) from if_neg (show ¬ 200 < n by omega)]
    rfl
  rw [est] at k2
  have L1 := L.x e1
  refine q_forR1 (n := ((n : Nat) : Int)) (ea_cons (ev_var rfl) ea_nil) (by omega) (fun i σ' H' => ∃ o2, σ' = [some (.ref l), some (nV n), o2] ∧ LftAt K H' l dx A { S with stage := Sy90.after S.stage i } ∧ Frm (l :: A.all) H H') (fun H2 e2 => ⟨none, rfl, L1.x e2, Frm.of (e1.trans e2)⟩) ?_ ?_
  · rintro i σ' H' hi ⟨o2, rfl, L2', f2⟩
    have W := after_ok i I.ok
    refine s_mut (ev_st T L2' (ev_var rfl)) L2'.st.o rfl ea_nil fun H3 e3 => ⟨A, _, S.ropes, rfl, L2'.st.x e3, W.toWf.sz, fun H4 S4 f4 => ?_⟩
    rw [← tick_eq W, ← after_succ] at S4
    exact ⟨_, rfl, ⟨f4 l _ (e3 l _ L2'.o) L2'.n, S4, L2'.n⟩, (f2.trans (Frm.of e3)).trans (f4.mono fun x hx => List.mem_cons_of_mem _ hx)⟩
  · rintro σ' H' ⟨o2, rfl, L2', f2⟩
    rw [Int.toNat_natCast] at L2'
    have hs := (after_same n S.stage).2.1
    refine s_retL (xs := [nV (S.stage.second + n)]) (el_lst (ea_cons (ev_is (ev_now T L2'.st (ev_st T L2' (ev_var rfl))) (congrArg (fun n : Nat => nV n) hs)) ea_nil) (Nat.le_of_lt (show 1 < 100000 by decide))) fun q H5 hq e5 h5 => ?_
    exact k2.fin f2 L2' (fun b hb => .inl hb) hq e5 h5
theorem ok_Loft_wait {P : Program} {w : World} {K : PySem.W.Frag} {mg : Str → Option Value} {base : Heap} (T : Tx K mg) (D_Stage_pass_second : MethE P w K mg base (CX0) 4 "Stage" "pass_second" ["self"] (sp_Stage_pass_second K)) (D_want : DefE P w K mg base (L2.CX P w) 3 "want" ["is_so", "code"] (sp_want K)) : MethE P w K mg base (L2.CX P w) 5 "Loft" "wait" ["self", "many"] (sp_Loft_wait K) := by
  obtain ⟨fd, F⟩ := T.d_Loft_wait
  have bd : Binds K fd ["self", "many"] [] := F.bindsN fun _ _ _ _ _ _ us hl => match us, hl with | [_, _], _ => rfl
  have G : FnOk P w K mg base (L2.CX P w) 5 (He.ma K (He.ga K "Loft") "wait") fd ["self", "many"] (sp_Loft_wait K) := by
    refine F.ok sc_Loft_wait (fun vs H Q E h => sl_Loft_wait h) (fun cdv A outer s H vs Q E hr h => ⟨t_Loft_wait K E, ?_, pure_Loft_wait T vs H Q E h⟩)
    exact (pss_cons (ps_expr (pe_callE D_want (hr.mono (by decide)) rfl (passes_call (takes_of rfl rfl rfl rfl) (fun _ _ _ _ h => h)) (by exact (pa_cons (pe_cmpR oLe (pv 1) (pe_glob rfl T.m_MOST_WAIT.2 ⟨_, rfl⟩) (nomark _)) (pa_cons (pe_glob rfl T.m_WRONG.2 ⟨_, rfl⟩) pa_nil)))))
  (PSs.nox (pss_cons (ps_for PassesOwn.never rfl (pi_range1 rfl T.f_range (pa_cons (pv 1) pa_nil)) (pg_name (i := 2) sc_Loft_wait.nd rfl (by first | exact Or.inl rfl | exact Or.inr rfl)) (pss_one (ps_expr (pe_methE0 (pe_fld (pv 0) rfl) D_Stage_pass_second (hr.mono (by decide)) pass0))))
  (pss_one (ps_ret (pe_lst (pa_cons (pe_fld (pe_fld (pv 0) rfl) rfl) pa_nil)))))))
  exact MethE.mk ⟨fd, G, bd⟩ T.c_Loft T.e_Loft_wait
end Sk
namespace Sk
open PySem L2 Evl Sc
theorem ints_V (l : List Nat) : (Sy92.ints l).map V.int = l.map nV := by
  unfold Sy92.ints
  rw [List.map_map]
  rfl
theorem ints90_V (l : List Nat) : (Sy90.ints l).map V.int = l.map nV := by
  unfold Sy90.ints
  rw [List.map_map]
  rfl
/-- the rows of an answer -/
def rowsV : List (List Int) → List V
  | [] => []
  | w :: r => nV w.length :: (w.map V.int ++ rowsV r)
theorem outV_eq (v : Int) : ∀ (rows : List (List Int)), outV ⟨v, rows⟩ = .int v :: rowsV rows := fun rows => by
  unfold outV Sy92Neutral.out
  rw [List.map_cons]
  congr 1
  induction rows with
  | nil => rfl
  | cons w r ih =>
    rw [List.flatMap_cons, List.map_append, ih]
    rfl
theorem seq_frame {K : PySem.W.Frag} {H : Hp} {a p t : Addr} {ps ts : List V} (ha : SqT K H a [.ref p, .ref t]) : True := trivial
/-- a row of triples, joined -/
theorem triple_rows {K : PySem.W.Frag} {H : Hp} {xs : List V} {ms : List (Nat × Nat × Nat)} (h : All2 (TrV K H) xs ms) : All2 (SqV K H) xs (ms.map fun x => [nV x.1, nV x.2.1, nV x.2.2]) := by
  induction h with
  | nil => exact .nil
  | cons h _ ih =>
    obtain ⟨a, rfl, ha⟩ := h
    exact .cons ⟨a, rfl, .inr ha⟩ ih
theorem triple_flat (ms : List (Nat × Nat × Nat)) : (ms.map fun x => [nV x.1, nV x.2.1, nV x.2.2]).flatten = (ms.flatMap fun x => [x.1, x.2.1, x.2.2]).map nV := by
  induction ms with
  | nil => rfl
  | cons x r ih =>
    rw [List.map_cons, List.flatten_cons, ih, List.flatMap_cons, List.map_append]
    rfl
theorem triple_len (ms : List (Nat × Nat × Nat)) : (ms.flatMap fun x => [x.1, x.2.1, x.2.2]).length = 3 * ms.length := by
  induction ms with
  | nil => rfl
  | cons x r ih =>
    rw [List.flatMap_cons, List.length_append, ih, List.length_cons]
    simp only [List.length_cons, List.length_nil]
    omega

/-! ### positions_at -/
def sp_Loft_positions_at (K : PySem.W.Frag) : Sp := fun vs H Q _ => ∃ (l dx : Addr) (A : Adr) (S : Sy92.St) (n : Nat), vs = [.ref l, nV n] ∧ LftAt K H l dx A S ∧ InvS S ∧ RetL (outV (Sy92.step S (.at_ n)).2) H Q
theorem sl_Loft_positions_at {K : PySem.W.Frag} {vs : List V} {H : Hp} {Q : VK} {E : XK} (h : sp_Loft_positions_at K vs H Q E) : vs.length = 2 := by
  obtain ⟨_, _, _, _, _, rfl, _⟩ := h
  rfl
def t_Loft_positions_at (K : PySem.W.Frag) : TS :=
  (tSeq (tAsg (tCall (sp_frame_at K) [] E0 (tCons (tCall (sp_film_from K) [] E0 (tCons (tFld K (tVar 0) "stage") tNil)) (tCons (tVar 1) tNil))) (gName 2))
  (tRet (tOp rCat (tLst (tCons (tCall (sp_many_moving_in K) [] E0 (tCons (tVar 2) tNil)) tNil)) (tCall (sp_listed K) [] E0 (tCons (tOp (rIxT K) (tVar 2) (tC (.int 0))) tNil)))))
theorem pure_Loft_positions_at {K : PySem.W.Frag} {mg : Str → Option Value} (T : Tx K mg) (vs : List V) (H : Hp) (Q : VK) (E : XK) (h : sp_Loft_positions_at K vs H Q E) : t_Loft_positions_at K { nx := fun _ H' => Q .non H', rt := Q } (start N_Loft_positions_at vs) H := by
  obtain ⟨l, dx, A, S, n, rfl, L, I, k⟩ := h
  have W := I.ok
  obtain ⟨f, hf⟩ : ∃ f, f = Sc.frameOf (Sy90.after S.stage (min n (Sy90.ENOUGH + 1))) := ⟨_, rfl⟩
  have W2 := after_ok (min n (Sy90.ENOUGH + 1)) W
  have f1 : f.1 = Sy90.marks (Sy90.after S.stage (min n (Sy90.ENOUGH + 1))) := by rw [hf]; rfl
  have f2 : f.2 = aims (Sy90.after S.stage (min n (Sy90.ENOUGH + 1))) := by rw [hf]; rfl
  have n4 := W2.toWf.n4
  have hl1 : f.1.length = (Sy90.after S.stage (min n (Sy90.ENOUGH + 1))).things.length := by rw [f1, marks_len]
  have hl2 : f.2.length = f.1.length := by rw [f2, f1, marks_len, aims_len]
  refine q_asgD (P := fun v H1 => FrV K H1 v f) (evd_call (evad_cons (evd_film L.st W (ev_st T L (ev_var rfl))) fun x H1 e1 p1 => evad_one (evd_of (ev_var rfl) fun H2 e2 => spd_frame_at (llV_x frV_st.x _ _ _ _ _ e2 p1).s (by rw [List.length_map, frame_at_eq W, hf])))) fun v H1 e1 p1 => ?_
  have p1' := p1
  obtain ⟨a, p, t, rfl, ha, hp, ht⟩ := p1
  refine s_retL (el_is (el_cat (el_lst (ea_cons (ev_call (ea_cons (ev_var rfl) ea_nil) (spv_many_moving_in p1' hl2 (by omega))) ea_nil) (Nat.le_of_lt (show 1 < 100000 by decide))) (el_listed (v := .ref p) (xs := f.1.map nV) (ev_op (ev_var rfl) ev_c (rv_ixT (i := 0) ha rfl)) ⟨p, rfl, .inr hp⟩ (by rw [List.length_map]; omega)) ?_) ?_) fun q H2 hq e2 h2 => k q H2 (fresh_back e1 hq) (e1.trans e2) h2
  · show 1 + _ ≤ _
    rw [List.length_cons, List.length_map]
    omega
  · show _ = outV ⟨(((Sy90.after S.stage (min n (Sy90.ENOUGH + 1))).things.filter Sy90.moving).length : Nat), [Sy90.ints (Sy90.marks (Sy90.after S.stage (min n (Sy90.ENOUGH + 1))))]⟩
    rw [outV_eq]
    unfold rowsV rowsV
    rw [ints90_V, many_moving, ← f1, ← f2, ← hl1, List.append_nil, List.length_map]
    show [nV _] ++ (nV f.1.length :: f.1.map nV) = _
    unfold Sy90.ints
    rw [List.length_map]
    rfl
theorem ok_Loft_positions_at {P : Program} {w : World} {K : PySem.W.Frag} {mg : Str → Option Value} {base : Heap} (T : Tx K mg) (D_film_from : DefE P w K mg base (CX0) 5 "film_from" ["stage"] (sp_film_from K)) (D_frame_at : DefE P w K mg base (CX0) 1 "frame_at" ["film", "time"] (sp_frame_at K)) (D_listed : DefE P w K mg base (CX0) 1 "listed" ["row"] (sp_listed K)) (D_many_moving_in : DefE P w K mg base (CX0) 1 "many_moving_in" ["frame"] (sp_many_moving_in K)) : MethE P w K mg base CX0 6 "Loft" "positions_at" ["self", "time"] (sp_Loft_positions_at K) := by
  obtain ⟨fd, F⟩ := T.d_Loft_positions_at
  have bd : Binds K fd ["self", "time"] [] := F.bindsN fun _ _ _ _ _ _ us hl => match us, hl with | [_, _], _ => rfl
  have G : FnOk P w K mg base CX0 6 (He.ma K (He.ga K "Loft") "positions_at") fd ["self", "time"] (sp_Loft_positions_at K) := by
    refine F.ok sc_Loft_positions_at (fun vs H Q E h => sl_Loft_positions_at h) (fun cdv A outer s H vs Q E hr h => ⟨t_Loft_positions_at K, PSs.nox ?_, pure_Loft_positions_at T vs H Q E h⟩)
    exact (pss_cons (ps_set (i := 2) sc_Loft_positions_at.nd rfl (by first | exact Or.inl rfl | exact Or.inr rfl) (pe_callE D_frame_at (hr.mono (by decide)) rfl pass0 (by exact (pa_cons (pe_callE D_film_from (hr.mono (by decide)) rfl pass0 (by exact (pa_cons (pe_fld (pv 0) rfl) pa_nil))) (pa_cons (pv 1) pa_nil)))))
  (pss_one (ps_ret (pe_op oCat (pe_lst (pa_cons (pe_callE D_many_moving_in (hr.mono (by decide)) rfl pass0 (by exact (pa_cons (pv 2) pa_nil))) pa_nil)) (pe_callE D_listed (hr.mono (by decide)) rfl pass0 (by exact (pa_cons (pe_ix ix_tup (pv 2) pe_int (fun _ _ => rfl)) pa_nil)))))))
  exact MethE.mk ⟨fd, G, bd⟩ T.c_Loft T.e_Loft_positions_at

/-! ### first_violation -/
def sp_Loft_first_violation (K : PySem.W.Frag) : Sp := fun vs H Q E => ∃ (l dx : Addr) (A : Adr) (S : Sy92.St), vs = [.ref l] ∧ LftAt K H l dx A S ∧ InvS S ∧ (∀ c, (Sy92.step S .foul).2 = Sy92.ok c → RetX K c H E) ∧ RetL (outV (Sy92.step S .foul).2) H Q
theorem sl_Loft_first_violation {K : PySem.W.Frag} {vs : List V} {H : Hp} {Q : VK} {E : XK} (h : sp_Loft_first_violation K vs H Q E) : vs.length = 1 := by
  obtain ⟨_, _, _, _, rfl, _⟩ := h
  rfl
def t_Loft_first_violation (K : PySem.W.Frag) (E : XK) : TS :=
  (tSeq (tAsg (tCall (sp_violation_in K) [] E0 (tCons (tCall (sp_film_from K) [] E0 (tCons (tFld K (tVar 0) "stage") tNil)) (tCons (tFld K (tFld K (tVar 0) "stage") "pairs") tNil))) (gName 1))
  (tSeq (tDrop (tCall (sp_want K) [] E (tCons (tOp rNotN (tVar 1) (tC .non)) (tCons (tC (.int (-6))) tNil))))
  (tRet (tOp rCat (tLst (tCons (tOp (rIxT K) (tVar 1) (tC (.int 0))) tNil)) (tCall (sp_listed K) [] E0 (tCons (tLst (tCons (tOp (rIxT K) (tVar 1) (tC (.int 1))) tNil)) tNil))))))
theorem pure_Loft_first_violation {K : PySem.W.Frag} {mg : Str → Option Value} (T : Tx K mg) (vs : List V) (H : Hp) (Q : VK) (E : XK) (h : sp_Loft_first_violation K vs H Q E) : t_Loft_first_violation K E { nx := fun _ H' => Q .non H', rt := Q } (start N_Loft_first_violation vs) H := by
  obtain ⟨l, dx, A, S, rfl, L, I, k1, k2⟩ := h
  have W := I.ok
  have hst : (Sy92.step S .foul).2 = (match Sy90.foul S.stage with
    | none => Sy90.ok (-6)
    | some x => ⟨(x.1 : Nat), [[(x.2 : Int)]]⟩) := rfl
  rw [hst] at k1 k2
  refine q_asgD (P := fun v H1 => OpPr K H1 v (Sy90.foul S.stage)) (evd_call (evad_cons (evd_film L.st W (ev_st T L (ev_var rfl))) fun x H1 e1 p1 => evad_one (evd_of (ev_q T (L.x e1).st (ev_st T (L.x e1) (ev_var rfl))) fun H2 e2 => ?_))) fun v H1 e1 p1 => ?_
  · rw [foul_eq W]
    refine spd_violation_in (llV_x frV_st.x _ _ _ _ _ e2 p1).s (LsAt.v (L.x (e1.trans e2)).st.fq) fun g hg p hp => ?_
    obtain ⟨w, hw, rfl⟩ := List.mem_map.mp hg
    show p.1 < (Sy90.marks w).length ∧ p.2.1 < (Sy90.marks w).length
    rw [marks_len, filmP_things W w hw]
    exact I.pr p hp
  · cases hf : Sy90.foul S.stage with
    | none =>
      rw [hf] at p1 k1
      have p1 : v = .non := p1
      subst p1
      exact q_refuse (b := false) (ev_is (ev_op (ev_var rfl) ev_c rv_notN) rfl) ev_c (fun z => by cases z) fun _ => (k1 (-6) rfl).go e1
    | some x =>
      rw [hf] at p1 k2
      obtain ⟨a, rfl, ha⟩ := p1
      refine q_refuse (b := true) (ev_is (ev_op (ev_var rfl) ev_c rv_notN) rfl) ev_c (fun _ H2 e2 => ?_) fun z => by cases z
      have ha2 := ex_t e2 ha
      refine s_retL (el_cat (el_lst (ea_cons (ev_op (ev_var rfl) ev_c (rv_ixT (i := 0) (v := nV x.1) ha2 rfl)) ea_nil) (Nat.le_of_lt (show 1 < 100000 by decide))) (el_listedL (K := K) (xs := [nV x.2]) (el_lst (ea_cons (ev_op (ev_var rfl) ev_c (rv_ixT (i := 1) ha2 rfl)) ea_nil) (Nat.le_of_lt (show 1 < 100000 by decide))) (by show 1 ≤ 1000000; decide)) (by show 1 + 2 ≤ 16000000; decide)) fun q H3 hq e3 h3 => ?_
      exact k2 q H3 (fresh_back (e1.trans e2) hq) ((e1.trans e2).trans e3) h3
theorem ok_Loft_first_violation {P : Program} {w : World} {K : PySem.W.Frag} {mg : Str → Option Value} {base : Heap} (T : Tx K mg) (D_film_from : DefE P w K mg base (CX0) 5 "film_from" ["stage"] (sp_film_from K)) (D_listed : DefE P w K mg base (CX0) 1 "listed" ["row"] (sp_listed K)) (D_violation_in : DefE P w K mg base (CX0) 3 "violation_in" ["film", "pairs"] (sp_violation_in K)) (D_want : DefE P w K mg base (L2.CX P w) 3 "want" ["is_so", "code"] (sp_want K)) : MethE P w K mg base (L2.CX P w) 6 "Loft" "first_violation" ["self"] (sp_Loft_first_violation K) := by
  obtain ⟨fd, F⟩ := T.d_Loft_first_violation
  have bd : Binds K fd ["self"] [] := F.bindsN fun _ _ _ _ _ _ us hl => match us, hl with | [_], _ => rfl
  have G : FnOk P w K mg base (L2.CX P w) 6 (He.ma K (He.ga K "Loft") "first_violation") fd ["self"] (sp_Loft_first_violation K) := by
    refine F.ok sc_Loft_first_violation (fun vs H Q E h => sl_Loft_first_violation h) (fun cdv A outer s H vs Q E hr h => ⟨t_Loft_first_violation K E, ?_, pure_Loft_first_violation T vs H Q E h⟩)
    exact (pss_cons (ps_set (i := 1) sc_Loft_first_violation.nd rfl (by first | exact Or.inl rfl | exact Or.inr rfl) (pe_callE D_violation_in (hr.mono (by decide)) rfl pass0 (by exact (pa_cons (pe_callE D_film_from (hr.mono (by decide)) rfl pass0 (by exact (pa_cons (pe_fld (pv 0) rfl) pa_nil))) (pa_cons (pe_fld (pe_fld (pv 0) rfl) rfl) pa_nil)))))
  (pss_cons (ps_expr (pe_callE D_want (hr.mono (by decide)) rfl (passes_call (takes_of rfl rfl rfl rfl) (fun _ _ _ _ h => h)) (by exact (pa_cons (pe_cmpR oNotN (pv 1) pe_non (nomark _)) (pa_cons (pe_glob rfl T.m_NEVER.2 ⟨_, rfl⟩) pa_nil)))))
  (pss_one (ps_ret (pe_op oCat (pe_lst (pa_cons (pe_ix ix_tup (pv 1) pe_int (fun _ _ => rfl)) pa_nil)) (pe_callE D_listed (hr.mono (by decide)) rfl pass0 (by exact (pa_cons (pe_lst (pa_cons (pe_ix ix_tup (pv 1) pe_int (fun _ _ => rfl)) pa_nil)) pa_nil))))))))
  exact MethE.mk ⟨fd, G, bd⟩ T.c_Loft T.e_Loft_first_violation

/-! ### movements_now -/
def sp_Loft_movements_now (K : PySem.W.Frag) : Sp := fun vs H Q _ => ∃ (l dx : Addr) (A : Adr) (S : Sy92.St), vs = [.ref l] ∧ LftAt K H l dx A S ∧ InvS S ∧ RetD (fun v H2 => LlV TrV K H2 v (Sy92.moves S [])) H Q
theorem sl_Loft_movements_now {K : PySem.W.Frag} {vs : List V} {H : Hp} {Q : VK} {E : XK} (h : sp_Loft_movements_now K vs H Q E) : vs.length = 1 := by
  obtain ⟨_, _, _, _, rfl, _⟩ := h
  rfl
def t_Loft_movements_now (K : PySem.W.Frag) : TS :=
  (tRet (tCall (sp_movements_in K) [] E0 (tCons (tCall (sp_film_from K) [] E0 (tCons (tFld K (tVar 0) "stage") tNil)) tNil)))
theorem _root_.Sc.InvS.crs {S : Sy92.St} (I : InvS S) : Crs S [] [] S.stage := { here_nil S I.ok I.ro with rl := I.rl, pr := I.pr, fl := fun w hw => (by cases hw), fz := Nat.zero_le _ }
theorem _root_.Sc.InvS.msp {S : Sy92.St} (I : InvS S) : MsP S.ropes (Sy92.moves S []) := by
  have := I.crs.ms
  rw [← I.crs.toHere.moves] at this
  exact this
theorem film_ns {u : Sy90.St} (W : Ok u) : ∀ f ∈ (filmP u).map Sc.frameOf, f.1.length = u.things.length ∧ f.2.length = u.things.length := fun f hf => by
  obtain ⟨w, hw, rfl⟩ := List.mem_map.mp hf
  have := filmP_things W w hw
  refine ⟨?_, ?_⟩
  · show (Sy90.marks w).length = _
    rw [marks_len, this]
  · show (aims w).length = _
    rw [aims_len, this]
theorem moves_len {S : Sy92.St} (I : InvS S) : (Sy92.moves S []).length ≤ 300 := by
  rw [moves92_eq I.ok I.ro, ← movesF_eq]
  have := movesUp_len ((filmP S.stage).map Sc.frameOf) S.stage.things.length
  rw [List.length_map] at this
  have h1 := (filmP_len I.ok).2
  have h2 := I.ok.toWf.n4
  have h3 : (filmP S.stage).length * S.stage.things.length ≤ 56 * 4 := Nat.mul_le_mul h1 h2
  show (movesUp _ _).length ≤ _
  omega
theorem pure_Loft_movements_now {K : PySem.W.Frag} {mg : Str → Option Value} (T : Tx K mg) (vs : List V) (H : Hp) (Q : VK) (E : XK) (h : sp_Loft_movements_now K vs H Q E) : t_Loft_movements_now K { nx := fun _ H' => Q .non H', rt := Q } (start N_Loft_movements_now vs) H := by
  obtain ⟨l, dx, A, S, rfl, L, I, k⟩ := h
  have W := I.ok
  have hfl := filmP_len W
  refine s_retD (P := fun v H2 => LlV TrV K H2 v (Sy92.moves S [])) (evd_call (evad_one (EvD.imp (evd_film L.st W (ev_st T L (ev_var rfl))) fun v H1 e1 p1 => ?_))) k
  rw [moves92_eq W I.ro, ← movesF_eq]
  exact spd_movements_in p1.s (by rw [List.length_map]; exact hfl.1) (by rw [List.length_map]; omega) W.toWf.n4 (film_ns W)
theorem ok_Loft_movements_now {P : Program} {w : World} {K : PySem.W.Frag} {mg : Str → Option Value} {base : Heap} (T : Tx K mg) (D_film_from : DefE P w K mg base (CX0) 5 "film_from" ["stage"] (sp_film_from K)) (D_movements_in : DefE P w K mg base (CX0) 3 "movements_in" ["film"] (sp_movements_in K)) : MethE P w K mg base CX0 6 "Loft" "movements_now" ["self"] (sp_Loft_movements_now K) := by
  obtain ⟨fd, F⟩ := T.d_Loft_movements_now
  have bd : Binds K fd ["self"] [] := F.bindsN fun _ _ _ _ _ _ us hl => match us, hl with | [_], _ => rfl
  have G : FnOk P w K mg base CX0 6 (He.ma K (He.ga K "Loft") "movements_now") fd ["self"] (sp_Loft_movements_now K) := by
    refine F.ok sc_Loft_movements_now (fun vs H Q E h => sl_Loft_movements_now h) (fun cdv A outer s H vs Q E hr h => ⟨t_Loft_movements_now K, PSs.nox ?_, pure_Loft_movements_now T vs H Q E h⟩)
    exact (pss_one (ps_ret (pe_callE D_movements_in (hr.mono (by decide)) rfl pass0 (by exact (pa_cons (pe_callE D_film_from (hr.mono (by decide)) rfl pass0 (by exact (pa_cons (pe_fld (pv 0) rfl) pa_nil))) pa_nil)))))
  exact MethE.mk ⟨fd, G, bd⟩ T.c_Loft T.e_Loft_movements_now
theorem evd_mnow {K : PySem.W.Frag} {σ : L2.St} {H : Hp} {ta : TE} {E : XK} {l dx : Addr} {A : Adr} {S : Sy92.St} (L : LftAt K H l dx A S) (I : InvS S) (h : Ev ta σ H (.ref l)) : EvD (tMeth (He.ga K "Loft") "movements_now" (sp_Loft_movements_now K) [] E ta tNil) σ H fun v H2 => LlV TrV K H2 v (Sy92.moves S []) :=
  evd_meth h L.o rfl (evad_of' fun H1 e1 Q q E2 => ⟨l, dx, A, S, rfl, L.x e1, I, q⟩)

/-! ### few_movements -/
def sp_Loft_few_movements (K : PySem.W.Frag) : Sp := fun vs H Q E => ∃ (l dx : Addr) (A : Adr) (S : Sy92.St), vs = [.ref l] ∧ LftAt K H l dx A S ∧ InvS S ∧ (Sy92.tooMany (Sy92.jobs S (Sy92.moves S [])) = true → RetX K (-5) H E) ∧ (Sy92.tooMany (Sy92.jobs S (Sy92.moves S [])) = false → RetD (fun v H2 => LlV TrV K H2 v (Sy92.moves S [])) H Q)
theorem sl_Loft_few_movements {K : PySem.W.Frag} {vs : List V} {H : Hp} {Q : VK} {E : XK} (h : sp_Loft_few_movements K vs H Q E) : vs.length = 1 := by
  obtain ⟨_, _, _, _, rfl, _⟩ := h
  rfl
def t_Loft_few_movements (K : PySem.W.Frag) (E : XK) : TS :=
  (tSeq (tAsg (tMeth (He.ga K "Loft") "movements_now" (sp_Loft_movements_now K) [] E0 (tVar 0) tNil) (gName 1))
  (tSeq (tDrop (tCall (sp_want K) [] E (tCons (tCall (sp_are_few K) [] E0 (tCons (tFld K (tFld K (tVar 0) "stage") "ropes") (tCons (tVar 1) tNil))) (tCons (tC (.int (-5))) tNil))))
  (tRet (tVar 1))))
theorem pure_Loft_few_movements {K : PySem.W.Frag} {mg : Str → Option Value} (T : Tx K mg) (vs : List V) (H : Hp) (Q : VK) (E : XK) (h : sp_Loft_few_movements K vs H Q E) : t_Loft_few_movements K E { nx := fun _ H' => Q .non H', rt := Q } (start N_Loft_few_movements vs) H := by
  obtain ⟨l, dx, A, S, rfl, L, I, k1, k2⟩ := h
  refine q_asgD (evd_mnow L I (ev_var rfl)) fun v H1 e1 p1 => ?_
  have hml := moves_len I
  have L1 := L.x e1
  have hfe := few_eq (ropes := S.ropes) (m := Sy92.moves S [])
  refine q_refuse (b := !Sy92.tooMany (Sy92.jobs S (Sy92.moves S []))) (ev_is (ev_call (ea_cons (ev_r T L1.st (ev_st T L1 (ev_var rfl))) (ea_cons (ev_var rfl) ea_nil)) (spv_are_few (LsAt.v L1.st.fr) p1.s I.msp.rope (by omega))) (congrArg V.bl (by rw [hfe]; rfl))) ev_c (fun hb H2 e2 => ?_) fun hb => (k1 (by simpa using hb)).go e1
  exact s_retD (P := fun v H2 => LlV TrV K H2 v (Sy92.moves S [])) (evd_of (ev_var rfl) fun H3 e3 => llV_x trV_st.x _ _ _ _ _ (e2.trans e3) p1) fun v H3 e3 p3 => k2 (by simpa using hb) v H3 (e1.trans (e2.trans e3)) p3
theorem ok_Loft_few_movements {P : Program} {w : World} {K : PySem.W.Frag} {mg : Str → Option Value} {base : Heap} (T : Tx K mg) (D_Loft_movements_now : MethE P w K mg base (CX0) 6 "Loft" "movements_now" ["self"] (sp_Loft_movements_now K)) (D_are_few : DefE P w K mg base (CX0) 2 "are_few" ["ropes", "movements"] (sp_are_few K)) (D_want : DefE P w K mg base (L2.CX P w) 3 "want" ["is_so", "code"] (sp_want K)) : MethE P w K mg base (L2.CX P w) 7 "Loft" "few_movements" ["self"] (sp_Loft_few_movements K) := by
  obtain ⟨fd, F⟩ := T.d_Loft_few_movements
  have bd : Binds K fd ["self"] [] := F.bindsN fun _ _ _ _ _ _ us hl => match us, hl with | [_], _ => rfl
  have G : FnOk P w K mg base (L2.CX P w) 7 (He.ma K (He.ga K "Loft") "few_movements") fd ["self"] (sp_Loft_few_movements K) := by
    refine F.ok sc_Loft_few_movements (fun vs H Q E h => sl_Loft_few_movements h) (fun cdv A outer s H vs Q E hr h => ⟨t_Loft_few_movements K E, ?_, pure_Loft_few_movements T vs H Q E h⟩)
    exact (pss_cons (ps_set (i := 1) sc_Loft_few_movements.nd rfl (by first | exact Or.inl rfl | exact Or.inr rfl) (pe_methE0 (pv 0) D_Loft_movements_now (hr.mono (by decide)) pass0))
  (pss_cons (ps_expr (pe_callE D_want (hr.mono (by decide)) rfl (passes_call (takes_of rfl rfl rfl rfl) (fun _ _ _ _ h => h)) (by exact (pa_cons (pe_callE D_are_few (hr.mono (by decide)) rfl pass0 (by exact (pa_cons (pe_fld (pe_fld (pv 0) rfl) rfl) (pa_cons (pv 1) pa_nil)))) (pa_cons (pe_glob rfl T.m_TOO_MANY.2 ⟨_, rfl⟩) pa_nil)))))
  (pss_one (ps_ret (pv 1)))))
  exact MethE.mk ⟨fd, G, bd⟩ T.c_Loft T.e_Loft_few_movements

/-! ### movements -/
def sp_Loft_movements (K : PySem.W.Frag) : Sp := fun vs H Q _ => ∃ (l dx : Addr) (A : Adr) (S : Sy92.St), vs = [.ref l] ∧ LftAt K H l dx A S ∧ InvS S ∧ RetL (outV (Sy92.step S .moves).2) H Q
theorem sl_Loft_movements {K : PySem.W.Frag} {vs : List V} {H : Hp} {Q : VK} {E : XK} (h : sp_Loft_movements K vs H Q E) : vs.length = 1 := by
  obtain ⟨_, _, _, _, rfl, _⟩ := h
  rfl
def t_Loft_movements (K : PySem.W.Frag) : TS :=
  (tSeq (tAsg (tMeth (He.ga K "Loft") "movements_now" (sp_Loft_movements_now K) [] E0 (tVar 0) tNil) (gName 1))
  (tRet (tOp rCat (tLst (tCons (tCB (rLenS K) (tCons (tVar 1) tNil)) tNil)) (tCall (sp_listed K) [] E0 (tCons (tCall (sp_joined K) [] E0 (tCons (tVar 1) tNil)) tNil)))))
theorem el_joinedL {K : PySem.W.Frag} {σ : L2.St} {H : Hp} {te : TE} {E : XK} {v : V} {rows : List (List V)} (h : Ev te σ H v) (hx : LsV SqV K H v rows) (hz : rows.flatten.length ≤ 1000000) : EvL (tCall (sp_joined K) [] E (tCons te tNil)) σ H rows.flatten := el_call (ea_cons h ea_nil) (spl_joined hx hz)
theorem moves_same {S : Sy92.St} (I : InvS S) : Sy90.moves S.stage = Sy92.moves S [] := by rw [moves90_eq I.ok, moves92_eq I.ok I.ro]
theorem pure_Loft_movements {K : PySem.W.Frag} {mg : Str → Option Value} (T : Tx K mg) (vs : List V) (H : Hp) (Q : VK) (E : XK) (h : sp_Loft_movements K vs H Q E) : t_Loft_movements K { nx := fun _ H' => Q .non H', rt := Q } (start N_Loft_movements vs) H := by
  obtain ⟨l, dx, A, S, rfl, L, I, k⟩ := h
  refine q_asgD (evd_mnow L I (ev_var rfl)) fun v H1 e1 p1 => ?_
  have hml := moves_len I
  obtain ⟨a, xs, rfl, h1, h2⟩ := p1
  have hxl : xs.length = (Sy92.moves S []).length := All2.len h2
  have hfl : ((Sy92.moves S []).map fun x => [nV x.1, nV x.2.1, nV x.2.2]).flatten.length ≤ 900 := by
    rw [triple_flat, List.length_map, triple_len]
    omega
  refine s_retL (el_is (el_cat (el_lst (ea_cons (ev_cb (ea_cons (ev_var rfl) ea_nil) (rc_len (Or.inl (sq_of h1)))) ea_nil) (Nat.le_of_lt (show 1 < 100000 by decide))) (el_listedL (K := K) (el_joinedL (ev_var rfl) ⟨a, xs, rfl, sq_of h1, triple_rows h2⟩ (by omega)) (by omega)) (by rw [List.length_cons]; simp only [List.length_cons, List.length_nil]; omega)) ?_) fun q H2 hq e2 h3 => k q H2 (fresh_back e1 hq) (e1.trans e2) h3
  show _ = outV ⟨((Sy90.moves S.stage).length : Nat), [Sy90.ints ((Sy90.moves S.stage).flatMap fun (x : Nat × Nat × Nat) => [x.1, x.2.1, x.2.2])]⟩
  rw [outV_eq, moves_same I, hxl]
  unfold rowsV rowsV
  rw [ints90_V, List.append_nil, triple_flat, List.length_map]
  unfold Sy90.ints
  rw [List.length_map]
  rfl
theorem ok_Loft_movements {P : Program} {w : World} {K : PySem.W.Frag} {mg : Str → Option Value} {base : Heap} (T : Tx K mg) (D_Loft_movements_now : MethE P w K mg base (CX0) 6 "Loft" "movements_now" ["self"] (sp_Loft_movements_now K)) (D_joined : DefE P w K mg base (CX0) 1 "joined" ["rows"] (sp_joined K)) (D_listed : DefE P w K mg base (CX0) 1 "listed" ["row"] (sp_listed K)) : MethE P w K mg base CX0 7 "Loft" "movements" ["self"] (sp_Loft_movements K) := by
  obtain ⟨fd, F⟩ := T.d_Loft_movements
  have bd : Binds K fd ["self"] [] := F.bindsN fun _ _ _ _ _ _ us hl => match us, hl with | [_], _ => rfl
  have G : FnOk P w K mg base CX0 7 (He.ma K (He.ga K "Loft") "movements") fd ["self"] (sp_Loft_movements K) := by
    refine F.ok sc_Loft_movements (fun vs H Q E h => sl_Loft_movements h) (fun cdv A outer s H vs Q E hr h => ⟨t_Loft_movements K, PSs.nox ?_, pure_Loft_movements T vs H Q E h⟩)
    exact (pss_cons (ps_set (i := 1) sc_Loft_movements.nd rfl (by first | exact Or.inl rfl | exact Or.inr rfl) (pe_methE0 (pv 0) D_Loft_movements_now (hr.mono (by decide)) pass0))
  (pss_one (ps_ret (pe_op oCat (pe_lst (pa_cons (pe_callB cLen rfl T.f_len bLen (pa_cons (pv 1) pa_nil)) pa_nil)) (pe_callE D_listed (hr.mono (by decide)) rfl pass0 (by exact (pa_cons (pe_callE D_joined (hr.mono (by decide)) rfl pass0 (by exact (pa_cons (pv 1) pa_nil))) pa_nil)))))))
  exact MethE.mk ⟨fd, G, bd⟩ T.c_Loft T.e_Loft_movements
end Sk
namespace Sk
open PySem L2 Evl Sc
/-! ### stagehands -/
/-- a row of numbers -/
theorem row_V (l : List Nat) (r : List (List Int)) : rowsV (Sy92.ints l :: r) = nV l.length :: (l.map nV ++ rowsV r) := by
  show nV (Sy92.ints l).length :: ((Sy92.ints l).map V.int ++ rowsV r) = _
  rw [ints_V]
  unfold Sy92.ints
  rw [List.length_map]
theorem crowd_len (ropes : List (Nat × Nat)) (ms : List (Nat × Nat × Nat)) : (Sy91.theCrowd (jobsR ropes ms)).length ≤ ms.length := by
  obtain ⟨p, e⟩ := rows_is (crowds_iff.mp (theCrowd_mem (s := jobsR ropes ms))).1
  rw [e]
  refine Nat.le_trans (List.length_filter_le _ _) ?_
  rw [List.length_range, jobsR_len]
  exact Nat.le_refl _
theorem few_sum {S : Sy92.St} {ms : List (Nat × Nat × Nat)} (h : Sy92.tooMany (Sy92.jobs S ms) = false) : (crewsP S.ropes ms).sum ≤ 8 := by
  have := few_eq (ropes := S.ropes) (m := ms)
  rw [← jobsR_eq S ms, h] at this
  exact of_decide_eq_true this
theorem plan_len {ropes : List (Nat × Nat)} {ms : List (Nat × Nat × Nat)} (hM : MsP ropes ms) (hs : (crewsP ropes ms).sum ≤ 8) : (Sy91.plan (jobsR ropes ms)).length ≤ 8 := by
  rw [(plan_facts hM.jobs).1, units_len_few]
  exact hs
theorem ev_callD {sp : Sp} {E : XK} {te : TE} {σ : L2.St} {H : Hp} {P : V → Hp → Prop} {z : V} (h : EvD te σ H P) (hs : ∀ x H1, Ex H H1 → P x H1 → SpV sp [x] H1 z) : Ev (tCall sp [] E (tCons te tNil)) σ H z := fun H1 e Q q =>
  h H1 e _ fun x H2 e2 p2 => hs x H2 (e.trans e2) p2 H2 (Ex.refl H2) Q (fun H3 e3 => q H3 (e2.trans e3)) E
section
variable {K : PySem.W.Frag} {H : Hp} {l dx : Addr} {A : Adr} {S : Sy92.St} {σ : L2.St} {ta tb : TE} {tz : TS} {D : Ends} {E E1 : XK} {i : Nat}
theorem s_few (L : LftAt K H l dx A S) (I : InvS S) (h : Ev ta σ H (.ref l)) (k1 : Sy92.tooMany (Sy92.jobs S (Sy92.moves S [])) = true → RetX K (-5) H E) (k2 : Sy92.tooMany (Sy92.jobs S (Sy92.moves S [])) = false → ∀ v H1, Ex H H1 → LlV TrV K H1 v (Sy92.moves S []) → D.nx (σ.set i (some v)) H1) :
    tAsg (tMeth (He.ga K "Loft") "few_movements" (sp_Loft_few_movements K) [] E ta tNil) (gName i) D σ H :=
  h H (Ex.refl H) _ fun H2 e2 => ⟨l, dx, _, rfl, e2 l _ L.o, rfl, l, dx, A, S, rfl, L.x e2, I, fun ht => (k1 ht).go e2, fun ht v H3 e3 p3 => k2 ht v H3 (e2.trans e3) p3⟩
theorem q_few (L : LftAt K H l dx A S) (I : InvS S) (h : Ev ta σ H (.ref l)) (k1 : Sy92.tooMany (Sy92.jobs S (Sy92.moves S [])) = true → RetX K (-5) H E) (k2 : Sy92.tooMany (Sy92.jobs S (Sy92.moves S [])) = false → ∀ v H1, Ex H H1 → LlV TrV K H1 v (Sy92.moves S []) → tz D (σ.set i (some v)) H1) :
    tSeq (tAsg (tMeth (He.ga K "Loft") "few_movements" (sp_Loft_few_movements K) [] E ta tNil) (gName i)) tz D σ H := s_few (D := { D with nx := tz D }) L I h k1 k2
theorem s_planFew (L : LftAt K H l dx A S) (I : InvS S) (hr : Ev tb σ H (.ref A.r)) (h : Ev ta σ H (.ref l)) (k1 : Sy92.tooMany (Sy92.jobs S (Sy92.moves S [])) = true → RetX K (-5) H E) (k2 : Sy92.tooMany (Sy92.jobs S (Sy92.moves S [])) = false → ∀ v H1, Ex H H1 → NlV K H1 v (Sy91.plan (jobsR S.ropes (Sy92.moves S []))) → D.nx (σ.set i (some v)) H1) :
    tAsg (tCall (sp_plan_of K) [] E1 (tCons tb (tCons (tMeth (He.ga K "Loft") "few_movements" (sp_Loft_few_movements K) [] E ta tNil) tNil))) (gName i) D σ H :=
  hr H (Ex.refl H) _ fun H1 e1 => h H1 e1 _ fun H2 e2 => ⟨l, dx, _, rfl, (e1.trans e2) l _ L.o, rfl, l, dx, A, S, rfl, L.x (e1.trans e2), I, fun ht => (k1 ht).go (e1.trans e2), fun ht v H3 e3 p3 =>
    ⟨_, _, S.ropes, Sy92.moves S [], rfl, LsAt.v (lsAt_x prV_st.x ((e1.trans e2).trans e3) L.st.fr), p3.s, I.msp, few_sum ht, fun w H4 e4 p4 => k2 ht w H4 (((e1.trans e2).trans e3).trans e4) p4⟩⟩
theorem q_planFew (L : LftAt K H l dx A S) (I : InvS S) (hr : Ev tb σ H (.ref A.r)) (h : Ev ta σ H (.ref l)) (k1 : Sy92.tooMany (Sy92.jobs S (Sy92.moves S [])) = true → RetX K (-5) H E) (k2 : Sy92.tooMany (Sy92.jobs S (Sy92.moves S [])) = false → ∀ v H1, Ex H H1 → NlV K H1 v (Sy91.plan (jobsR S.ropes (Sy92.moves S []))) → tz D (σ.set i (some v)) H1) :
    tSeq (tAsg (tCall (sp_plan_of K) [] E1 (tCons tb (tCons (tMeth (He.ga K "Loft") "few_movements" (sp_Loft_few_movements K) [] E ta tNil) tNil))) (gName i)) tz D σ H := s_planFew (D := { D with nx := tz D }) L I hr h k1 k2
end
def sp_Loft_stagehands (K : PySem.W.Frag) : Sp := fun vs H Q E => ∃ (l dx : Addr) (A : Adr) (S : Sy92.St), vs = [.ref l] ∧ LftAt K H l dx A S ∧ InvS S ∧ (∀ c, (Sy92.step S .hands).2 = Sy92.ok c → RetX K c H E) ∧ RetL (outV (Sy92.step S .hands).2) H Q
theorem sl_Loft_stagehands {K : PySem.W.Frag} {vs : List V} {H : Hp} {Q : VK} {E : XK} (h : sp_Loft_stagehands K vs H Q E) : vs.length = 1 := by
  obtain ⟨_, _, _, _, rfl, _⟩ := h
  rfl
def t_Loft_stagehands (K : PySem.W.Frag) (E : XK) : TS :=
  (tSeq (tAsg (tMeth (He.ga K "Loft") "few_movements" (sp_Loft_few_movements K) [] E (tVar 0) tNil) (gName 1))
  (tRet (tOp rCat (tLst (tCons (tCall (sp_hands_in K) [] E0 (tCons (tCall (sp_plan_of K) [] E0 (tCons (tFld K (tFld K (tVar 0) "stage") "ropes") (tCons (tVar 1) tNil))) tNil)) tNil)) (tCall (sp_listed K) [] E0 (tCons (tCall (sp_bottleneck_of K) [] E0 (tCons (tFld K (tFld K (tVar 0) "stage") "ropes") (tCons (tVar 1) tNil))) tNil)))))
theorem pure_Loft_stagehands {K : PySem.W.Frag} {mg : Str → Option Value} (T : Tx K mg) (vs : List V) (H : Hp) (Q : VK) (E : XK) (h : sp_Loft_stagehands K vs H Q E) : t_Loft_stagehands K E { nx := fun _ H' => Q .non H', rt := Q } (start N_Loft_stagehands vs) H := by
  obtain ⟨l, dx, A, S, rfl, L, I, k1, k2⟩ := h
  have hst : (Sy92.step S .hands).2 = if Sy92.tooMany (Sy92.jobs S (Sy92.moves S [])) = true then Sy92.ok (-5) else ⟨(Sy91.fewest (Sy92.jobs S (Sy92.moves S [])) : Nat), [Sy92.ints (Sy91.theCrowd (Sy92.jobs S (Sy92.moves S [])))]⟩ := rfl
  rw [hst] at k1 k2
  refine q_few L I (ev_var rfl) (fun ht => k1 (-5) (if_pos ht)) fun ht v H1 e1 p1 => ?_
  rw [if_neg (by rw [ht]; decide), outV_eq, row_V] at k2
  have hs := few_sum ht
  have L1 := L.x e1
  have hJ := I.msp.jobs
  have hcl := crowd_len S.ropes (Sy92.moves S [])
  have hml := moves_len I
  have hp8 := plan_len I.msp hs
  refine s_retL (el_is (el_cat (el_lst (ea_cons (ev_callD (evd_callV (ea_cons (ev_r T L1.st (ev_st T L1 (ev_var rfl))) (ea_cons (ev_var rfl) ea_nil)) fun H2 e2 => spd_plan_of (LsAt.v (lsAt_x prV_st.x e2 L1.st.fr)) (llV_x trV_st.x _ _ _ _ _ e2 p1).s I.msp hs) fun x H2 e2 p2 => spv_hands_in p2 (by omega)) ea_nil) (Nat.le_of_lt (show 1 < 100000 by decide))) (el_listedL (K := K) (el_call (ea_cons (ev_r T L1.st (ev_st T L1 (ev_var rfl))) (ea_cons (ev_var rfl) ea_nil)) (spl_bottleneck_of (LsAt.v L1.st.fr) p1.s I.msp hs)) (by rw [List.length_map]; omega)) (by simp only [List.length_cons, List.length_nil, List.length_map]; omega)) ?_) fun q H2 hq e2 h2 => k2 q H2 (fresh_back e1 hq) (e1.trans e2) h2
  rw [plan_hands hJ, List.length_map]
  show _ = _ :: _ :: (_ ++ [])
  rw [List.append_nil]
  rfl
theorem ok_Loft_stagehands {P : Program} {w : World} {K : PySem.W.Frag} {mg : Str → Option Value} {base : Heap} (T : Tx K mg) (D_Loft_few_movements : MethE P w K mg base (L2.CX P w) 7 "Loft" "few_movements" ["self"] (sp_Loft_few_movements K)) (D_bottleneck_of : DefE P w K mg base (CX0) 3 "bottleneck_of" ["ropes", "movements"] (sp_bottleneck_of K)) (D_hands_in : DefE P w K mg base (CX0) 1 "hands_in" ["plan"] (sp_hands_in K)) (D_listed : DefE P w K mg base (CX0) 1 "listed" ["row"] (sp_listed K)) (D_plan_of : DefE P w K mg base (CX0) 14 "plan_of" ["ropes", "movements"] (sp_plan_of K)) : MethE P w K mg base (L2.CX P w) 15 "Loft" "stagehands" ["self"] (sp_Loft_stagehands K) := by
  obtain ⟨fd, F⟩ := T.d_Loft_stagehands
  have bd : Binds K fd ["self"] [] := F.bindsN fun _ _ _ _ _ _ us hl => match us, hl with | [_], _ => rfl
  have G : FnOk P w K mg base (L2.CX P w) 15 (He.ma K (He.ga K "Loft") "stagehands") fd ["self"] (sp_Loft_stagehands K) := by
    refine F.ok sc_Loft_stagehands (fun vs H Q E h => sl_Loft_stagehands h) (fun cdv A outer s H vs Q E hr h => ⟨t_Loft_stagehands K E, ?_, pure_Loft_stagehands T vs H Q E h⟩)
    exact (pss_cons (ps_set (i := 1) sc_Loft_stagehands.nd rfl (by first | exact Or.inl rfl | exact Or.inr rfl) (pe_methE0 (pv 0) D_Loft_few_movements (hr.mono (by decide)) (passes_call (takes_of rfl rfl rfl rfl) (fun _ _ _ _ h => h))))
  (pss_one (ps_ret (pe_op oCat (pe_lst (pa_cons (pe_callE D_hands_in (hr.mono (by decide)) rfl pass0 (by exact (pa_cons (pe_callE D_plan_of (hr.mono (by decide)) rfl pass0 (by exact (pa_cons (pe_fld (pe_fld (pv 0) rfl) rfl) (pa_cons (pv 1) pa_nil)))) pa_nil))) pa_nil)) (pe_callE D_listed (hr.mono (by decide)) rfl pass0 (by exact (pa_cons (pe_callE D_bottleneck_of (hr.mono (by decide)) rfl pass0 (by exact (pa_cons (pe_fld (pe_fld (pv 0) rfl) rfl) (pa_cons (pv 1) pa_nil)))) pa_nil)))))))
  exact MethE.mk ⟨fd, G, bd⟩ T.c_Loft T.e_Loft_stagehands

/-! ### plan -/
def sp_Loft_plan (K : PySem.W.Frag) : Sp := fun vs H Q E => ∃ (l dx : Addr) (A : Adr) (S : Sy92.St), vs = [.ref l] ∧ LftAt K H l dx A S ∧ InvS S ∧ (∀ c, (Sy92.step S .plan).2 = Sy92.ok c → RetX K c H E) ∧ RetL (outV (Sy92.step S .plan).2) H Q
theorem sl_Loft_plan {K : PySem.W.Frag} {vs : List V} {H : Hp} {Q : VK} {E : XK} (h : sp_Loft_plan K vs H Q E) : vs.length = 1 := by
  obtain ⟨_, _, _, _, rfl, _⟩ := h
  rfl
def t_Loft_plan (K : PySem.W.Frag) (E : XK) : TS :=
  (tSeq (tAsg (tCall (sp_plan_of K) [] E0 (tCons (tFld K (tFld K (tVar 0) "stage") "ropes") (tCons (tMeth (He.ga K "Loft") "few_movements" (sp_Loft_few_movements K) [] E (tVar 0) tNil) tNil))) (gName 1))
  (tRet (tOp rCat (tLst (tCons (tCall (sp_hands_in K) [] E0 (tCons (tVar 1) tNil)) tNil)) (tCall (sp_listed K) [] E0 (tCons (tVar 1) tNil)))))
theorem pure_Loft_plan {K : PySem.W.Frag} {mg : Str → Option Value} (T : Tx K mg) (vs : List V) (H : Hp) (Q : VK) (E : XK) (h : sp_Loft_plan K vs H Q E) : t_Loft_plan K E { nx := fun _ H' => Q .non H', rt := Q } (start N_Loft_plan vs) H := by
  obtain ⟨l, dx, A, S, rfl, L, I, k1, k2⟩ := h
  have hst : (Sy92.step S .plan).2 = if Sy92.tooMany (Sy92.jobs S (Sy92.moves S [])) = true then Sy92.ok (-5) else ⟨(Sy91.fewest (Sy92.jobs S (Sy92.moves S [])) : Nat), [Sy92.ints (Sy91.plan (Sy92.jobs S (Sy92.moves S [])))]⟩ := rfl
  rw [hst] at k1 k2
  refine q_planFew L I (ev_r T L.st (ev_st T L (ev_var rfl))) (ev_var rfl) (fun ht => k1 (-5) (if_pos ht)) fun ht v H1 e1 p1 => ?_
  rw [if_neg (by rw [ht]; decide), outV_eq, row_V] at k2
  have hs := few_sum ht
  have hJ := I.msp.jobs
  have hp8 := plan_len I.msp hs
  have p1' := p1.s
  obtain ⟨a, rfl, ha⟩ := p1'
  refine s_retL (el_is (el_cat (el_lst (ea_cons (ev_call (ea_cons (ev_var rfl) ea_nil) (spv_hands_in p1 (by omega))) ea_nil) (Nat.le_of_lt (show 1 < 100000 by decide))) (el_listed (K := K) (ev_var rfl) ⟨a, rfl, .inl ha⟩ (by rw [List.length_map]; omega)) (by simp only [List.length_cons, List.length_nil, List.length_map]; omega)) ?_) fun q H2 hq e2 h2 => k2 q H2 (fresh_back e1 hq) (e1.trans e2) h2
  rw [plan_hands hJ, List.length_map]
  show _ = _ :: _ :: (_ ++ [])
  rw [List.append_nil]
  rfl
theorem ok_Loft_plan {P : Program} {w : World} {K : PySem.W.Frag} {mg : Str → Option Value} {base : Heap} (T : Tx K mg) (D_Loft_few_movements : MethE P w K mg base (L2.CX P w) 7 "Loft" "few_movements" ["self"] (sp_Loft_few_movements K)) (D_hands_in : DefE P w K mg base (CX0) 1 "hands_in" ["plan"] (sp_hands_in K)) (D_listed : DefE P w K mg base (CX0) 1 "listed" ["row"] (sp_listed K)) (D_plan_of : DefE P w K mg base (CX0) 14 "plan_of" ["ropes", "movements"] (sp_plan_of K)) : MethE P w K mg base (L2.CX P w) 15 "Loft" "plan" ["self"] (sp_Loft_plan K) := by
  obtain ⟨fd, F⟩ := T.d_Loft_plan
  have bd : Binds K fd ["self"] [] := F.bindsN fun _ _ _ _ _ _ us hl => match us, hl with | [_], _ => rfl
  have G : FnOk P w K mg base (L2.CX P w) 15 (He.ma K (He.ga K "Loft") "plan") fd ["self"] (sp_Loft_plan K) := by
    refine F.ok sc_Loft_plan (fun vs H Q E h => sl_Loft_plan h) (fun cdv A outer s H vs Q E hr h => ⟨t_Loft_plan K E, ?_, pure_Loft_plan T vs H Q E h⟩)
    exact (pss_cons (ps_set (i := 1) sc_Loft_plan.nd rfl (by first | exact Or.inl rfl | exact Or.inr rfl) (pe_callE D_plan_of (hr.mono (by decide)) rfl pass0 (by exact (pa_cons (pe_fld (pe_fld (pv 0) rfl) rfl) (pa_cons (pe_methE0 (pv 0) D_Loft_few_movements (hr.mono (by decide)) (passes_call (takes_of rfl rfl rfl rfl) (fun _ _ _ _ h => h))) pa_nil)))))
  (pss_one (ps_ret (pe_op oCat (pe_lst (pa_cons (pe_callE D_hands_in (hr.mono (by decide)) rfl pass0 (by exact (pa_cons (pv 1) pa_nil))) pa_nil)) (pe_callE D_listed (hr.mono (by decide)) rfl pass0 (by exact (pa_cons (pv 1) pa_nil)))))))
  exact MethE.mk ⟨fd, G, bd⟩ T.c_Loft T.e_Loft_plan

/-! ### earliest -/
def sp_Loft_earliest (K : PySem.W.Frag) : Sp := fun vs H Q E => ∃ (l dx : Addr) (A : Adr) (S : Sy92.St) (h k : Nat), vs = [.ref l, nV h, nV k] ∧ LftAt K H l dx A S ∧ InvS S ∧ (∀ c, (Sy92.step S (.soon h k)).2 = Sy92.ok c → RetX K c H E) ∧ RetL (outV (Sy92.step S (.soon h k)).2) H Q
theorem sl_Loft_earliest {K : PySem.W.Frag} {vs : List V} {H : Hp} {Q : VK} {E : XK} (h : sp_Loft_earliest K vs H Q E) : vs.length = 3 := by
  obtain ⟨_, _, _, _, _, _, rfl, _⟩ := h
  rfl
def t_Loft_earliest (K : PySem.W.Frag) (E : XK) : TS :=
  (tSeq (tDrop (tMeth (He.ga K "Loft") "want_cue" (sp_Loft_want_cue K) [] E (tVar 0) (tCons (tVar 2) tNil)))
  (tSeq (tDrop (tCall (sp_want K) [] E (tCons (tNotV (tMeth (He.ga K "Stage") "has_started" (sp_Stage_has_started K) [] E0 (tFld K (tVar 0) "stage") (tCons (tVar 2) tNil))) (tCons (tC (.int (-3))) tNil))))
  (tSeq (tAsg (tCall (sp_first_safe K) [] E0 (tCons (tMake (He.ga K "Course") (sp_Course___init__ K) [] E0 (tCons (tLst tNil) (tCons (tFld K (tVar 0) "stage") tNil))) (tCons (tVar 2) (tCons (tVar 1) tNil)))) (gName 3))
  (tSeq (tDrop (tCall (sp_want K) [] E (tCons (tOp rNotN (tVar 3) (tC .non)) (tCons (tC (.int (-6))) tNil))))
  (tRet (tLst (tCons (tMeth (He.ga K "Course") "time" (sp_Course_time K) [] E0 (tVar 3) tNil) tNil)))))))
theorem pure_Loft_earliest {K : PySem.W.Frag} {mg : Str → Option Value} (T : Tx K mg) (vs : List V) (H : Hp) (Q : VK) (E : XK) (h : sp_Loft_earliest K vs H Q E) : t_Loft_earliest K E { nx := fun _ H' => Q .non H', rt := Q } (start N_Loft_earliest vs) H := by
  obtain ⟨l, dx, A, S, h, i, rfl, L, I, k1, k2⟩ := h
  have z := I.ok.toWf.sz
  have hst : (Sy92.step S (.soon h i)).2 = if S.stage.cues.length ≤ i then Sy92.ok (-2) else if (Sy90.startOf S.stage i).isSome = true then Sy92.ok (-3) else match Sy92.soon S h i with
      | none => Sy92.ok (-6)
      | some n => Sy92.ok (n : Nat) := rfl
  rw [hst] at k1 k2
  refine q_wantCue L (ev_var rfl) (ev_var rfl) (fun hk H1 e1 => ?_) fun hk => k1 (-2) (if_pos hk)
  rw [if_neg (show ¬ S.stage.cues.length ≤ i by omega)] at k1 k2
  have L1 := L.x e1
  refine q_refuse (b := !(Sy90.startOf S.stage i).isSome) (ev_notV (ev_started L1.st (ev_st T L1 (ev_var rfl)) (ev_var rfl) (by rw [z.ls]; exact hk))) ev_c (fun hu H2 e2 => ?_) fun hu => (k1 (-3) (if_pos (by simpa using hu))).go e1
  have hu : Sy90.startOf S.stage i = none := by simpa using hu
  rw [if_neg (show ¬ (Sy90.startOf S.stage i).isSome = true by rw [hu]; decide)] at k1 k2
  have e12 := e1.trans e2
  have L2' := L1.x e2
  have hlo : ∀ {H3 : Hp}, Ex H H3 → H3 l ≠ none := fun e z => by
    rw [e l _ L.o] at z
    cases z
  refine q_asgD (P := fun v H3 => OpCr K l H3 v [] S.stage i S.ropes (Sy92.soon S h i)) (evd_call (evad_cons (evd_courseZ (K := K) (Z := l) (fs := []) (u := S.stage) (r := S.ropes) (hlo e12) (evad_cons (evd_lst ea_nil (Nat.zero_le _)) fun x H3 e3 p3 => evad_one (evd_of (ev_st T (L2'.x e3) (ev_var rfl)) fun H4 e4 => ?_))) fun x H3 e3 p3 => evad_v (vs := [nV i, nV h]) (ea_cons (ev_var rfl) (ea_cons (ev_var rfl) ea_nil)) fun H4 e4 => ?_)) fun v H3 e3 p3 => ?_
  · obtain ⟨p, rfl, hp, hp2⟩ := p3
    refine ⟨p, A, rfl, ⟨[], e4 p _ hp2, .nil⟩, L2'.st.x (e3.trans e4), fun z => ?_, L.n⟩
    rw [z] at hp
    exact hlo e12 hp
  · exact spd_first_safe (hlo ((e12.trans e3).trans e4)) (p3.ext e4) I.crs (by decide) hk
  · have e13 := e12.trans e3
    cases hs : Sy92.soon S h i with
    | none =>
      rw [hs] at p3 k1
      have p3 : v = .non := p3
      subst p3
      exact q_refuse (b := false) (ev_is (ev_op (ev_var rfl) ev_c rv_notN) rfl) ev_c (fun z => by cases z) fun _ => (k1 (-6) rfl).go e13
    | some n =>
      rw [hs] at p3 k2
      have p3 : CrsZ K l H3 v ([] ++ (List.range n).map (Sy90.after S.stage)) (Sy90.called (Sy90.after S.stage n) i) S.ropes := p3
      have p4 := p3
      obtain ⟨ca, cd, cf, cA, rfl, _⟩ := p4
      refine q_refuse (b := true) (ev_is (ev_op (ev_var rfl) ev_c rv_notN) rfl) ev_c (fun _ H4 e4 => ?_) fun z => by cases z
      refine s_retL (xs := [nV n]) (el_lst (ea_cons (ev_is (ev_time (p3.crs.ext e4) (ev_var rfl)) (congrArg (fun n : Nat => nV n) (by rw [List.nil_append, List.length_map, List.length_range]))) ea_nil) (Nat.le_of_lt (show 1 < 100000 by decide))) fun q H5 hq e5 h5 => k2 q H5 (fresh_back (e13.trans e4) hq) ((e13.trans e4).trans e5) h5
theorem ok_Loft_earliest {P : Program} {w : World} {K : PySem.W.Frag} {mg : Str → Option Value} {base : Heap} (T : Tx K mg) (D_Course___init__ : MakeE P w K mg base CX0 1 "Course" ["self", "frames", "stage"] (sp_Course___init__ K)) (D_Course_time : MethE P w K mg base (CX0) 1 "Course" "time" ["self"] (sp_Course_time K)) (D_Loft_want_cue : MethE P w K mg base (L2.CX P w) 4 "Loft" "want_cue" ["self", "cue"] (sp_Loft_want_cue K)) (D_Stage_has_started : MethE P w K mg base (CX0) 1 "Stage" "has_started" ["self", "number"] (sp_Stage_has_started K)) (D_first_safe : DefE P w K mg base (CX0) 16 "first_safe" ["course", "cue", "hands"] (sp_first_safe K)) (D_want : DefE P w K mg base (L2.CX P w) 3 "want" ["is_so", "code"] (sp_want K)) : MethE P w K mg base (L2.CX P w) 17 "Loft" "earliest" ["self", "hands", "cue"] (sp_Loft_earliest K) := by
  obtain ⟨fd, F⟩ := T.d_Loft_earliest
  have bd : Binds K fd ["self", "hands", "cue"] [] := F.bindsN fun _ _ _ _ _ _ us hl => match us, hl with | [_, _, _], _ => rfl
  have G : FnOk P w K mg base (L2.CX P w) 17 (He.ma K (He.ga K "Loft") "earliest") fd ["self", "hands", "cue"] (sp_Loft_earliest K) := by
    refine F.ok sc_Loft_earliest (fun vs H Q E h => sl_Loft_earliest h) (fun cdv A outer s H vs Q E hr h => ⟨t_Loft_earliest K E, ?_, pure_Loft_earliest T vs H Q E h⟩)
    exact (pss_cons (ps_expr (pe_methE (pv 0) D_Loft_want_cue (hr.mono (by decide)) (passes_call (takes_of rfl rfl rfl rfl) (fun _ _ _ _ h => h)) (by exact (pa_cons (pv 2) pa_nil))))
  (pss_cons (ps_expr (pe_callE D_want (hr.mono (by decide)) rfl (passes_call (takes_of rfl rfl rfl rfl) (fun _ _ _ _ h => h)) (by exact (pa_cons (pe_not (pe_methE (pe_fld (pv 0) rfl) D_Stage_has_started (hr.mono (by decide)) pass0 (by exact (pa_cons (pv 2) pa_nil)))) (pa_cons (pe_glob rfl T.m_IS_STARTED.2 ⟨_, rfl⟩) pa_nil)))))
  (pss_cons (ps_set (i := 3) sc_Loft_earliest.nd rfl (by first | exact Or.inl rfl | exact Or.inr rfl) (pe_callE D_first_safe (hr.mono (by decide)) rfl pass0 (by exact (pa_cons (pe_makeE D_Course___init__ (hr.mono (by decide)) rfl pass0 (by exact (pa_cons (pe_lst pa_nil) (pa_cons (pe_fld (pv 0) rfl) pa_nil)))) (pa_cons (pv 2) (pa_cons (pv 1) pa_nil))))))
  (pss_cons (ps_expr (pe_callE D_want (hr.mono (by decide)) rfl (passes_call (takes_of rfl rfl rfl rfl) (fun _ _ _ _ h => h)) (by exact (pa_cons (pe_cmpR oNotN (pv 3) pe_non (nomark _)) (pa_cons (pe_glob rfl T.m_NEVER.2 ⟨_, rfl⟩) pa_nil)))))
  (pss_one (ps_ret (pe_lst (pa_cons (pe_methE0 (pv 3) D_Course_time (hr.mono (by decide)) pass0) pa_nil))))))))
  exact MethE.mk ⟨fd, G, bd⟩ T.c_Loft T.e_Loft_earliest
end Sk
namespace Sk
open PySem L2 Evl Sc
/-! ### schedule -/
theorem row_done (S : Sy92.St) (h : Nat) : ∀ (l : List Nat) (u : Sy90.St) (now : Nat) (calls : List (Nat × Nat)) (x : List (Nat × Nat) × Sy90.St × Nat), Sy92.row S h l u now calls = some x → (l = [] ∧ x = (calls, u, now)) ∨ Sy92.done S x.1 h = true
  | [], u, now, calls, x, e => .inl ⟨rfl, by
    unfold Sy92.row at e
    exact (Option.some.inj e).symm⟩
  | k :: l, u, now, calls, x, e => by
    unfold Sy92.row at e
    obtain ⟨n, h1, h2⟩ := Option.bind_eq_some_iff.mp e
    rcases row_done S h l _ _ _ x h2 with ⟨_, rfl⟩ | hd
    · refine .inr ?_
      unfold Sy92.next at h1
      split at h1
      · cases h1
      · have hm := List.find?_some h1
        unfold Sy92.mayAt at hm
        exact (Bool.and_eq_true_iff.mp hm).2
    · exact .inr hd
theorem row_len (S : Sy92.St) (h : Nat) : ∀ (l : List Nat) (u : Sy90.St) (now : Nat) (calls : List (Nat × Nat)) (x : List (Nat × Nat) × Sy90.St × Nat), Sy92.row S h l u now calls = some x → x.1.length = calls.length + l.length
  | [], u, now, calls, x, e => by
    unfold Sy92.row at e
    rw [← Option.some.inj e]
    rfl
  | k :: l, u, now, calls, x, e => by
    unfold Sy92.row at e
    obtain ⟨n, h1, h2⟩ := Option.bind_eq_some_iff.mp e
    have := row_len S h l _ _ _ x h2
    rw [List.length_append, List.length_singleton] at this
    rw [this, List.length_cons]
    omega
def sp_Loft_schedule (K : PySem.W.Frag) : Sp := fun vs H Q E => ∃ (l dx : Addr) (A : Adr) (S : Sy92.St) (h : Nat) (v : V) (r : List Nat), vs = [.ref l, nV h, v] ∧ LftAt K H l dx A S ∧ InvS S ∧ NsV K H v r ∧ r.length ≤ 4000 ∧ (∀ c, (Sy92.step S (.show_ h r)).2 = Sy92.ok c → RetX K c H E) ∧ RetL (outV (Sy92.step S (.show_ h r)).2) H Q
theorem sl_Loft_schedule {K : PySem.W.Frag} {vs : List V} {H : Hp} {Q : VK} {E : XK} (h : sp_Loft_schedule K vs H Q E) : vs.length = 3 := by
  obtain ⟨_, _, _, _, _, _, _, rfl, _⟩ := h
  rfl
def t_Loft_schedule (K : PySem.W.Frag) (E : XK) : TS :=
  (tSeq (tDrop (tCall (sp_want K) [] E (tCons (tAndV (tOp (rNeD K) (tVar 2) (tLst tNil)) (tAndV (tCB (rAll K) (tCons (tLc (iList K (tVar 2)) (gName 9) tYes (tOp rLtI (tVar 9) (tCB (rLenS K) (tCons (tFld K (tFld K (tVar 0) "stage") "cues") tNil))) [9]) tNil)) (tCall (sp_are_unlike K) [] E0 (tCons (tVar 2) tNil)))) (tCons (tC (.int (-1))) tNil))))
  (tSeq (tDrop (tCall (sp_want K) [] E (tCons (tNotV (tCB (rAny K) (tCons (tLc (iList K (tVar 2)) (gName 9) tYes (tMeth (He.ga K "Stage") "has_started" (sp_Stage_has_started K) [] E0 (tFld K (tVar 0) "stage") (tCons (tVar 9) tNil)) [9]) tNil))) (tCons (tC (.int (-3))) tNil))))
  (tSeq (tAsg (tCall (sp_scheduled K) [] E0 (tCons (tFld K (tVar 0) "stage") (tCons (tVar 2) (tCons (tVar 1) tNil)))) (gName 3))
  (tSeq (tDrop (tCall (sp_want K) [] E (tCons (tOp rNotN (tVar 3) (tC .non)) (tCons (tC (.int (-6))) tNil))))
  (tSeq (tAsg (tVar 3) (gTup K 2 (gCons (gName 4) (gCons (gName 5) gNil))))
  (tSeq (tAsg (tMeth (He.ga K "Course") "whole_film" (sp_Course_whole_film K) [] E0 (tVar 5) tNil) (gName 6))
  (tSeq (tAsg (tCall (sp_movements_in K) [] E0 (tCons (tVar 6) tNil)) (gName 7))
  (tSeq (tAsg (tCall (sp_plan_of K) [] E0 (tCons (tFld K (tFld K (tVar 0) "stage") "ropes") (tCons (tVar 7) tNil))) (gName 8))
  (tRet (tOp rCat (tOp rCat (tOp rCat (tLst (tCons (tOp rSubI (tCB (rLenS K) (tCons (tVar 6) tNil)) (tC (.int 1))) tNil)) (tCall (sp_listed K) [] E0 (tCons (tVar 4) tNil))) (tCall (sp_listed K) [] E0 (tCons (tCall (sp_joined K) [] E0 (tCons (tVar 7) tNil)) tNil))) (tCall (sp_listed K) [] E0 (tCons (tVar 8) tNil))))))))))))
theorem all_cond (S : Sy92.St) (r : List Nat) : ((!decide (r = [])) && ((r.all fun k => decide (k < S.stage.cues.length)) && Sy90.distinct r)) = true ↔ ¬ (r.isEmpty = true ∨ r.any (fun (k : Nat) => decide (S.stage.cues.length ≤ k)) = true ∨ Sy90.distinct r = false) := by
  have h1 : r.isEmpty = decide (r = []) := by cases r <;> rfl
  have h2 : (r.any fun (k : Nat) => decide (S.stage.cues.length ≤ k)) = !(r.all fun k => decide (k < S.stage.cues.length)) := by
    rw [List.not_all_eq_any_not]
    congr 1
    funext k
    rw [← decide_not]
    exact decide_eq_decide.mpr (by omega)
  rw [h1, h2]
  cases decide (r = []) <;> cases (r.all fun k => decide (k < S.stage.cues.length)) <;> cases Sy90.distinct r <;> simp
theorem nodup_bound {r : List Nat} {n : Nat} (h : r.Nodup) (hb : ∀ x ∈ r, x < n) : r.length ≤ n := nodup_len n r h hb
theorem pure_Loft_schedule {K : PySem.W.Frag} {mg : Str → Option Value} (T : Tx K mg) (vs : List V) (H : Hp) (Q : VK) (E : XK) (h : sp_Loft_schedule K vs H Q E) : t_Loft_schedule K E { nx := fun _ H' => Q .non H', rt := Q } (start N_Loft_schedule vs) H := by
  obtain ⟨l, dx, A, S, h, v, r, rfl, L, I, hv, hz, k1, k2⟩ := h
  have z := I.ok.toWf.sz
  have c5 := z.c5
  have hv' := hv
  obtain ⟨a, rfl, ha⟩ := hv
  have hl : (r.map nV).length = r.length := List.length_map ..
  have hst : (Sy92.step S (.show_ h r)).2 = if r.isEmpty = true ∨ r.any (fun (k : Nat) => decide (S.stage.cues.length ≤ k)) = true ∨ Sy90.distinct r = false then Sy92.ok (-1) else if r.any (fun (k : Nat) => (Sy90.startOf S.stage k).isSome) = true then Sy92.ok (-3) else match Sy92.show_ S h r with
      | none => Sy92.ok (-6)
      | some x => let m := Sy92.moves S x.1
          ⟨(x.2.2 + Sy90.still x.2.1 : Nat), [Sy92.ints (x.1.map fun (y : Nat × Nat) => y.1), Sy92.triples m, Sy92.ints (Sy91.plan (Sy92.jobs S m))]⟩ := rfl
  rw [hst] at k1 k2
  refine q_refuse (b := (!decide (r = [])) && ((r.all fun k => decide (k < S.stage.cues.length)) && Sy90.distinct r)) (ev_andV (ev_neNil (ev_var rfl) ha) fun _ => ev_andV (ev_cbD (z := .bl (r.all fun k => decide (k < S.stage.cues.length))) (evd_lcL (K := K) blV_st (fun _ => true) (fun i => decide (r.getD i 0 < S.stage.cues.length)) (xs := r.map nV) (evd_of (ev_var rfl) fun H1 e1 => ⟨a, rfl, ex_l e1 ha⟩) (by omega) (fun _ => rfl) (fun _ _ _ _ _ => et_yes) ?_) ?_) fun _ => ev_call (ea_cons (ev_var rfl) ea_nil) (spv_are_unlike hv' hz)) ev_c (fun hb H1 e1 => ?_) fun hb => k1 (-1) (if_pos ?_)
  · intro i x H1 e1 hx _
    have hi : i < r.length := by
      have := (List.getElem?_eq_some_iff.mp hx).1
      omega
    rw [nums_at hi] at hx
    cases hx
    have L1 := L.x e1
    refine evd_of (ev_is (ev_op (ev_var rfl) (ev_cb (ea_cons (ev_cs T L1.st (ev_st T L1 (ev_var rfl))) ea_nil) (rc_len (Or.inl (sq_of L1.st.fc.choose_spec.1)))) rv_I0) (congrArg V.bl (decide_eq_decide.mpr ?_))) fun _ _ => rfl
    rw [All2.len L1.st.fc.choose_spec.2]
    omega
  · rintro x H1 e1 ⟨p, rfl, _, zs, h6, h7⟩
    have h7 := all2_bl h7
    rw [givenD_all, hl, map_getD r 0 fun k => decide (k < S.stage.cues.length)] at h7
    subst h7
    refine RC_is (rc_all (sq_of h6)) (congrArg V.bl ?_)
    rw [List.all_map]
    rfl
  · have hc := (all_cond S r).mp hb
    rw [if_neg hc] at k1 k2
    simp only [Bool.and_eq_true, List.all_eq_true, decide_eq_true_eq, Bool.not_eq_true', decide_eq_false_iff_not] at hb
    obtain ⟨hne, hlt, hdi⟩ := hb
    have hrl : r.length ≤ S.stage.cues.length := nodup_bound (dist_nodup _ hdi) hlt
    have L1 := L.x e1
    have ha1 := ex_l e1 ha
    refine q_refuse (b := !r.any fun (k : Nat) => (Sy90.startOf S.stage k).isSome) (ev_notV (ev_cbD (z := .bl (r.any fun (k : Nat) => (Sy90.startOf S.stage k).isSome)) (evd_lcL (K := K) blV_st (fun _ => true) (fun i => (Sy90.startOf S.stage (r.getD i 0)).isSome) (xs := r.map nV) (evd_of (ev_var rfl) fun H2 e2 => ⟨a, rfl, ex_l e2 ha1⟩) (by omega) (fun _ => rfl) (fun _ _ _ _ _ => et_yes) ?_) ?_)) ev_c (fun hb2 H2 e2 => ?_) fun hb2 => (k1 (-3) (if_pos (by simpa using hb2))).go e1
    · intro i x H2 e2 hx _
      have hi : i < r.length := by
        have := (List.getElem?_eq_some_iff.mp hx).1
        omega
      rw [nums_at hi] at hx
      cases hx
      have L2' := L1.x e2
      exact evd_of (ev_started L2'.st (ev_st T L2' (ev_var rfl)) (ev_var rfl) (by rw [z.ls]; exact hlt _ (List.mem_of_getElem? (at_getD 0 hi)))) fun _ _ => rfl
    · rintro x H2 e2 ⟨p, rfl, _, zs, h6, h7⟩
      have h7 := all2_bl h7
      rw [givenD_all, hl, map_getD r 0 fun (k : Nat) => (Sy90.startOf S.stage k).isSome] at h7
      subst h7
      refine RC_is (rc_any (sq_of h6)) (congrArg V.bl ?_)
      rw [List.any_map]
      rfl
    · have hb2 : (r.any fun (k : Nat) => (Sy90.startOf S.stage k).isSome) = false := by simpa using hb2
      rw [if_neg (show ¬ (r.any fun (k : Nat) => (Sy90.startOf S.stage k).isSome) = true by rw [hb2]; decide)] at k1 k2
      have L2' := L1.x e2
      have e12 := e1.trans e2
      refine q_asgD (P := fun v H3 => OpSc K H3 v S (Sy92.show_ S h r)) (evd_callV (ea_cons (ev_st T L2' (ev_var rfl)) (ea_cons (ev_var rfl) (ea_cons (ev_var rfl) ea_nil))) fun H3 e3 => spd_scheduled (L2'.st.x e3) I.crs (nsV_x _ _ _ _ _ (e12.trans e3) hv') (by omega) hlt) fun w H3 e3 p3 => ?_
      have e13 := e12.trans e3
      cases hs : Sy92.show_ S h r with
      | none =>
        rw [hs] at p3 k1
        have p3 : w = .non := p3
        subst p3
        exact q_refuse (b := false) (ev_is (ev_op (ev_var rfl) ev_c rv_notN) rfl) ev_c (fun z => by cases z) fun _ => (k1 (-6) rfl).go e13
      | some x =>
        rw [hs] at p3 k2
        obtain ⟨T0, lt, c, fs, rfl, hT, hlt2, hcr, C, hfl⟩ := p3
        have hdn : Sy92.done S x.1 h = true := by
          rcases row_done S h r S.stage 0 [] x hs with ⟨h1, _⟩ | h1
          · exact absurd h1 hne
          · exact h1
        have htm : Sy92.tooMany (Sy92.jobs S (Sy92.moves S x.1)) = false := by
          unfold Sy92.done at hdn
          have := (Bool.and_eq_true_iff.mp hdn).1
          simpa using this
        have hsum := few_sum htm
        have hms : MsP S.ropes (Sy92.moves S x.1) := by
          have := C.ms
          rw [← C.toHere.moves] at this
          exact this
        have hml := hms.len hsum
        have hp8 := plan_len hms hsum
        have W := C.ok
        have hfz := filmP_len W
        have hfs := C.fz
        have hlen : x.2.1.things.length = S.stage.things.length := C.len
        have hnb : S.stage.things.length ≤ 4 := z.n4
        refine q_refuse (b := true) (ev_is (ev_op (ev_var rfl) ev_c rv_notN) rfl) ev_c (fun _ H4 e4 => ?_) fun z => by cases z
        refine q_unp2 (ev_var rfl) (ex_t e4 hT) fun H5 e5 => ?_
        have e35 := e4.trans e5
        refine q_asgD (P := fun v H6 => LlV FrV K H6 v ((fs ++ filmP x.2.1).map Sc.frameOf)) (fun H6 e6 Q6 q6 => ?_) fun vf H6 e6 p6 => ?_
        · have hcr6 := hcr.ext (e35.trans e6)
          obtain ⟨ca, cd, cf, cA, rfl, ho, hcf, hcS⟩ := hcr
          exact evd_meth (P := fun v H6 => LlV FrV K H6 v ((fs ++ filmP x.2.1).map Sc.frameOf)) (ev_var rfl) ((e35.trans e6) ca _ ho) rfl (evad_of' fun H7 e7 Q7 q7 E2 => ⟨_, fs, x.2.1, S.ropes, rfl, hcr6.ext e7, W, by omega, q7⟩) H6 (Ex.refl _) Q6 q6
        · refine q_asgD (P := fun v H7 => LlV TrV K H7 v (Sy92.moves S x.1)) (evd_callV (ea_cons (ev_var rfl) ea_nil) fun H7 e7 => ?_) fun vm H7 e7 p7 => ?_
          · rw [C.toHere.moves, ← movesF_eq]
            refine spd_movements_in (llV_x frV_st.x _ _ _ _ _ e7 p6).s (by rw [List.length_map, List.length_append]; omega) (by rw [List.length_map, List.length_append]; omega) hnb fun g hg => ?_
            obtain ⟨y, hy, rfl⟩ := List.mem_map.mp hg
            have : y.things.length = S.stage.things.length := by
              rcases List.mem_append.mp hy with hy | hy
              · exact C.fl y hy
              · rw [filmP_things W y hy, hlen]
            refine ⟨?_, ?_⟩
            · show (Sy90.marks y).length = _
              rw [marks_len, this]
            · show (aims y).length = _
              rw [aims_len, this]
          · have e17 := e13.trans (e35.trans (e6.trans e7))
            have L7 := L.x e17
            refine q_asgD (P := fun v H8 => NlV K H8 v (Sy91.plan (jobsR S.ropes (Sy92.moves S x.1)))) (evd_callV (ea_cons (ev_r T L7.st (ev_st T L7 (ev_var rfl))) (ea_cons (ev_var rfl) ea_nil)) fun H8 e8 => spd_plan_of (LsAt.v (lsAt_x prV_st.x e8 L7.st.fr)) (llV_x trV_st.x _ _ _ _ _ e8 p7).s hms hsum) fun vp H8 e8 p8 => ?_
            obtain ⟨ff, fx, rfl, hf1, hf2⟩ := llV_x frV_st.x _ _ _ _ _ (e7.trans e8) p6
            obtain ⟨mf, mx, rfl, hm1, hm2⟩ := llV_x trV_st.x _ _ _ _ _ e8 p7
            obtain ⟨pf, rfl, hp1⟩ := p8
            have hfxl : fx.length = fs.length + (filmP x.2.1).length := by rw [All2.len hf2, List.length_map, List.length_append]
            have htl : (x.1.map fun (y : Nat × Nat) => y.1).length ≤ 1000 := by
              rw [List.length_map, row_len S h r S.stage 0 [] x hs, List.length_nil]
              omega
            have hfl3 : ((Sy92.moves S x.1).map fun x => [nV x.1, nV x.2.1, nV x.2.2]).flatten.length ≤ 24 := by
              rw [triple_flat, List.length_map, triple_len]
              omega
            have e38 := (e35.trans (e6.trans (e7.trans e8)))
            refine s_retL (el_is (el_cat (el_cat (el_cat (el_lst (vs := [nV (x.2.2 + Sy90.still x.2.1)]) (ea_cons (ev_is (ev_op (ev_cb (ea_cons (ev_var rfl) ea_nil) (rc_len (Or.inl (sq_of hf1)))) ev_c rv_I0) (congrArg V.int ?_)) ea_nil) (Nat.le_of_lt (show 1 < 100000 by decide))) (el_listed (K := K) (v := .ref lt) (ev_var rfl) ⟨lt, rfl, .inl (sq_of (e38 lt _ hlt2))⟩ (by rw [List.length_map]; omega)) ?_) (el_listedL (K := K) (el_joinedL (ev_var rfl) ⟨mf, mx, rfl, sq_of hm1, triple_rows hm2⟩ (by omega)) (by omega)) ?_) (el_listed (K := K) (v := .ref pf) (ev_var rfl) ⟨pf, rfl, .inl (sq_of hp1)⟩ (by rw [List.length_map]; omega)) ?_) ?_) fun q H9 hq e9 h9 => k2 q H9 (fresh_back (e17.trans e8) hq) ((e17.trans e8).trans e9) h9
            · obtain ⟨q, hq, F⟩ := firstQ W
              rw [hfxl, still_eq W hq F, hfl, filmP_eq hq F, List.length_map, List.length_range]
              omega
            · simp only [List.length_cons, List.length_nil, List.length_map] at htl ⊢
              omega
            · simp only [List.length_append, List.length_cons, List.length_nil, List.length_map] at htl hfl3 ⊢
              omega
            · simp only [List.length_append, List.length_cons, List.length_nil, List.length_map] at htl hfl3 ⊢
              omega
            · show _ = outV ⟨((x.2.2 + Sy90.still x.2.1 : Nat) : Int), [Sy92.ints (x.1.map fun (y : Nat × Nat) => y.1), Sy92.triples (Sy92.moves S x.1), Sy92.ints (Sy91.plan (Sy92.jobs S (Sy92.moves S x.1)))]⟩
              unfold Sy92.triples
              rw [outV_eq, row_V, row_V, row_V, triple_flat]
              simp only [List.length_map, rowsV, List.append_nil, List.cons_append, List.nil_append, List.append_assoc, jobsR_eq]
  · have := mt (all_cond S r).mpr (by rw [hb]; decide)
    exact Classical.not_not.mp this
theorem ok_Loft_schedule {P : Program} {w : World} {K : PySem.W.Frag} {mg : Str → Option Value} {base : Heap} (T : Tx K mg) (D_Course_whole_film : MethE P w K mg base (CX0) 6 "Course" "whole_film" ["self"] (sp_Course_whole_film K)) (D_Stage_has_started : MethE P w K mg base (CX0) 1 "Stage" "has_started" ["self", "number"] (sp_Stage_has_started K)) (D_are_unlike : DefE P w K mg base (CX0) 1 "are_unlike" ["row"] (sp_are_unlike K)) (D_joined : DefE P w K mg base (CX0) 1 "joined" ["rows"] (sp_joined K)) (D_listed : DefE P w K mg base (CX0) 1 "listed" ["row"] (sp_listed K)) (D_movements_in : DefE P w K mg base (CX0) 3 "movements_in" ["film"] (sp_movements_in K)) (D_plan_of : DefE P w K mg base (CX0) 14 "plan_of" ["ropes", "movements"] (sp_plan_of K)) (D_scheduled : DefE P w K mg base (CX0) 17 "scheduled" ["stage", "cues", "hands"] (sp_scheduled K)) (D_want : DefE P w K mg base (L2.CX P w) 3 "want" ["is_so", "code"] (sp_want K)) : MethE P w K mg base (L2.CX P w) 18 "Loft" "schedule" ["self", "hands", "cues"] (sp_Loft_schedule K) := by
  obtain ⟨fd, F⟩ := T.d_Loft_schedule
  have bd : Binds K fd ["self", "hands", "cues"] [] := F.bindsN fun _ _ _ _ _ _ us hl => match us, hl with | [_, _, _], _ => rfl
  have G : FnOk P w K mg base (L2.CX P w) 18 (He.ma K (He.ga K "Loft") "schedule") fd ["self", "hands", "cues"] (sp_Loft_schedule K) := by
    refine F.ok sc_Loft_schedule (fun vs H Q E h => sl_Loft_schedule h) (fun cdv A outer s H vs Q E hr h => ⟨t_Loft_schedule K E, ?_, pure_Loft_schedule T vs H Q E h⟩)
    exact (pss_cons (ps_expr (pe_callE D_want (hr.mono (by decide)) rfl (passes_call (takes_of rfl rfl rfl rfl) (fun _ _ _ _ h => h)) (by exact (pa_cons (pe_and (pe_cmpR (op_neD (hu64 hr)) (pv 2) (pe_lst pa_nil) (nomark _)) (pe_and (pe_callB (cr_all rfl) rfl T.f_all bAll (pa_cons (pe_lc (own := [("cue", 9)]) (g := (gName 9)) (tt := tYes) (te := (tOp rLtI (tVar 9) (tCB (rLenS K) (tCons (tFld K (tFld K (tVar 0) "stage") "cues") tNil)))) rfl sc_Loft_schedule.nd (pi_list (pv 2)) (blkOk_by (N := N_Loft_schedule) (sc := defScope s_Loft_schedule) (by decide +kernel)) (fun _ _ _ _ _ => (pg_name (i := 9) sc_Loft_schedule.nd rfl (by first | exact Or.inl rfl | exact Or.inr rfl))) (fun _ _ _ _ _ => pts_nil) (fun _ _ _ _ _ => (pe_cmpR oLt (pv 9) (pe_callB cLen rfl T.f_len bLen (pa_cons (pe_fld (pe_fld (pv 0) rfl) rfl) pa_nil)) (nomark _)))) pa_nil)) (pe_one (pe_callE D_are_unlike (hr.mono (by decide)) rfl pass0 (by exact (pa_cons (pv 2) pa_nil)))))) (pa_cons (pe_glob rfl T.m_WRONG.2 ⟨_, rfl⟩) pa_nil)))))
  (pss_cons (ps_expr (pe_callE D_want (hr.mono (by decide)) rfl (passes_call (takes_of rfl rfl rfl rfl) (fun _ _ _ _ h => h)) (by exact (pa_cons (pe_not (pe_callB (cr_any rfl) rfl T.f_any bAny (pa_cons (pe_lc (own := [("cue", 9)]) (g := (gName 9)) (tt := tYes) (te := (tMeth (He.ga K "Stage") "has_started" (sp_Stage_has_started K) [] E0 (tFld K (tVar 0) "stage") (tCons (tVar 9) tNil))) rfl sc_Loft_schedule.nd (pi_list (pv 2)) (blkOk_by (N := N_Loft_schedule) (sc := defScope s_Loft_schedule) (by decide +kernel)) (fun _ _ _ _ _ => (pg_name (i := 9) sc_Loft_schedule.nd rfl (by first | exact Or.inl rfl | exact Or.inr rfl))) (fun _ _ _ _ _ => pts_nil) (fun _ _ _ _ _ => (pe_methE (pe_fld (pv 0) rfl) D_Stage_has_started (hr.mono (by decide)) pass0 (by exact (pa_cons (pv 9) pa_nil))))) pa_nil))) (pa_cons (pe_glob rfl T.m_IS_STARTED.2 ⟨_, rfl⟩) pa_nil)))))
  (pss_cons (ps_set (i := 3) sc_Loft_schedule.nd rfl (by first | exact Or.inl rfl | exact Or.inr rfl) (pe_callE D_scheduled (hr.mono (by decide)) rfl pass0 (by exact (pa_cons (pe_fld (pv 0) rfl) (pa_cons (pv 2) (pa_cons (pv 1) pa_nil))))))
  (pss_cons (ps_expr (pe_callE D_want (hr.mono (by decide)) rfl (passes_call (takes_of rfl rfl rfl rfl) (fun _ _ _ _ h => h)) (by exact (pa_cons (pe_cmpR oNotN (pv 3) pe_non (nomark _)) (pa_cons (pe_glob rfl T.m_NEVER.2 ⟨_, rfl⟩) pa_nil)))))
  (pss_cons (ps_asg (pv 3) (pg_tup rfl (pgs_cons (pg_name (i := 4) sc_Loft_schedule.nd rfl (by first | exact Or.inl rfl | exact Or.inr rfl)) (pgs_cons (pg_name (i := 5) sc_Loft_schedule.nd rfl (by first | exact Or.inl rfl | exact Or.inr rfl)) pgs_nil))))
  (pss_cons (ps_set (i := 6) sc_Loft_schedule.nd rfl (by first | exact Or.inl rfl | exact Or.inr rfl) (pe_methE0 (pv 5) D_Course_whole_film (hr.mono (by decide)) pass0))
  (pss_cons (ps_set (i := 7) sc_Loft_schedule.nd rfl (by first | exact Or.inl rfl | exact Or.inr rfl) (pe_callE D_movements_in (hr.mono (by decide)) rfl pass0 (by exact (pa_cons (pv 6) pa_nil))))
  (pss_cons (ps_set (i := 8) sc_Loft_schedule.nd rfl (by first | exact Or.inl rfl | exact Or.inr rfl) (pe_callE D_plan_of (hr.mono (by decide)) rfl pass0 (by exact (pa_cons (pe_fld (pe_fld (pv 0) rfl) rfl) (pa_cons (pv 7) pa_nil)))))
  (pss_one (ps_ret (pe_op oCat (pe_op oCat (pe_op oCat (pe_lst (pa_cons (pe_op oSub (pe_callB cLen rfl T.f_len bLen (pa_cons (pv 6) pa_nil)) pe_int) pa_nil)) (pe_callE D_listed (hr.mono (by decide)) rfl pass0 (by exact (pa_cons (pv 4) pa_nil)))) (pe_callE D_listed (hr.mono (by decide)) rfl pass0 (by exact (pa_cons (pe_callE D_joined (hr.mono (by decide)) rfl pass0 (by exact (pa_cons (pv 7) pa_nil))) pa_nil)))) (pe_callE D_listed (hr.mono (by decide)) rfl pass0 (by exact (pa_cons (pv 8) pa_nil))))))))))))))
  exact MethE.mk ⟨fd, G, bd⟩ T.c_Loft T.e_Loft_schedule
end Sk
namespace Sk
open PySem L2 Evl Sc
/-! ### state -/
theorem el_callD {sp : Sp} {E : XK} {te : TE} {σ : L2.St} {H : Hp} {P : V → Hp → Prop} {xs : List V} (h : EvD te σ H P) (hs : ∀ x H1, Ex H H1 → P x H1 → SpL sp [x] H1 xs) : EvL (tCall sp [] E (tCons te tNil)) σ H xs := fun H1 e Q q =>
  h H1 e _ fun x H2 e2 p2 => hs x H2 (e.trans e2) p2 H2 (Ex.refl H2) Q (fun p H3 hp e3 h3 => q p H3 (fresh_back e2 hp) (e2.trans e3) h3) E
def sp_Loft_state (K : PySem.W.Frag) : Sp := fun vs H Q _ => ∃ (l dx : Addr) (A : Adr) (S : Sy92.St), vs = [.ref l] ∧ LftAt K H l dx A S ∧ InvS S ∧ RetL (outV (Sy92.step S .state).2) H Q
theorem sl_Loft_state {K : PySem.W.Frag} {vs : List V} {H : Hp} {Q : VK} {E : XK} (h : sp_Loft_state K vs H Q E) : vs.length = 1 := by
  obtain ⟨_, _, _, _, rfl, _⟩ := h
  rfl
def t_Loft_state (K : PySem.W.Frag) : TS :=
  (tSeq (tAsg (tFld K (tVar 0) "stage") (gName 1))
  (tSeq (tAsg (tCall (sp_joined K) [] E0 (tCons (tLc (iList K (tMeth (He.ga K "Stage") "bars" (sp_Stage_bars K) [] E0 (tVar 1) tNil)) (gName 7) tYes (tTup (tCons (tOp (rIxL K) (tFld K (tVar 1) "positions") (tVar 7)) (tCons (tOp (rIxL K) (tFld K (tVar 1) "targets") (tVar 7)) tNil))) [7]) tNil)) (gName 2))
  (tSeq (tAsg (tLc (iList K (tFld K (tVar 1) "starts")) (gName 6) tYes (tCB rIntB (tCons (tOp rNotN (tVar 6) (tC .non)) tNil)) [6]) (gName 3))
  (tSeq (tAsg (tLc (iList K (tFld K (tVar 1) "ends")) (gName 6) tYes (tCB rIntB (tCons (tOp rNotN (tVar 6) (tC .non)) tNil)) [6]) (gName 4))
  (tSeq (tAsg (tOp rCat (tOp rCat (tOp rCat (tOp rCat (tLst (tCons (tFld K (tVar 1) "now") tNil)) (tCall (sp_listed K) [] E0 (tCons (tVar 2) tNil))) (tCall (sp_listed K) [] E0 (tCons (tCall (sp_joined K) [] E0 (tCons (tFld K (tVar 1) "ropes") tNil)) tNil))) (tCall (sp_listed K) [] E0 (tCons (tVar 3) tNil))) (tCall (sp_listed K) [] E0 (tCons (tVar 4) tNil))) (gName 5))
  (tRet (tOp rCat (tVar 5) (tCall (sp_listed K) [] E0 (tCons (tCall (sp_joined K) [] E0 (tCons (tFld K (tVar 1) "pairs") tNil)) tNil)))))))))
theorem pair_rows {K : PySem.W.Frag} {H : Hp} {xs : List V} {ms : List (Nat × Nat)} (h : All2 (PrV K H) xs ms) : All2 (SqV K H) xs (ms.map fun x => [nV x.1, nV x.2]) := by
  induction h with
  | nil => exact .nil
  | cons h _ ih =>
    obtain ⟨a, rfl, ha⟩ := h
    exact .cons ⟨a, rfl, .inr ha⟩ ih
theorem pair_flat (ms : List (Nat × Nat)) : (ms.map fun x => [nV x.1, nV x.2]).flatten = (ms.flatMap fun x => [x.1, x.2]).map nV := by
  induction ms with
  | nil => rfl
  | cons x r ih =>
    rw [List.map_cons, List.flatten_cons, ih, List.flatMap_cons, List.map_append]
    rfl
theorem pair_len (ms : List (Nat × Nat)) : (ms.flatMap fun x => [x.1, x.2]).length = 2 * ms.length := by
  induction ms with
  | nil => rfl
  | cons x r ih =>
    rw [List.flatMap_cons, List.length_append, ih, List.length_cons]
    simp only [List.length_cons, List.length_nil]
    omega
def flagV (o : Option Nat) : Nat := if o.isSome = true then 1 else 0
theorem flags_V (l : List (Option Nat)) : (Sy90.flags l).map V.int = (l.map flagV).map nV := by
  unfold Sy90.flags
  rw [List.map_map, List.map_map]
  refine List.map_congr_left fun o _ => ?_
  show V.int (if o.isSome = true then 1 else 0) = nV (flagV o)
  unfold flagV
  cases o <;> rfl
/-- [int(x is not None) for x in xs] -/
theorem evd_flags {K : PySem.W.Frag} {σ : L2.St} {H : Hp} {tl : TE} {a : Addr} {l : List (Option Nat)} {j : Nat} {vs : List Nat} (h : Ev tl σ H (.ref a)) (ha : H a = some (.lst (l.map opV))) (hz : l.length ≤ 40000) (hw : ∀ x, wipe ((wipe σ vs).set j (some x)) vs = wipe σ vs) (hj : ∀ x, ((wipe σ vs).set j (some x))[j]? = some (some x)) :
    EvD (tLc (iList K tl) (gName j) tYes (tCB rIntB (tCons (tOp rNotN (tVar j) (tC .non)) tNil)) vs) σ H fun v H1 => NlV K H1 v (l.map flagV) := by
  refine EvD.imp (evd_lcL (K := K) numV_st (fun _ => true) (fun i => flagV (l.getD i none)) (xs := l.map opV) (evd_of h fun H1 e1 => ⟨a, rfl, sq_of (e1 a _ ha)⟩) (by rw [List.length_map]; exact hz) hw (fun _ _ _ _ _ => et_yes) ?_) ?_
  · intro i x H1 e1 hx _
    have hi : i < l.length := by
      have := (List.getElem?_eq_some_iff.mp hx).1
      rw [List.length_map] at this
      exact this
    rw [List.getElem?_map, at_getD none hi] at hx
    cases hx
    refine evd_of (ev_cb (ea_cons (ev_op (ev_var (hj _)) ev_c rv_notN) ea_nil) rc_intB) fun _ _ => ?_
    show V.int _ = nV _
    rw [op_some]
    unfold flagV
    cases l.getD i none <;> rfl
  · rintro v H1 e1 ⟨p, rfl, _, ys, h4, h5⟩
    have h5 := all2_num h5
    rw [givenD_all, List.length_map, map_getD l none flagV] at h5
    exact ⟨p, rfl, by rw [h4, h5]⟩
theorem pure_Loft_state {K : PySem.W.Frag} {mg : Str → Option Value} (T : Tx K mg) (vs : List V) (H : Hp) (Q : VK) (E : XK) (h : sp_Loft_state K vs H Q E) : t_Loft_state K { nx := fun _ H' => Q .non H', rt := Q } (start N_Loft_state vs) H := by
  obtain ⟨l, dx, A, S, rfl, L, I, k⟩ := h
  have z := I.ok.toWf.sz
  have n4 := z.n4
  have c5 := z.c5
  have rl := I.rl
  have p4 := I.p4
  refine q_asg (ev_st T L (ev_var rfl)) fun H1 e1 => ?_
  have S1 := (L.x e1).st
  -- the bars
  have hbars : EvD (tLc (iList K (tMeth (He.ga K "Stage") "bars" (sp_Stage_bars K) [] E0 (tVar 1) tNil)) (gName 7) tYes (tTup (tCons (tOp (rIxL K) (tFld K (tVar 1) "positions") (tVar 7)) (tCons (tOp (rIxL K) (tFld K (tVar 1) "targets") (tVar 7)) tNil))) [7]) (((L2.start N_Loft_state [.ref l]).set 1 (some (.ref A.a)))) H1 fun v H2 => ∃ p, v = .ref p ∧ H1 p = none ∧ LsAt PrV K H2 p ((List.range S.stage.things.length).map fun b => ((Sy90.thing S.stage b).mark, (Sy90.thing S.stage b).aim)) := by
    refine EvD.imp (evd_lcD (K := K) (β := Nat) (S := NumV) (ds := List.range S.stage.things.length) numV_st.x prV_st (fun _ => true) (fun i => ((Sy90.thing S.stage i).mark, (Sy90.thing S.stage i).aim)) (EvD.imp (evd_L (el_bars S1 n4 (ev_var rfl))) fun v H2 e2 p2 => ?_) (by rw [List.length_range]; omega) (fun _ => rfl) (fun _ _ _ _ _ _ _ => et_yes) ?_) ?_
    · obtain ⟨p, rfl, _, hp⟩ := p2
      exact ⟨p, _, rfl, sq_of hp, num_all2 _⟩
    · rintro i x y H2 e2 hy rfl _
      have hyi : y = i ∧ i < S.stage.things.length := by
        obtain ⟨h1, h2⟩ := List.getElem?_eq_some_iff.mp hy
        rw [List.length_range] at h1
        rw [List.getElem_range] at h2
        exact ⟨h2.symm, h1⟩
      obtain ⟨rfl, hlt⟩ := hyi
      have S2 := S1.x e2
      refine EvD.imp (evd_tup (vs := [nV (Sy90.thing S.stage y).mark, nV (Sy90.thing S.stage y).aim]) (ea_cons (ev_op (ev_p T S2 (ev_var rfl)) (ev_var rfl) (rv_ixL (sq_of S2.fp) (at_mark hlt))) (ea_cons (ev_op (ev_t T S2 (ev_var rfl)) (ev_var rfl) (rv_ixL (sq_of S2.ft) (at_aim hlt))) ea_nil)) (Nat.le_of_lt (show 2 < 100000 by decide))) fun v H3 e3 p3 => ?_
      obtain ⟨t, rfl, ht⟩ := p3
      exact ⟨t, rfl, st_of ht⟩
    · rintro v H2 e2 ⟨p, rfl, hp, h4⟩
      rw [givenD_all, List.length_range] at h4
      exact ⟨p, rfl, hp, h4⟩
  have hbl : (((List.range S.stage.things.length).map fun b => ((Sy90.thing S.stage b).mark, (Sy90.thing S.stage b).aim)).map fun x => [nV x.1, nV x.2]).flatten.length ≤ 8 := by
    rw [pair_flat, List.length_map, pair_len, List.length_map, List.length_range]
    omega
  refine q_asgL (xs := (((List.range S.stage.things.length).map fun b => ((Sy90.thing S.stage b).mark, (Sy90.thing S.stage b).aim)).map fun x => [nV x.1, nV x.2]).flatten) (el_callD hbars fun v H2 e2 p2 => ?_) fun pb H2 hpb e2 hb2 => ?_
  · obtain ⟨p, rfl, hp, xs, hx1, hx2⟩ := p2
    exact spl_joined (K := K) ⟨p, xs, rfl, sq_of hx1, pair_rows hx2⟩ (by omega)
  have S2 := S1.x e2
  refine q_asgD (P := fun v H3 => NlV K H3 v (S.stage.started.map flagV)) (evd_flags (ev_ss T S2 (ev_var rfl)) S2.fs (by rw [z.ls]; omega) (fun _ => rfl) (fun _ => rfl)) fun vs3 H3 e3 p3 => ?_
  have S3 := S2.x e3
  refine q_asgD (P := fun v H4 => NlV K H4 v (S.stage.done.map flagV)) (evd_flags (ev_es T S3 (ev_var rfl)) S3.fe (by rw [z.ld]; omega) (fun _ => rfl) (fun _ => rfl)) fun vs4 H4 e4 p4 => ?_
  have S4 := S3.x e4
  obtain ⟨ps, rfl, hps⟩ := nlV_x _ _ _ _ _ e4 p3
  obtain ⟨pd, rfl, hpd⟩ := p4
  have hbf := (e3.trans e4) pb _ hb2
  obtain ⟨xr, hr1, hr2⟩ := S4.fr
  have hrf : (S.ropes.map fun x => [nV x.1, nV x.2]).flatten.length ≤ 8 := by
    rw [pair_flat, List.length_map, pair_len]
    omega
  have hsl : (S.stage.started.map flagV).length ≤ 5 := by rw [List.length_map, z.ls]; exact c5
  have hdl : (S.stage.done.map flagV).length ≤ 5 := by rw [List.length_map, z.ld]; exact c5
  have hs2 : ((S.stage.started.map flagV).map nV).length ≤ 5 := by rw [List.length_map]; exact hsl
  have hd2 : ((S.stage.done.map flagV).map nV).length ≤ 5 := by rw [List.length_map]; exact hdl
  have hqf : (S.stage.pairs.map fun x => [nV x.1, nV x.2.1, nV x.2.2]).flatten.length ≤ 12 := by
    rw [triple_flat, List.length_map, triple_len]
    omega
  refine q_asgL (el_cat (el_cat (el_cat (el_cat (el_lst (vs := [nV S.stage.second]) (ea_cons (ev_now T S4 (ev_var rfl)) ea_nil) (Nat.le_of_lt (show 1 < 100000 by decide))) (el_listed (K := K) (v := .ref pb) (ev_var rfl) ⟨pb, rfl, .inl (sq_of hbf)⟩ (by omega)) ?_) (el_listedL (K := K) (el_joinedL (ev_r T S4 (ev_var rfl)) ⟨A.r, xr, rfl, sq_of hr1, pair_rows hr2⟩ (by omega)) (by omega)) ?_) (el_listed (K := K) (v := .ref ps) (ev_var rfl) ⟨ps, rfl, .inl (sq_of hps)⟩ (by rw [List.length_map]; omega)) ?_) (el_listed (K := K) (v := .ref pd) (ev_var rfl) ⟨pd, rfl, .inl (sq_of hpd)⟩ (by rw [List.length_map]; omega)) ?_) fun pf H5 hpf e5 h5 => ?_
  · simp only [List.length_cons, List.length_nil]
    omega
  · simp only [List.length_append, List.length_cons, List.length_nil]
    omega
  · rw [List.length_append, List.length_append, List.length_cons, List.length_cons, List.length_cons, List.length_cons, List.length_nil]
    omega
  · rw [List.length_append, List.length_append, List.length_append, List.length_cons, List.length_cons, List.length_cons, List.length_cons, List.length_cons, List.length_nil]
    omega
  have S5 := S4.x e5
  obtain ⟨xq, hq1, hq2⟩ := S5.fq
  have e15 := e1.trans (e2.trans (e3.trans (e4.trans e5)))
  refine s_retD (P := fun v H6 => ∃ p, v = .ref p ∧ H p = none ∧ H6 p = some (.lst (outV (Sy92.step S .state).2))) (evd_op (P1 := fun x _ => x = .ref pf) (evd_of (ev_var rfl) fun _ _ => rfl) fun x H6 e6 p6 => ?_) fun v H6 e6 p6 => ?_
  · subst p6
    refine EvD.imp (evd_L (el_listedL (K := K) (el_joinedL (ev_q T (S5.x e6) (ev_var rfl)) ⟨A.q, xq, rfl, sq_of (e6 _ _ hq1), triple_rows (all2_x trV_st.x e6 hq2)⟩ (by omega)) (by omega))) fun y H7 e7 p7 => ?_
    obtain ⟨b, rfl, _, hb⟩ := p7
    refine fun Q7 q7 => rv_cat ((e6.trans e7) pf _ h5) hb ?_ Q7 fun v H8 e8 p8 => q7 v H8 e8 ?_
    · rw [List.length_append, List.length_append, List.length_append, List.length_append, List.length_cons, List.length_cons, List.length_cons, List.length_cons, List.length_cons, List.length_cons, List.length_nil]
      omega
    · obtain ⟨c, rfl, hc, hc2⟩ := p8
      refine ⟨c, rfl, fresh_back (e15.trans (e6.trans e7)) hc, ?_⟩
      rw [hc2]
      refine congrArg (fun x => some (HO.lst x)) ?_
      show _ = outV ⟨(S.stage.second : Nat), Sy90.ints (S.stage.things.flatMap fun (t : Sy90.Thing) => [t.mark, t.aim]) :: Sy92.ints (S.ropes.flatMap fun (x : Nat × Nat) => [x.1, x.2]) :: [Sy90.flags S.stage.started, Sy90.flags S.stage.done, Sy90.ints (S.stage.pairs.flatMap fun (p : Nat × Nat × Nat) => [p.1, p.2.1, p.2.2])]⟩
      have hth : S.stage.things.flatMap (fun (t : Sy90.Thing) => [t.mark, t.aim]) = ((List.range S.stage.things.length).map fun b => ((Sy90.thing S.stage b).mark, (Sy90.thing S.stage b).aim)).flatMap fun x => [x.1, x.2] := by
        have hm : (List.range S.stage.things.length).map (fun b => ((Sy90.thing S.stage b).mark, (Sy90.thing S.stage b).aim)) = S.stage.things.map fun t => (t.mark, t.aim) := map_getD S.stage.things ⟨0, 0, none⟩ fun t => (t.mark, t.aim)
        rw [hm, List.flatMap_map]
      rw [outV_eq, hth, pair_flat, pair_flat, triple_flat]
      have hfl : ∀ l : List (Option Nat), (Sy90.flags l).length = l.length := fun l => List.length_map ..
      have hin : ∀ l : List Nat, (Sy90.ints l).length = l.length := fun l => List.length_map ..
      have hin2 : ∀ l : List Nat, (Sy92.ints l).length = l.length := fun l => List.length_map ..
      simp only [rowsV, ints_V, ints90_V, flags_V, hfl, hin, hin2, List.length_map, List.append_nil, List.cons_append, List.nil_append, List.append_assoc]
  · obtain ⟨p, rfl, hp, h6⟩ := p6
    exact k p H6 hp (e15.trans e6) h6
theorem ok_Loft_state {P : Program} {w : World} {K : PySem.W.Frag} {mg : Str → Option Value} {base : Heap} (T : Tx K mg) (D_Stage_bars : MethE P w K mg base (CX0) 1 "Stage" "bars" ["self"] (sp_Stage_bars K)) (D_joined : DefE P w K mg base (CX0) 1 "joined" ["rows"] (sp_joined K)) (D_listed : DefE P w K mg base (CX0) 1 "listed" ["row"] (sp_listed K)) : MethE P w K mg base CX0 2 "Loft" "state" ["self"] (sp_Loft_state K) := by
  obtain ⟨fd, F⟩ := T.d_Loft_state
  have bd : Binds K fd ["self"] [] := F.bindsN fun _ _ _ _ _ _ us hl => match us, hl with | [_], _ => rfl
  have G : FnOk P w K mg base CX0 2 (He.ma K (He.ga K "Loft") "state") fd ["self"] (sp_Loft_state K) := by
    refine F.ok sc_Loft_state (fun vs H Q E h => sl_Loft_state h) (fun cdv A outer s H vs Q E hr h => ⟨t_Loft_state K, PSs.nox ?_, pure_Loft_state T vs H Q E h⟩)
    exact (pss_cons (ps_set (i := 1) sc_Loft_state.nd rfl (by first | exact Or.inl rfl | exact Or.inr rfl) (pe_fld (pv 0) rfl))
  (pss_cons (ps_set (i := 2) sc_Loft_state.nd rfl (by first | exact Or.inl rfl | exact Or.inr rfl) (pe_callE D_joined (hr.mono (by decide)) rfl pass0 (by exact (pa_cons (pe_lc (own := [("bar", 7)]) (g := (gName 7)) (tt := tYes) (te := (tTup (tCons (tOp (rIxL K) (tFld K (tVar 1) "positions") (tVar 7)) (tCons (tOp (rIxL K) (tFld K (tVar 1) "targets") (tVar 7)) tNil)))) rfl sc_Loft_state.nd (pi_list (pe_methE0 (pv 1) D_Stage_bars (hr.mono (by decide)) pass0)) (blkOk_by (N := N_Loft_state) (sc := defScope s_Loft_state) (by decide +kernel)) (fun _ _ _ _ _ => (pg_name (i := 7) sc_Loft_state.nd rfl (by first | exact Or.inl rfl | exact Or.inr rfl))) (fun _ _ _ _ _ => pts_nil) (fun _ _ _ _ _ => (pe_tup (pa_cons (pe_ix ix_list (pe_fld (pv 1) rfl) (pv 7) (fun _ _ => rfl)) (pa_cons (pe_ix ix_list (pe_fld (pv 1) rfl) (pv 7) (fun _ _ => rfl)) pa_nil))))) pa_nil))))
  (pss_cons (ps_setLc (i := 3) (own := [("second", 6)]) (g := (gName 6)) (tt := tYes) (te := (tCB rIntB (tCons (tOp rNotN (tVar 6) (tC .non)) tNil))) rfl sc_Loft_state.nd rfl rfl (sw_true rfl rfl rfl (by decide +kernel)) (pi_list (pe_fld (pv 1) rfl)) (blkOk_by (N := N_Loft_state) (sc := defScope s_Loft_state) (by decide +kernel)) (fun _ _ _ _ _ => (pg_name (i := 6) sc_Loft_state.nd rfl (by first | exact Or.inl rfl | exact Or.inr rfl))) (fun _ _ _ _ _ => pts_nil) (fun _ _ _ _ _ => (pe_callTy cInt rfl T.f_int bInt (pa_cons (pe_cmpR oNotN (pv 6) pe_non (nomark _)) pa_nil))))
  (pss_cons (ps_setLc (i := 4) (own := [("second", 6)]) (g := (gName 6)) (tt := tYes) (te := (tCB rIntB (tCons (tOp rNotN (tVar 6) (tC .non)) tNil))) rfl sc_Loft_state.nd rfl rfl (sw_true rfl rfl rfl (by decide +kernel)) (pi_list (pe_fld (pv 1) rfl)) (blkOk_by (N := N_Loft_state) (sc := defScope s_Loft_state) (by decide +kernel)) (fun _ _ _ _ _ => (pg_name (i := 6) sc_Loft_state.nd rfl (by first | exact Or.inl rfl | exact Or.inr rfl))) (fun _ _ _ _ _ => pts_nil) (fun _ _ _ _ _ => (pe_callTy cInt rfl T.f_int bInt (pa_cons (pe_cmpR oNotN (pv 6) pe_non (nomark _)) pa_nil))))
  (pss_cons (ps_set (i := 5) sc_Loft_state.nd rfl (by first | exact Or.inl rfl | exact Or.inr rfl) (pe_op oCat (pe_op oCat (pe_op oCat (pe_op oCat (pe_lst (pa_cons (pe_fld (pv 1) rfl) pa_nil)) (pe_callE D_listed (hr.mono (by decide)) rfl pass0 (by exact (pa_cons (pv 2) pa_nil)))) (pe_callE D_listed (hr.mono (by decide)) rfl pass0 (by exact (pa_cons (pe_callE D_joined (hr.mono (by decide)) rfl pass0 (by exact (pa_cons (pe_fld (pv 1) rfl) pa_nil))) pa_nil)))) (pe_callE D_listed (hr.mono (by decide)) rfl pass0 (by exact (pa_cons (pv 3) pa_nil)))) (pe_callE D_listed (hr.mono (by decide)) rfl pass0 (by exact (pa_cons (pv 4) pa_nil)))))
  (pss_one (ps_ret (pe_op oCat (pv 5) (pe_callE D_listed (hr.mono (by decide)) rfl pass0 (by exact (pa_cons (pe_callE D_joined (hr.mono (by decide)) rfl pass0 (by exact (pa_cons (pe_fld (pv 1) rfl) pa_nil))) pa_nil)))))))))))
  exact MethE.mk ⟨fd, G, bd⟩ T.c_Loft T.e_Loft_state
end Sk
namespace Sk
open PySem L2 Evl Sc
/-! ### told_of_setting, told_of_asking -/
def callN (c : Nat) (g r : List Nat) : Sy92.Call := match c with
  | 0 => .begins r
  | 1 => .rope (g.getD 0 0) (g.getD 1 0) (g.getD 2 0)
  | 2 => .pair (g.getD 0 0) (g.getD 1 0) (g.getD 2 0)
  | 3 => .cue r
  | 4 => .follow (g.getD 0 0) (g.getD 1 0) (g.getD 2 0) r
  | 5 => .go (g.getD 0 0)
  | 6 => .wait (g.getD 0 0)
  | 7 => .at_ (g.getD 0 0)
  | 8 => .foul
  | 9 => .moves
  | 10 => .hands
  | 11 => .plan
  | 12 => .soon (g.getD 0 0) (g.getD 1 0)
  | 13 => .show_ (g.getD 0 0) r
  | _ => .state
section
variable {σ : L2.St} {H : Hp} {te : TE} {tu tz : TS} {D : Ends} {c j : Nat}
theorem q_ifNo (h : Ev te σ H (nV c)) (ne : c ≠ j) (k : ∀ H1, Ex H H1 → tz D σ H1) : tSeq (tIfS (tTest (tOp rEq te (tC (.int (j : Nat))))) tu tNext) tz D σ H :=
  q_when (b := false) (et_is (et_test (ev_op h ev_c (rv_eq rfl))) (decide_eq_false fun z => ne (by have := V.int.inj z; omega))) (fun z => by cases z) fun _ H1 e1 => k H1 e1
theorem q_ifYes (h : Ev te σ H (nV c)) (e : c = j) (k : ∀ H1, Ex H H1 → tu { D with nx := tz D } σ H1) : tSeq (tIfS (tTest (tOp rEq te (tC (.int (j : Nat))))) tu tNext) tz D σ H :=
  q_when (b := true) (et_is (et_test (ev_op h ev_c (rv_eq rfl))) (decide_eq_true (by rw [e]))) (fun _ H1 e1 => k H1 e1) fun z => by cases z
end
def needs (c : Nat) : Nat := (shapeL.getD c (0, false)).1
def sp_Loft_told_of_setting (K : PySem.W.Frag) : Sp := fun vs H Q E => ∃ (l dx : Addr) (A : Adr) (S : Sy92.St) (c : Nat) (gv rv : V) (g r : List Nat), vs = [.ref l, nV c, gv, rv] ∧ LftAt K H l dx A S ∧ InvS S ∧ c ≤ 6 ∧ NsV K H gv g ∧ needs c ≤ g.length ∧ NsV K H rv r ∧ r.length ≤ 4000 ∧ RetC K l dx A S (Sy92.step S (callN c g r)) H Q E
theorem sl_Loft_told_of_setting {K : PySem.W.Frag} {vs : List V} {H : Hp} {Q : VK} {E : XK} (h : sp_Loft_told_of_setting K vs H Q E) : vs.length = 4 := by
  obtain ⟨_, _, _, _, _, _, _, _, _, rfl, _⟩ := h
  rfl
def t_Loft_told_of_setting (K : PySem.W.Frag) (E : XK) : TS :=
  (tSeq (tIfS (tTest (tOp rEq (tVar 1) (tC (.int 0)))) (tRet (tMeth (He.ga K "Loft") "begin" (sp_Loft_begin K) [] E (tVar 0) (tCons (tVar 3) tNil))) tNext)
  (tSeq (tIfS (tTest (tOp rEq (tVar 1) (tC (.int 1)))) (tRet (tMeth (He.ga K "Loft") "set_rope" (sp_Loft_set_rope K) [] E (tVar 0) (tCons (tOp (rIxL K) (tVar 2) (tC (.int 0))) (tCons (tOp (rIxL K) (tVar 2) (tC (.int 1))) (tCons (tOp (rIxL K) (tVar 2) (tC (.int 2))) tNil))))) tNext)
  (tSeq (tIfS (tTest (tOp rEq (tVar 1) (tC (.int 2)))) (tRet (tMeth (He.ga K "Loft") "add_pair" (sp_Loft_add_pair K) [] E (tVar 0) (tCons (tOp (rIxL K) (tVar 2) (tC (.int 0))) (tCons (tOp (rIxL K) (tVar 2) (tC (.int 1))) (tCons (tOp (rIxL K) (tVar 2) (tC (.int 2))) tNil))))) tNext)
  (tSeq (tIfS (tTest (tOp rEq (tVar 1) (tC (.int 3)))) (tRet (tMeth (He.ga K "Loft") "add_cue" (sp_Loft_add_cue K) [] E (tVar 0) (tCons (tVar 3) tNil))) tNext)
  (tSeq (tIfS (tTest (tOp rEq (tVar 1) (tC (.int 4)))) (tRet (tMeth (He.ga K "Loft") "add_follow" (sp_Loft_add_follow K) [] E (tVar 0) (tCons (tOp (rIxL K) (tVar 2) (tC (.int 0))) (tCons (tOp (rIxL K) (tVar 2) (tC (.int 1))) (tCons (tOp (rIxL K) (tVar 2) (tC (.int 2))) (tCons (tVar 3) tNil)))))) tNext)
  (tSeq (tIfS (tTest (tOp rEq (tVar 1) (tC (.int 5)))) (tRet (tMeth (He.ga K "Loft") "call" (sp_Loft_call K) [] E (tVar 0) (tCons (tOp (rIxL K) (tVar 2) (tC (.int 0))) tNil))) tNext)
  (tRet (tMeth (He.ga K "Loft") "wait" (sp_Loft_wait K) [] E (tVar 0) (tCons (tOp (rIxL K) (tVar 2) (tC (.int 0))) tNil)))))))))
theorem ev_given {K : PySem.W.Frag} {σ : L2.St} {H : Hp} {te : TE} {gv : V} {g : List Nat} {i : Nat} (h : Ev te σ H gv) (hg : NsV K H gv g) (hi : i < g.length) : Ev (tOp (rIxL K) te (tC (.int (i : Nat)))) σ H (nV (g.getD i 0)) := by
  obtain ⟨a, rfl, ha⟩ := hg
  exact ev_op h ev_c (rv_ixL ha (at_nat hi))
theorem pure_Loft_told_of_setting {K : PySem.W.Frag} {mg : Str → Option Value} (T : Tx K mg) (vs : List V) (H : Hp) (Q : VK) (E : XK) (h : sp_Loft_told_of_setting K vs H Q E) : t_Loft_told_of_setting K E { nx := fun _ H' => Q .non H', rt := Q } (start N_Loft_told_of_setting vs) H := by
  obtain ⟨l, dx, A, S, c, gv, rv, g, r, rfl, L, I, hc, hg, hn, hr, hz, k⟩ := h
  have hx : ∀ {H1 : Hp}, Ex H H1 → NsV K H1 gv g := fun e => nsV_x _ _ _ _ _ e hg
  have hy : ∀ {H1 : Hp}, Ex H H1 → NsV K H1 rv r := fun e => nsV_x _ _ _ _ _ e hr
  by_cases c0 : c = 0
  · subst c0
    exact q_ifYes (ev_var rfl) rfl fun H1 e1 => s_retM (ev_var rfl) (L.x e1).o rfl (ea_cons (ev_var rfl) ea_nil) fun H2 e2 => ⟨l, dx, A, S, rv, r, rfl, L.x (e1.trans e2), hy (e1.trans e2), hz, k.go (e1.trans e2)⟩
  refine q_ifNo (ev_var rfl) c0 fun H1 f1 => ?_
  by_cases c1 : c = 1
  · subst c1
    have hn : 3 ≤ g.length := hn
    exact q_ifYes (ev_var rfl) rfl fun H2 e2 => s_retM (ev_var rfl) (L.x (f1.trans e2)).o rfl (ea_cons (ev_given (i := 0) (ev_var rfl) (hx (f1.trans e2)) (by omega)) (ea_cons (ev_given (i := 1) (ev_var rfl) (hx (f1.trans e2)) (by omega)) (ea_cons (ev_given (i := 2) (ev_var rfl) (hx (f1.trans e2)) (by omega)) ea_nil))) fun H3 e3 => ⟨l, dx, A, S, _, _, _, rfl, L.x ((f1.trans e2).trans e3), I, k.go ((f1.trans e2).trans e3)⟩
  refine q_ifNo (ev_var rfl) c1 fun H2 f2 => ?_
  have f2 := f1.trans f2
  by_cases c2 : c = 2
  · subst c2
    have hn : 3 ≤ g.length := hn
    exact q_ifYes (ev_var rfl) rfl fun H3 e2 => s_retM (ev_var rfl) (L.x (f2.trans e2)).o rfl (ea_cons (ev_given (i := 0) (ev_var rfl) (hx (f2.trans e2)) (by omega)) (ea_cons (ev_given (i := 1) (ev_var rfl) (hx (f2.trans e2)) (by omega)) (ea_cons (ev_given (i := 2) (ev_var rfl) (hx (f2.trans e2)) (by omega)) ea_nil))) fun H4 e3 => ⟨l, dx, A, S, _, _, _, rfl, L.x ((f2.trans e2).trans e3), I, k.go ((f2.trans e2).trans e3)⟩
  refine q_ifNo (ev_var rfl) c2 fun H3 f3 => ?_
  have f3 := f2.trans f3
  by_cases c3 : c = 3
  · subst c3
    exact q_ifYes (ev_var rfl) rfl fun H4 e2 => s_retM (ev_var rfl) (L.x (f3.trans e2)).o rfl (ea_cons (ev_var rfl) ea_nil) fun H5 e3 => ⟨l, dx, A, S, rv, r, rfl, L.x ((f3.trans e2).trans e3), I, hy ((f3.trans e2).trans e3), hz, k.go ((f3.trans e2).trans e3)⟩
  refine q_ifNo (ev_var rfl) c3 fun H4 f4 => ?_
  have f4 := f3.trans f4
  by_cases c4 : c = 4
  · subst c4
    have hn : 3 ≤ g.length := hn
    exact q_ifYes (ev_var rfl) rfl fun H5 e2 => s_retM (ev_var rfl) (L.x (f4.trans e2)).o rfl (ea_cons (ev_given (i := 0) (ev_var rfl) (hx (f4.trans e2)) (by omega)) (ea_cons (ev_given (i := 1) (ev_var rfl) (hx (f4.trans e2)) (by omega)) (ea_cons (ev_given (i := 2) (ev_var rfl) (hx (f4.trans e2)) (by omega)) (ea_cons (ev_var rfl) ea_nil)))) fun H6 e3 => ⟨l, dx, A, S, _, _, _, rv, r, rfl, L.x ((f4.trans e2).trans e3), I, hy ((f4.trans e2).trans e3), hz, k.go ((f4.trans e2).trans e3)⟩
  refine q_ifNo (ev_var rfl) c4 fun H5 f5 => ?_
  have f5 := f4.trans f5
  by_cases c5 : c = 5
  · subst c5
    have hn : 1 ≤ g.length := hn
    exact q_ifYes (ev_var rfl) rfl fun H6 e2 => s_retM (ev_var rfl) (L.x (f5.trans e2)).o rfl (ea_cons (ev_given (i := 0) (ev_var rfl) (hx (f5.trans e2)) (by omega)) ea_nil) fun H7 e3 => ⟨l, dx, A, S, _, rfl, L.x ((f5.trans e2).trans e3), I, k.go ((f5.trans e2).trans e3)⟩
  refine q_ifNo (ev_var rfl) c5 fun H6 f6 => ?_
  have f6 := f5.trans f6
  have c6 : c = 6 := by omega
  subst c6
  have hn : 1 ≤ g.length := hn
  exact s_retM (ev_var rfl) (L.x f6).o rfl (ea_cons (ev_given (i := 0) (ev_var rfl) (hx f6) (by omega)) ea_nil) fun H7 e3 => ⟨l, dx, A, S, _, rfl, L.x (f6.trans e3), I, k.go (f6.trans e3)⟩
theorem ok_Loft_told_of_setting {P : Program} {w : World} {K : PySem.W.Frag} {mg : Str → Option Value} {base : Heap} (T : Tx K mg) (D_Loft_add_cue : MethE P w K mg base (L2.CX P w) 6 "Loft" "add_cue" ["self", "row"] (sp_Loft_add_cue K)) (D_Loft_add_follow : MethE P w K mg base (L2.CX P w) 6 "Loft" "add_follow" ["self", "event", "cue", "delay", "row"] (sp_Loft_add_follow K)) (D_Loft_add_pair : MethE P w K mg base (L2.CX P w) 5 "Loft" "add_pair" ["self", "bar", "other", "clearance"] (sp_Loft_add_pair K)) (D_Loft_begin : MethE P w K mg base (L2.CX P w) 4 "Loft" "begin" ["self", "row"] (sp_Loft_begin K)) (D_Loft_call : MethE P w K mg base (L2.CX P w) 5 "Loft" "call" ["self", "cue"] (sp_Loft_call K)) (D_Loft_set_rope : MethE P w K mg base (L2.CX P w) 5 "Loft" "set_rope" ["self", "bar", "position", "crew"] (sp_Loft_set_rope K)) (D_Loft_wait : MethE P w K mg base (L2.CX P w) 5 "Loft" "wait" ["self", "many"] (sp_Loft_wait K)) : MethE P w K mg base (L2.CX P w) 7 "Loft" "told_of_setting" ["self", "call", "given", "row"] (sp_Loft_told_of_setting K) := by
  obtain ⟨fd, F⟩ := T.d_Loft_told_of_setting
  have bd : Binds K fd ["self", "call", "given", "row"] [] := F.bindsN fun _ _ _ _ _ _ us hl => match us, hl with | [_, _, _, _], _ => rfl
  have G : FnOk P w K mg base (L2.CX P w) 7 (He.ma K (He.ga K "Loft") "told_of_setting") fd ["self", "call", "given", "row"] (sp_Loft_told_of_setting K) := by
    refine F.ok sc_Loft_told_of_setting (fun vs H Q E h => sl_Loft_told_of_setting h) (fun cdv A outer s H vs Q E hr h => ⟨t_Loft_told_of_setting K E, ?_, pure_Loft_told_of_setting T vs H Q E h⟩)
    exact (pss_cons (ps_if (pt_cmpR oEq (pv 1) pe_int (nomark _)) (pss_one (ps_ret (pe_methE (pv 0) D_Loft_begin (hr.mono (by decide)) (passes_call (takes_of rfl rfl rfl rfl) (fun _ _ _ _ h => h)) (by exact (pa_cons (pv 3) pa_nil))))) pss_nil)
  (pss_cons (ps_if (pt_cmpR oEq (pv 1) pe_int (nomark _)) (pss_one (ps_ret (pe_methE (pv 0) D_Loft_set_rope (hr.mono (by decide)) (passes_call (takes_of rfl rfl rfl rfl) (fun _ _ _ _ h => h)) (by exact (pa_cons (pe_ix ix_list (pv 2) pe_int (fun _ _ => rfl)) (pa_cons (pe_ix ix_list (pv 2) pe_int (fun _ _ => rfl)) (pa_cons (pe_ix ix_list (pv 2) pe_int (fun _ _ => rfl)) pa_nil))))))) pss_nil)
  (pss_cons (ps_if (pt_cmpR oEq (pv 1) pe_int (nomark _)) (pss_one (ps_ret (pe_methE (pv 0) D_Loft_add_pair (hr.mono (by decide)) (passes_call (takes_of rfl rfl rfl rfl) (fun _ _ _ _ h => h)) (by exact (pa_cons (pe_ix ix_list (pv 2) pe_int (fun _ _ => rfl)) (pa_cons (pe_ix ix_list (pv 2) pe_int (fun _ _ => rfl)) (pa_cons (pe_ix ix_list (pv 2) pe_int (fun _ _ => rfl)) pa_nil))))))) pss_nil)
  (pss_cons (ps_if (pt_cmpR oEq (pv 1) pe_int (nomark _)) (pss_one (ps_ret (pe_methE (pv 0) D_Loft_add_cue (hr.mono (by decide)) (passes_call (takes_of rfl rfl rfl rfl) (fun _ _ _ _ h => h)) (by exact (pa_cons (pv 3) pa_nil))))) pss_nil)
  (pss_cons (ps_if (pt_cmpR oEq (pv 1) pe_int (nomark _)) (pss_one (ps_ret (pe_methE (pv 0) D_Loft_add_follow (hr.mono (by decide)) (passes_call (takes_of rfl rfl rfl rfl) (fun _ _ _ _ h => h)) (by exact (pa_cons (pe_ix ix_list (pv 2) pe_int (fun _ _ => rfl)) (pa_cons (pe_ix ix_list (pv 2) pe_int (fun _ _ => rfl)) (pa_cons (pe_ix ix_list (pv 2) pe_int (fun _ _ => rfl)) (pa_cons (pv 3) pa_nil)))))))) pss_nil)
  (pss_cons (ps_if (pt_cmpR oEq (pv 1) pe_int (nomark _)) (pss_one (ps_ret (pe_methE (pv 0) D_Loft_call (hr.mono (by decide)) (passes_call (takes_of rfl rfl rfl rfl) (fun _ _ _ _ h => h)) (by exact (pa_cons (pe_ix ix_list (pv 2) pe_int (fun _ _ => rfl)) pa_nil))))) pss_nil)
  (pss_one (ps_ret (pe_methE (pv 0) D_Loft_wait (hr.mono (by decide)) (passes_call (takes_of rfl rfl rfl rfl) (fun _ _ _ _ h => h)) (by exact (pa_cons (pe_ix ix_list (pv 2) pe_int (fun _ _ => rfl)) pa_nil)))))))))))
  exact MethE.mk ⟨fd, G, bd⟩ T.c_Loft T.e_Loft_told_of_setting
def sp_Loft_told_of_asking (K : PySem.W.Frag) : Sp := fun vs H Q E => ∃ (l dx : Addr) (A : Adr) (S : Sy92.St) (c : Nat) (gv rv : V) (g r : List Nat), vs = [.ref l, nV c, gv, rv] ∧ LftAt K H l dx A S ∧ InvS S ∧ 7 ≤ c ∧ c ≤ 14 ∧ NsV K H gv g ∧ needs c ≤ g.length ∧ NsV K H rv r ∧ r.length ≤ 4000 ∧ RetC K l dx A S (Sy92.step S (callN c g r)) H Q E
theorem sl_Loft_told_of_asking {K : PySem.W.Frag} {vs : List V} {H : Hp} {Q : VK} {E : XK} (h : sp_Loft_told_of_asking K vs H Q E) : vs.length = 4 := by
  obtain ⟨_, _, _, _, _, _, _, _, _, rfl, _⟩ := h
  rfl
def t_Loft_told_of_asking (K : PySem.W.Frag) (E : XK) : TS :=
  (tSeq (tIfS (tTest (tOp rEq (tVar 1) (tC (.int 7)))) (tRet (tMeth (He.ga K "Loft") "positions_at" (sp_Loft_positions_at K) [] E0 (tVar 0) (tCons (tOp (rIxL K) (tVar 2) (tC (.int 0))) tNil))) tNext)
  (tSeq (tIfS (tTest (tOp rEq (tVar 1) (tC (.int 8)))) (tRet (tMeth (He.ga K "Loft") "first_violation" (sp_Loft_first_violation K) [] E (tVar 0) tNil)) tNext)
  (tSeq (tIfS (tTest (tOp rEq (tVar 1) (tC (.int 9)))) (tRet (tMeth (He.ga K "Loft") "movements" (sp_Loft_movements K) [] E0 (tVar 0) tNil)) tNext)
  (tSeq (tIfS (tTest (tOp rEq (tVar 1) (tC (.int 10)))) (tRet (tMeth (He.ga K "Loft") "stagehands" (sp_Loft_stagehands K) [] E (tVar 0) tNil)) tNext)
  (tSeq (tIfS (tTest (tOp rEq (tVar 1) (tC (.int 11)))) (tRet (tMeth (He.ga K "Loft") "plan" (sp_Loft_plan K) [] E (tVar 0) tNil)) tNext)
  (tSeq (tIfS (tTest (tOp rEq (tVar 1) (tC (.int 12)))) (tRet (tMeth (He.ga K "Loft") "earliest" (sp_Loft_earliest K) [] E (tVar 0) (tCons (tOp (rIxL K) (tVar 2) (tC (.int 0))) (tCons (tOp (rIxL K) (tVar 2) (tC (.int 1))) tNil)))) tNext)
  (tSeq (tIfS (tTest (tOp rEq (tVar 1) (tC (.int 13)))) (tRet (tMeth (He.ga K "Loft") "schedule" (sp_Loft_schedule K) [] E (tVar 0) (tCons (tOp (rIxL K) (tVar 2) (tC (.int 0))) (tCons (tVar 3) tNil)))) tNext)
  (tRet (tMeth (He.ga K "Loft") "state" (sp_Loft_state K) [] E0 (tVar 0) tNil)))))))))
/-- an asking leaves the state -/
theorem ask_go {K : PySem.W.Frag} {l dx : Addr} {A : Adr} {S : Sy92.St} {a : Sy92.Ans} {H H1 : Hp} {Q : VK} {E : XK} (k : RetC K l dx A S (S, a) H Q E) (L : LftAt K H l dx A S) (e : Ex H H1) : (∀ c, a = Sy92.ok c → RetX K c H1 E) ∧ RetL (outV a) H1 Q :=
  ⟨fun c h => (k.1 c (by rw [h])).go e, (k.2.go e).new (L.x e)⟩
theorem pure_Loft_told_of_asking {K : PySem.W.Frag} {mg : Str → Option Value} (T : Tx K mg) (vs : List V) (H : Hp) (Q : VK) (E : XK) (h : sp_Loft_told_of_asking K vs H Q E) : t_Loft_told_of_asking K E { nx := fun _ H' => Q .non H', rt := Q } (start N_Loft_told_of_asking vs) H := by
  obtain ⟨l, dx, A, S, c, gv, rv, g, r, rfl, L, I, hc7, hc, hg, hn, hr, hz, k⟩ := h
  have hx : ∀ {H1 : Hp}, Ex H H1 → NsV K H1 gv g := fun e => nsV_x _ _ _ _ _ e hg
  have hy : ∀ {H1 : Hp}, Ex H H1 → NsV K H1 rv r := fun e => nsV_x _ _ _ _ _ e hr
  by_cases c0 : c = 7
  · subst c0
    have hn : 1 ≤ g.length := hn
    exact q_ifYes (j := 7) (ev_var rfl) rfl fun H1 e1 => s_retM (ev_var rfl) (L.x e1).o rfl (ea_cons (ev_given (i := 0) (ev_var rfl) (hx e1) (by omega)) ea_nil) fun H2 e2 => ⟨l, dx, A, S, _, rfl, L.x (e1.trans e2), I, (ask_go k L (e1.trans e2)).2⟩
  refine q_ifNo (j := 7) (ev_var rfl) c0 fun H1 f1 => ?_
  by_cases c1 : c = 8
  · subst c1
    exact q_ifYes (j := 8) (ev_var rfl) rfl fun H2 e2 => s_retM (ev_var rfl) (L.x (f1.trans e2)).o rfl ea_nil fun H3 e3 => ⟨l, dx, A, S, rfl, L.x ((f1.trans e2).trans e3), I, (ask_go k L ((f1.trans e2).trans e3)).1, (ask_go k L ((f1.trans e2).trans e3)).2⟩
  refine q_ifNo (j := 8) (ev_var rfl) c1 fun H2 f2 => ?_
  have f2 := f1.trans f2
  by_cases c2 : c = 9
  · subst c2
    exact q_ifYes (j := 9) (ev_var rfl) rfl fun H3 e2 => s_retM (ev_var rfl) (L.x (f2.trans e2)).o rfl ea_nil fun H4 e3 => ⟨l, dx, A, S, rfl, L.x ((f2.trans e2).trans e3), I, (ask_go k L ((f2.trans e2).trans e3)).2⟩
  refine q_ifNo (j := 9) (ev_var rfl) c2 fun H3 f3 => ?_
  have f3 := f2.trans f3
  by_cases c3 : c = 10
  · subst c3
    exact q_ifYes (j := 10) (ev_var rfl) rfl fun H4 e2 => s_retM (ev_var rfl) (L.x (f3.trans e2)).o rfl ea_nil fun H5 e3 => ⟨l, dx, A, S, rfl, L.x ((f3.trans e2).trans e3), I, (ask_go k L ((f3.trans e2).trans e3)).1, (ask_go k L ((f3.trans e2).trans e3)).2⟩
  refine q_ifNo (j := 10) (ev_var rfl) c3 fun H4 f4 => ?_
  have f4 := f3.trans f4
  by_cases c4 : c = 11
  · subst c4
    exact q_ifYes (j := 11) (ev_var rfl) rfl fun H5 e2 => s_retM (ev_var rfl) (L.x (f4.trans e2)).o rfl ea_nil fun H6 e3 => ⟨l, dx, A, S, rfl, L.x ((f4.trans e2).trans e3), I, (ask_go k L ((f4.trans e2).trans e3)).1, (ask_go k L ((f4.trans e2).trans e3)).2⟩
  refine q_ifNo (j := 11) (ev_var rfl) c4 fun H5 f5 => ?_
  have f5 := f4.trans f5
  by_cases c5 : c = 12
  · subst c5
    have hn : 2 ≤ g.length := hn
    exact q_ifYes (j := 12) (ev_var rfl) rfl fun H6 e2 => s_retM (ev_var rfl) (L.x (f5.trans e2)).o rfl (ea_cons (ev_given (i := 0) (ev_var rfl) (hx (f5.trans e2)) (by omega)) (ea_cons (ev_given (i := 1) (ev_var rfl) (hx (f5.trans e2)) (by omega)) ea_nil)) fun H7 e3 => ⟨l, dx, A, S, _, _, rfl, L.x ((f5.trans e2).trans e3), I, (ask_go k L ((f5.trans e2).trans e3)).1, (ask_go k L ((f5.trans e2).trans e3)).2⟩
  refine q_ifNo (j := 12) (ev_var rfl) c5 fun H6 f6 => ?_
  have f6 := f5.trans f6
  by_cases c6 : c = 13
  · subst c6
    have hn : 1 ≤ g.length := hn
    exact q_ifYes (j := 13) (ev_var rfl) rfl fun H7 e2 => s_retM (ev_var rfl) (L.x (f6.trans e2)).o rfl (ea_cons (ev_given (i := 0) (ev_var rfl) (hx (f6.trans e2)) (by omega)) (ea_cons (ev_var rfl) ea_nil)) fun H8 e3 => ⟨l, dx, A, S, _, rv, r, rfl, L.x ((f6.trans e2).trans e3), I, hy ((f6.trans e2).trans e3), hz, (ask_go k L ((f6.trans e2).trans e3)).1, (ask_go k L ((f6.trans e2).trans e3)).2⟩
  refine q_ifNo (j := 13) (ev_var rfl) c6 fun H7 f7 => ?_
  have f7 := f6.trans f7
  have c7 : c = 14 := by omega
  subst c7
  exact s_retM (ev_var rfl) (L.x f7).o rfl ea_nil fun H8 e3 => ⟨l, dx, A, S, rfl, L.x (f7.trans e3), I, (ask_go k L (f7.trans e3)).2⟩
theorem ok_Loft_told_of_asking {P : Program} {w : World} {K : PySem.W.Frag} {mg : Str → Option Value} {base : Heap} (T : Tx K mg) (D_Loft_earliest : MethE P w K mg base (L2.CX P w) 17 "Loft" "earliest" ["self", "hands", "cue"] (sp_Loft_earliest K)) (D_Loft_first_violation : MethE P w K mg base (L2.CX P w) 6 "Loft" "first_violation" ["self"] (sp_Loft_first_violation K)) (D_Loft_movements : MethE P w K mg base (CX0) 7 "Loft" "movements" ["self"] (sp_Loft_movements K)) (D_Loft_plan : MethE P w K mg base (L2.CX P w) 15 "Loft" "plan" ["self"] (sp_Loft_plan K)) (D_Loft_positions_at : MethE P w K mg base (CX0) 6 "Loft" "positions_at" ["self", "time"] (sp_Loft_positions_at K)) (D_Loft_schedule : MethE P w K mg base (L2.CX P w) 18 "Loft" "schedule" ["self", "hands", "cues"] (sp_Loft_schedule K)) (D_Loft_stagehands : MethE P w K mg base (L2.CX P w) 15 "Loft" "stagehands" ["self"] (sp_Loft_stagehands K)) (D_Loft_state : MethE P w K mg base (CX0) 2 "Loft" "state" ["self"] (sp_Loft_state K)) : MethE P w K mg base (L2.CX P w) 19 "Loft" "told_of_asking" ["self", "call", "given", "row"] (sp_Loft_told_of_asking K) := by
  obtain ⟨fd, F⟩ := T.d_Loft_told_of_asking
  have bd : Binds K fd ["self", "call", "given", "row"] [] := F.bindsN fun _ _ _ _ _ _ us hl => match us, hl with | [_, _, _, _], _ => rfl
  have G : FnOk P w K mg base (L2.CX P w) 19 (He.ma K (He.ga K "Loft") "told_of_asking") fd ["self", "call", "given", "row"] (sp_Loft_told_of_asking K) := by
    refine F.ok sc_Loft_told_of_asking (fun vs H Q E h => sl_Loft_told_of_asking h) (fun cdv A outer s H vs Q E hr h => ⟨t_Loft_told_of_asking K E, ?_, pure_Loft_told_of_asking T vs H Q E h⟩)
    exact (pss_cons (ps_if (pt_cmpR oEq (pv 1) pe_int (nomark _)) (pss_one (ps_ret (pe_methE (pv 0) D_Loft_positions_at (hr.mono (by decide)) pass0 (by exact (pa_cons (pe_ix ix_list (pv 2) pe_int (fun _ _ => rfl)) pa_nil))))) pss_nil)
  (pss_cons (ps_if (pt_cmpR oEq (pv 1) pe_int (nomark _)) (pss_one (ps_ret (pe_methE0 (pv 0) D_Loft_first_violation (hr.mono (by decide)) (passes_call (takes_of rfl rfl rfl rfl) (fun _ _ _ _ h => h))))) pss_nil)
  (pss_cons (ps_if (pt_cmpR oEq (pv 1) pe_int (nomark _)) (pss_one (ps_ret (pe_methE0 (pv 0) D_Loft_movements (hr.mono (by decide)) pass0))) pss_nil)
  (pss_cons (ps_if (pt_cmpR oEq (pv 1) pe_int (nomark _)) (pss_one (ps_ret (pe_methE0 (pv 0) D_Loft_stagehands (hr.mono (by decide)) (passes_call (takes_of rfl rfl rfl rfl) (fun _ _ _ _ h => h))))) pss_nil)
  (pss_cons (ps_if (pt_cmpR oEq (pv 1) pe_int (nomark _)) (pss_one (ps_ret (pe_methE0 (pv 0) D_Loft_plan (hr.mono (by decide)) (passes_call (takes_of rfl rfl rfl rfl) (fun _ _ _ _ h => h))))) pss_nil)
  (pss_cons (ps_if (pt_cmpR oEq (pv 1) pe_int (nomark _)) (pss_one (ps_ret (pe_methE (pv 0) D_Loft_earliest (hr.mono (by decide)) (passes_call (takes_of rfl rfl rfl rfl) (fun _ _ _ _ h => h)) (by exact (pa_cons (pe_ix ix_list (pv 2) pe_int (fun _ _ => rfl)) (pa_cons (pe_ix ix_list (pv 2) pe_int (fun _ _ => rfl)) pa_nil)))))) pss_nil)
  (pss_cons (ps_if (pt_cmpR oEq (pv 1) pe_int (nomark _)) (pss_one (ps_ret (pe_methE (pv 0) D_Loft_schedule (hr.mono (by decide)) (passes_call (takes_of rfl rfl rfl rfl) (fun _ _ _ _ h => h)) (by exact (pa_cons (pe_ix ix_list (pv 2) pe_int (fun _ _ => rfl)) (pa_cons (pv 3) pa_nil)))))) pss_nil)
  (pss_one (ps_ret (pe_methE0 (pv 0) D_Loft_state (hr.mono (by decide)) pass0))))))))))
  exact MethE.mk ⟨fd, G, bd⟩ T.c_Loft T.e_Loft_told_of_asking
end Sk
namespace Sk
open PySem L2 Evl Sc
/-! ### answer -/
/-- o.m(..) in a try -/
def tMethW (C : Addr) (m : Str) (sp : Sp) (E : St → XK) (ta : TE) (t : TA) : TE := fun σ H Q => ta σ H fun x H1 => ∃ a dx fs, x = .ref a ∧ H1 a = some (.ins C dx fs) ∧ fs.lookup m = none ∧ t σ H1 fun vs H2 => sp (x :: vs) H2 Q (E σ)
theorem pe_methW {X : Cx} {k : Nat} {C m : Str} {ps : List Str} {sp : Sp} {W : WX} {pos apos : Pos} {e o : Expr} {es : List Expr} {ta : TE} {t : TA} {pl : Sem Bool} (he : PE X o ta) (h : MethE X.prog X.w X.K X.mg X.base (L2.CX X.prog X.w) k C m ps sp) (hr : Room k X.A) (tk : Takes X W) (ha : PA X (e :: es) t)
    (hst : starEach (e :: es) X.env = (false, eval e X.env) :: starEach es X.env := by rfl) (hpl : (backTo pos (starEach es X.env)).any (·.1) = false := by rfl)
    (ht : eval (.Call (.Attribute o m apos) (e :: es) [] pos) X.env = (do
      let ov ← eval o X.env
      standAt apos.atName
      let (f, first) ← holding [ov] (getMethod ov m pl)
      callWith pos f first (backTo pos (starEach (e :: es) X.env)) (backToKw pos (keywordEach [] X.env))) := by rfl) :
    PE X (.Call (.Attribute o m apos) (e :: es) [] pos) (tMethW (He.ga X.K C) m sp (WE W) ta t) := by
  obtain ⟨fd, F, b⟩ := h.ex
  refine ⟨fun pins s σ H Q I w => ?_⟩
  refine PySem.W.methodCall_KW (pl := pl) (thn (he.run pins s σ H _ I w) fun u s1 q0 => ?_) ht
  obtain ⟨x, H1, I1, rx, a, dx, fs, ex, ea, l, q⟩ := q0
  subst ex
  obtain rfl : u = Value.ref a := rx
  refine getmeth_ok I1 ea h.cl h.me l ?_
  refine PySem.W.callWith_K (first := [.ref a]) (h₀ := X.base) I.ok.mod.kin h.me.kp (thn (ha.run pos pins s1 σ H1 _ I1 q) fun us s2 p2 => ?_) hst hpl
  obtain ⟨vs, H2, I2, r, q2⟩ := p2
  exact ⟨I2.kIn, run_fnS (us := .ref a :: us) (vs := .ref a :: vs) F hr b (passAt tk σ) I2 (.cons rfl r) q2⟩
def sp_Loft_answer (K : PySem.W.Frag) : Sp := fun vs H Q _ => ∃ (l dx : Addr) (A : Adr) (S : Sy92.St) (c : Nat) (gv rv : V) (g r : List Nat), vs = [.ref l, nV c, gv, rv] ∧ LftAt K H l dx A S ∧ InvS S ∧ c ≤ 14 ∧ NsV K H gv g ∧ needs c ≤ g.length ∧ NsV K H rv r ∧ r.length ≤ 4000 ∧ RetA K l dx A (Sy92.step S (callN c g r)).1 (outV (Sy92.step S (callN c g r)).2) H Q
theorem sl_Loft_answer {K : PySem.W.Frag} {vs : List V} {H : Hp} {Q : VK} {E : XK} (h : sp_Loft_answer K vs H Q E) : vs.length = 4 := by
  obtain ⟨_, _, _, _, _, _, _, _, _, rfl, _⟩ := h
  rfl
def t_suite (K : PySem.W.Frag) : Addr → Value → Option Addr → TS := fun a cls d => tRet (tLst (tCons (tXf a cls d (He.ga K "Refused") "code" (tVar 4)) tNil))
def t_tryB (K : PySem.W.Frag) (W : WX) : TS := tSeq (tIfS (tTest (tOp rLeI (tVar 1) (tC (.int 6)))) (tRet (tMethW (He.ga K "Loft") "told_of_setting" (sp_Loft_told_of_setting K) (WE W) (tVar 0) (tCons (tVar 1) (tCons (tVar 2) (tCons (tVar 3) tNil))))) tNext)
  (tRet (tMethW (He.ga K "Loft") "told_of_asking" (sp_Loft_told_of_asking K) (WE W) (tVar 0) (tCons (tVar 1) (tCons (tVar 2) (tCons (tVar 3) tNil)))))
def t_Loft_answer (K : PySem.W.Frag) : TS := fun D σ H => t_tryB K (wAs K (.ref (He.ga K "Refused")) 4 (t_suite K) (fun _ _ _ _ => False) D) D σ H
theorem s_retW {σ : L2.St} {H : Hp} {ta : TE} {t : TA} {D : Ends} {C : Addr} {m : Str} {sp : Sp} {vs : List V} {E : St → XK} {a dx : Addr} {fs : List (Str × V)} (h : Ev ta σ H (.ref a)) (ho : H a = some (.ins C dx fs)) (hl : fs.lookup m = none) (ha : EvA t σ H vs) (k : ∀ H1, Ex H H1 → sp (.ref a :: vs) H1 D.rt (E σ)) :
    tRet (tMethW C m sp E ta t) D σ H :=
  h H (Ex.refl H) _ fun H2 e2 => ⟨a, dx, fs, rfl, e2 a _ ho, hl, ha H2 e2 _ fun H3 e3 => k H3 (e2.trans e3)⟩
theorem ev_xf {σ : L2.St} {H : Hp} {te : TE} {a C d : Addr} {fs : List (Str × V)} {f : Str} {v : V} (h : Ev te σ H (.ref a)) (hd : H d = some (.xd fs)) (hl : fs.lookup f = some v) : Ev (tXf a (.ref C) (some d) C f te) σ H v := fun H1 e Q q =>
  h H1 e _ fun H2 e2 => ⟨rfl, rfl, d, fs, v, rfl, (e.trans e2) d _ hd, hl, q H2 e2⟩
theorem pure_Loft_answer {K : PySem.W.Frag} {mg : Str → Option Value} (T : Tx K mg) (vs : List V) (H : Hp) (Q : VK) (E : XK) (h : sp_Loft_answer K vs H Q E) : t_Loft_answer K { nx := fun _ H' => Q .non H', rt := Q } (start N_Loft_answer vs) H := by
  obtain ⟨l, dx, A, S, c, gv, rv, g, r, rfl, L, I, hc, hg, hn, hr, hz, k⟩ := h
  have hx : ∀ {H1 : Hp}, Ex H H1 → NsV K H1 gv g := fun e => nsV_x _ _ _ _ _ e hg
  have hy : ∀ {H1 : Hp}, Ex H H1 → NsV K H1 rv r := fun e => nsV_x _ _ _ _ _ e hr
  have kx : ∀ {H1 : Hp}, Ex H H1 → RetC K l dx A S (Sy92.step S (callN c g r)) H1 Q (WE (wAs K (.ref (He.ga K "Refused")) 4 (t_suite K) (fun _ _ _ _ => False) { nx := fun _ H' => Q .non H', rt := Q }) (L2.start N_Loft_answer [.ref l, nV c, gv, rv])) := fun {H1} e1 => by
    refine ⟨fun i hi d H2 e2 hd => ?_, k.go e1⟩
    refine ⟨true, T.x_Refused, fun _ a ha => ?_, fun z => by cases z⟩
    refine s_retL (xs := [.int i]) (el_lst (ea_cons (ev_xf (ev_var rfl) hd rfl) ea_nil) (Nat.le_of_lt (show 1 < 100000 by decide))) fun p H3 hp e3 h3 => ?_
    rw [hi] at k
    exact k.new L p H3 (fresh_back (e1.trans e2) hp) ((e1.trans e2).trans e3) h3
  show t_tryB K _ _ _ _
  unfold t_tryB
  refine q_when (b := decide (c ≤ 6)) (et_is (et_test (ev_op (ev_var rfl) ev_c rv_I0)) (decide_eq_decide.mpr (by omega))) (fun hb H1 e1 => ?_) fun hb H1 e1 => ?_
  · have hb := of_decide_eq_true hb
    exact s_retW (ev_var rfl) (L.x e1).o rfl (ea_cons (ev_var rfl) (ea_cons (ev_var rfl) (ea_cons (ev_var rfl) ea_nil))) fun H2 e2 => ⟨l, dx, A, S, c, gv, rv, g, r, rfl, L.x (e1.trans e2), I, hb, hx (e1.trans e2), hn, hy (e1.trans e2), hz, kx (e1.trans e2)⟩
  · have hb := of_decide_eq_false hb
    exact s_retW (ev_var rfl) (L.x e1).o rfl (ea_cons (ev_var rfl) (ea_cons (ev_var rfl) (ea_cons (ev_var rfl) ea_nil))) fun H2 e2 => ⟨l, dx, A, S, c, gv, rv, g, r, rfl, L.x (e1.trans e2), I, by omega, hc, hx (e1.trans e2), hn, hy (e1.trans e2), hz, kx (e1.trans e2)⟩
theorem ok_Loft_answer {P : Program} {w : World} {K : PySem.W.Frag} {mg : Str → Option Value} {base : Heap} (T : Tx K mg) (D_set : MethE P w K mg base (L2.CX P w) 7 "Loft" "told_of_setting" ["self", "call", "given", "row"] (sp_Loft_told_of_setting K)) (D_ask : MethE P w K mg base (L2.CX P w) 19 "Loft" "told_of_asking" ["self", "call", "given", "row"] (sp_Loft_told_of_asking K)) :
    MethE P w K mg base CX0 20 "Loft" "answer" ["self", "call", "given", "row"] (sp_Loft_answer K) := by
  obtain ⟨fd, F⟩ := T.d_Loft_answer
  have bd : Binds K fd ["self", "call", "given", "row"] [] := F.bindsN fun _ _ _ _ _ _ us hl => match us, hl with | [_, _, _, _], _ => rfl
  have G : FnOk P w K mg base CX0 20 (He.ma K (He.ga K "Loft") "answer") fd ["self", "call", "given", "row"] (sp_Loft_answer K) := by
    refine F.ok sc_Loft_answer (fun vs H Q E h => sl_Loft_answer h) (fun cdv A outer s H vs Q E hr h => ⟨t_Loft_answer K, PSs.nox ?_, pure_Loft_answer T vs H Q E h⟩)
    exact (pss_one (ps_try_as (i := 4) rfl rfl sc_Loft_answer.nd rfl rfl ⟨rfl, by decide, .inl T.g_Refused⟩ takes0 (fun W pn xe tk _ => (pss_cons (ps_if (pt_cmpR oLe (pv 1) pe_int (nomark _)) (pss_one (ps_ret (pe_methW (pv 0) D_set (hr.mono (by decide)) tk (by exact (pa_cons (pv 1) (pa_cons (pv 2) (pa_cons (pv 3) pa_nil))))))) pss_nil)
      (pss_one (ps_ret (pe_methW (pv 0) D_ask (hr.mono (by decide)) tk (by exact (pa_cons (pv 1) (pa_cons (pv 2) (pa_cons (pv 3) pa_nil))))))))) (fun a oe cls d pn hz hf => pss_one (ps_ret (pe_lst (pa_cons (pe_xf T.r.f T.n_Refused_code hz hf (pv 4)) pa_nil))))))
  exact MethE.mk ⟨fd, G, bd⟩ T.c_Loft T.e_Loft_answer
end Sk
/-! A15: the calls of the list (in part printed by mkA15.py). -/
namespace Sk
open PySem L2 Evl Sc
abbrev castL (l : List Nat) : List Int := l.map fun (n : Nat) => (n : Int)
theorem many_nat : ∀ (k : Nat) (l : List Int) (y : List Nat × List Int), Sy92Neutral.many_ Sy92Neutral.natIn k l = some y → l.take k = castL y.1 ∧ l.drop k = y.2 ∧ y.1.length = k
  | 0, l, y, h => by
    have := Option.some.inj h
    subst this
    exact ⟨rfl, rfl, rfl⟩
  | k + 1, [], y, h => by cases h
  | k + 1, n :: l, y, h => by
    unfold Sy92Neutral.many_ at h
    obtain ⟨x, h1, h2⟩ := Option.bind_eq_some_iff.mp h
    obtain ⟨z, h3, h4⟩ := Option.map_eq_some_iff.mp h2
    have h1 : (if 0 ≤ n ∧ n < 2 ^ 32 then some (n.toNat, l) else none) = some x := h1
    by_cases c : 0 ≤ n ∧ n < 2 ^ 32
    · rw [if_pos c] at h1
      have h1 := Option.some.inj h1
      subst h1 h4
      obtain ⟨m1, m2, m3⟩ := many_nat k l z h3
      refine ⟨?_, m2, by rw [List.length_cons, m3]⟩
      show n :: l.take k = ((n.toNat : Nat) : Int) :: castL z.1
      rw [m1, Int.toNat_of_nonneg c.1]
    · rw [if_neg c] at h1
      cases h1
theorem opt_map {α β : Type} {o : Option α} {f : α → β} (h : (o.map f).isSome = true) : ∃ x, o = some x := by
  cases o with
  | none => cases h
  | some x => exact ⟨x, rfl⟩
theorem opt_bind {α β γ δ : Type} {o : Option (α × β)} {f : β → Option γ} {g : α → γ → δ} (h : (o.bind fun x => (f x.2).map fun y => g x.1 y).isSome = true) : ∃ x y, o = some x ∧ f x.2 = some y := by
  cases o with
  | none => cases h
  | some x =>
    have h2 : ((f x.2).map fun y => g x.1 y).isSome = true := h
    obtain ⟨y, hy⟩ := opt_map h2
    exact ⟨x, y, rfl, hy⟩
theorem all_eq {α : Type} {o : Option (α × List Int)} {y : α} (h : Sy92Neutral.all_ o = some y) : o = some (y, []) := by
  unfold Sy92Neutral.all_ at h
  obtain ⟨x, h1, h2⟩ := Option.bind_eq_some_iff.mp h
  obtain ⟨a, b⟩ := x
  by_cases c : b.isEmpty = true
  · rw [if_pos c] at h2
    have h2 := Option.some.inj h2
    subst h2
    rw [h1, List.isEmpty_iff.mp c]
  · rw [if_neg c] at h2
    cases h2
theorem all_some {n : Nat} {l : List Int} {g : List Nat} (h : Sy92Neutral.all_ (Sy92Neutral.some_ n l) = some g) (hl : l.length = n) : l = castL g ∧ g.length = n := by
  obtain ⟨m1, m2, m3⟩ := many_nat n l _ (all_eq h)
  rw [List.take_of_length_le (by omega)] at m1
  exact ⟨m1, m3⟩
theorem all_row {l : List Int} {y : List Nat} (h : Sy92Neutral.all_ (Sy92Neutral.rowIn ((l.length : Int) :: l)) = some y) : l = castL y ∧ y.length ≤ 60 := by
  have h := all_eq h
  have h : (if 0 ≤ (l.length : Int) ∧ (l.length : Int) ≤ 60 then Sy92Neutral.many_ Sy92Neutral.natIn (l.length : Int).toNat l else none) = some (y, []) := h
  by_cases c : 0 ≤ (l.length : Int) ∧ (l.length : Int) ≤ 60
  · rw [if_pos c, Int.toNat_natCast] at h
    obtain ⟨m1, m2, m3⟩ := many_nat _ l _ h
    rw [List.take_length] at m1
    refine ⟨m1, ?_⟩
    show y.length ≤ 60
    have m3 : y.length = l.length := m3
    omega
  · rw [if_neg c] at h
    cases h
def hasRow (q : Nat) : Bool := (shapeL.getD q (0, false)).2
/-- a call as the list has it -/
def lay (q : Nat) (g r : List Nat) : List Int := ((q : Int) :: castL g) ++ (if hasRow q = true then ((r.length : Nat) : Int) :: castL r else [])
structure CallIs (c : List (List Int)) (q : Nat) (g r : List Nat) : Prop where
  head : c = ((q : Int) :: castL g) :: (if hasRow q = true then [castL r] else [])
  q14 : q ≤ 14
  gl : g.length = needs q
  rl : r.length ≤ 60
  off : hasRow q = false → r = []
  co : Sy92Neutral.callOf ((PySy92.whole c).headD []) = some (callN q g r)
theorem call_row {n : Nat} {p : Int} {r : List Int} {c : List (List Int)} {t : List Int} (hs : PySy92.shape p = some (n, 1)) (h : PyFlat.call PySy92.shape (p :: r) = some (c, t)) :
    ∃ (r0 : List Int) (n0 : Int) (s : List Int), (r0.length = n ∧ r = r0 ++ n0 :: s) ∧ 0 ≤ n0 ∧ n0.toNat ≤ s.length ∧ c = [p :: r0, s.take n0.toNat] ∧ t = s.drop n0.toNat := by
  unfold PyFlat.call at h
  dsimp only at h
  rw [hs] at h
  have h : (if r.length < n then none else match PyFlat.rows 1 (r.drop n) with
      | none => none
      | some (xs, t) => some ((p :: r.take n) :: xs, t)) = some (c, t) := h
  by_cases hn : r.length < n
  · rw [if_pos hn] at h
    cases h
  · rw [if_neg hn] at h
    cases hd : r.drop n with
    | nil =>
      rw [hd] at h
      cases h
    | cons n0 s =>
      have h : (match PyFlat.rows 1 (n0 :: s) with
        | none => none
        | some (xs, t) => some ((p :: r.take n) :: xs, t)) = some (c, t) := by
        rw [← hd]
        exact h
      have hw : PyFlat.row (n0 :: s) = if 0 ≤ n0 ∧ n0.toNat ≤ s.length then some (s.take n0.toNat, s.drop n0.toNat) else none := rfl
      by_cases c1 : 0 ≤ n0 ∧ n0.toNat ≤ s.length
      · rw [if_pos c1] at hw
        have hq : PyFlat.rows 1 (n0 :: s) = some ([s.take n0.toNat], s.drop n0.toNat) := by
          unfold PyFlat.rows
          rw [hw]
          rfl
        rw [hq] at h
        have h1 := Option.some.inj h
        refine ⟨r.take n, n0, s, ⟨by rw [List.length_take]; omega, ?_⟩, c1.1, c1.2, (congrArg Prod.fst h1).symm, (congrArg Prod.snd h1).symm⟩
        rw [← hd, List.take_append_drop]
      · rw [if_neg c1] at hw
        have hq : PyFlat.rows 1 (n0 :: s) = none := by
          unfold PyFlat.rows
          rw [hw]
        rw [hq] at h
        cases h
theorem lay_row {p : Nat} {n0 : Int} {s : List Int} {y g : List Nat} (h0 : 0 ≤ n0) (h1 : n0.toNat ≤ s.length) (h2 : s.take n0.toNat = castL y) (hp : hasRow p = true) : (p : Int) :: (castL g ++ n0 :: s) = lay p g y ++ s.drop n0.toNat := by
  unfold lay
  rw [if_pos hp]
  have hy : y.length = n0.toNat := by
    have := congrArg List.length h2
    rw [List.length_take, List.length_map] at this
    omega
  show (p : Int) :: (castL g ++ n0 :: s) = (p : Int) :: ((castL g ++ ((y.length : Nat) : Int) :: castL y) ++ s.drop n0.toNat)
  rw [hy, Int.toNat_of_nonneg h0, ← h2, List.append_assoc]
  show _ = (p : Int) :: (castL g ++ n0 :: (s.take n0.toNat ++ s.drop n0.toNat))
  rw [List.take_append_drop]
theorem call_0 {r c t : _} (h : PyFlat.call PySy92.shape ((0 : Int) :: r) = some (c, t)) (ha : Sy92Neutral.asked1 ((PySy92.whole c).headD []) = true) : ∃ g s, CallIs c 0 g s ∧ ((0 : Int) :: r) = lay 0 g s ++ t := by
  obtain ⟨r0, n0, s, hr, hn0, hns, hc, ht⟩ := call_row (n := 0) (p := 0) rfl h
  obtain rfl : r0 = [] := List.length_eq_zero_iff.mp hr.1
  obtain ⟨hr1, rfl⟩ := hr
  subst hc ht
  have ha : ((Sy92Neutral.all_ (Sy92Neutral.rowIn (((s.take n0.toNat).length : Int) :: s.take n0.toNat))).map fun (y : List Nat) => callN 0 [] y).isSome = true := ha
  obtain ⟨y, hy⟩ := opt_map ha
  obtain ⟨h2, h3⟩ := all_row hy
  refine ⟨[], y, ⟨by rw [h2]; rfl, by decide, rfl, h3, (fun z => by cases z), ?_⟩, ?_⟩
  · show (Sy92Neutral.all_ (Sy92Neutral.rowIn (((s.take n0.toNat).length : Int) :: s.take n0.toNat))).map (fun (y : List Nat) => callN 0 [] y) = _
    rw [hy]
    rfl
  · exact lay_row (p := 0) hn0 hns h2 (g := []) rfl
theorem call_1 {r c t : _} (h : PyFlat.call PySy92.shape ((1 : Int) :: r) = some (c, t)) (ha : Sy92Neutral.asked1 ((PySy92.whole c).headD []) = true) : ∃ g s, CallIs c 1 g s ∧ ((1 : Int) :: r) = lay 1 g s ++ t := by
  have h0 : (if r.length < 3 then none else some ([(1 : Int) :: r.take 3], r.drop 3)) = some (c, t) := h
  by_cases hn : r.length < 3
  · rw [if_pos hn] at h0
    cases h0
  rw [if_neg hn] at h0
  have h1 := Option.some.inj h0
  have hc : c = [(1 : Int) :: r.take 3] := (congrArg Prod.fst h1).symm
  have ht : t = r.drop 3 := (congrArg Prod.snd h1).symm
  obtain ⟨x0, x1, x2, r1, rfl⟩ : ∃ x0 x1 x2 r1, r = x0 :: x1 :: x2 :: r1 := by
    match r, hn with
    | x0 :: x1 :: x2 :: r1, _ => exact ⟨x0, x1, x2, r1, rfl⟩
    | [], hn => exact absurd (show _ < 3 by simp) hn
    | _ :: [], hn => exact absurd (show _ < 3 by simp) hn
    | _ :: _ :: [], hn => exact absurd (show _ < 3 by simp) hn
  have hc : c = [(1 : Int) :: [x0, x1, x2]] := hc
  have ht : t = r1 := ht
  subst hc ht
  have ha : ((Sy92Neutral.all_ (Sy92Neutral.some_ 3 [x0, x1, x2])).map fun (x : List Nat) => callN 1 x []).isSome = true := ha
  obtain ⟨g, hg⟩ := opt_map ha
  obtain ⟨h2, h3⟩ := all_some (n := 3) hg rfl
  refine ⟨g, [], ⟨by rw [← h2]; rfl, by decide, h3, by decide, fun _ => rfl, ?_⟩, ?_⟩
  · show (Sy92Neutral.all_ (Sy92Neutral.some_ 3 [x0, x1, x2])).map (fun (x : List Nat) => callN 1 x []) = _
    rw [hg]
    rfl
  · unfold lay
    rw [← h2]
    rfl
theorem call_2 {r c t : _} (h : PyFlat.call PySy92.shape ((2 : Int) :: r) = some (c, t)) (ha : Sy92Neutral.asked1 ((PySy92.whole c).headD []) = true) : ∃ g s, CallIs c 2 g s ∧ ((2 : Int) :: r) = lay 2 g s ++ t := by
  have h0 : (if r.length < 3 then none else some ([(2 : Int) :: r.take 3], r.drop 3)) = some (c, t) := h
  by_cases hn : r.length < 3
  · rw [if_pos hn] at h0
    cases h0
  rw [if_neg hn] at h0
  have h1 := Option.some.inj h0
  have hc : c = [(2 : Int) :: r.take 3] := (congrArg Prod.fst h1).symm
  have ht : t = r.drop 3 := (congrArg Prod.snd h1).symm
  obtain ⟨x0, x1, x2, r1, rfl⟩ : ∃ x0 x1 x2 r1, r = x0 :: x1 :: x2 :: r1 := by
    match r, hn with
    | x0 :: x1 :: x2 :: r1, _ => exact ⟨x0, x1, x2, r1, rfl⟩
    | [], hn => exact absurd (show _ < 3 by simp) hn
    | _ :: [], hn => exact absurd (show _ < 3 by simp) hn
    | _ :: _ :: [], hn => exact absurd (show _ < 3 by simp) hn
  have hc : c = [(2 : Int) :: [x0, x1, x2]] := hc
  have ht : t = r1 := ht
  subst hc ht
  have ha : ((Sy92Neutral.all_ (Sy92Neutral.some_ 3 [x0, x1, x2])).map fun (x : List Nat) => callN 2 x []).isSome = true := ha
  obtain ⟨g, hg⟩ := opt_map ha
  obtain ⟨h2, h3⟩ := all_some (n := 3) hg rfl
  refine ⟨g, [], ⟨by rw [← h2]; rfl, by decide, h3, by decide, fun _ => rfl, ?_⟩, ?_⟩
  · show (Sy92Neutral.all_ (Sy92Neutral.some_ 3 [x0, x1, x2])).map (fun (x : List Nat) => callN 2 x []) = _
    rw [hg]
    rfl
  · unfold lay
    rw [← h2]
    rfl
theorem call_3 {r c t : _} (h : PyFlat.call PySy92.shape ((3 : Int) :: r) = some (c, t)) (ha : Sy92Neutral.asked1 ((PySy92.whole c).headD []) = true) : ∃ g s, CallIs c 3 g s ∧ ((3 : Int) :: r) = lay 3 g s ++ t := by
  obtain ⟨r0, n0, s, hr, hn0, hns, hc, ht⟩ := call_row (n := 0) (p := 3) rfl h
  obtain rfl : r0 = [] := List.length_eq_zero_iff.mp hr.1
  obtain ⟨hr1, rfl⟩ := hr
  subst hc ht
  have ha : ((Sy92Neutral.all_ (Sy92Neutral.rowIn (((s.take n0.toNat).length : Int) :: s.take n0.toNat))).map fun (y : List Nat) => callN 3 [] y).isSome = true := ha
  obtain ⟨y, hy⟩ := opt_map ha
  obtain ⟨h2, h3⟩ := all_row hy
  refine ⟨[], y, ⟨by rw [h2]; rfl, by decide, rfl, h3, (fun z => by cases z), ?_⟩, ?_⟩
  · show (Sy92Neutral.all_ (Sy92Neutral.rowIn (((s.take n0.toNat).length : Int) :: s.take n0.toNat))).map (fun (y : List Nat) => callN 3 [] y) = _
    rw [hy]
    rfl
  · exact lay_row (p := 3) hn0 hns h2 (g := []) rfl
theorem call_4 {r c t : _} (h : PyFlat.call PySy92.shape ((4 : Int) :: r) = some (c, t)) (ha : Sy92Neutral.asked1 ((PySy92.whole c).headD []) = true) : ∃ g s, CallIs c 4 g s ∧ ((4 : Int) :: r) = lay 4 g s ++ t := by
  obtain ⟨r0, n0, s, hr, hn0, hns, hc, ht⟩ := call_row (n := 3) (p := 4) rfl h
  obtain ⟨x0, x1, x2, rfl⟩ : ∃ x0 x1 x2, r0 = [x0, x1, x2] := by
    obtain ⟨hr1, hr2⟩ := hr
    match r0, hr1 with
    | [x0, x1, x2], _ => exact ⟨x0, x1, x2, rfl⟩
  obtain ⟨hr1, rfl⟩ := hr
  subst hc ht
  have ha : ((Sy92Neutral.some_ 3 (x0 :: x1 :: x2 :: ((s.take n0.toNat).length : Int) :: s.take n0.toNat)).bind fun (x : List Nat × List Int) => (Sy92Neutral.all_ (Sy92Neutral.rowIn x.2)).map fun (y : List Nat) => callN 4 x.1 y).isSome = true := ha
  obtain ⟨x, y, hx, hy⟩ := opt_bind (f := fun l => Sy92Neutral.all_ (Sy92Neutral.rowIn l)) (g := fun a y => callN 4 a y) ha
  obtain ⟨m1, m2, m3⟩ := many_nat 3 _ _ hx
  have m1 : [x0, x1, x2] = castL x.1 := m1
  have m2 : ((s.take n0.toNat).length : Int) :: s.take n0.toNat = x.2 := m2
  rw [← m2] at hy
  obtain ⟨h2, h3⟩ := all_row hy
  refine ⟨x.1, y, ⟨by rw [h2, ← m1]; rfl, by decide, m3, h3, (fun z => by cases z), ?_⟩, ?_⟩
  · show (Sy92Neutral.some_ 3 (x0 :: x1 :: x2 :: ((s.take n0.toNat).length : Int) :: s.take n0.toNat)).bind (fun (x : List Nat × List Int) => (Sy92Neutral.all_ (Sy92Neutral.rowIn x.2)).map fun (y : List Nat) => callN 4 x.1 y) = _
    rw [hx]
    show (Sy92Neutral.all_ (Sy92Neutral.rowIn x.2)).map (fun (y : List Nat) => callN 4 x.1 y) = _
    rw [← m2, hy]
    rfl
  · have := lay_row (p := 4) hn0 hns h2 (g := x.1) rfl
    rw [← m1] at this
    exact this
theorem call_5 {r c t : _} (h : PyFlat.call PySy92.shape ((5 : Int) :: r) = some (c, t)) (ha : Sy92Neutral.asked1 ((PySy92.whole c).headD []) = true) : ∃ g s, CallIs c 5 g s ∧ ((5 : Int) :: r) = lay 5 g s ++ t := by
  have h0 : (if r.length < 1 then none else some ([(5 : Int) :: r.take 1], r.drop 1)) = some (c, t) := h
  by_cases hn : r.length < 1
  · rw [if_pos hn] at h0
    cases h0
  rw [if_neg hn] at h0
  have h1 := Option.some.inj h0
  have hc : c = [(5 : Int) :: r.take 1] := (congrArg Prod.fst h1).symm
  have ht : t = r.drop 1 := (congrArg Prod.snd h1).symm
  obtain ⟨x0, r1, rfl⟩ : ∃ x0 r1, r = x0 :: r1 := by
    match r, hn with
    | x0 :: r1, _ => exact ⟨x0, r1, rfl⟩
    | [], hn => exact absurd (show _ < 1 by simp) hn
  have hc : c = [(5 : Int) :: [x0]] := hc
  have ht : t = r1 := ht
  subst hc ht
  have ha : ((Sy92Neutral.all_ (Sy92Neutral.some_ 1 [x0])).map fun (x : List Nat) => callN 5 x []).isSome = true := ha
  obtain ⟨g, hg⟩ := opt_map ha
  obtain ⟨h2, h3⟩ := all_some (n := 1) hg rfl
  refine ⟨g, [], ⟨by rw [← h2]; rfl, by decide, h3, by decide, fun _ => rfl, ?_⟩, ?_⟩
  · show (Sy92Neutral.all_ (Sy92Neutral.some_ 1 [x0])).map (fun (x : List Nat) => callN 5 x []) = _
    rw [hg]
    rfl
  · unfold lay
    rw [← h2]
    rfl
theorem call_6 {r c t : _} (h : PyFlat.call PySy92.shape ((6 : Int) :: r) = some (c, t)) (ha : Sy92Neutral.asked1 ((PySy92.whole c).headD []) = true) : ∃ g s, CallIs c 6 g s ∧ ((6 : Int) :: r) = lay 6 g s ++ t := by
  have h0 : (if r.length < 1 then none else some ([(6 : Int) :: r.take 1], r.drop 1)) = some (c, t) := h
  by_cases hn : r.length < 1
  · rw [if_pos hn] at h0
    cases h0
  rw [if_neg hn] at h0
  have h1 := Option.some.inj h0
  have hc : c = [(6 : Int) :: r.take 1] := (congrArg Prod.fst h1).symm
  have ht : t = r.drop 1 := (congrArg Prod.snd h1).symm
  obtain ⟨x0, r1, rfl⟩ : ∃ x0 r1, r = x0 :: r1 := by
    match r, hn with
    | x0 :: r1, _ => exact ⟨x0, r1, rfl⟩
    | [], hn => exact absurd (show _ < 1 by simp) hn
  have hc : c = [(6 : Int) :: [x0]] := hc
  have ht : t = r1 := ht
  subst hc ht
  have ha : ((Sy92Neutral.all_ (Sy92Neutral.some_ 1 [x0])).map fun (x : List Nat) => callN 6 x []).isSome = true := ha
  obtain ⟨g, hg⟩ := opt_map ha
  obtain ⟨h2, h3⟩ := all_some (n := 1) hg rfl
  refine ⟨g, [], ⟨by rw [← h2]; rfl, by decide, h3, by decide, fun _ => rfl, ?_⟩, ?_⟩
  · show (Sy92Neutral.all_ (Sy92Neutral.some_ 1 [x0])).map (fun (x : List Nat) => callN 6 x []) = _
    rw [hg]
    rfl
  · unfold lay
    rw [← h2]
    rfl
theorem call_7 {r c t : _} (h : PyFlat.call PySy92.shape ((7 : Int) :: r) = some (c, t)) (ha : Sy92Neutral.asked1 ((PySy92.whole c).headD []) = true) : ∃ g s, CallIs c 7 g s ∧ ((7 : Int) :: r) = lay 7 g s ++ t := by
  have h0 : (if r.length < 1 then none else some ([(7 : Int) :: r.take 1], r.drop 1)) = some (c, t) := h
  by_cases hn : r.length < 1
  · rw [if_pos hn] at h0
    cases h0
  rw [if_neg hn] at h0
  have h1 := Option.some.inj h0
  have hc : c = [(7 : Int) :: r.take 1] := (congrArg Prod.fst h1).symm
  have ht : t = r.drop 1 := (congrArg Prod.snd h1).symm
  obtain ⟨x0, r1, rfl⟩ : ∃ x0 r1, r = x0 :: r1 := by
    match r, hn with
    | x0 :: r1, _ => exact ⟨x0, r1, rfl⟩
    | [], hn => exact absurd (show _ < 1 by simp) hn
  have hc : c = [(7 : Int) :: [x0]] := hc
  have ht : t = r1 := ht
  subst hc ht
  have ha : ((Sy92Neutral.all_ (Sy92Neutral.some_ 1 [x0])).map fun (x : List Nat) => callN 7 x []).isSome = true := ha
  obtain ⟨g, hg⟩ := opt_map ha
  obtain ⟨h2, h3⟩ := all_some (n := 1) hg rfl
  refine ⟨g, [], ⟨by rw [← h2]; rfl, by decide, h3, by decide, fun _ => rfl, ?_⟩, ?_⟩
  · show (Sy92Neutral.all_ (Sy92Neutral.some_ 1 [x0])).map (fun (x : List Nat) => callN 7 x []) = _
    rw [hg]
    rfl
  · unfold lay
    rw [← h2]
    rfl
theorem call_8 {r c t : _} (h : PyFlat.call PySy92.shape ((8 : Int) :: r) = some (c, t)) (ha : Sy92Neutral.asked1 ((PySy92.whole c).headD []) = true) : ∃ g s, CallIs c 8 g s ∧ ((8 : Int) :: r) = lay 8 g s ++ t := by
  have h0 : (if r.length < 0 then none else some ([(8 : Int) :: r.take 0], r.drop 0)) = some (c, t) := h
  by_cases hn : r.length < 0
  · rw [if_pos hn] at h0
    cases h0
  rw [if_neg hn] at h0
  have h1 := Option.some.inj h0
  have hc : c = [(8 : Int) :: r.take 0] := (congrArg Prod.fst h1).symm
  have ht : t = r.drop 0 := (congrArg Prod.snd h1).symm
  have hc : c = [(8 : Int) :: []] := hc
  have ht : t = r := ht
  subst hc ht
  have ha : ((Sy92Neutral.all_ (Sy92Neutral.some_ 0 [])).map fun (x : List Nat) => callN 8 x []).isSome = true := ha
  obtain ⟨g, hg⟩ := opt_map ha
  obtain ⟨h2, h3⟩ := all_some (n := 0) hg rfl
  refine ⟨g, [], ⟨by rw [← h2]; rfl, by decide, h3, by decide, fun _ => rfl, ?_⟩, ?_⟩
  · show (Sy92Neutral.all_ (Sy92Neutral.some_ 0 [])).map (fun (x : List Nat) => callN 8 x []) = _
    rw [hg]
    rfl
  · unfold lay
    rw [← h2]
    rfl
theorem call_9 {r c t : _} (h : PyFlat.call PySy92.shape ((9 : Int) :: r) = some (c, t)) (ha : Sy92Neutral.asked1 ((PySy92.whole c).headD []) = true) : ∃ g s, CallIs c 9 g s ∧ ((9 : Int) :: r) = lay 9 g s ++ t := by
  have h0 : (if r.length < 0 then none else some ([(9 : Int) :: r.take 0], r.drop 0)) = some (c, t) := h
  by_cases hn : r.length < 0
  · rw [if_pos hn] at h0
    cases h0
  rw [if_neg hn] at h0
  have h1 := Option.some.inj h0
  have hc : c = [(9 : Int) :: r.take 0] := (congrArg Prod.fst h1).symm
  have ht : t = r.drop 0 := (congrArg Prod.snd h1).symm
  have hc : c = [(9 : Int) :: []] := hc
  have ht : t = r := ht
  subst hc ht
  have ha : ((Sy92Neutral.all_ (Sy92Neutral.some_ 0 [])).map fun (x : List Nat) => callN 9 x []).isSome = true := ha
  obtain ⟨g, hg⟩ := opt_map ha
  obtain ⟨h2, h3⟩ := all_some (n := 0) hg rfl
  refine ⟨g, [], ⟨by rw [← h2]; rfl, by decide, h3, by decide, fun _ => rfl, ?_⟩, ?_⟩
  · show (Sy92Neutral.all_ (Sy92Neutral.some_ 0 [])).map (fun (x : List Nat) => callN 9 x []) = _
    rw [hg]
    rfl
  · unfold lay
    rw [← h2]
    rfl
theorem call_10 {r c t : _} (h : PyFlat.call PySy92.shape ((10 : Int) :: r) = some (c, t)) (ha : Sy92Neutral.asked1 ((PySy92.whole c).headD []) = true) : ∃ g s, CallIs c 10 g s ∧ ((10 : Int) :: r) = lay 10 g s ++ t := by
  have h0 : (if r.length < 0 then none else some ([(10 : Int) :: r.take 0], r.drop 0)) = some (c, t) := h
  by_cases hn : r.length < 0
  · rw [if_pos hn] at h0
    cases h0
  rw [if_neg hn] at h0
  have h1 := Option.some.inj h0
  have hc : c = [(10 : Int) :: r.take 0] := (congrArg Prod.fst h1).symm
  have ht : t = r.drop 0 := (congrArg Prod.snd h1).symm
  have hc : c = [(10 : Int) :: []] := hc
  have ht : t = r := ht
  subst hc ht
  have ha : ((Sy92Neutral.all_ (Sy92Neutral.some_ 0 [])).map fun (x : List Nat) => callN 10 x []).isSome = true := ha
  obtain ⟨g, hg⟩ := opt_map ha
  obtain ⟨h2, h3⟩ := all_some (n := 0) hg rfl
  refine ⟨g, [], ⟨by rw [← h2]; rfl, by decide, h3, by decide, fun _ => rfl, ?_⟩, ?_⟩
  · show (Sy92Neutral.all_ (Sy92Neutral.some_ 0 [])).map (fun (x : List Nat) => callN 10 x []) = _
    rw [hg]
    rfl
  · unfold lay
    rw [← h2]
    rfl
theorem call_11 {r c t : _} (h : PyFlat.call PySy92.shape ((11 : Int) :: r) = some (c, t)) (ha : Sy92Neutral.asked1 ((PySy92.whole c).headD []) = true) : ∃ g s, CallIs c 11 g s ∧ ((11 : Int) :: r) = lay 11 g s ++ t := by
  have h0 : (if r.length < 0 then none else some ([(11 : Int) :: r.take 0], r.drop 0)) = some (c, t) := h
  by_cases hn : r.length < 0
  · rw [if_pos hn] at h0
    cases h0
  rw [if_neg hn] at h0
  have h1 := Option.some.inj h0
  have hc : c = [(11 : Int) :: r.take 0] := (congrArg Prod.fst h1).symm
  have ht : t = r.drop 0 := (congrArg Prod.snd h1).symm
  have hc : c = [(11 : Int) :: []] := hc
  have ht : t = r := ht
  subst hc ht
  have ha : ((Sy92Neutral.all_ (Sy92Neutral.some_ 0 [])).map fun (x : List Nat) => callN 11 x []).isSome = true := ha
  obtain ⟨g, hg⟩ := opt_map ha
  obtain ⟨h2, h3⟩ := all_some (n := 0) hg rfl
  refine ⟨g, [], ⟨by rw [← h2]; rfl, by decide, h3, by decide, fun _ => rfl, ?_⟩, ?_⟩
  · show (Sy92Neutral.all_ (Sy92Neutral.some_ 0 [])).map (fun (x : List Nat) => callN 11 x []) = _
    rw [hg]
    rfl
  · unfold lay
    rw [← h2]
    rfl
theorem call_12 {r c t : _} (h : PyFlat.call PySy92.shape ((12 : Int) :: r) = some (c, t)) (ha : Sy92Neutral.asked1 ((PySy92.whole c).headD []) = true) : ∃ g s, CallIs c 12 g s ∧ ((12 : Int) :: r) = lay 12 g s ++ t := by
  have h0 : (if r.length < 2 then none else some ([(12 : Int) :: r.take 2], r.drop 2)) = some (c, t) := h
  by_cases hn : r.length < 2
  · rw [if_pos hn] at h0
    cases h0
  rw [if_neg hn] at h0
  have h1 := Option.some.inj h0
  have hc : c = [(12 : Int) :: r.take 2] := (congrArg Prod.fst h1).symm
  have ht : t = r.drop 2 := (congrArg Prod.snd h1).symm
  obtain ⟨x0, x1, r1, rfl⟩ : ∃ x0 x1 r1, r = x0 :: x1 :: r1 := by
    match r, hn with
    | x0 :: x1 :: r1, _ => exact ⟨x0, x1, r1, rfl⟩
    | [], hn => exact absurd (show _ < 2 by simp) hn
    | _ :: [], hn => exact absurd (show _ < 2 by simp) hn
  have hc : c = [(12 : Int) :: [x0, x1]] := hc
  have ht : t = r1 := ht
  subst hc ht
  have ha : ((Sy92Neutral.all_ (Sy92Neutral.some_ 2 [x0, x1])).map fun (x : List Nat) => callN 12 x []).isSome = true := ha
  obtain ⟨g, hg⟩ := opt_map ha
  obtain ⟨h2, h3⟩ := all_some (n := 2) hg rfl
  refine ⟨g, [], ⟨by rw [← h2]; rfl, by decide, h3, by decide, fun _ => rfl, ?_⟩, ?_⟩
  · show (Sy92Neutral.all_ (Sy92Neutral.some_ 2 [x0, x1])).map (fun (x : List Nat) => callN 12 x []) = _
    rw [hg]
    rfl
  · unfold lay
    rw [← h2]
    rfl
theorem call_13 {r c t : _} (h : PyFlat.call PySy92.shape ((13 : Int) :: r) = some (c, t)) (ha : Sy92Neutral.asked1 ((PySy92.whole c).headD []) = true) : ∃ g s, CallIs c 13 g s ∧ ((13 : Int) :: r) = lay 13 g s ++ t := by
  obtain ⟨r0, n0, s, hr, hn0, hns, hc, ht⟩ := call_row (n := 1) (p := 13) rfl h
  obtain ⟨x0, rfl⟩ : ∃ x0, r0 = [x0] := by
    obtain ⟨hr1, hr2⟩ := hr
    match r0, hr1 with
    | [x0], _ => exact ⟨x0, rfl⟩
  obtain ⟨hr1, rfl⟩ := hr
  subst hc ht
  have ha : ((Sy92Neutral.some_ 1 (x0 :: ((s.take n0.toNat).length : Int) :: s.take n0.toNat)).bind fun (x : List Nat × List Int) => (Sy92Neutral.all_ (Sy92Neutral.rowIn x.2)).map fun (y : List Nat) => callN 13 x.1 y).isSome = true := ha
  obtain ⟨x, y, hx, hy⟩ := opt_bind (f := fun l => Sy92Neutral.all_ (Sy92Neutral.rowIn l)) (g := fun a y => callN 13 a y) ha
  obtain ⟨m1, m2, m3⟩ := many_nat 1 _ _ hx
  have m1 : [x0] = castL x.1 := m1
  have m2 : ((s.take n0.toNat).length : Int) :: s.take n0.toNat = x.2 := m2
  rw [← m2] at hy
  obtain ⟨h2, h3⟩ := all_row hy
  refine ⟨x.1, y, ⟨by rw [h2, ← m1]; rfl, by decide, m3, h3, (fun z => by cases z), ?_⟩, ?_⟩
  · show (Sy92Neutral.some_ 1 (x0 :: ((s.take n0.toNat).length : Int) :: s.take n0.toNat)).bind (fun (x : List Nat × List Int) => (Sy92Neutral.all_ (Sy92Neutral.rowIn x.2)).map fun (y : List Nat) => callN 13 x.1 y) = _
    rw [hx]
    show (Sy92Neutral.all_ (Sy92Neutral.rowIn x.2)).map (fun (y : List Nat) => callN 13 x.1 y) = _
    rw [← m2, hy]
    rfl
  · have := lay_row (p := 13) hn0 hns h2 (g := x.1) rfl
    rw [← m1] at this
    exact this
theorem call_14 {r c t : _} (h : PyFlat.call PySy92.shape ((14 : Int) :: r) = some (c, t)) (ha : Sy92Neutral.asked1 ((PySy92.whole c).headD []) = true) : ∃ g s, CallIs c 14 g s ∧ ((14 : Int) :: r) = lay 14 g s ++ t := by
  have h0 : (if r.length < 0 then none else some ([(14 : Int) :: r.take 0], r.drop 0)) = some (c, t) := h
  by_cases hn : r.length < 0
  · rw [if_pos hn] at h0
    cases h0
  rw [if_neg hn] at h0
  have h1 := Option.some.inj h0
  have hc : c = [(14 : Int) :: r.take 0] := (congrArg Prod.fst h1).symm
  have ht : t = r.drop 0 := (congrArg Prod.snd h1).symm
  have hc : c = [(14 : Int) :: []] := hc
  have ht : t = r := ht
  subst hc ht
  have ha : ((Sy92Neutral.all_ (Sy92Neutral.some_ 0 [])).map fun (x : List Nat) => callN 14 x []).isSome = true := ha
  obtain ⟨g, hg⟩ := opt_map ha
  obtain ⟨h2, h3⟩ := all_some (n := 0) hg rfl
  refine ⟨g, [], ⟨by rw [← h2]; rfl, by decide, h3, by decide, fun _ => rfl, ?_⟩, ?_⟩
  · show (Sy92Neutral.all_ (Sy92Neutral.some_ 0 [])).map (fun (x : List Nat) => callN 14 x []) = _
    rw [hg]
    rfl
  · unfold lay
    rw [← h2]
    rfl
end Sk
namespace Sk
open PySem L2 Evl Sc
theorem shape_cases {p : Int} {n k : Nat} (h : PySy92.shape p = some (n, k)) : ∃ j : Nat, j < 15 ∧ p = (j : Int) := by
  unfold PySy92.shape at h
  by_cases h0 : p = 0
  · exact ⟨0, by decide, h0⟩
  rw [if_neg h0] at h
  by_cases h1 : p = 1
  · exact ⟨1, by decide, h1⟩
  rw [if_neg h1] at h
  by_cases h2 : p = 2
  · exact ⟨2, by decide, h2⟩
  rw [if_neg h2] at h
  by_cases h3 : p = 3
  · exact ⟨3, by decide, h3⟩
  rw [if_neg h3] at h
  by_cases h4 : p = 4
  · exact ⟨4, by decide, h4⟩
  rw [if_neg h4] at h
  by_cases h5 : p = 5
  · exact ⟨5, by decide, h5⟩
  rw [if_neg h5] at h
  by_cases h6 : p = 6
  · exact ⟨6, by decide, h6⟩
  rw [if_neg h6] at h
  by_cases h7 : p = 7
  · exact ⟨7, by decide, h7⟩
  rw [if_neg h7] at h
  by_cases h8 : p = 8
  · exact ⟨8, by decide, h8⟩
  rw [if_neg h8] at h
  by_cases h9 : p = 9
  · exact ⟨9, by decide, h9⟩
  rw [if_neg h9] at h
  by_cases h10 : p = 10
  · exact ⟨10, by decide, h10⟩
  rw [if_neg h10] at h
  by_cases h11 : p = 11
  · exact ⟨11, by decide, h11⟩
  rw [if_neg h11] at h
  by_cases h12 : p = 12
  · exact ⟨12, by decide, h12⟩
  rw [if_neg h12] at h
  by_cases h13 : p = 13
  · exact ⟨13, by decide, h13⟩
  rw [if_neg h13] at h
  by_cases h14 : p = 14
  · exact ⟨14, by decide, h14⟩
  rw [if_neg h14] at h
  cases h
theorem call_is {l : List Int} {c : List (List Int)} {t : List Int} (h : PyFlat.call PySy92.shape l = some (c, t)) (ha : Sy92Neutral.asked1 ((PySy92.whole c).headD []) = true) : ∃ q g r, CallIs c q g r ∧ l = lay q g r ++ t := by
  cases l with
  | nil => cases h
  | cons p r =>
    have hs : ∃ n k, PySy92.shape p = some (n, k) := by
      cases e : PySy92.shape p with
      | none =>
        unfold PyFlat.call at h
        dsimp only at h
        rw [e] at h
        cases h
      | some x => exact ⟨x.1, x.2, rfl⟩
    obtain ⟨n, k, hs⟩ := hs
    obtain ⟨j, hj, rfl⟩ := shape_cases hs
    match j, hj with
    | 0, _ => exact ⟨0, call_0 h ha⟩
    | 1, _ => exact ⟨1, call_1 h ha⟩
    | 2, _ => exact ⟨2, call_2 h ha⟩
    | 3, _ => exact ⟨3, call_3 h ha⟩
    | 4, _ => exact ⟨4, call_4 h ha⟩
    | 5, _ => exact ⟨5, call_5 h ha⟩
    | 6, _ => exact ⟨6, call_6 h ha⟩
    | 7, _ => exact ⟨7, call_7 h ha⟩
    | 8, _ => exact ⟨8, call_8 h ha⟩
    | 9, _ => exact ⟨9, call_9 h ha⟩
    | 10, _ => exact ⟨10, call_10 h ha⟩
    | 11, _ => exact ⟨11, call_11 h ha⟩
    | 12, _ => exact ⟨12, call_12 h ha⟩
    | 13, _ => exact ⟨13, call_13 h ha⟩
    | 14, _ => exact ⟨14, call_14 h ha⟩
def ansI (S : Sy92.St) (raw : List (List (List Int))) : List Int := PyFlat.told (PyFlat.played (fun s c => Sy92Neutral.step s (c.headD [])) S (raw.map PySy92.whole))
theorem ansI_cons {S : Sy92.St} {c : List (List Int)} {q : Nat} {g r : List Nat} (h : CallIs c q g r) (todo : List (List (List Int))) :
    ansI S (c :: todo) = ((Sy92Neutral.out (Sy92.step S (callN q g r)).2).length : Int) :: (Sy92Neutral.out (Sy92.step S (callN q g r)).2 ++ ansI (Sy92.step S (callN q g r)).1 todo) := by
  have e : Sy92Neutral.step S ((PySy92.whole c).headD []) = ((Sy92.step S (callN q g r)).1, Sy92Neutral.out (Sy92.step S (callN q g r)).2) := by
    unfold Sy92Neutral.step
    rw [h.co]
  have e2 : ansI S (c :: todo) = PyFlat.told ((Sy92Neutral.step S ((PySy92.whole c).headD [])).2 :: PyFlat.played (fun s c => Sy92Neutral.step s (c.headD [])) (Sy92Neutral.step S ((PySy92.whole c).headD [])).1 (todo.map PySy92.whole)) := rfl
  rw [e2, e]
  rfl
theorem calls_cons {f : Nat} {p : Int} {r : List Int} {todo : List (List (List Int))} (h : PyFlat.calls PySy92.shape f (p :: r) = some todo) : ∃ c t cs f2, PyFlat.call PySy92.shape (p :: r) = some (c, t) ∧ PyFlat.calls PySy92.shape f2 t = some cs ∧ todo = c :: cs := by
  cases f with
  | zero => cases h
  | succ f =>
    unfold PyFlat.calls at h
    cases e : PyFlat.call PySy92.shape (p :: r) with
    | none =>
      rw [e] at h
      cases h
    | some x =>
      obtain ⟨c, t⟩ := x
      rw [e] at h
      dsimp only at h
      cases e2 : PyFlat.calls PySy92.shape f t with
      | none =>
        rw [e2] at h
        cases h
      | some cs =>
        rw [e2] at h
        exact ⟨c, t, cs, f, rfl, e2, (Option.some.inj h).symm⟩
theorem calls_nil {f : Nat} {todo : List (List (List Int))} (h : PyFlat.calls PySy92.shape f [] = some todo) : todo = [] := by
  cases f <;> exact (Option.some.inj h).symm
theorem asked_raw {l : List Int} (h : PySy92.answers_asked l = true) : ∃ raw, PyFlat.calls PySy92.shape l.length l = some raw ∧ (∀ c ∈ raw, Sy92Neutral.asked1 ((PySy92.whole c).headD []) = true) ∧ PySy92.answers l = ansI Sy92.init raw ∧ (PySy92.answers l).length ≤ 10000000 := by
  unfold PySy92.answers_asked at h
  cases e : PyFlat.calls PySy92.shape l.length l with
  | none =>
    rw [e] at h
    cases h
  | some raw =>
    rw [e] at h
    simp only [Bool.and_eq_true] at h
    obtain ⟨⟨⟨⟨_, _⟩, _⟩, h4⟩, h5⟩ := h
    refine ⟨raw, rfl, fun c hc => ?_, ?_, of_decide_eq_true h5⟩
    · unfold Sy92Neutral.asked at h4
      have h6 := (Bool.and_eq_true_iff.mp h4).1
      rw [List.all_eq_true] at h6
      exact h6 _ (List.mem_map.mpr ⟨_, List.mem_map.mpr ⟨c, hc, rfl⟩, rfl⟩)
    · unfold PySy92.answers PySy92.calls
      rw [e]
      rfl
theorem cut_mid (pre mid post : List V) : cutV (pre ++ (mid ++ post)) (some (pre.length : Int)) (some ((pre.length + mid.length : Nat) : Int)) = mid := by
  unfold cutV
  rw [HT.sIx_nat, HT.sIx_nat, List.length_append, List.length_append, Nat.min_eq_left (by omega), Nat.min_eq_left (by omega), List.drop_append_of_le_length (Nat.le_refl _), List.drop_length, List.nil_append, Nat.add_sub_cancel_left, List.take_append_of_le_length (Nat.le_refl _), List.take_length]
theorem cast_V (l : List Nat) : (castL l).map V.int = l.map nV := by
  rw [List.map_map]
  rfl

/-! ### answers -/
theorem evd_loft {K : PySem.W.Frag} {σ : L2.St} {H : Hp} {E : XK} : EvD (tMake (He.ga K "Loft") (sp_Loft___init__ K) [] E tNil) σ H fun v H1 => ∃ l dx A, v = .ref l ∧ LftAt K H1 l dx A Sy92.init ∧ H l = none ∧ ∀ b ∈ A.all, H b = none := fun H1 e Q q => by
  intro x dx hx hdx hne
  refine ⟨x, dx, rfl, upd_same, fun A H2 L f hn => ⟨rfl, ?_⟩⟩
  have e0 : Ex H1 (upd (upd H1 dx (.own x)) x (.ins (He.ga K "Loft") dx [])) := (Ex.new hdx).mut hx
  refine q _ H2 (f.ex e0 fun b hb => by rw [List.mem_singleton.mp hb]; exact hx) ⟨x, dx, A, rfl, L, fresh_back e hx, fun b hb => ?_⟩
  exact fresh_back (e.trans e0) (hn b hb)
/-- x = o.m(..) that writes -/
theorem s_asgM {σ : L2.St} {H : Hp} {ta : TE} {t : TA} {D : Ends} {C : Addr} {m : Str} {sp : Sp} {dvs vs : List V} {E : XK} {a dx : Addr} {fs : List (Str × V)} {i : Nat} (h : Ev ta σ H (.ref a)) (ho : H a = some (.ins C dx fs)) (hl : fs.lookup m = none) (ha : EvA t σ H vs) (k : ∀ H1, Ex H H1 → sp (.ref a :: (vs ++ dvs)) H1 (fun v H2 => D.nx (σ.set i (some v)) H2) E) :
    tAsg (tMeth C m sp dvs E ta t) (gName i) D σ H :=
  h H (Ex.refl H) _ fun H2 e2 => ⟨a, dx, fs, rfl, e2 a _ ho, hl, ha H2 e2 _ fun H3 e3 => k H3 (e2.trans e3)⟩
theorem q_asgM {σ : L2.St} {H : Hp} {ta : TE} {t : TA} {D : Ends} {tz : TS} {C : Addr} {m : Str} {sp : Sp} {dvs vs : List V} {E : XK} {a dx : Addr} {fs : List (Str × V)} {i : Nat} (h : Ev ta σ H (.ref a)) (ho : H a = some (.ins C dx fs)) (hl : fs.lookup m = none) (ha : EvA t σ H vs) (k : ∀ H1, Ex H H1 → sp (.ref a :: (vs ++ dvs)) H1 (fun v H2 => tz D (σ.set i (some v)) H2) E) :
    tSeq (tAsg (tMeth C m sp dvs E ta t) (gName i)) tz D σ H := s_asgM (D := { D with nx := tz D }) h ho hl ha k
theorem s_cutE {σ : L2.St} {H : Hp} {tz : TS} {D : Ends} (M : Hp → Prop) (h : M H) (k : ∀ H1, M H1 → tz D σ H1) : tz D σ H := k H h
theorem q_extD2 {K : PySem.W.Frag} {σ : L2.St} {H : Hp} {ta te : TE} {P : V → Hp → Prop} {D : Ends} {tz : TS} {l : Addr} {xs : List V} (hl : H l = some (.lst xs)) (ha : Ev ta σ H (.ref l)) (h : EvD te σ H fun v H1 => ∃ b zs, v = .ref b ∧ H1 b = some (.lst zs) ∧ xs.length + zs.length ≤ 16000000 ∧ P v H1) (k : ∀ b zs H1, Ex H H1 → H1 b = some (.lst zs) → P (.ref b) H1 → tz D σ (upd H1 l (.lst (xs ++ zs)))) :
    tSeq (tDrop (tBM K "list" rExtend ta (tCons te tNil))) tz D σ H := s_extD (D := { D with nx := tz D }) hl ha h k
def sp_answers (K : PySem.W.Frag) : Sp := fun vs H Q _ => ∃ (a : Addr) (l : List Int), vs = [.ref a] ∧ SqL K H a (l.map V.int) ∧ PySy92.answers_asked l = true ∧ RetL ((PySy92.answers l).map V.int) H Q
theorem sl_answers {K : PySem.W.Frag} {vs : List V} {H : Hp} {Q : VK} {E : XK} (h : sp_answers K vs H Q E) : vs.length = 1 := by
  obtain ⟨_, _, rfl, _⟩ := h
  rfl
def t_answers (K : PySem.W.Frag) : TS :=
  (tSeq (tAsg (tMake (He.ga K "Loft") (sp_Loft___init__ K) [] E0 tNil) (gName 1))
  (tSeq (tAsg (tLst tNil) (gName 2))
  (tSeq (tAsg (tC (.int 0)) (gName 3))
  (tSeq (tWhile (tTest (tOp rLtI (tVar 3) (tCB (rLenS K) (tCons (tVar 0) tNil)))) (tSeq (tAsg (tOp (rIxL K) (tVar 0) (tVar 3)) (gName 4))
  (tSeq (tAsg (tOp (rIxT K) (tC (.ref (He.ga K "SHAPES"))) (tVar 4)) (gTup K 2 (gCons (gName 5) (gCons (gName 6) gNil))))
  (tSeq (tAsg (tOp rAddI (tOp rAddI (tVar 3) (tC (.int 1))) (tVar 5)) (gName 7))
  (tSeq (tAsg (tSl (rSlL K) (tVar 0) (tPart (tOp rAddI (tVar 3) (tC (.int 1)))) (tPart (tVar 7))) (gName 8))
  (tSeq (tAsg (tLst tNil) (gName 9))
  (tSeq (tIfS (tB (tVar 6)) (tSeq (tAsg (tSl (rSlL K) (tVar 0) (tPart (tOp rAddI (tVar 7) (tC (.int 1)))) (tPart (tOp rAddI (tOp rAddI (tVar 7) (tC (.int 1))) (tOp (rIxL K) (tVar 0) (tVar 7))))) (gName 9))
  (tAsg (tOp rAddI (tOp rAddI (tVar 7) (tC (.int 1))) (tOp (rIxL K) (tVar 0) (tVar 7))) (gName 7))) tNext)
  (tSeq (tAsg (tMeth (He.ga K "Loft") "answer" (sp_Loft_answer K) [] E0 (tVar 1) (tCons (tVar 4) (tCons (tVar 8) (tCons (tVar 9) tNil)))) (gName 10))
  (tSeq (tDrop (tBM K "list" rAppend (tVar 2) (tCons (tCB (rLenS K) (tCons (tVar 10) tNil)) tNil)))
  (tSeq (tDrop (tBM K "list" rExtend (tVar 2) (tCons (tVar 10) tNil)))
  (tAsg (tVar 7) (gName 3))))))))))))
  (tRet (tVar 2))))))
theorem pure_answers {K : PySem.W.Frag} {mg : Str → Option Value} (T : Tx K mg) (vs : List V) (H : Hp) (Q : VK) (E : XK) (h : sp_answers K vs H Q E) : t_answers K { nx := fun _ H' => Q .non H', rt := Q } (start N_answers vs) H := by
  obtain ⟨a, l, rfl, ha, hq, k⟩ := h
  obtain ⟨raw, hraw, hask, hans, hshort⟩ := asked_raw hq
  refine q_asgD (evd_loft (K := K)) fun v H1 e1 p1 => ?_
  obtain ⟨lo, dx, A0, rfl, L0, hlo, hA0⟩ := p1
  refine q_asgL (el_lst ea_nil (Nat.zero_le _)) fun lf H2 hlf e2 h2 => ?_
  refine q_asg ev_c fun H3 e3 => ?_
  have e12 := e1.trans e2
  have hlf0 := fresh_back e1 hlf
  refine q_while (fun m σ' H' => ∃ (pre rest : List Int) (f : Nat) (todo : List (List (List Int))) (S : Sy92.St) (A : Adr) (fl : List Int) (o4 o5 o6 o7 o8 o9 o10 : Option V), l = pre ++ rest ∧ m = rest.length ∧ σ' = [some (.ref a), some (.ref lo), some (.ref lf), some (nV pre.length), o4, o5, o6, o7, o8, o9, o10] ∧
    PyFlat.calls PySy92.shape f rest = some todo ∧ (∀ c ∈ todo, Sy92Neutral.asked1 ((PySy92.whole c).headD []) = true) ∧ LftAt K H' lo dx A S ∧ InvS S ∧ H' lf = some (.lst (fl.map V.int)) ∧ fl ++ ansI S todo = PySy92.answers l ∧ lf ≠ lo ∧ lf ∉ A.all ∧ Ex H H' ∧ ∀ b ∈ A.all, H b = none) l.length
    ⟨[], l, l.length, raw, Sy92.init, A0, [], none, none, none, none, none, none, none, rfl, rfl, rfl, hraw, hask, L0.x (e2.trans e3), init_inv, e3 lf _ h2, hans.symm, (fun z => by rw [z, L0.o] at hlf; cases hlf), L0.st.notin hlf, e12.trans e3, hA0⟩ ?_
  rintro m σ' H' ⟨pre, rest, f, todo, S, A, fl, o4, o5, o6, o7, o8, o9, o10, hl, rfl, rfl, hcalls, hask, L, I, h3, hacc, n1, n2, eB, hAf⟩
  have haB := ex_l eB ha
  refine ⟨decide (rest ≠ []), et_is (et_test (ev_op (ev_var rfl) (ev_cb (ea_cons (ev_var rfl) ea_nil) (rc_len (Or.inl haB))) rv_I0)) (decide_eq_decide.mpr ?_), fun hb H4 e4 => ?_, fun hb H4 e4 => ?_⟩
  · rw [List.length_map, hl, List.length_append]
    constructor
    · intro h z
      rw [z, List.length_nil] at h
      omega
    · intro h
      have : rest.length ≠ 0 := fun z => h (List.length_eq_zero_iff.mp z)
      omega
  · cases hre : rest with
    | nil =>
      rw [hre] at hb
      cases hb
    | cons p0 r0 =>
      rw [hre] at hcalls
      obtain ⟨c, t, cs, f2, hc, hcs, rfl⟩ := calls_cons hcalls
      obtain ⟨q, g, r, hci, hlay⟩ := call_is hc (hask c List.mem_cons_self)
      rw [hlay] at hre
      rw [ansI_cons hci] at hacc
      have hq14 := hci.q14
      have hgl := hci.gl
      -- the list of calls
      have hlV : l.map V.int = pre.map V.int ++ ((nV q :: g.map nV) ++ ((if hasRow q = true then nV r.length :: r.map nV else []) ++ t.map V.int)) := by
        rw [hl, hre, List.map_append, List.map_append]
        unfold lay
        rw [List.map_append, List.map_cons, cast_V, List.append_assoc]
        congr 3
        split
        · rw [List.map_cons, cast_V]
        · rfl
      have hpl : (pre.map V.int).length = pre.length := List.length_map ..
      have eB4 := eB.trans e4
      have L4 := L.x e4
      have haB4 := ex_l e4 haB
      have hat : atI (l.map V.int) ((pre.length : Nat) : Int) = some (nV q) := atI_nat (by
        rw [hlV, List.getElem?_append_right (by omega), hpl, Nat.sub_self]
        rfl)
      refine ⟨fun σ2 H2 => ∃ (A2 : Adr) (fl2 : List Int) (o4 o5 o6 o7 o8 o9 o10 : Option V), σ2 = [some (.ref a), some (.ref lo), some (.ref lf), some (nV (pre ++ lay q g r).length), o4, o5, o6, o7, o8, o9, o10] ∧ LftAt K H2 lo dx A2 (Sy92.step S (callN q g r)).1 ∧ H2 lf = some (.lst (fl2.map V.int)) ∧ fl2 ++ ansI (Sy92.step S (callN q g r)).1 cs = PySy92.answers l ∧ lf ∉ A2.all ∧ Ex H H2 ∧ ∀ b ∈ A2.all, H b = none, ?_, ?_⟩
      · rintro σ2 H2 ⟨A2, fl2, p4, p5, p6, p7, p8, p9, p10, hs, hL, hf, hacc2, hn2, hE, hA⟩
        refine ⟨t.length, ?_, pre ++ lay q g r, t, f2, cs, (Sy92.step S (callN q g r)).1, A2, fl2, p4, p5, p6, p7, p8, p9, p10, ?_, rfl, hs, hcs, fun c hc => hask c (List.mem_cons_of_mem _ hc), hL, step_inv I _, hf, hacc2, n1, hn2, hE, hA⟩
        · rw [hlay, List.length_append]
          unfold lay
          rw [List.length_append, List.length_cons]
          omega
        · rw [hl, hre, List.append_assoc]
      · have hsh := T.r.e H4 q (by omega)
        have hsq : atI ((List.range 15).map fun i => V.ref (shAt K i)) ((q : Nat) : Int) = some (.ref (shAt K q)) := atI_nat (by
          rw [List.getElem?_map, List.getElem?_range (by omega)]
          rfl)
        refine q_asg (v := nV q) (ev_op (ev_var rfl) (ev_var rfl) (rv_ixL haB4 hat)) fun H5 e5 => ?_
        refine q_unp2 (T := shAt K q) (x := nV (shapeL.getD q (0, false)).1) (y := .bl (shapeL.getD q (0, false)).2) (ev_op ev_c (ev_var rfl) (rv_ixT (T.r.s H5) hsq)) (T.r.e H5 q (by omega)) fun H6 e6 => ?_
        have haB6 := ex_l (e5.trans e6) haB4
        refine q_asg (v := nV (pre.length + 1 + needs q)) (ev_is (ev_op (ev_op (ev_var rfl) ev_c rv_I0) (ev_var rfl) rv_I0) (congrArg V.int (by show _ = (((pre.length + 1 + needs q : Nat)) : Int); unfold needs; omega))) fun H7 e7 => ?_
        have haB7 := ex_l e7 haB6
        have hcut1 : cutV (l.map V.int) (some ((pre.length + 1 : Nat) : Int)) (some ((pre.length + 1 + needs q : Nat) : Int)) = g.map nV := by
          have := cut_mid (pre.map V.int ++ [nV q]) (g.map nV) ((if hasRow q = true then nV r.length :: r.map nV else []) ++ t.map V.int)
          rw [List.length_append, List.length_singleton, hpl, List.length_map, hgl] at this
          have hx : l.map V.int = (pre.map V.int ++ [nV q]) ++ (g.map nV ++ ((if hasRow q = true then nV r.length :: r.map nV else []) ++ t.map V.int)) := by
            rw [hlV]
            simp only [List.append_assoc, List.cons_append, List.nil_append]
          rw [hx]
          exact this
        refine q_asgL (xs := g.map nV) (el_is (el_sl (ev_var rfl) (eo_some (i := ((pre.length + 1 : Nat) : Int)) (ev_is (ev_op (ev_var rfl) ev_c rv_I0) (congrArg V.int (by omega)))) (eo_some (ev_var rfl)) haB7) hcut1) fun pg H8 hpg e8 h8 => ?_
        refine q_asgL (el_lst ea_nil (Nat.zero_le _)) fun pr H9 hpr e9 h9 => ?_
        have e49 := e5.trans (e6.trans (e7.trans (e8.trans e9)))
        have fin : ∀ (pr2 : Addr) (H10 : Hp), Ex H9 H10 → H10 pr2 = some (.lst (r.map nV)) → ∀ (D : Ends), D.nx = (fun σ2 H2 => ∃ (A2 : Adr) (fl2 : List Int) (o4 o5 o6 o7 o8 o9 o10 : Option V), σ2 = [some (.ref a), some (.ref lo), some (.ref lf), some (nV (pre ++ lay q g r).length), o4, o5, o6, o7, o8, o9, o10] ∧ LftAt K H2 lo dx A2 (Sy92.step S (callN q g r)).1 ∧ H2 lf = some (.lst (fl2.map V.int)) ∧ fl2 ++ ansI (Sy92.step S (callN q g r)).1 cs = PySy92.answers l ∧ lf ∉ A2.all ∧ Ex H H2 ∧ ∀ b ∈ A2.all, H b = none) →
            (tSeq (tAsg (tMeth (He.ga K "Loft") "answer" (sp_Loft_answer K) [] E0 (tVar 1) (tCons (tVar 4) (tCons (tVar 8) (tCons (tVar 9) tNil)))) (gName 10))
            (tSeq (tDrop (tBM K "list" rAppend (tVar 2) (tCons (tCB (rLenS K) (tCons (tVar 10) tNil)) tNil)))
            (tSeq (tDrop (tBM K "list" rExtend (tVar 2) (tCons (tVar 10) tNil)))
            (tAsg (tVar 7) (gName 3))))) D [some (.ref a), some (.ref lo), some (.ref lf), some (nV pre.length), some (nV q), some (nV (shapeL.getD q (0, false)).1), some (.bl (shapeL.getD q (0, false)).2), some (nV (pre ++ lay q g r).length), some (.ref pg), some (.ref pr2), o10] H10 := by
          intro pr2 H10 e10 hpr2 D hD
          have e410 := e49.trans e10
          have L10 := L4.x e410
          refine q_asgM (ev_var rfl) L10.o rfl (ea_cons (ev_var rfl) (ea_cons (ev_var rfl) (ea_cons (ev_var rfl) ea_nil))) fun H11 e11 => ⟨lo, dx, A, S, q, .ref pg, .ref pr2, g, r, rfl, L10.x e11, I, hq14, ⟨pg, rfl, sq_of ((e9.trans (e10.trans e11)) pg _ h8)⟩, by rw [hgl]; exact Nat.le_refl _, ⟨pr2, rfl, sq_of (e11 pr2 _ hpr2)⟩, by have := hci.rl; omega, fun A2 p H12 L12 f12 hn12 hp12 hp => ?_⟩
          have hlf11 : H11 lf = some (.lst (fl.map V.int)) := (e4.trans (e410.trans e11)) lf _ h3
          have nlf : lf ∉ lo :: A.all := fun z => by
            rcases List.mem_cons.mp z with z | z
            · exact n1 z
            · exact n2 z
          have hlf12 := f12 lf _ hlf11 nlf
          have npl : p ≠ lf := fun z => by
            rcases hp12 with h | h
            · rw [z, hlf11] at h
              cases h
            · exact nlf (z ▸ h)
          have hall : ∀ b ∈ lo :: A.all, H b = none := fun b hb => by
            rcases List.mem_cons.mp hb with rfl | hb
            · exact hlo
            · exact hAf b hb
          have eB11 := eB4.trans (e410.trans e11)
          have eB12 : Ex H H12 := f12.ex eB11 hall
          have hA2 : ∀ b ∈ A2.all, H b = none := fun b hb => by
            rcases hn12 b hb with h | h
            · exact hAf b h
            · exact fresh_back eB11 h
          have nA2 : lf ∉ A2.all := fun z => by
            rcases hn12 lf z with h | h
            · exact n2 h
            · rw [hlf11] at h
              cases h
          have hol : (Sy92Neutral.out (Sy92.step S (callN q g r)).2).length + fl.length ≤ 10000000 := by
            have := congrArg List.length hacc
            rw [List.length_append, List.length_cons, List.length_append] at this
            omega
          have hpo : (outV (Sy92.step S (callN q g r)).2).length = (Sy92Neutral.out (Sy92.step S (callN q g r)).2).length := List.length_map ..
          refine q_appD (P := fun v _ => v = nV (Sy92Neutral.out (Sy92.step S (callN q g r)).2).length) hlf12 (ev_var rfl) (evd_of (ev_is (ev_cb (ea_cons (ev_var rfl) ea_nil) (rc_len (Or.inl (sq_of hp)))) (congrArg (fun n : Nat => nV n) hpo)) fun _ _ => rfl) (by rw [List.length_map]; omega) fun v H13 e13 p13 => ?_
          subst p13
          have hlf13 := e13 lf _ hlf12
          have hp13 := e13 p _ hp
          have L13 := L12.x e13
          have hlf14 : upd H13 lf (.lst (fl.map V.int ++ [nV (Sy92Neutral.out (Sy92.step S (callN q g r)).2).length])) lf = some (.lst (fl.map V.int ++ [nV (Sy92Neutral.out (Sy92.step S (callN q g r)).2).length])) := upd_same
          refine s_cutE (M := fun H14 => H14 lf = some (.lst (fl.map V.int ++ [nV (Sy92Neutral.out (Sy92.step S (callN q g r)).2).length])) ∧ H14 p = some (.lst (outV (Sy92.step S (callN q g r)).2)) ∧ LftAt K H14 lo dx A2 (Sy92.step S (callN q g r)).1 ∧ Ex H H14) ⟨hlf14, by rw [upd_ne npl]; exact hp13, ?_, ?_⟩ fun H14 hM => ?_
          · have fx : Fix H13 (upd H13 lf (.lst (fl.map V.int ++ [nV (Sy92Neutral.out (Sy92.step S (callN q g r)).2).length]))) := Fix.mutL hlf13
            exact ⟨by rw [upd_ne n1.symm]; exact L13.o, L13.st.mutL nA2 hlf13, L13.n⟩
          · exact (eB12.trans e13).mut hlf0
          obtain ⟨m1, m2, m3, m4⟩ := hM
          refine q_extD2 (P := fun v H15 => v = .ref p ∧ H15 p = some (.lst (outV (Sy92.step S (callN q g r)).2)) ∧ Ex H14 H15) m1 (ev_var rfl) (evd_of (ev_var rfl) fun H15 e15 => ⟨p, outV (Sy92.step S (callN q g r)).2, rfl, e15 p _ m2, ?_, rfl, e15 p _ m2, e15⟩) fun b zs H15 e15 hb p15 => ?_
          · rw [List.length_append, List.length_map, List.length_singleton, hpo]
            omega
          · obtain ⟨q1, q2, q3⟩ := p15
            cases q1
            rw [q2] at hb
            cases hb
            have hlf15 := e15 lf _ m1
            have L15 := m3.x e15
            refine s_asg (v := nV (pre ++ lay q g r).length) (ev_var rfl) fun H16 e16 => ?_
            rw [hD]
            refine ⟨A2, fl ++ ((Sy92Neutral.out (Sy92.step S (callN q g r)).2).length : Int) :: Sy92Neutral.out (Sy92.step S (callN q g r)).2, _, _, _, _, _, _, _, rfl, ?_, ?_, ?_, nA2, ((m4.trans e15).mut hlf0).trans e16, hA2⟩
            · have L17 : LftAt K (upd H15 lf (.lst (fl.map V.int ++ [nV (Sy92Neutral.out (Sy92.step S (callN q g r)).2).length] ++ outV (Sy92.step S (callN q g r)).2))) lo dx A2 (Sy92.step S (callN q g r)).1 := ⟨by rw [upd_ne n1.symm]; exact L15.o, L15.st.mutL nA2 hlf15, L15.n⟩
              exact L17.x e16
            · rw [e16 lf _ upd_same, List.map_append, List.map_cons, List.append_assoc]
              rfl
            · rw [List.append_assoc]
              exact hacc
        by_cases hr : hasRow q = true
        · have hr' : (shapeL.getD q (0, false)).2 = true := hr
          rw [if_pos hr] at hlV
          have haB9 := ex_l (e8.trans e9) haB7
          have hat2 : atI (l.map V.int) ((pre.length + 1 + needs q : Nat) : Int) = some (nV r.length) := atI_nat (by
            rw [hlV, List.getElem?_append_right (by omega), hpl, List.getElem?_append_right (by rw [List.length_cons, List.length_map]; omega), List.length_cons, List.length_map, hgl, show pre.length + 1 + needs q - pre.length - (needs q + 1) = 0 by omega]
            rfl)
          have hcut2 : cutV (l.map V.int) (some ((pre.length + 1 + needs q + 1 : Nat) : Int)) (some ((pre.length + 1 + needs q + 1 + r.length : Nat) : Int)) = r.map nV := by
            have := cut_mid (pre.map V.int ++ (nV q :: g.map nV) ++ [nV r.length]) (r.map nV) (t.map V.int)
            rw [List.length_append, List.length_append, List.length_singleton, hpl, List.length_cons, List.length_map, List.length_map, hgl, show pre.length + (needs q + 1) + 1 = pre.length + 1 + needs q + 1 by omega] at this
            have hx : l.map V.int = (pre.map V.int ++ (nV q :: g.map nV) ++ [nV r.length]) ++ (r.map nV ++ t.map V.int) := by
              rw [hlV]
              simp only [List.append_assoc, List.cons_append, List.nil_append]
            rw [hx]
            exact this
          have hlen : (pre ++ lay q g r).length = pre.length + 1 + needs q + 1 + r.length := by
            unfold lay
            rw [if_pos hr, List.length_append, List.length_append, List.length_cons, List.length_cons, List.length_map, List.length_map, hgl]
            omega
          refine q_if (b := true) (et_is (et_B (b := (shapeL.getD q (0, false)).2) (ev_var rfl)) hr') (fun _ H10 e10 => ?_) fun z => by cases z
          have haB10 := ex_l e10 haB9
          have hev : ∀ {H11 : Hp} {o9 : Option V}, Ex H10 H11 → Ev (tOp rAddI (tOp rAddI (tVar 7) (tC (.int 1))) (tOp (rIxL K) (tVar 0) (tVar 7))) [some (.ref a), some (.ref lo), some (.ref lf), some (nV pre.length), some (nV q), some (nV (shapeL.getD q (0, false)).1), some (.bl (shapeL.getD q (0, false)).2), some (nV (pre.length + 1 + needs q)), some (.ref pg), o9, o10] H11 (nV (pre.length + 1 + needs q + 1 + r.length)) := fun ee => ev_is (ev_op (ev_op (ev_var rfl) ev_c rv_I0) (ev_op (ev_var rfl) (ev_var rfl) (rv_ixL (ex_l ee haB10) hat2)) rv_I0) (congrArg V.int (by omega))
          refine q_asgL (xs := r.map nV) (el_is (el_sl (ev_var rfl) (eo_some (i := ((pre.length + 1 + needs q + 1 : Nat) : Int)) (ev_is (ev_op (ev_var rfl) ev_c rv_I0) (congrArg V.int (by omega)))) (eo_some (hev (Ex.refl _))) haB10) hcut2) fun pr2 H11 hpr2 e11 h11 => ?_
          refine s_asg (hev e11) fun H12 e12 => ?_
          have := fin pr2 H12 (e10.trans (e11.trans e12)) (e12 pr2 _ h11)
          rw [hlen] at this
          exact this _ (by rw [hlen])
        · have hr : hasRow q = false := by simpa using hr
          have hr' : (shapeL.getD q (0, false)).2 = false := hr
          have hrn := hci.off hr
          have hlen : (pre ++ lay q g r).length = pre.length + 1 + needs q := by
            unfold lay
            rw [if_neg (by rw [hr]; decide), List.append_nil, List.length_append, List.length_cons, List.length_map, hgl]
            omega
          refine q_if (b := false) (et_is (et_B (b := (shapeL.getD q (0, false)).2) (ev_var rfl)) hr') (fun z => by cases z) fun _ H10 e10 => ?_
          have := fin pr H10 e10 (by rw [e10 pr _ h9, hrn]; rfl)
          rw [hlen] at this
          exact this _ (by rw [hlen])
  · have hb := of_decide_eq_false hb
    have hre : rest = [] := Classical.not_not.mp hb
    subst hre
    have := calls_nil hcalls
    subst this
    have hfin : fl = PySy92.answers l := by
      rw [← hacc]
      exact (List.append_nil _).symm
    subst hfin
    exact s_ret (ev_var rfl) fun H5 e5 => k lf H5 hlf0 (eB.trans (e4.trans e5)) ((e4.trans e5) lf _ h3)
theorem ok_answersF {P : Program} {w : World} {K : PySem.W.Frag} {mg : Str → Option Value} {base : Heap} {fd : FuncData} (T : Tx K mg) (F : FunD K "answers" "answers" (defArgs s_answers) (defBody s_answers) (defScope s_answers) [] [] (He.ga K "answers") fd) (D_Loft___init__ : MakeE P w K mg base CX0 3 "Loft" ["self"] (sp_Loft___init__ K)) (D_Loft_answer : MethE P w K mg base (CX0) 20 "Loft" "answer" ["self", "call", "given", "row"] (sp_Loft_answer K)) : FnOk P w K mg base CX0 21 (He.ga K "answers") fd ["calls"] (sp_answers K) := by
  refine F.ok sc_answers (fun vs H Q E h => sl_answers h) (fun cdv A outer s H vs Q E hr h => ⟨t_answers K, PSs.nox ?_, pure_answers T vs H Q E h⟩)
  exact (pss_cons (ps_set (i := 1) sc_answers.nd rfl (by first | exact Or.inl rfl | exact Or.inr rfl) (pe_makeE0 D_Loft___init__ (hr.mono (by decide)) rfl pass0))
  (pss_cons (ps_set (i := 2) sc_answers.nd rfl (by first | exact Or.inl rfl | exact Or.inr rfl) (pe_lst pa_nil))
  (pss_cons (ps_set (i := 3) sc_answers.nd rfl (by first | exact Or.inl rfl | exact Or.inr rfl) pe_int)
  (pss_cons (ps_while PassesOwn.never (pt_cmpR oLt (pv 3) (pe_callB cLen rfl T.f_len bLen (pa_cons (pv 0) pa_nil)) (nomark _)) (pss_cons (ps_set (i := 4) sc_answers.nd rfl (by first | exact Or.inl rfl | exact Or.inr rfl) (pe_ix ix_list (pv 0) (pv 3) (fun _ _ => rfl)))
  (pss_cons (ps_asg (pe_ix ix_tup (pe_glob rfl T.m_SHAPES rfl) (pv 4) (fun _ _ => rfl)) (pg_tup rfl (pgs_cons (pg_name (i := 5) sc_answers.nd rfl (by first | exact Or.inl rfl | exact Or.inr rfl)) (pgs_cons (pg_name (i := 6) sc_answers.nd rfl (by first | exact Or.inl rfl | exact Or.inr rfl)) pgs_nil))))
  (pss_cons (ps_set (i := 7) sc_answers.nd rfl (by first | exact Or.inl rfl | exact Or.inr rfl) (pe_op oAdd (pe_op oAdd (pv 3) pe_int) (pv 5)))
  (pss_cons (ps_set (i := 8) sc_answers.nd rfl (by first | exact Or.inl rfl | exact Or.inr rfl) (pe_slice sl_list (pv 0) (po_some (pe_op oAdd (pv 3) pe_int)) (po_some (pv 7))))
  (pss_cons (ps_set (i := 9) sc_answers.nd rfl (by first | exact Or.inl rfl | exact Or.inr rfl) (pe_lst pa_nil))
  (pss_cons (ps_if (pt_val (pv 6)) (pss_cons (ps_set (i := 9) sc_answers.nd rfl (by first | exact Or.inl rfl | exact Or.inr rfl) (pe_slice sl_list (pv 0) (po_some (pe_op oAdd (pv 7) pe_int)) (po_some (pe_op oAdd (pe_op oAdd (pv 7) pe_int) (pe_ix ix_list (pv 0) (pv 7) (fun _ _ => rfl))))))
  (pss_one (ps_set (i := 7) sc_answers.nd rfl (by first | exact Or.inl rfl | exact Or.inr rfl) (pe_op oAdd (pe_op oAdd (pv 7) pe_int) (pe_ix ix_list (pv 0) (pv 7) (fun _ _ => rfl)))))) pss_nil)
  (pss_cons (ps_set (i := 10) sc_answers.nd rfl (by first | exact Or.inl rfl | exact Or.inr rfl) (pe_methE (pv 1) D_Loft_answer (hr.mono (by decide)) pass0 (by exact (pa_cons (pv 4) (pa_cons (pv 8) (pa_cons (pv 9) pa_nil))))))
  (pss_cons (ps_expr (pe_bm PySem.F.plainAttrs_list PySem.F.slot_list_append PySem.F.type_list_append mt_append (pv 2) (pa_cons (pe_callB cLen rfl T.f_len bLen (pa_cons (pv 10) pa_nil)) pa_nil)))
  (pss_cons (ps_expr (pe_bm PySem.F.plainAttrs_list PySem.F.slot_list_extend PySem.F.type_list_extend mt_extend (pv 2) (pa_cons (pv 10) pa_nil)))
  (pss_one (ps_set (i := 3) sc_answers.nd rfl (by first | exact Or.inl rfl | exact Or.inr rfl) (pv 7)))))))))))))
  (pss_one (ps_ret (pv 2)))))))
end Sk
namespace Sk
open PySem L2 Evl Sc
theorem walk_answers {P : Program} {w : World} {K : PySem.W.Frag} {mg : Str → Option Value} {base : Heap} {fd : FuncData} (T : Tx K mg) (F : FunD K "answers" "answers" (defArgs s_answers) (defBody s_answers) (defScope s_answers) [] [] (He.ga K "answers") fd) : FnOk P w K mg base CX0 21 (He.ga K "answers") fd ["calls"] (sp_answers K) := by
  have D_Stage___init__ := ok_Stage___init__ (P := P) (w := w) (base := base) T 
  have D_Loft___init__ := ok_Loft___init__ (P := P) (w := w) (base := base) T D_Stage___init__
  have D_Cue___init__ := ok_Cue___init__ (P := P) (w := w) (base := base) T 
  have D_Stage_many_started := ok_Stage_many_started (P := P) (w := w) (base := base) T 
  have D_want := ok_want (P := P) (w := w) (base := base) T 
  have D_Loft_want_none_started := ok_Loft_want_none_started (P := P) (w := w) (base := base) T D_Stage_many_started D_want
  have D_Stage_add_cue := ok_Stage_add_cue (P := P) (w := w) (base := base) T 
  have D_moves_of := ok_moves_of (P := P) (w := w) (base := base) T 
  have D_Loft_put_cue := ok_Loft_put_cue (P := P) (w := w) (base := base) T D_Cue___init__ D_Loft_want_none_started D_Stage_add_cue D_moves_of D_want
  have D_are_unlike := ok_are_unlike (P := P) (w := w) (base := base) T 
  have D_are_moves := ok_are_moves (P := P) (w := w) (base := base) T D_are_unlike D_moves_of
  have D_Loft_add_cue := ok_Loft_add_cue (P := P) (w := w) (base := base) T D_Loft_put_cue D_are_moves D_want
  have D_Loft_want_cue := ok_Loft_want_cue (P := P) (w := w) (base := base) T D_want
  have D_Loft_add_follow := ok_Loft_add_follow (P := P) (w := w) (base := base) T D_Loft_put_cue D_Loft_want_cue D_are_moves D_want
  have D_Loft_want_bar := ok_Loft_want_bar (P := P) (w := w) (base := base) T D_want
  have D_is_pair_violated := ok_is_pair_violated (P := P) (w := w) (base := base) T 
  have D_Loft_add_pair := ok_Loft_add_pair (P := P) (w := w) (base := base) T D_Loft_want_bar D_Loft_want_none_started D_is_pair_violated D_want
  have D_Loft_begin := ok_Loft_begin (P := P) (w := w) (base := base) T D_Stage___init__ D_want
  have D_Stage_start := ok_Stage_start (P := P) (w := w) (base := base) T 
  have D_Stage_due_of := ok_Stage_due_of (P := P) (w := w) (base := base) T 
  have D_Stage_has_started := ok_Stage_has_started (P := P) (w := w) (base := base) T 
  have D_Stage_start_followers := ok_Stage_start_followers (P := P) (w := w) (base := base) T D_Stage_due_of D_Stage_has_started D_Stage_start
  have D_Stage_call := ok_Stage_call (P := P) (w := w) (base := base) T D_Stage_start D_Stage_start_followers
  have D_Loft_call := ok_Loft_call (P := P) (w := w) (base := base) T D_Loft_want_cue D_Stage_call D_Stage_has_started D_Stage_many_started D_want
  have D_Loft_set_rope := ok_Loft_set_rope (P := P) (w := w) (base := base) T D_Loft_want_bar D_Loft_want_none_started D_want
  have D_Stage_bars := ok_Stage_bars (P := P) (w := w) (base := base) T 
  have D_sign_of := ok_sign_of (P := P) (w := w) (base := base) T 
  have D_Stage_move_bars := ok_Stage_move_bars (P := P) (w := w) (base := base) T D_Stage_bars D_sign_of
  have D_Stage_has_reached := ok_Stage_has_reached (P := P) (w := w) (base := base) T D_Stage_bars
  have D_Stage_note_ends := ok_Stage_note_ends (P := P) (w := w) (base := base) T D_Stage_has_reached D_Stage_has_started
  have D_Stage_pass_second := ok_Stage_pass_second (P := P) (w := w) (base := base) T D_Stage_move_bars D_Stage_note_ends D_Stage_start_followers
  have D_Loft_wait := ok_Loft_wait (P := P) (w := w) (base := base) T D_Stage_pass_second D_want
  have D_Loft_told_of_setting := ok_Loft_told_of_setting (P := P) (w := w) (base := base) T D_Loft_add_cue D_Loft_add_follow D_Loft_add_pair D_Loft_begin D_Loft_call D_Loft_set_rope D_Loft_wait
  have D_Course___init__ := ok_Course___init__ (P := P) (w := w) (base := base) T 
  have D_Course_time := ok_Course_time (P := P) (w := w) (base := base) T 
  have D_Stage_is_to_come := ok_Stage_is_to_come (P := P) (w := w) (base := base) T D_Stage_has_started
  have D_Stage_many_moving := ok_Stage_many_moving (P := P) (w := w) (base := base) T D_Stage_bars
  have D_Stage_is_quiet := ok_Stage_is_quiet (P := P) (w := w) (base := base) T D_Stage_is_to_come D_Stage_many_moving
  have D_Stage_copy := ok_Stage_copy (P := P) (w := w) (base := base) T D_Stage___init__
  have D_called_in := ok_called_in (P := P) (w := w) (base := base) T D_Course___init__ D_Stage_call D_Stage_copy
  have D_first_violated := ok_first_violated (P := P) (w := w) (base := base) T D_is_pair_violated
  have D_crews_of := ok_crews_of (P := P) (w := w) (base := base) T 
  have D_are_few := ok_are_few (P := P) (w := w) (base := base) T D_crews_of
  have D_are_compatible := ok_are_compatible (P := P) (w := w) (base := base) T 
  have D_clashes_of := ok_clashes_of (P := P) (w := w) (base := base) T D_are_compatible
  have D_can_take := ok_can_take (P := P) (w := w) (base := base) T 
  have D_completed := ok_completed (P := P) (w := w) (base := base) T D_can_take
  have D_spots_of := ok_spots_of (P := P) (w := w) (base := base) T 
  have D_plan_within := ok_plan_within (P := P) (w := w) (base := base) T D_clashes_of D_completed D_crews_of D_spots_of
  have D_are_feasible := ok_are_feasible (P := P) (w := w) (base := base) T D_are_few D_plan_within
  have D_frame_of := ok_frame_of (P := P) (w := w) (base := base) T 
  have D_film_from := ok_film_from (P := P) (w := w) (base := base) T D_Stage_copy D_Stage_is_quiet D_Stage_pass_second D_frame_of
  have D_directions_of := ok_directions_of (P := P) (w := w) (base := base) T D_sign_of
  have D_runs_in := ok_runs_in (P := P) (w := w) (base := base) T 
  have D_movements_in := ok_movements_in (P := P) (w := w) (base := base) T D_directions_of D_runs_in
  have D_violation_in := ok_violation_in (P := P) (w := w) (base := base) T D_first_violated
  have D_is_safe_now := ok_is_safe_now (P := P) (w := w) (base := base) T D_are_feasible D_film_from D_movements_in D_violation_in
  have D_second_later := ok_second_later (P := P) (w := w) (base := base) T D_Course___init__ D_Stage_copy D_Stage_pass_second D_frame_of
  have D_first_safe := ok_first_safe (P := P) (w := w) (base := base) T D_Stage_has_started D_Stage_is_quiet D_called_in D_first_violated D_is_safe_now D_second_later
  have D_Loft_earliest := ok_Loft_earliest (P := P) (w := w) (base := base) T D_Course___init__ D_Course_time D_Loft_want_cue D_Stage_has_started D_first_safe D_want
  have D_listed := ok_listed (P := P) (w := w) (base := base) T 
  have D_Loft_first_violation := ok_Loft_first_violation (P := P) (w := w) (base := base) T D_film_from D_listed D_violation_in D_want
  have D_Loft_movements_now := ok_Loft_movements_now (P := P) (w := w) (base := base) T D_film_from D_movements_in
  have D_joined := ok_joined (P := P) (w := w) (base := base) T 
  have D_Loft_movements := ok_Loft_movements (P := P) (w := w) (base := base) T D_Loft_movements_now D_joined D_listed
  have D_Loft_few_movements := ok_Loft_few_movements (P := P) (w := w) (base := base) T D_Loft_movements_now D_are_few D_want
  have D_hands_in := ok_hands_in (P := P) (w := w) (base := base) T 
  have D_plan_of := ok_plan_of (P := P) (w := w) (base := base) T D_plan_within
  have D_Loft_plan := ok_Loft_plan (P := P) (w := w) (base := base) T D_Loft_few_movements D_hands_in D_listed D_plan_of
  have D_frame_at := ok_frame_at (P := P) (w := w) (base := base) T 
  have D_many_moving_in := ok_many_moving_in (P := P) (w := w) (base := base) T 
  have D_Loft_positions_at := ok_Loft_positions_at (P := P) (w := w) (base := base) T D_film_from D_frame_at D_listed D_many_moving_in
  have D_Course_whole_film := ok_Course_whole_film (P := P) (w := w) (base := base) T D_film_from
  have D_scheduled := ok_scheduled (P := P) (w := w) (base := base) T D_Course___init__ D_Course_time D_first_safe
  have D_Loft_schedule := ok_Loft_schedule (P := P) (w := w) (base := base) T D_Course_whole_film D_Stage_has_started D_are_unlike D_joined D_listed D_movements_in D_plan_of D_scheduled D_want
  have D_clashing_sets := ok_clashing_sets (P := P) (w := w) (base := base) T 
  have D_rank_of := ok_rank_of (P := P) (w := w) (base := base) T 
  have D_bottleneck_of := ok_bottleneck_of (P := P) (w := w) (base := base) T D_clashes_of D_clashing_sets D_crews_of D_rank_of
  have D_Loft_stagehands := ok_Loft_stagehands (P := P) (w := w) (base := base) T D_Loft_few_movements D_bottleneck_of D_hands_in D_listed D_plan_of
  have D_Loft_state := ok_Loft_state (P := P) (w := w) (base := base) T D_Stage_bars D_joined D_listed
  have D_Loft_told_of_asking := ok_Loft_told_of_asking (P := P) (w := w) (base := base) T D_Loft_earliest D_Loft_first_violation D_Loft_movements D_Loft_plan D_Loft_positions_at D_Loft_schedule D_Loft_stagehands D_Loft_state
  have D_Loft_answer := ok_Loft_answer (P := P) (w := w) (base := base) T D_Loft_told_of_setting D_Loft_told_of_asking
  exact ok_answersF (P := P) (w := w) (base := base) T F D_Loft___init__ D_Loft_answer
end Sk
/-! D1: the head, the walk, the row. -/
namespace Sk
open PySem PySem.W PySem.Calls PyProof.Rows
theorem leftTop : LeftO prg qv loNs (fun s => xlAt qv [] s && recOk [] s) hk.obs hk.val 6600 true :=
  HandSHeadRun.left_one (M := 6000) (by kernel_rfl) rfl (fun s => by kernel_rfl) rfl fun w os => by
    have z := runTop w os
    have eo : ob = fun s => hk.obs s.abs := funext ob_eq
    rw [eo] at z
    simp only [HandSHeadRun.endQ_eq, HandSHeadRun.seenQ_eq]
    exact z
theorem walkTop : WalkOS qv loNs (XL qv []) hk.says PySem.Challenge.rw_scenecues_s01_answers (HandSHeadRun.topDef prg 69) [] (fun f vs => PySem.call f vs) := by
  intro w s₀ s₁ mg mb G Y
  obtain ⟨K, KX, c⟩ := Y
  exact (L2.walk_specK (r := PySem.Challenge.rw_scenecues_s01_answers) (k := 21) (q := qv) (loose := loNs) (XP := XL qv []) (YP := fun _ h => K.In h) (d := HandSHeadRun.topDef prg 69) (K := fun _ => K) (CX := L2.CX0) (ps := ["calls"]) (sp := sp_answers) (by decide +kernel) rfl rfl ⟨rfl, by decide, by decide⟩ (fun _ _ Y => Y)
    (fun w mg fa h _ KX G hmg => by
      have T : Tx K mg := ⟨c.t.d, ⟨h, KX, G⟩, refB_ok c.more⟩
      obtain ⟨fd, F⟩ := T.d_answers
      have hmg : mg ("answers" : PySem.Str) = some (.ref fa) := by
        have e : (HandSHeadRun.topDef prg 69).name = ("answers" : PySem.Str) := by kernel_rfl
        rw [← e]
        exact hmg
      have e := hmg.symm.trans T.g_answers
      cases e
      exact ⟨fd, fun s us hl => L2.FunD.bindsA (ps := ["calls"]) F (fun _ _ _ _ _ _ us hl => match us, hl with | [_], _ => rfl) s us hl, fun base _ _ => walk_answers T F⟩)
    (fun K H xs a hO hwi hask hx => by
      cases hx with
      | cons h1 h2 =>
        cases h2
        cases h1 with
        | lst hs ha =>
          have e := L2.ints_dw a.1 _ ha
          subst e
          exact ⟨_, a.1, rfl, hs, hask, fun p H2 _ _ hp => .lst (L2.SqL.of hp) (L2.dw_ints _)⟩) (fun _ _ _ _ z => z)) w s₀ s₁ mg mb G KX
end Sk
open PySem PySem.W PySem.Calls PyProof.Rows
theorem PySem.Challenge.cw_scenecues_s01_answers_holds : PySem.Challenge.rw_scenecues_s01_answers.Holds := by
  w_on
  refine holds_os (r := PySem.Challenge.rw_scenecues_s01_answers) (q := Sk.qv) (loose := Sk.loNs) (XP := XL Sk.qv []) (YP := Sk.hk.says) (d := HandSHeadRun.topDef Sk.prg 69) (kwd := []) Sk.leftTop Sk.hk.of Sk.hk.keeps
    (fun s z => xl_of s (Bool.and_eq_true_iff.mp z).1) XL.keeps (by kernel_rfl) (by kernel_rfl) (by kernel_rfl) (fun s z => recFacts_of (Bool.and_eq_true_iff.mp z).2) os_shapes (by first | assumption | decide +kernel) (by decide +kernel) ⟨rfl, rfl, rfl, rfl, rfl, by decide +kernel⟩ ?hw Sk.walkTop
  case hw => exact ⟨[.list [.int 14]], by decide +kernel, by decide +kernel⟩
