import PyProof.Rows.All
import Wide.All
import OpenK.AllK
import Wide.FinOn
import HandS.ForMost
import HandS.DictComp
import HandS.ListItems
import HandS.DictTup
import HandS.Deep
import HandS.Zip
import HandS.TupAny
import HandS.TupLe
import HandS.IsInst
import HandS.Wide
import HandS.SetKeys
import HandS.Nested
import HandS.EndTab
import KE.SortData
import PyProof.ReprRoads
import KE.KDictCopyH
import KE.KDictKeyed
import KE.KDictWalk
import PyProof.DictMoreH
import HandS.Slots
import PySem.Challenge.RW_toldstarts_k34_whole_stuck_sets
import HandS.Lambda
import HandS.Head0
import HandS.Head1
import HandS.Head2
import HandS.Exc
import HandS.Defaults
import HandS.HeadHook1
import HandS.HeadHook2
import KE.KNestM
import HandS.HeadWalk
set_option Elab.async false
set_option linter.all false
set_option maxHeartbeats 4000000
/-! The plain law: formulas over the ends of jobs, outcomes, the pruned search, stuck sets. -/
namespace Ts
open PySem

/-- the words of atoms -/
inductive Wd where
  | begun | over | well | ill | late | left
  deriving DecidableEq
/-- the states of a job -/
inductive Sg where
  | waiting | begun | left | well | ill | late | gone
  deriving DecidableEq

def Wd.s : Wd → Str
  | .begun => "begun" | .over => "over" | .well => "well" | .ill => "ill" | .late => "late" | .left => "left"
def Sg.s : Sg → Str
  | .waiting => "waiting" | .begun => "begun" | .left => "left" | .well => "well" | .ill => "ill" | .late => "late" | .gone => "gone"
def allWd : List Wd := [.begun, .over, .well, .ill, .late, .left]
def allSg : List Sg := [.waiting, .begun, .left, .well, .ill, .late, .gone]
theorem mem_allWd (w : Wd) : w ∈ allWd := by cases w <;> decide
theorem mem_allSg (s : Sg) : s ∈ allSg := by cases s <;> decide
def endsAll : List Sg := [.left, .well, .ill, .late, .gone]
def endsMore : List Sg := [.well, .ill, .late, .gone]
/-- the ends of a state -/
def ends : Sg → List Sg
  | .waiting => endsAll
  | .begun => endsMore
  | s => [s]
/-- whether an atom with a word is true in a state -/
def truth : Wd → Sg → Bool
  | .begun, s => !(decide (s = .waiting) || decide (s = .left))
  | .over, s => !(decide (s = .waiting) || decide (s = .begun))
  | .well, s => decide (s = .well)
  | .ill, s => decide (s = .ill)
  | .late, s => decide (s = .late)
  | .left, s => decide (s = .left)
theorem truth_waiting (w : Wd) : truth w .waiting = false := by cases w <;> rfl
theorem ends_ne (s : Sg) : ends s ≠ [] := by cases s <;> decide

/-- an atom; a formula: an atom, or a flat and / or of atoms -/
abbrev At := Wd × Int
inductive Fm where
  | atom (a : At)
  | node (c : Bool) (l : List At)
def Fm.atoms : Fm → List At
  | .atom a => [a]
  | .node _ l => l
def Fm.jobs (f : Fm) : List Int := f.atoms.map (·.2)
/-- true if r tells which atoms are -/
def Fm.ev : Fm → (Wd → Int → Bool) → Bool
  | .atom a, r => r a.1 a.2
  | .node true l, r => l.all fun a => r a.1 a.2
  | .node false l, r => l.any fun a => r a.1 a.2
theorem Fm.ev_mono {f : Fm} {r q : Wd → Int → Bool} (h : ∀ a ∈ f.atoms, r a.1 a.2 = true → q a.1 a.2 = true) (e : f.ev r = true) : f.ev q = true := by
  cases f with
  | atom a => exact h a (by simp [Fm.atoms]) e
  | node c l =>
    cases c with
    | true =>
      have e : l.all (fun a => r a.1 a.2) = true := e
      rw [List.all_eq_true] at e
      show l.all (fun a => q a.1 a.2) = true
      rw [List.all_eq_true]
      exact fun a ha => h a ha (e a ha)
    | false =>
      have e : l.any (fun a => r a.1 a.2) = true := e
      rw [List.any_eq_true] at e
      obtain ⟨a, ha, e⟩ := e
      show l.any (fun a => q a.1 a.2) = true
      rw [List.any_eq_true]
      exact ⟨a, ha, h a ha e⟩
theorem Fm.ev_congr {f : Fm} {r q : Wd → Int → Bool} (h : ∀ a ∈ f.atoms, r a.1 a.2 = q a.1 a.2) : f.ev r = f.ev q := by
  rw [Bool.eq_iff_iff]
  exact ⟨Fm.ev_mono fun a ha e => by rw [← h a ha]; exact e, Fm.ev_mono fun a ha e => by rw [h a ha]; exact e⟩
theorem Fm.atom_job {f : Fm} {a : At} (h : a ∈ f.atoms) : a.2 ∈ f.jobs := List.mem_map.mpr ⟨a, h, rfl⟩

/-! ### outcomes -/
/-- all ways to choose, for each job of a list, one of the states that pos lets -/
def outs (pos : Int → List Sg) : List Int → List (Int → Sg)
  | [] => [fun _ => .waiting]
  | n :: r => (outs pos r).flatMap fun o => (pos n).map fun e => fun m => if m = n then e else o m
theorem outs_mem {pos : Int → List Sg} : ∀ {l : List Int} {o : Int → Sg}, o ∈ outs pos l → ∀ n ∈ l, o n ∈ pos n
  | n :: r, o, h, m, hm => by
    simp only [outs, List.mem_flatMap, List.mem_map] at h
    obtain ⟨o', h', e, he, rfl⟩ := h
    by_cases q : m = n
    · simp only [if_pos q]; rw [q]; exact he
    · simp only [if_neg q]
      exact outs_mem h' m ((List.mem_cons.mp hm).resolve_left q)
theorem outs_has {pos : Int → List Sg} : ∀ {l : List Int} {o : Int → Sg}, (∀ n ∈ l, o n ∈ pos n) → ∃ o' ∈ outs pos l, ∀ n ∈ l, o' n = o n
  | [], o, _ => ⟨fun _ => .waiting, by simp [outs], fun n hn => absurd hn (by simp)⟩
  | n :: r, o, h => by
    obtain ⟨o', h1, h2⟩ := outs_has (l := r) (o := o) fun m hm => h m (List.mem_cons_of_mem _ hm)
    refine ⟨fun m => if m = n then o n else o' m, ?_, fun m hm => ?_⟩
    · simp only [outs, List.mem_flatMap, List.mem_map]
      exact ⟨o', h1, o n, h n List.mem_cons_self, rfl⟩
    · by_cases q : m = n
      · simp [q]
      · simp only [if_neg q]
        exact h2 m ((List.mem_cons.mp hm).resolve_left q)
/-- the formula is true in some outcome -/
def canB (f : Fm) (pos : Int → List Sg) : Bool := (outs pos f.jobs).any fun o => f.ev fun w n => truth w (o n)
theorem canB_iff {f : Fm} {pos : Int → List Sg} : canB f pos = true ↔ ∃ o : Int → Sg, (∀ n ∈ f.jobs, o n ∈ pos n) ∧ f.ev (fun w n => truth w (o n)) = true := by
  unfold canB
  rw [List.any_eq_true]
  constructor
  · rintro ⟨o, h1, h2⟩
    exact ⟨o, outs_mem h1, h2⟩
  · rintro ⟨o, h1, h2⟩
    obtain ⟨o', h3, h4⟩ := outs_has h1
    refine ⟨o', h3, ?_⟩
    rw [← h2]
    exact Fm.ev_congr fun a ha => by rw [h4 a.2 (Fm.atom_job ha)]
theorem canB_mono {f : Fm} {pos pos' : Int → List Sg} (h : ∀ n ∈ f.jobs, ∀ e ∈ pos n, e = .waiting ∨ e ∈ pos' n) (ne : ∀ n ∈ f.jobs, pos' n ≠ []) (c : canB f pos = true) : canB f pos' = true := by
  rw [canB_iff] at c ⊢
  obtain ⟨o, h1, h2⟩ := c
  refine ⟨fun n => if o n ∈ pos' n then o n else (pos' n).headD .waiting, fun n hn => ?_, Fm.ev_mono (fun a ha e => ?_) h2⟩
  · show (if o n ∈ pos' n then o n else (pos' n).headD .waiting) ∈ pos' n
    by_cases q : o n ∈ pos' n
    · rw [if_pos q]; exact q
    · rw [if_neg q]
      cases e : pos' n with
      | nil => exact absurd e (ne n hn)
      | cons x r => simp
  · show truth a.1 (if o a.2 ∈ pos' a.2 then o a.2 else (pos' a.2).headD .waiting) = true
    have e : truth a.1 (o a.2) = true := e
    by_cases q : o a.2 ∈ pos' a.2
    · rw [if_pos q]; exact e
    · rcases h a.2 (Fm.atom_job ha) _ (h1 a.2 (Fm.atom_job ha)) with z | z
      · rw [z, truth_waiting] at e
        cases e
      · exact absurd z q
theorem canB_congr {f : Fm} {pos pos' : Int → List Sg} (h : ∀ n ∈ f.jobs, pos n = pos' n) : canB f pos = canB f pos' := by
  rw [Bool.eq_iff_iff, canB_iff, canB_iff]
  exact ⟨fun ⟨o, a, b⟩ => ⟨o, fun n hn => by rw [← h n hn]; exact a n hn, b⟩, fun ⟨o, a, b⟩ => ⟨o, fun n hn => by rw [h n hn]; exact a n hn, b⟩⟩

/-! ### the search: chosen ends, held jobs -/
/-- what a job may come to: what was chosen; a held one waits; else the ends of its state -/
def posOf (st : Int → Sg) (held : List Int) (ch : List (Int × Sg)) (n : Int) : List Sg := match ch.lookup n with
  | some e => [e]
  | none => if n ∈ held then [.waiting] else ends (st n)
theorem posOf_ne (st : Int → Sg) (held : List Int) (ch : List (Int × Sg)) (n : Int) : posOf st held ch n ≠ [] := by
  unfold posOf
  cases ch.lookup n with
  | some e => simp
  | none =>
    by_cases h : n ∈ held
    · simp [h]
    · simp only [if_neg h]; exact ends_ne _
/-- an atom could be true -/
def couldB (st : Int → Sg) (held : List Int) (ch : List (Int × Sg)) (w : Wd) (n : Int) : Bool := match ch.lookup n with
  | some e => truth w e
  | none => !(decide (n ∈ held)) && (ends (st n)).any fun e => truth w e
theorem couldB_eq (st : Int → Sg) (held : List Int) (ch : List (Int × Sg)) (w : Wd) (n : Int) : couldB st held ch w n = (posOf st held ch n).any fun e => truth w e := by
  unfold couldB posOf
  cases ch.lookup n with
  | some e => simp
  | none =>
    by_cases h : n ∈ held
    · simp [h, truth_waiting]
    · simp [h]
def hopeB (f : Fm) (st : Int → Sg) (held : List Int) (ch : List (Int × Sg)) : Bool := f.ev (couldB st held ch)
theorem hope_of_can {f : Fm} {st : Int → Sg} {held : List Int} {ch : List (Int × Sg)} (h : canB f (posOf st held ch) = true) : hopeB f st held ch = true := by
  rw [canB_iff] at h
  obtain ⟨o, h1, h2⟩ := h
  refine Fm.ev_mono (fun a ha e => ?_) h2
  rw [couldB_eq, List.any_eq_true]
  exact ⟨o a.2, h1 a.2 (Fm.atom_job ha), e⟩
/-- the jobs with an end still to be chosen -/
def openB (st : Int → Sg) (held : List Int) (ch : List (Int × Sg)) (n : Int) : Bool := !(decide (n ∈ held)) && (ch.lookup n).isNone && decide (1 < (ends (st n)).length)
theorem pos_single {st : Int → Sg} {held : List Int} {ch : List (Int × Sg)} {n : Int} (h : openB st held ch n = false) : ∃ e, posOf st held ch n = [e] := by
  unfold openB at h
  unfold posOf
  cases e : ch.lookup n with
  | some x => exact ⟨x, rfl⟩
  | none =>
    by_cases q : n ∈ held
    · exact ⟨.waiting, by simp [q]⟩
    · rw [e] at h
      simp only [q, decide_false, Bool.not_false, Option.isNone_none, Bool.and_self, Bool.true_and, decide_eq_false_iff_not] at h
      simp only [if_neg q]
      cases s : st n with
      | waiting => rw [s] at h; exact absurd (by decide) h
      | begun => rw [s] at h; exact absurd (by decide) h
      | left => exact ⟨_, rfl⟩
      | well => exact ⟨_, rfl⟩
      | ill => exact ⟨_, rfl⟩
      | late => exact ⟨_, rfl⟩
      | gone => exact ⟨_, rfl⟩
theorem can_of_hope {f : Fm} {st : Int → Sg} {held : List Int} {ch : List (Int × Sg)} (h : hopeB f st held ch = true) (no : ∀ n ∈ f.jobs, openB st held ch n = false) : canB f (posOf st held ch) = true := by
  rw [canB_iff]
  refine ⟨fun n => (posOf st held ch n).headD .waiting, fun n hn => ?_, Fm.ev_mono (fun a ha e => ?_) h⟩
  · obtain ⟨e, he⟩ := pos_single (no n hn)
    show (posOf st held ch n).headD .waiting ∈ posOf st held ch n
    rw [he]; simp
  · rw [couldB_eq] at e
    obtain ⟨x, hx⟩ := pos_single (no a.2 (Fm.atom_job ha))
    rw [hx] at e
    show truth a.1 ((posOf st held ch a.2).headD .waiting) = true
    rw [hx]
    simpa using e
/-- the rows of truths of an end -/
def rowOf (ws : List Wd) (e : Sg) : List Bool := ws.map fun w => truth w e
/-- another row has more that are true -/
def beatenB (r o : List Bool) : Bool := decide (r ≠ o) && (List.zip r o).all fun p => p.2 || !p.1
def wordsOf (f : Fm) (n : Int) : List Wd := (f.atoms.filter fun a => decide (a.2 = n)).map (·.1)
/-- found: rows with the first end of each -/
def putRow (ws : List Wd) (acc : List (List Bool × Sg)) (e : Sg) : List (List Bool × Sg) := if (acc.map (·.1)).contains (rowOf ws e) then acc else acc ++ [(rowOf ws e, e)]
def foundOf (ws : List Wd) (es : List Sg) : List (List Bool × Sg) := es.foldl (putRow ws) []
def bestOf (ws : List Wd) (es : List Sg) : List Sg := ((foundOf ws es).filter fun p => !((foundOf ws es).any fun q => beatenB p.1 q.1)).map (·.2)
/-- row by row: e' is at least e -/
def leE (ws : List Wd) (e e' : Sg) : Prop := ∀ w ∈ ws, truth w e = true → truth w e' = true
theorem leE.trans {ws : List Wd} {a b c : Sg} (h : leE ws a b) (h' : leE ws b c) : leE ws a c := fun w hw e => h' w hw (h w hw e)
theorem beaten_iff {ws : List Wd} {e e' : Sg} : beatenB (rowOf ws e) (rowOf ws e') = true ↔ rowOf ws e ≠ rowOf ws e' ∧ leE ws e e' := by
  unfold beatenB
  rw [Bool.and_eq_true, decide_eq_true_eq]
  have z : (List.zip (rowOf ws e) (rowOf ws e')).all (fun p => p.2 || !p.1) = true ↔ leE ws e e' := by
    unfold rowOf leE
    rw [List.zip_map', List.all_map, List.all_eq_true]
    constructor
    · intro h w hw q
      have := h w hw
      simpa [q] using this
    · intro h w hw
      show (truth w e' || !truth w e) = true
      cases q : truth w e with
      | false => simp
      | true => rw [h w hw q]; rfl
  rw [z]
def cntE (ws : List Wd) (e : Sg) : Nat := ws.countP fun w => truth w e
theorem cntE_le (ws : List Wd) (e : Sg) : cntE ws e ≤ ws.length := List.countP_le_length
theorem cnt_lt : ∀ {ws : List Wd} {e e' : Sg}, leE ws e e' → rowOf ws e ≠ rowOf ws e' → cntE ws e < cntE ws e'
  | [], _, _, _, h => absurd rfl h
  | w :: r, e, e', h, ne => by
    have hr : leE r e e' := fun x hx => h x (List.mem_cons_of_mem _ hx)
    have mono : cntE r e ≤ cntE r e' := List.countP_mono_left hr
    have h0 := h w List.mem_cons_self
    unfold cntE at mono ⊢
    rw [List.countP_cons, List.countP_cons]
    by_cases q : rowOf r e = rowOf r e'
    · have nw : truth w e ≠ truth w e' := fun z => ne (by show truth w e :: rowOf r e = truth w e' :: rowOf r e'; rw [z, q])
      cases a : truth w e with
      | true => rw [a, h0 a] at nw; exact absurd rfl nw
      | false =>
        cases b : truth w e' with
        | false => rw [a, b] at nw; exact absurd rfl nw
        | true => simp only [if_true, Bool.false_eq_true, if_false]; omega
    · have lt := cnt_lt hr q
      unfold cntE at lt
      cases a : truth w e with
      | true => rw [h0 a]; simp only [if_true]; omega
      | false =>
        cases truth w e' with
        | false => simp only [Bool.false_eq_true, if_false]; omega
        | true => simp only [if_true, Bool.false_eq_true, if_false]; omega
theorem putRow_in {ws : List Wd} {acc : List (List Bool × Sg)} {e : Sg} {p : List Bool × Sg} (h : p ∈ putRow ws acc e) : p ∈ acc ∨ p = (rowOf ws e, e) := by
  unfold putRow at h
  split at h
  · exact .inl h
  · simpa using h
theorem putRow_keep {ws : List Wd} {acc : List (List Bool × Sg)} {e : Sg} {p : List Bool × Sg} (h : p ∈ acc) : p ∈ putRow ws acc e := by
  unfold putRow
  split
  · exact h
  · exact List.mem_append_left _ h
theorem putRow_has {ws : List Wd} {acc : List (List Bool × Sg)} {e : Sg} : ∃ p ∈ putRow ws acc e, p.1 = rowOf ws e := by
  unfold putRow
  split
  · rename_i h
    rw [List.contains_iff_mem] at h
    obtain ⟨p, hp, e⟩ := List.mem_map.mp h
    exact ⟨p, hp, e⟩
  · exact ⟨(rowOf ws e, e), List.mem_append_right _ (by simp), rfl⟩
theorem fold_in {ws : List Wd} : ∀ {es : List Sg} {acc : List (List Bool × Sg)} {p : List Bool × Sg}, p ∈ es.foldl (putRow ws) acc → p ∈ acc ∨ (p.1 = rowOf ws p.2 ∧ p.2 ∈ es)
  | [], _, _, h => .inl h
  | e :: r, acc, p, h => by
    rcases fold_in (es := r) h with q | ⟨q1, q2⟩
    · rcases putRow_in q with q | q
      · exact .inl q
      · exact .inr (by rw [q]; exact ⟨rfl, List.mem_cons_self⟩)
    · exact .inr ⟨q1, List.mem_cons_of_mem _ q2⟩
theorem fold_keep {ws : List Wd} : ∀ {es : List Sg} {acc : List (List Bool × Sg)} {p : List Bool × Sg}, p ∈ acc → p ∈ es.foldl (putRow ws) acc
  | [], _, _, h => h
  | _ :: r, _, _, h => fold_keep (es := r) (putRow_keep h)
theorem fold_has {ws : List Wd} : ∀ {es : List Sg} {acc : List (List Bool × Sg)} {e : Sg}, e ∈ es → ∃ p ∈ es.foldl (putRow ws) acc, p.1 = rowOf ws e
  | x :: r, acc, e, h => by
    rcases List.mem_cons.mp h with rfl | h
    · obtain ⟨p, hp, q⟩ := putRow_has (ws := ws) (acc := acc) (e := e)
      exact ⟨p, fold_keep (es := r) hp, q⟩
    · exact fold_has (es := r) h
theorem found_in {ws : List Wd} {es : List Sg} {p : List Bool × Sg} (h : p ∈ foundOf ws es) : p.1 = rowOf ws p.2 ∧ p.2 ∈ es := by
  rcases fold_in h with q | q
  · exact absurd q (by simp)
  · exact q
theorem best_sub {ws : List Wd} {es : List Sg} {e : Sg} (h : e ∈ bestOf ws es) : e ∈ es := by
  obtain ⟨p, hp, rfl⟩ := List.mem_map.mp h
  exact (found_in (List.mem_filter.mp hp).1).2
theorem best_over {ws : List Wd} {es : List Sg} : ∀ (k : Nat) (p : List Bool × Sg), p ∈ foundOf ws es → ws.length - cntE ws p.2 ≤ k → ∃ e ∈ bestOf ws es, leE ws p.2 e
  | k, p, hp, hk => by
    cases q : (foundOf ws es).any fun q => beatenB p.1 q.1 with
    | false => exact ⟨p.2, List.mem_map.mpr ⟨p, List.mem_filter.mpr ⟨hp, by rw [q]; rfl⟩, rfl⟩, fun _ _ h => h⟩
    | true =>
      rw [List.any_eq_true] at q
      obtain ⟨p', hp', b⟩ := q
      rw [(found_in hp).1, (found_in hp').1, beaten_iff] at b
      have lt := cnt_lt b.2 b.1
      have le' := cntE_le ws p'.2
      cases k with
      | zero => omega
      | succ k =>
        obtain ⟨e, h1, h2⟩ := best_over k p' hp' (by omega)
        exact ⟨e, h1, b.2.trans h2⟩
theorem best_has {ws : List Wd} {es : List Sg} {e : Sg} (h : e ∈ es) : ∃ e' ∈ bestOf ws es, leE ws e e' := by
  obtain ⟨p, hp, q⟩ := fold_has (ws := ws) (acc := []) h
  obtain ⟨e', h1, h2⟩ := best_over (ws := ws) (es := es) _ p hp (Nat.le_refl _)
  refine ⟨e', h1, fun w hw t => h2 w hw ?_⟩
  have z := (found_in hp).1.symm.trans q
  have z2 : truth w p.2 = truth w e := by
    have := List.map_inj_left.mp z w hw
    exact this
  rw [z2]; exact t
theorem lookup_snoc {ch : List (Int × Sg)} {j n : Int} {e : Sg} : (ch ++ [(j, e)]).lookup n = (ch.lookup n).or (if n = j then some e else none) := by
  rw [List.lookup_append]
  by_cases q : n = j
  · simp [q]
  · have : (n == j) = false := by simpa using q
    simp [List.lookup, q, this]
theorem pos_snoc {st : Int → Sg} {held : List Int} {ch : List (Int × Sg)} {j : Int} {e : Sg} (h : ch.lookup j = none) (n : Int) : posOf st held (ch ++ [(j, e)]) n = if n = j then [e] else posOf st held ch n := by
  unfold posOf
  rw [lookup_snoc]
  by_cases q : n = j
  · subst q
    rw [h]; simp
  · simp only [if_neg q]
    cases ch.lookup n <;> rfl
/-- the search: one open job, its ends that are not beaten -/
theorem can_split {f : Fm} {st : Int → Sg} {held : List Int} {ch : List (Int × Sg)} {j : Int} (ho : openB st held ch j = true) :
    canB f (posOf st held ch) = (bestOf (wordsOf f j) (ends (st j))).any fun e => canB f (posOf st held (ch ++ [(j, e)])) := by
  unfold openB at ho
  simp only [Bool.and_eq_true, Bool.not_eq_true', decide_eq_false_iff_not, Option.isNone_iff_eq_none] at ho
  obtain ⟨⟨hh, hc⟩, _⟩ := ho
  have pj : posOf st held ch j = ends (st j) := by unfold posOf; rw [hc]; simp only [if_neg hh]
  rw [Bool.eq_iff_iff, List.any_eq_true]
  constructor
  · intro h
    rw [canB_iff] at h
    obtain ⟨o, h1, h2⟩ := h
    by_cases hj : j ∈ f.jobs
    · have q := h1 j hj
      rw [pj] at q
      obtain ⟨e, he, le⟩ := best_has (ws := wordsOf f j) q
      refine ⟨e, he, canB_iff.mpr ⟨fun n => if n = j then e else o n, fun n hn => ?_, Fm.ev_mono (fun a ha t => ?_) h2⟩⟩
      · rw [pos_snoc hc]
        by_cases z : n = j
        · simp [z]
        · simp only [if_neg z]; exact h1 n hn
      · show truth a.1 (if a.2 = j then e else o a.2) = true
        by_cases z : a.2 = j
        · rw [if_pos z]
          refine le a.1 (List.mem_map.mpr ⟨a, List.mem_filter.mpr ⟨ha, by simp [z]⟩, rfl⟩) ?_
          rw [← z]; exact t
        · rw [if_neg z]; exact t
    · obtain ⟨x, hx⟩ := List.exists_mem_of_ne_nil _ (ends_ne (st j))
      obtain ⟨e, he, _⟩ := best_has (ws := wordsOf f j) hx
      refine ⟨e, he, canB_iff.mpr ⟨o, fun n hn => ?_, h2⟩⟩
      rw [pos_snoc hc, if_neg (fun z => hj (by rw [← z]; exact hn))]
      exact h1 n hn
  · rintro ⟨e, he, h⟩
    rw [canB_iff] at h ⊢
    obtain ⟨o, h1, h2⟩ := h
    refine ⟨o, fun n hn => ?_, h2⟩
    have q := h1 n hn
    rw [pos_snoc hc] at q
    by_cases z : n = j
    · rw [if_pos z, List.mem_singleton] at q
      rw [z] at q ⊢
      rw [pj, q]
      exact best_sub he
    · rw [if_neg z] at q; exact q
end Ts

set_option Elab.async false
set_option linter.all false
set_option maxHeartbeats 4000000
/-! The plain law, further: the law's own outcomes, stuck sets, the sets of all jobs, steps. -/
namespace Ts
open PySem

/-! ### the law's outcomes: rows of pairs -/
def stL (kv : List (Int × Sg)) (n : Int) : Sg := (kv.lookup n).getD .waiting
def outStep (pos : Int → List Sg) (acc : List (List (Int × Sg))) (n : Int) : List (List (Int × Sg)) := (pos n).flatMap fun e => acc.map fun kv => kv ++ [(n, e)]
def outsL (pos : Int → List Sg) (ns : List Int) : List (List (Int × Sg)) := ns.foldl (outStep pos) [[]]
theorem outsL_fold {pos : Int → List Sg} : ∀ {ns : List Int} {acc : List (List (Int × Sg))} {kv : List (Int × Sg)}, kv ∈ ns.foldl (outStep pos) acc ↔ ∃ k0 ∈ acc, ∃ ps : List (Int × Sg), kv = k0 ++ ps ∧ ps.map (·.1) = ns ∧ ∀ p ∈ ps, p.2 ∈ pos p.1
  | [], acc, kv => by
    constructor
    · intro h; exact ⟨kv, h, [], by simp, rfl, fun p hp => absurd hp (by simp)⟩
    · rintro ⟨k0, h, ps, e, e2, _⟩
      have : ps = [] := by simpa using e2
      rw [e, this, List.append_nil]; exact h
  | n :: r, acc, kv => by
    rw [List.foldl_cons, outsL_fold (ns := r)]
    constructor
    · rintro ⟨k0, h, ps, rfl, e2, e3⟩
      simp only [outStep, List.mem_flatMap, List.mem_map] at h
      obtain ⟨e, he, k1, h1, rfl⟩ := h
      refine ⟨k1, h1, (n, e) :: ps, by simp, by simp [e2], fun p hp => ?_⟩
      rcases List.mem_cons.mp hp with rfl | hp
      · exact he
      · exact e3 p hp
    · rintro ⟨k1, h1, ps, rfl, e2, e3⟩
      cases ps with
      | nil => simp at e2
      | cons p ps =>
        obtain ⟨m, e⟩ := p
        simp only [List.map_cons, List.cons.injEq] at e2
        obtain ⟨rfl, e2⟩ := e2
        refine ⟨k1 ++ [(m, e)], ?_, ps, by simp, e2, fun p hp => e3 p (List.mem_cons_of_mem _ hp)⟩
        simp only [outStep, List.mem_flatMap, List.mem_map]
        exact ⟨e, e3 (m, e) List.mem_cons_self, k1, h1, rfl⟩
theorem outsL_mem {pos : Int → List Sg} {ns : List Int} {kv : List (Int × Sg)} : kv ∈ outsL pos ns ↔ kv.map (·.1) = ns ∧ ∀ p ∈ kv, p.2 ∈ pos p.1 := by
  unfold outsL
  rw [outsL_fold]
  constructor
  · rintro ⟨k0, h, ps, rfl, e2, e3⟩
    have : k0 = [] := by simpa using h
    subst this
    exact ⟨e2, e3⟩
  · rintro ⟨h1, h2⟩
    exact ⟨[], by simp, kv, by simp, h1, h2⟩
theorem lookup_in {kv : List (Int × Sg)} {n : Int} (h : n ∈ kv.map (·.1)) : ∃ e, kv.lookup n = some e ∧ (n, e) ∈ kv := by
  induction kv with
  | nil => simp at h
  | cons p r ih =>
    obtain ⟨m, e⟩ := p
    by_cases q : n = m
    · exact ⟨e, by simp [List.lookup, q], by simp [q]⟩
    · have q' : (n == m) = false := by simpa using q
      have h' : n ∈ r.map (·.1) := by
        rcases List.mem_map.mp h with ⟨p, hp, e⟩
        rcases List.mem_cons.mp hp with rfl | hp
        · exact absurd e.symm q
        · exact List.mem_map.mpr ⟨p, hp, e⟩
      obtain ⟨x, h1, h2⟩ := ih h'
      exact ⟨x, by simp [List.lookup, q', h1], List.mem_cons_of_mem _ h2⟩
theorem lookup_map {f : Int → Sg} {n : Int} : ∀ {ns : List Int}, n ∈ ns → (ns.map fun m => (m, f m)).lookup n = some (f n)
  | m :: r, h => by
    by_cases q : n = m
    · subst q; simp [List.lookup]
    · have q' : (n == m) = false := by simpa using q
      simp only [List.map_cons, List.lookup, q']
      exact lookup_map ((List.mem_cons.mp h).resolve_left q)
/-- a formula in the states of a row -/
def evL (f : Fm) (kv : List (Int × Sg)) : Bool := f.ev fun w n => truth w (stL kv n)
theorem comes_eq {f : Fm} {pos : Int → List Sg} {ns : List Int} (h : ∀ n, n ∈ ns ↔ n ∈ f.jobs) : (outsL pos ns).any (evL f) = canB f pos := by
  rw [Bool.eq_iff_iff, List.any_eq_true, canB_iff]
  constructor
  · rintro ⟨kv, h1, h2⟩
    rw [outsL_mem] at h1
    refine ⟨stL kv, fun n hn => ?_, h2⟩
    obtain ⟨e, e1, e2⟩ := lookup_in (kv := kv) (n := n) (by rw [h1.1]; exact (h n).mpr hn)
    unfold stL
    rw [e1]
    exact h1.2 (n, e) e2
  · rintro ⟨o, h1, h2⟩
    refine ⟨ns.map fun m => (m, o m), outsL_mem.mpr ⟨by rw [List.map_map]; exact (List.map_congr_left (fun _ _ => rfl)).trans (List.map_id _), fun p hp => ?_⟩, ?_⟩
    · obtain ⟨m, hm, rfl⟩ := List.mem_map.mp hp
      exact h1 m ((h m).mp hm)
    · rw [← h2]
      refine Fm.ev_congr fun a ha => ?_
      unfold stL
      rw [lookup_map ((h a.2).mpr (Fm.atom_job ha))]
      rfl
theorem outs_count {pos : Int → List Sg} : ∀ {ns : List Int} {acc : List (List (Int × Sg))}, (∀ n ∈ ns, (pos n).length ≤ 5) → (ns.foldl (outStep pos) acc).length ≤ 5 ^ ns.length * acc.length
  | [], acc, _ => by simp
  | n :: r, acc, h => by
    rw [List.foldl_cons]
    refine Nat.le_trans (outs_count fun m hm => h m (List.mem_cons_of_mem _ hm)) ?_
    have e : (outStep pos acc n).length = (pos n).length * acc.length := by
      unfold outStep
      rw [List.length_flatMap]
      have : ∀ l : List Sg, (l.map fun e => (acc.map fun kv => kv ++ [(n, e)]).length).sum = l.length * acc.length := by
        intro l
        induction l with
        | nil => simp
        | cons x l ih => rw [List.map_cons, List.sum_cons, ih, List.length_map, List.length_cons, Nat.succ_mul]; omega
      exact this _
    rw [e, List.length_cons, Nat.pow_succ, Nat.mul_assoc]
    exact Nat.mul_le_mul_left _ (Nat.mul_le_mul_right _ (h n List.mem_cons_self))
theorem ends_len (s : Sg) : (ends s).length ≤ 5 := by cases s <;> decide
theorem pos_len (st : Int → Sg) (held : List Int) (n : Int) : (posOf st held [] n).length ≤ 5 := by
  show (if n ∈ held then [Sg.waiting] else ends (st n)).length ≤ 5
  by_cases h : n ∈ held
  · rw [if_pos h]; decide
  · rw [if_neg h]; exact ends_len _

/-! ### wishes and stuck sets -/
abbrev Ws := List (Int × Option Fm)
def fw (ws : Ws) (n : Int) : Option Fm := (ws.lookup n).getD none
def lostB (ws : Ws) (st : Int → Sg) (S : List Int) (n : Int) : Bool := match fw ws n with
  | some f => !canB f (posOf st S [])
  | none => false
theorem lost_more {ws : Ws} {st : Int → Sg} {S T : List Int} (h : ∀ n ∈ S, n ∈ T) {n : Int} (l : lostB ws st S n = true) : lostB ws st T n = true := by
  unfold lostB at l ⊢
  cases e : fw ws n with
  | none => rw [e] at l; cases l
  | some f =>
    rw [e] at l
    have l : (!canB f (posOf st S [])) = true := l
    show (!canB f (posOf st T [])) = true
    rw [Bool.not_eq_true'] at l ⊢
    cases q : canB f (posOf st T []) with
    | false => rfl
    | true =>
      rw [← l]
      refine (canB_mono (fun m _ x hx => ?_) (fun m _ => posOf_ne _ _ _ _) q).symm
      have hx : x ∈ (if m ∈ T then [Sg.waiting] else ends (st m)) := hx
      by_cases mT : m ∈ T
      · rw [if_pos mT] at hx
        exact .inl (by simpa using hx)
      · rw [if_neg mT] at hx
        refine .inr ?_
        show x ∈ (if m ∈ S then [Sg.waiting] else ends (st m))
        rw [if_neg fun z => mT (h m z)]
        exact hx
def stillL (ws : Ws) (st : Int → Sg) (S : List Int) : List Int := S.filter (lostB ws st S)
def stuckB (ws : Ws) (st : Int → Sg) (S : List Int) : Bool := S.all (lostB ws st S)
theorem still_iff {ws : Ws} {st : Int → Sg} {S : List Int} : stillL ws st S = S ↔ stuckB ws st S = true := by
  unfold stillL stuckB
  rw [List.filter_eq_self, List.all_eq_true]
theorem still_sub (ws : Ws) (st : Int → Sg) (S : List Int) : (stillL ws st S).Sublist S := List.filter_sublist
theorem still_lt {ws : Ws} {st : Int → Sg} {S : List Int} (h : stillL ws st S ≠ S) : (stillL ws st S).length < S.length := by
  have le := (still_sub ws st S).length_le
  rcases Nat.lt_or_eq_of_le le with q | q
  · exact q
  · exact absurd ((still_sub ws st S).eq_of_length q) h
def fixF (ws : Ws) (st : Int → Sg) : Nat → List Int → List Int
  | 0, S => S
  | k + 1, S => if stillL ws st S = S then S else fixF ws st k (stillL ws st S)
def gfix (ws : Ws) (st : Int → Sg) (S : List Int) : List Int := fixF ws st S.length S
theorem fixF_end {ws : Ws} {st : Int → Sg} : ∀ {k : Nat} {S : List Int}, S.length ≤ k → stillL ws st (fixF ws st k S) = fixF ws st k S
  | 0, S, h => by
    have : S = [] := List.length_eq_zero_iff.mp (Nat.le_zero.mp h)
    subst this
    rfl
  | k + 1, S, h => by
    unfold fixF
    by_cases q : stillL ws st S = S
    · rw [if_pos q]; exact q
    · rw [if_neg q]
      exact fixF_end (by have := still_lt q; omega)
theorem fixF_id {ws : Ws} {st : Int → Sg} {k : Nat} {S : List Int} (h : stillL ws st S = S) : fixF ws st k S = S := by
  cases k with
  | zero => rfl
  | succ k => unfold fixF; rw [if_pos h]
theorem fixF_more {ws : Ws} {st : Int → Sg} : ∀ {k j : Nat} {S : List Int}, S.length ≤ k → S.length ≤ j → fixF ws st k S = fixF ws st j S
  | 0, j, S, h, _ => by
    have : S = [] := List.length_eq_zero_iff.mp (Nat.le_zero.mp h)
    subst this
    exact (fixF_id rfl).symm
  | k + 1, 0, S, _, h => by
    have : S = [] := List.length_eq_zero_iff.mp (Nat.le_zero.mp h)
    subst this
    exact fixF_id rfl
  | k + 1, j + 1, S, h, h' => by
    unfold fixF
    by_cases q : stillL ws st S = S
    · rw [if_pos q, if_pos q]
    · rw [if_neg q, if_neg q]
      have := still_lt q
      exact fixF_more (by omega) (by omega)
theorem gfix_end (ws : Ws) (st : Int → Sg) (S : List Int) : stillL ws st (gfix ws st S) = gfix ws st S := fixF_end (Nat.le_refl _)
theorem gfix_id {ws : Ws} {st : Int → Sg} {S : List Int} (h : stillL ws st S = S) : gfix ws st S = S := fixF_id h
theorem gfix_step (ws : Ws) (st : Int → Sg) (S : List Int) : gfix ws st (stillL ws st S) = gfix ws st S := by
  by_cases q : stillL ws st S = S
  · rw [q]
  · have lt := still_lt q
    unfold gfix
    cases e : S.length with
    | zero => omega
    | succ k =>
      have : fixF ws st (k + 1) S = fixF ws st k (stillL ws st S) := by
        show (if stillL ws st S = S then S else fixF ws st k (stillL ws st S)) = _
        rw [if_neg q]
      rw [this]
      exact fixF_more (Nat.le_refl _) (by omega)
theorem fixF_sub {ws : Ws} {st : Int → Sg} : ∀ {k : Nat} {S : List Int}, (fixF ws st k S).Sublist S
  | 0, S => List.Sublist.refl _
  | k + 1, S => by
    unfold fixF
    by_cases q : stillL ws st S = S
    · rw [if_pos q]; exact List.Sublist.refl _
    · rw [if_neg q]
      exact fixF_sub.trans (still_sub ws st S)
theorem gfix_sub (ws : Ws) (st : Int → Sg) (S : List Int) : (gfix ws st S).Sublist S := fixF_sub
theorem fixF_great {ws : Ws} {st : Int → Sg} {T : List Int} (hT : stuckB ws st T = true) : ∀ {k : Nat} {S : List Int}, (∀ n ∈ T, n ∈ S) → ∀ n ∈ T, n ∈ fixF ws st k S
  | 0, S, h => h
  | k + 1, S, h => by
    unfold fixF
    by_cases q : stillL ws st S = S
    · rw [if_pos q]; exact h
    · rw [if_neg q]
      refine fixF_great hT fun n hn => List.mem_filter.mpr ⟨h n hn, ?_⟩
      unfold stuckB at hT
      rw [List.all_eq_true] at hT
      exact lost_more h (hT n hn)
theorem gfix_great {ws : Ws} {st : Int → Sg} {T S : List Int} (hT : stuckB ws st T = true) (h : ∀ n ∈ T, n ∈ S) : ∀ n ∈ T, n ∈ gfix ws st S := fixF_great hT h
theorem gfix_stuck (ws : Ws) (st : Int → Sg) (S : List Int) : stuckB ws st (gfix ws st S) = true := still_iff.mp (gfix_end ws st S)
theorem stuck_wish {ws : Ws} {st : Int → Sg} {S : List Int} (h : stuckB ws st S = true) : ∀ n ∈ S, ∃ f, fw ws n = some f ∧ canB f (posOf st S []) = false := by
  unfold stuckB at h
  rw [List.all_eq_true] at h
  intro n hn
  have q := h n hn
  unfold lostB at q
  cases e : fw ws n with
  | none => rw [e] at q; cases q
  | some f =>
    rw [e] at q
    have q : (!canB f (posOf st S [])) = true := q
    exact ⟨f, rfl, by simpa using q⟩
/-- where the search begins: all with a formula -/
def someL (ws : Ws) : List Int := (ws.map (·.1)).filter fun n => (fw ws n).isSome
def toldL (ws : Ws) (st : Int → Sg) : List Int := gfix ws st (someL ws)
theorem told_sub (ws : Ws) (st : Int → Sg) : (toldL ws st).Sublist (ws.map (·.1)) := (gfix_sub _ _ _).trans List.filter_sublist

/-! ### all sets of some jobs -/
def setsStep (acc : List (List Int)) (n : Int) : List (List Int) := acc ++ acc.map (· ++ [n])
def setsOf (js : List Int) : List (List Int) := js.foldl setsStep [[]]
theorem sets_fold : ∀ {js : List Int} {acc : List (List Int)} {S : List Int}, S ∈ js.foldl setsStep acc ↔ ∃ s0 ∈ acc, ∃ t : List Int, t.Sublist js ∧ S = s0 ++ t
  | [], acc, S => by
    constructor
    · intro h; exact ⟨S, h, [], List.Sublist.slnil, by simp⟩
    · rintro ⟨s0, h, t, ht, rfl⟩
      have : t = [] := by simpa using ht
      rw [this, List.append_nil]; exact h
  | n :: r, acc, S => by
    rw [List.foldl_cons, sets_fold (js := r)]
    constructor
    · rintro ⟨s0, h, t, ht, rfl⟩
      rcases List.mem_append.mp h with h | h
      · exact ⟨s0, h, t, ht.cons _, rfl⟩
      · obtain ⟨s1, h1, rfl⟩ := List.mem_map.mp h
        exact ⟨s1, h1, n :: t, ht.cons_cons _, by simp⟩
    · rintro ⟨s0, h, t, ht, rfl⟩
      cases ht with
      | cons _ ht => exact ⟨s0, List.mem_append_left _ h, t, ht, rfl⟩
      | cons_cons _ ht => exact ⟨s0 ++ [n], List.mem_append_right _ (List.mem_map.mpr ⟨s0, h, rfl⟩), _, ht, by simp⟩
theorem sets_mem {js S : List Int} : S ∈ setsOf js ↔ S.Sublist js := by
  unfold setsOf
  rw [sets_fold]
  constructor
  · rintro ⟨s0, h, t, ht, rfl⟩
    have : s0 = [] := by simpa using h
    subst this
    exact ht
  · intro h
    exact ⟨[], by simp, S, h, by simp⟩
theorem fw_key {ws : Ws} {n : Int} {f : Fm} (h : fw ws n = some f) : n ∈ ws.map (·.1) := by
  unfold fw at h
  cases e : ws.lookup n with
  | none => rw [e] at h; cases h
  | some o =>
    clear h
    induction ws with
    | nil => simp at e
    | cons p r ih =>
      obtain ⟨m, x⟩ := p
      by_cases q : n = m
      · simp [q]
      · have q' : (n == m) = false := by simpa using q
        simp only [List.lookup, q'] at e
        exact List.mem_map.mpr (let ⟨p, hp, he⟩ := List.mem_map.mp (ih e); ⟨p, List.mem_cons_of_mem _ hp, he⟩)
theorem stuck_told {ws : Ws} {st : Int → Sg} {S : List Int} (h : stuckB ws st S = true) : ∀ n ∈ S, n ∈ toldL ws st := by
  refine gfix_great h fun n hn => List.mem_filter.mpr ?_
  obtain ⟨f, e, _⟩ := stuck_wish h n hn
  exact ⟨fw_key e, by rw [e]; rfl⟩

/-! ### steps -/
/-- whether the wish of a job lets it begin -/
def mayB (ws : Ws) (kv : List (Int × Sg)) (n : Int) : Bool := match fw ws n with
  | some f => evL f kv
  | none => true
/-- one state, one step -/
def stepsOf (ws : Ws) (S : List Int) (kv : List (Int × Sg)) (n : Int) : List (Int × Sg) :=
  (if stL kv n = .waiting ∧ n ∉ S then [(n, Sg.left)] else []) ++
  (if stL kv n = .waiting ∧ mayB ws kv n = true then [(n, Sg.begun)] else []) ++
  (if stL kv n = .begun then endsMore.map fun e => (n, e) else [])
def putS (kv : List (Int × Sg)) (n : Int) (e : Sg) : List (Int × Sg) := kv.map fun p => if p.1 = n then (n, e) else p
theorem putS_keys (kv : List (Int × Sg)) (n : Int) (e : Sg) : (putS kv n e).map (·.1) = kv.map (·.1) := by
  unfold putS
  rw [List.map_map]
  refine List.map_congr_left fun p _ => ?_
  show (if p.1 = n then (n, e) else p).1 = p.1
  by_cases q : p.1 = n
  · rw [if_pos q, q]
  · rw [if_neg q]
theorem putS_at {n m : Int} {e : Sg} : ∀ {kv : List (Int × Sg)}, m ∈ kv.map (·.1) → stL (putS kv n e) m = if m = n then e else stL kv m
  | (k, x) :: r, h => by
    unfold stL putS
    by_cases q : m = k
    · subst q
      by_cases z : m = n
      · simp [List.lookup, z]
      · simp [List.lookup, z]
    · have q' : (m == k) = false := by simpa using q
      have h' : m ∈ r.map (·.1) := by simpa [q] using h
      have ih := putS_at (n := n) (e := e) h'
      unfold stL putS at ih
      by_cases z : k = n
      · subst z
        simp only [List.map_cons, if_true, List.lookup, q']
        exact ih
      · simp only [List.map_cons, if_neg z, List.lookup, q']
        exact ih
/-- what is true of each state that is come to -/
structure Good (keys : List Int) (st0 : Int → Sg) (S : List Int) (kv : List (Int × Sg)) : Prop where
  keys : kv.map (·.1) = keys
  wait : ∀ n ∈ S, stL kv n = .waiting
  reach : ∀ n, ∀ e ∈ ends (stL kv n), e ∈ ends (st0 n)
def finS : Sg → Sg
  | .waiting => .left
  | .begun => .well
  | s => s
theorem fin_ends (s : Sg) : finS s ∈ ends s := by cases s <;> decide
theorem fin_truth (w : Wd) (s : Sg) (h : truth w s = true) : truth w (finS s) = true := by
  cases w <;> cases s <;> first | rfl | exact absurd h (by decide)
theorem never {ws : Ws} {keys : List Int} {st0 : Int → Sg} {S : List Int} {kv : List (Int × Sg)} {f : Fm} (g : Good keys st0 S kv) (h : canB f (posOf st0 S []) = false) : evL f kv = false := by
  cases e : evL f kv with
  | false => rfl
  | true =>
    rw [← h]
    refine (canB_iff.mpr ⟨fun n => if n ∈ S then .waiting else finS (stL kv n), fun n _ => ?_, Fm.ev_mono (fun a ha t => ?_) e⟩).symm
    · show (if n ∈ S then Sg.waiting else finS (stL kv n)) ∈ (if n ∈ S then [Sg.waiting] else ends (st0 n))
      by_cases q : n ∈ S
      · simp [q]
      · rw [if_neg q, if_neg q]
        exact g.reach n _ (fin_ends _)
    · show truth a.1 (if a.2 ∈ S then .waiting else finS (stL kv a.2)) = true
      by_cases q : a.2 ∈ S
      · rw [if_pos q, ← g.wait _ q]; exact t
      · rw [if_neg q]; exact fin_truth _ _ t
theorem steps_in {ws : Ws} {S : List Int} {kv : List (Int × Sg)} {n m : Int} {e : Sg} (h : (m, e) ∈ stepsOf ws S kv n) : m = n ∧
    ((stL kv n = .waiting ∧ n ∉ S ∧ e = .left) ∨ (stL kv n = .waiting ∧ e = .begun ∧ mayB ws kv n = true) ∨ (stL kv n = .begun ∧ e ∈ endsMore)) := by
  unfold stepsOf at h
  rw [List.mem_append, List.mem_append] at h
  rcases h with (h | h) | h
  · split at h
    · rename_i q
      have : (m, e) = (n, Sg.left) := by simpa using h
      cases this
      exact ⟨rfl, .inl ⟨q.1, q.2, rfl⟩⟩
    · simp at h
  · split at h
    · rename_i q
      have : (m, e) = (n, Sg.begun) := by simpa using h
      cases this
      exact ⟨rfl, .inr (.inl ⟨q.1, rfl, q.2⟩)⟩
    · simp at h
  · split at h
    · rename_i q
      obtain ⟨x, hx, z⟩ := List.mem_map.mp h
      cases z
      exact ⟨rfl, .inr (.inr ⟨q, hx⟩)⟩
    · simp at h
theorem ends_one {e : Sg} (h : e ∈ endsMore) : ends e = [e] := by
  cases e <;> first | rfl | exact absurd h (by decide)
theorem good_step {ws : Ws} {keys : List Int} {st0 : Int → Sg} {S : List Int} {kv : List (Int × Sg)} {n m : Int} {e : Sg} (g : Good keys st0 S kv) (hs : ∀ x ∈ S, ∃ f, fw ws x = some f ∧ canB f (posOf st0 S []) = false)
    (hn : n ∈ keys) (h : (m, e) ∈ stepsOf ws S kv n) : m = n ∧ (n ∈ S → e ≠ .begun) ∧ Good keys st0 S (putS kv n e) := by
  obtain ⟨rfl, h⟩ := steps_in h
  have hk : m ∈ kv.map (·.1) := by rw [g.keys]; exact hn
  have nS : m ∉ S := fun q => by
    obtain ⟨f, e1, e2⟩ := hs m q
    rcases h with ⟨_, z, _⟩ | ⟨_, _, z⟩ | ⟨z, _⟩
    · exact z q
    · unfold mayB at z
      rw [e1] at z
      have z : evL f kv = true := z
      rw [never (ws := ws) g e2] at z
      cases z
    · rw [g.wait m q] at z
      cases z
  refine ⟨rfl, fun q => absurd q nS, by rw [putS_keys]; exact g.keys, fun x hx => ?_, fun x y hy => ?_⟩
  · have ne : x ≠ m := fun z => nS (z ▸ hx)
    by_cases hkx : x ∈ kv.map (·.1)
    · rw [putS_at hkx, if_neg ne]; exact g.wait x hx
    · unfold stL
      have : (putS kv m e).lookup x = none := by
        cases q : (putS kv m e).lookup x with
        | none => rfl
        | some y =>
          exfalso
          have : x ∈ (putS kv m e).map (·.1) := List.mem_map.mpr ⟨(x, y), by
            have : ∀ l : List (Int × Sg), l.lookup x = some y → (x, y) ∈ l := by
              intro l
              induction l with
              | nil => intro z; simp at z
              | cons p r ih =>
                obtain ⟨k, u⟩ := p
                intro z
                by_cases w : x = k
                · simp [List.lookup, w] at z; simp [w, z]
                · have w' : (x == k) = false := by simpa using w
                  simp only [List.lookup, w'] at z
                  exact List.mem_cons_of_mem _ (ih z)
            exact this _ q, rfl⟩
          rw [putS_keys] at this
          exact hkx this
      rw [this]; rfl
  · by_cases hkx : x ∈ kv.map (·.1)
    · rw [putS_at hkx] at hy
      by_cases z : x = m
      · rw [if_pos z] at hy
        subst z
        refine g.reach x y ?_
        rcases h with ⟨a, _, b⟩ | ⟨a, b, _⟩ | ⟨a, b⟩
        · rw [a]; rw [b] at hy
          have : y = .left := by simpa [ends] using hy
          rw [this]; decide
        · rw [a]; rw [b] at hy
          have hy : y ∈ endsMore := hy
          show y ∈ endsAll
          exact List.mem_cons_of_mem _ hy
        · rw [a]; rw [ends_one b] at hy
          have : y = e := by simpa using hy
          rw [this]; exact b
      · rw [if_neg z] at hy; exact g.reach x y hy
    · refine g.reach x y ?_
      have : stL (putS kv m e) x = stL kv x := by
        have none_of : ∀ l : List (Int × Sg), x ∉ l.map (·.1) → l.lookup x = none := by
          intro l
          induction l with
          | nil => intro _; rfl
          | cons p r ih =>
            obtain ⟨k, u⟩ := p
            intro z
            have w : x ≠ k := fun q => z (by simp [q])
            have w' : (x == k) = false := by simpa using w
            simp only [List.lookup, w']
            exact ih fun q => z (List.mem_cons_of_mem _ q)
        unfold stL
        rw [none_of _ hkx, none_of _ (by rw [putS_keys]; exact hkx)]
      rw [← this]; exact hy

/-! ### all states of some jobs -/
def allSt : List Int → List (List (Int × Sg))
  | [] => [[]]
  | n :: r => (allSt r).flatMap fun kv => allSg.map fun e => (n, e) :: kv
theorem allSt_mem : ∀ {keys : List Int} {kv : List (Int × Sg)}, kv.map (·.1) = keys → kv ∈ allSt keys
  | [], kv, h => by
    have : kv = [] := by simpa using h
    simp [this, allSt]
  | n :: r, kv, h => by
    cases kv with
    | nil => simp at h
    | cons p kv =>
      obtain ⟨m, e⟩ := p
      simp only [List.map_cons, List.cons.injEq] at h
      obtain ⟨rfl, h⟩ := h
      simp only [allSt, List.mem_flatMap, List.mem_map]
      exact ⟨kv, allSt_mem h, e, mem_allSg e, rfl⟩
theorem allSt_len : ∀ keys : List Int, (allSt keys).length = 7 ^ keys.length
  | [] => rfl
  | n :: r => by
    have ih := allSt_len r
    have : ∀ l : List (List (Int × Sg)), (l.flatMap fun kv => allSg.map fun e => (n, e) :: kv).length = l.length * 7 := by
      intro l
      induction l with
      | nil => rfl
      | cons x l ihl =>
        rw [List.flatMap_cons, List.length_append, ihl, List.length_map, List.length_cons]
        show 7 + _ = _
        omega
    show ((allSt r).flatMap fun kv => allSg.map fun e => (n, e) :: kv).length = 7 ^ (r.length + 1)
    rw [this, ih, Nat.pow_succ]
theorem nodup_len {α : Type} [DecidableEq α] : ∀ {l m : List α}, l.Nodup → (∀ x ∈ l, x ∈ m) → l.length ≤ m.length
  | [], _, _, _ => Nat.zero_le _
  | x :: r, m, nd, h => by
    have hx := h x List.mem_cons_self
    have nd' := List.nodup_cons.mp nd
    have : r.length ≤ (m.erase x).length := nodup_len nd'.2 fun y hy => (List.mem_erase_of_ne (fun z => nd'.1 (by rw [← z]; exact hy))).mpr (h y (List.mem_cons_of_mem _ hy))
    rw [List.length_erase_of_mem hx] at this
    have : 0 < m.length := List.length_pos_of_mem hx
    rw [List.length_cons]
    omega
end Ts

set_option Elab.async false
set_option linter.all false
set_option maxRecDepth 100000
set_option maxHeartbeats 4000000
/-! Own rules 1: a dict laid into a new one (two stars in a display). -/
namespace Ts
open PySem PySem.Spec PyProof.Rows L2
section
variable {prog : Program} {w : World} {A : Around} {E : Value → Shared → Prop} {s : Shared} {d o : Addr}
/-- one entry put by its hash -/
theorem put_pair {kvs : List (Key × Value)} {k : Key} {key v : Value} {Q : Unit → Shared → Prop} (hkey : (mixKind prog w).is k key = true) (hm : s.heap.DictOf (mixKind prog w) d kvs)
    (hQ : ∀ h', h'.DictOf (mixKind prog w) d (stored kvs k v) → Heap.SameBut d s.heap h' → Q () { s with heap := h' }) (hsz : kvs.length ≤ sizeLine) :
    wpAny (model prog w) A (dictPut d ((mixKind prog w).hash k) key v) Q E s := by
  obtain ⟨o, es, ep, ho, hc, hd, hk, hp, hn⟩ := hm
  have hl : es.toList.length = kvs.length := hp.length
  have hes : es.size ≤ sizeLine := by rw [← Array.length_toList]; omega
  have at_ : (es.findIdx? fun e => (mixKind prog w).is k e.key) = kvs.findIdx? fun kv => decide (kv.1 = k) := by
    rw [← hp.findIdx k]
    obtain ⟨l⟩ := es
    simp
  unfold dictPut
  refine wpAny_bind (wpAny_dictFind_of hkey ho hd hk ?_)
  cases hi : es.findIdx? fun e => (mixKind prog w).is k e.key with
  | some i =>
    have here := any_of_findIdx_some (at_ ▸ hi)
    refine wpAny_updateDict ho hd (hQ _ ⟨_, _, ep, Heap.get?_update_self _ ho (Obj.isFreed_of_dict (Obj.data_mapDict hd _)), hc.mapDict _, Obj.data_mapDict hd _, hk.modify _ _, ?_, ?_⟩ (Heap.SameBut.update ..))
    · rw [stored, if_pos here]
      have li : (es.toList.findIdx? fun e => (mixKind prog w).is k e.key) = some i := by
        rw [← hi]
        obtain ⟨l⟩ := es
        simp
      have q := hp.modify hn li v
      obtain ⟨l⟩ := es
      simpa using q
    · rw [stored, if_pos here, keys_map_store]
      exact hn
  | none =>
    have out := not_mem_of_findIdx_none (at_ ▸ hi)
    have away : ¬ (kvs.any fun kv => decide (kv.1 = k)) = true := fun z => by
      obtain ⟨kv, m, e⟩ := List.any_eq_true.mp z
      exact out (List.mem_map.mpr ⟨kv, m, of_decide_eq_true e⟩)
    refine wpAny_updateDictKeys (hz := hes) ho hd (hQ _ ⟨_, _, ep + 1, Heap.get?_update_self _ ho (Obj.isFreed_of_dict (Obj.data_mapDictKeys hd _)), hc.mapDictKeys _, Obj.data_mapDictKeys hd _, hk.push hkey _, ?_, ?_⟩ (Heap.SameBut.update ..))
    · rw [stored, if_neg away]
      have q := hp.append hkey ((mixKind prog w).hash k) v
      obtain ⟨l⟩ := es
      simpa using q
    · rw [stored, if_neg away, List.map_append, List.nodup_append]
      refine ⟨hn, by simp, fun a ha b hb => ?_⟩
      have e : b = k := by simpa using hb
      subst e
      exact fun z => out (z ▸ ha)
theorem key_noref {k : Key} {u : Value} (h : (mixKind prog w).is k u = true) : ∀ a, u ≠ .ref a := fun a z => by
  subst z
  rcases keyIs_shape (k := k) h with ⟨i, t, _, e⟩ | ⟨x, t, _, e⟩ <;> cases e
theorem merge_dict {kvs more : List (Key × Value)} {Q : Unit → Shared → Prop} (hdo : d ≠ o) (hoS : (o == sysModules) = false)
    (hd : s.heap.DictOf (mixKind prog w) d kvs) (ho : s.heap.DictOf (mixKind prog w) o more)
    (hQ : ∀ h', h'.DictOf (mixKind prog w) d (merged kvs more) → h'.DictOf (mixKind prog w) o more → Heap.SameBut d s.heap h' → Q () { s with heap := h' })
    (hsz : kvs.length + more.length ≤ sizeLine) :
    wpAny (model prog w) A (mergeMapping d (.ref o) false) Q E s := by
  obtain ⟨od, esd, epd, hod, hcd, hdd, hkd, hpd, hnd⟩ := id hd
  obtain ⟨oo, eso, epo, hoo, hco, hdo', hko, hpo, hno⟩ := id ho
  have hlen : more.length = eso.size := by rw [← hpo.length]; simp
  unfold mergeMapping
  refine wpAny_bind (wpAny_isInstance ho.typeIs isSubtype_dict_dict ?_)
  rw [if_pos rfl]
  refine wpAny_bind (wpAny_specialOf ho.typeIs F.slot_dict_iter.lookup (wpAny_bind (wpAny_pure ?_)))
  simp only [beq_self_eq_true]
  rw [if_neg (by rw [hoS]; exact Bool.false_ne_true)]
  refine wpAny_bind (wpAny_dictEntries hod hdd ?_)
  have loop : wpAny (model prog w) A (do
      let l ← dictEntries o
      let size : Nat := l.size
      let epoch ← dictEpoch o
      forIn (List.range size) PUnit.unit fun i (_ : PUnit) => (do
        let l' ← dictEntries o
        match l'[i]? with
          | some e => do
            holding [e.key, e.val] (dictPut d e.hash e.key e.val)
            let ep' ← dictEpoch o
            if (ep' != epoch) = true then do
              (unsupported "dict.changed-during-merge" : Sem PUnit)
              pure (ForInStep.yield PUnit.unit)
            else pure (ForInStep.yield PUnit.unit)
          | x => do
            (unsupported "dict.changed-during-merge" : Sem PUnit)
            pure (ForInStep.yield PUnit.unit) : Sem (ForInStep PUnit))
      pure ()) Q E s := by
    refine wpAny_bind (wpAny_dictEntries hoo hdo' ?_)
    refine wpAny_bind (wpAny_dictEpoch hoo hdo' ?_)
    refine wpAny_bind ?_
    rw [List.range_eq_range']
    refine wpAny_forIn_list _ (fun left _ s' => ∃ h' i, s' = { s with heap := h' } ∧ left = List.range' i (eso.size - i) ∧ i ≤ eso.size ∧ h'.DictOf (mixKind prog w) d (merged kvs (more.take i)) ∧ h'.get? o = some oo ∧ Heap.SameBut d s.heap h')
      _ ?_ ?_ _ _ ⟨s.heap, 0, rfl, by simp, Nat.zero_le _, by simpa [merged] using hd, hoo, Heap.SameBut.refl _ _⟩
    · rintro x left b s' ⟨h', i, rfl, hr, hi, hd', hoo', hs'⟩
      have lt : i < eso.size := by
        by_cases z : i < eso.size
        · exact z
        · have e0 : eso.size - i = 0 := by omega
          rw [e0] at hr
          cases hr
      have e1 : eso.size - i = (eso.size - (i + 1)) + 1 := by omega
      rw [e1, List.range'_succ] at hr
      injection hr with hx hl
      subst hx
      refine wpAny_bind (wpAny_dictEntries hoo' hdo' ?_)
      rw [Array.getElem?_eq_getElem lt]
      have lt2 : x < more.length := by omega
      obtain ⟨⟨k, v⟩, hkv⟩ : ∃ kv, more[x]? = some kv := ⟨more[x], List.getElem?_eq_getElem lt2⟩
      obtain ⟨ik, iv⟩ := hpo.get? (e := eso[x]) (by simp [lt]) hkv
      obtain ⟨k', ik', ih⟩ := hko eso[x] (Array.getElem_mem lt)
      obtain rfl : k' = k := (mixKind prog w).inj _ _ _ ik' ik
      show wpAny _ _ (holding [eso[x].key, eso[x].val] (dictPut d eso[x].hash eso[x].key eso[x].val) >>= _) _ _ _
      rw [ih, iv]
      have hm : (merged kvs (more.take x)).length ≤ sizeLine := by
        have a1 := merged_length_le kvs (more.take x)
        have a2 : (more.take x).length ≤ more.length := by rw [List.length_take]; omega
        omega
      refine wpAny_bind (wpAny_holding (put_pair ik hd' (fun h2 hd2 hs2 => ?_) hm))
      have hoo2 : h2.get? o = some oo := (hs2.2 o (Ne.symm hdo)).trans hoo'
      refine wpAny_bind (wpAny_dictEpoch hoo2 hdo' ?_)
      rw [if_neg (by simp)]
      exact wpAny_pure ⟨h2, x + 1, rfl, hl, lt, by rw [merged_take_succ kvs more x (k', v) hkv]; exact hd2, hoo2, hs'.trans hs2⟩
    · rintro b s' ⟨h', i, rfl, hr, hi, hd', hoo', hs'⟩
      have e : i = eso.size := by
        by_cases z : i < eso.size
        · have e1 : eso.size - i = (eso.size - (i + 1)) + 1 := by omega
          rw [e1, List.range'_succ] at hr
          cases hr
        · omega
      rw [e, ← hlen, List.take_length] at hd'
      exact wpAny_pure (hQ h' hd' ⟨oo, eso, epo, hoo', hco, hdo', hko, hpo, hno⟩ hs')
  split
  · refine wpAny_bind (wpAny_dictEntries hoo hdo' ?_)
    refine wpAny_bind ?_
    rw [← Array.forIn_toList]
    refine wpAny_forIn_list _ (fun left _ s' => s' = s ∧ ∀ e ∈ left, e ∈ eso.toList) _ ?_ ?_ _ _ ⟨rfl, fun e he => he⟩
    · rintro x left b s' ⟨rfl, hin⟩
      obtain ⟨k', ik', _⟩ := hko x (by simpa using hin x List.mem_cons_self)
      split
      · rename_i a e
        exact absurd e (key_noref ik' a)
      · exact wpAny_pure ⟨rfl, fun e he => hin e (List.mem_cons_of_mem _ he)⟩
    · rintro b s' ⟨rfl, _⟩
      exact loop
  · exact loop
end
end Ts
namespace Ts
open PySem PySem.Spec PyProof.Rows L2
/-- a dict of the abstract heap, laid into another one -/
theorem merge_at {X : Cx} {pins : List (Addr × Obj)} {σ : L2.St} {H : Hp} {s : Shared} {d a : Addr} {kvs more : List (Key × V)} {E : Value → Shared → Prop} {Q : Unit → Shared → Prop} (I : Inv X pins σ H s) (hd : H d = some (.dK kvs)) (ha : H a = some (.dK more)) (ne : d ≠ a)
    (hz : kvs.length + more.length ≤ sizeLine) (h : ∀ s', Inv X pins σ (upd H d (.dK (mergeK kvs more))) s' → Q () s') : wpAny (model X.prog X.w) X.A (mergeMapping d (.ref a) false) Q E s := by
  obtain ⟨z1, n1, vs, r1, d1⟩ := dk_of I.hok hd
  obtain ⟨z2, n2, ws, r2, d2⟩ := dk_of I.hok ha
  refine merge_dict ne n2 d1 d2 (fun h' e1 e2 sb => h _ ?_) (by rw [← r1.length, ← r2.length]; exact hz)
  have hl : (mergeK kvs more).length ≤ sizeLine := Nat.le_trans (length_mergeK more kvs) hz
  have he : ∃ q, h'.get? d = some q := let ⟨q, _, _, hq, _⟩ := e1; ⟨q, hq⟩
  exact d_write I (by rw [hd]; exact True.intro) sb he (dk_new hl n1 (r2.merge r1) e1)
/-- the reading of {**a, k: v} -/
def tStar1 (ta tk tv : TE) : TE := fun σ H Q => ∀ p, H p = none → ta σ (upd H p (.dK [])) fun x H1 => H1 p = some (.dK []) ∧ ∃ a kvs, x = .ref a ∧ p ≠ a ∧ H1 a = some (.dK kvs) ∧
  ∀ q, upd H1 p (.dK (mergeK [] kvs)) q = none → tk σ (upd (upd H1 p (.dK (mergeK [] kvs))) q (.dK [])) fun y H3 => tv σ H3 fun z H4 => ∃ k, y = kV k ∧ H4 q = some (.dK []) ∧ H4 p = some (.dK (mergeK [] kvs)) ∧ p ≠ q ∧ kvs.length < 1000 ∧
    Q (.ref p) (upd (upd H4 q (.dK (putK [] k z))) p (.dK (mergeK (mergeK [] kvs) (putK [] k z))))
theorem pe_star1 {X : Cx} {a k v : Expr} {ta tk tv : TE} {pos : Pos} (ha : PE X a ta) (hk : PE X k tk) (hv : PE X v tv) : PE X (.Dict [none, some k] [a, v] pos) (tStar1 ta tk tv) := by
  refine ⟨fun pins s σ H Q I h => ?_⟩
  have e : eval (.Dict [none, some k] [a, v] pos) X.env = (do
      standAt pos
      dictDisplay [(none, do let x ← eval a X.env; standAt pos; pure x), (some (eval k X.env), do let x ← eval v X.env; standAt pos; pure x)]) := rfl
  rw [e]
  refine wpAny_bind (wpAny_standAt ?_)
  unfold dictDisplay
  dsimp only
  rw [List.forIn_cons]
  have hn := I.hok.fresh (Nat.le_refl s.heap.objs.size)
  have I1 := I.laid (a := s.heap.objs.size) (o := .dK []) (h' := s.heap.push { cls := .type "dict", data := .dict #[] }) (t' := s.toks) (fun _ _ q => Heap.get?_push_of_some _ q) (Nat.le_refl _) (dk_empty s.heap I.big)
  have h := h _ hn
  generalize hp : s.heap.objs.size = p at hn I1 h
  refine wpAny_bind (wpAny_bind (wpAny_bind (wpAny_pure ?_)))
  refine wpAny_bind (wpAny_alloc ?_)
  rw [hp]
  refine wpAny_bind (wpAny_holding (wpAny_bind (thn (ha.run pins _ σ _ _ I1 h) fun u s1 ⟨x, H1, J1, rx, e1, b, kvs, ex, nb, eb, q1⟩ => wpAny_bind (wpAny_standAt (wpAny_pure ?_)))))
  subst ex
  obtain rfl : u = Value.ref b := rx
  have z1 : ([] : List (Key × V)).length + kvs.length ≤ sizeLine := by
    obtain ⟨z, _⟩ := J1.hok b _ eb
    simpa using z
  refine wpAny_bind (wpAny_onRaise (wpAny_tryCatch (wpAny_onRaise (wpAny_holding (merge_at J1 e1 eb nb z1 fun s2 J2 => ?_)))))
  refine wpAny_pure ?_
  dsimp only
  rw [List.forIn_cons]
  refine wpAny_bind ?_
  dsimp only
  rw [if_neg (by exact Bool.false_ne_true)]
  refine wpAny_pure ?_
  dsimp only
  rw [List.forIn_nil]
  refine wpAny_pure ?_
  dsimp only
  rw [if_neg (by exact Bool.false_ne_true)]
  refine wpAny_bind (wpAny_bind (wpAny_holding ?_))
  unfold subDict
  have hq := J2.hok.fresh (Nat.le_refl s2.heap.objs.size)
  have J3 := J2.laid (a := s2.heap.objs.size) (o := .dK []) (h' := s2.heap.push { cls := .type "dict", data := .dict #[] }) (t' := s2.toks) (fun _ _ q => Heap.get?_push_of_some _ q) (Nat.le_refl _) (dk_empty s2.heap J2.big)
  have q1 := q1 _ hq
  generalize hqe : s2.heap.objs.size = q at hq J3 q1
  refine wpAny_bind (wpAny_alloc ?_)
  rw [hqe]
  refine wpAny_bind (wpAny_holding ?_)
  rw [if_pos (by exact (by decide : 1 ≤ 15))]
  refine wpAny_bind ?_
  show wpAny _ _ (evalPairs [(eval k X.env, _)]) _ _ _
  unfold evalPairs
  refine wpAny_bind (thn (hk.run pins _ σ _ _ J3 q1) fun u1 s3 ⟨y, H3, J4, ry, q2⟩ => ?_)
  refine wpAny_bind (wpAny_holding (wpAny_bind (thn (hv.run pins s3 σ H3 _ J4 q2) fun u2 s4 ⟨z, H4, J5, rz, kk, ey, eq, ep, npq, lt, q3⟩ => wpAny_bind (wpAny_standAt (wpAny_pure ?_)))))
  subst ey
  unfold evalPairs
  refine wpAny_bind (wpAny_holding (wpAny_pure (wpAny_pure ?_)))
  refine wpAny_holding (wpAny_bind ?_)
  rw [List.forIn_cons]
  refine wpAny_bind (wpAny_bind (d_dictSet J5 eq (by show 0 < sizeLine; decide) ry rz fun s5 J6 => wpAny_pure ?_))
  dsimp only
  rw [List.forIn_nil]
  refine wpAny_pure (wpAny_pure (wpAny_pure ?_))
  have e6 : upd H4 q (.dK (putK [] kk z)) p = some (.dK (mergeK [] kvs)) := by rw [upd_ne npq]; exact ep
  have z6 : (mergeK [] kvs).length + (putK ([] : List (Key × V)) kk z).length ≤ sizeLine := by
    have a1 := length_mergeK kvs []
    have a2 := length_putK ([] : List (Key × V)) kk z
    rw [List.length_nil] at a1 a2
    have a3 : 2000 ≤ sizeLine := by decide
    omega
  refine wpAny_bind (wpAny_onRaise (wpAny_holding (merge_at J6 e6 upd_same npq z6 fun s6 J7 => wpAny_pure ?_)))
  exact wpAny_pure ⟨.ref p, _, J7, rfl, q3⟩
/-- the reading of {**a, **b} -/
def tStar2 (ta tb : TE) : TE := fun σ H Q => ∀ p, H p = none → ta σ (upd H p (.dK [])) fun x H1 => H1 p = some (.dK []) ∧ ∃ a kvs, x = .ref a ∧ p ≠ a ∧ H1 a = some (.dK kvs) ∧
  tb σ (upd H1 p (.dK (mergeK [] kvs))) fun y H2 => H2 p = some (.dK (mergeK [] kvs)) ∧ ∃ b more, y = .ref b ∧ p ≠ b ∧ H2 b = some (.dK more) ∧ kvs.length + more.length ≤ 1000 ∧ Q (.ref p) (upd H2 p (.dK (mergeK (mergeK [] kvs) more)))
theorem pe_star2 {X : Cx} {a b : Expr} {ta tb : TE} {pos : Pos} (ha : PE X a ta) (hb : PE X b tb) : PE X (.Dict [none, none] [a, b] pos) (tStar2 ta tb) := by
  refine ⟨fun pins s σ H Q I h => ?_⟩
  have e : eval (.Dict [none, none] [a, b] pos) X.env = (do
      standAt pos
      dictDisplay [(none, do let x ← eval a X.env; standAt pos; pure x), (none, do let x ← eval b X.env; standAt pos; pure x)]) := rfl
  rw [e]
  refine wpAny_bind (wpAny_standAt ?_)
  unfold dictDisplay
  dsimp only
  rw [List.forIn_cons]
  have hn := I.hok.fresh (Nat.le_refl s.heap.objs.size)
  have I1 := I.laid (a := s.heap.objs.size) (o := .dK []) (h' := s.heap.push { cls := .type "dict", data := .dict #[] }) (t' := s.toks) (fun _ _ q => Heap.get?_push_of_some _ q) (Nat.le_refl _) (dk_empty s.heap I.big)
  have h := h _ hn
  generalize hp : s.heap.objs.size = p at hn I1 h
  refine wpAny_bind (wpAny_bind (wpAny_bind (wpAny_pure ?_)))
  refine wpAny_bind (wpAny_alloc ?_)
  rw [hp]
  refine wpAny_bind (wpAny_holding (wpAny_bind (thn (ha.run pins _ σ _ _ I1 h) fun u s1 ⟨x, H1, J1, rx, e1, c, kvs, ex, nc, ec, q1⟩ => wpAny_bind (wpAny_standAt (wpAny_pure ?_)))))
  subst ex
  obtain rfl : u = Value.ref c := rx
  have z1 : ([] : List (Key × V)).length + kvs.length ≤ sizeLine := by
    obtain ⟨z, _⟩ := J1.hok c _ ec
    simpa using z
  refine wpAny_bind (wpAny_onRaise (wpAny_tryCatch (wpAny_onRaise (wpAny_holding (merge_at J1 e1 ec nc z1 fun s2 J2 => ?_)))))
  refine wpAny_pure ?_
  dsimp only
  rw [List.forIn_cons]
  refine wpAny_bind ?_
  dsimp only
  refine wpAny_bind ?_
  rw [if_pos (by exact (rfl : true = true))]
  refine wpAny_pure ?_
  dsimp only
  refine wpAny_bind (wpAny_pure ?_)
  refine wpAny_bind (wpAny_holding (wpAny_bind (thn (hb.run pins s2 σ _ _ J2 q1) fun u2 s3 ⟨y, H2, J3, ry, ep, m, more, ey, nm, em, lt, q2⟩ => wpAny_bind (wpAny_standAt (wpAny_pure ?_)))))
  subst ey
  obtain rfl : u2 = Value.ref m := ry
  have z2 : (mergeK [] kvs).length + more.length ≤ sizeLine := by
    have a1 := length_mergeK kvs []
    rw [List.length_nil] at a1
    have a3 : 2000 ≤ sizeLine := by decide
    omega
  refine wpAny_bind (wpAny_onRaise (wpAny_tryCatch (wpAny_onRaise (wpAny_holding (merge_at J3 ep em nm z2 fun s4 J4 => ?_)))))
  refine wpAny_pure ?_
  dsimp only
  rw [List.forIn_nil]
  refine wpAny_pure ?_
  dsimp only
  rw [if_pos (by exact (rfl : true = true))]
  exact wpAny_bind (wpAny_pure (wpAny_pure ⟨.ref p, _, J4, rfl, q2⟩))
end Ts

set_option Elab.async false
set_option linter.all false
set_option maxRecDepth 100000
set_option maxHeartbeats 4000000
/-! Own rules 2: a dict comprehension of two clauses. -/
namespace Ts
open PySem PySem.Spec PyProof.Rows L2
/-- no way out by an error -/
abbrev NoE : Value → Shared → Prop := fun _ _ => False
theorem offE {α : Type} {M : Model} {A : Around} {t : Sem α} {Q Q' : α → Shared → Prop} {E : Value → Shared → Prop} {s : Shared} (h : wpAny M A t Q NoE s) (k : ∀ a s, Q a s → Q' a s) : wpAny M A t Q' E s := wpAny_mono h k fun _ _ z => z.elim
abbrev dc2 (kx vx t0 i0 t1 i1 : Expr) (ifs0 ifs1 : List Expr) (scope : Scope) (pos : Pos) : Expr := .DictComp kx vx [⟨t0, i0, ifs0, 0⟩, ⟨t1, i1, ifs1, 0⟩] scope pos
abbrev testsOk (ifs : List Expr) (env : Env) : Sem Bool := forIn ifs true fun c r => if r = true then do let ok ← isTrue c env (eval c env); pure (ForInStep.yield ok) else pure (ForInStep.yield r)
section
variable {prog : Program} {w : World} {A : Around} {R : Result → Shared → Prop} {s : Shared} {kx vx t0 i0 t1 i1 : Expr} {ifs0 ifs1 : List Expr} {scope : Scope} {pos : Pos} {it : Value} {D : Addr} {env : Env}
theorem dc2_first : compTurn (dc2 kx vx t0 i0 t1 i1 ifs0 ifs1 scope pos) 0 it (.ref D) env = (do
    standAt i0.pos
    match ← pyNext it with
    | none => pure (.done .next)
    | some v =>
      letOwnedTupleGo t0 it v
      assign t0 env v
      let ok ← testsOk ifs0 env
      if ok then
        let x ← eval i1 env
        standAt i1.pos
        let x ← foldedSetIterable i1 env x
        let _ ← runOwn (.compStart (dc2 kx vx t0 i0 t1 i1 ifs0 ifs1 scope pos) 1 (← holding [x] (pyIter x)) (.ref D) env) env
      again (.compLoop (dc2 kx vx t0 i0 t1 i1 ifs0 ifs1 scope pos) 0 it (.ref D) env)) := by rfl
theorem dc2_second : compTurn (dc2 kx vx t0 i0 t1 i1 ifs0 ifs1 scope pos) 1 it (.ref D) env = (do
    standAt i1.pos
    match ← pyNext it with
    | none => pure (.done .next)
    | some v =>
      letOwnedTupleGo t1 it v
      assign t1 env v
      let ok ← testsOk ifs1 env
      if ok then
        (do
          let kv ← eval kx env
          let vv ← holding [kv] (eval vx env)
          standAt { kx.pos with endLine := vx.pos.endLine, endCol := vx.pos.endCol }
          holding [kv, vv] (dictSet D kv vv))
      again (.compLoop (dc2 kx vx t0 i0 t1 i1 ifs0 ifs1 scope pos) 1 it (.ref D) env)) := by rfl
/-- the outer loop, by an invariant and a measure -/
theorem dc2_outer (hs : ∀ x, foldedSetIterable i1 env x = pure x) (I : Nat → Shared → Prop)
    (turn : ∀ n s, I n s → wpAny (model prog w) A (pyNext it) (fun r s1 => match r with
      | none => R (.ok .next) s1
      | some v => wpAny (model prog w) A (letOwnedTupleGo t0 it v) (fun _ s2 => wpAny (model prog w) A (assign t0 env v) (fun _ s3 => wpAny (model prog w) A (testsOk ifs0 env) (fun ok s4 =>
          if ok = true then wpAny (model prog w) A (eval i1 env) (fun x s5 => wpAny (model prog w) A (pyIter x) (fun j s6 =>
              codeAny (model prog w) A (.compStart (dc2 kx vx t0 i0 t1 i1 ifs0 ifs1 scope pos) 1 j (.ref D) env) (fun r s' => (∃ f, r = .ok f) ∧ ∃ m, m < n ∧ I m s') s6) NoE s5) NoE s4
          else ∃ m, m < n ∧ I m s4) NoE s3) NoE s2) NoE s1) NoE s)
    (n : Nat) (h : I n s) : codeAny (model prog w) A (.compLoop (dc2 kx vx t0 i0 t1 i1 ifs0 ifs1 scope pos) 0 it (.ref D) env) R s := by
  refine codeAny_loop rfl I (fun n s hI => ?_) n h
  show wpAny _ A ((compTurn (dc2 kx vx t0 i0 t1 i1 ifs0 ifs1 scope pos) 0 it (.ref D) env).onRaise fun x => do noteFrame x env; theTreesLotGoes x) _ _ s
  refine wpAny_noted ?_
  rw [dc2_first]
  refine wpAny_bind (wpAny_standAt (wpAny_bind (offE (turn n s hI) fun r s1 h1 => ?_)))
  cases r with
  | none => exact wpAny_pure h1
  | some v =>
    refine wpAny_bind (offE h1 fun _ s2 h2 => wpAny_bind (offE h2 fun _ s3 h3 => wpAny_bind (offE h3 fun ok s4 h4 => ?_)))
    cases ok with
    | false => exact wpAny_pure ⟨rfl, h4⟩
    | true =>
      refine wpAny_bind (offE h4 fun x s5 h5 => wpAny_bind (wpAny_standAt (wpAny_bind (wpAny_of_eq (hs x) (wpAny_bind (wpAny_holding (offE h5 fun j s6 h6 => ?_)))))))
      refine wpAny_bind (wpAny_runOwn ?_)
      rw [Around.mark_none]
      refine codeAny_mono h6 fun r s' ⟨⟨f, e⟩, hr⟩ => ?_
      subst e
      first
        | exact wpAny_pure ⟨rfl, hr⟩
        | exact wpAny_bind (wpAny_pure (wpAny_pure ⟨rfl, hr⟩))
/-- the inner loop -/
theorem dc2_inner (I : Nat → Shared → Prop)
    (turn : ∀ n s, I n s → wpAny (model prog w) A (pyNext it) (fun r s1 => match r with
      | none => R (.ok .next) s1
      | some v => wpAny (model prog w) A (letOwnedTupleGo t1 it v) (fun _ s2 => wpAny (model prog w) A (assign t1 env v) (fun _ s3 => wpAny (model prog w) A (testsOk ifs1 env) (fun ok s4 =>
          if ok = true then wpAny (model prog w) A (eval kx env) (fun k s5 => wpAny (model prog w) A (eval vx env) (fun u s6 => wpAny (model prog w) A (dictSet D k u) (fun _ s7 => ∃ m, m < n ∧ I m s7) NoE s6) NoE s5) NoE s4
          else ∃ m, m < n ∧ I m s4) NoE s3) NoE s2) NoE s1) NoE s)
    (n : Nat) (h : I n s) : codeAny (model prog w) A (.compLoop (dc2 kx vx t0 i0 t1 i1 ifs0 ifs1 scope pos) 1 it (.ref D) env) R s := by
  refine codeAny_loop rfl I (fun n s hI => ?_) n h
  show wpAny _ A ((compTurn (dc2 kx vx t0 i0 t1 i1 ifs0 ifs1 scope pos) 1 it (.ref D) env).onRaise fun x => do noteFrame x env; theTreesLotGoes x) _ _ s
  refine wpAny_noted ?_
  rw [dc2_second]
  refine wpAny_bind (wpAny_standAt (wpAny_bind (offE (turn n s hI) fun r s1 h1 => ?_)))
  cases r with
  | none => exact wpAny_pure h1
  | some v =>
    refine wpAny_bind (offE h1 fun _ s2 h2 => wpAny_bind (offE h2 fun _ s3 h3 => wpAny_bind (offE h3 fun ok s4 h4 => ?_)))
    cases ok with
    | false => exact wpAny_pure ⟨rfl, h4⟩
    | true =>
      exact wpAny_bind (wpAny_bind (offE h4 fun k s5 h5 => wpAny_bind (wpAny_holding (offE h5 fun u s6 h6 => wpAny_bind (wpAny_standAt (wpAny_holding (offE h6 fun _ s7 h7 => wpAny_pure ⟨rfl, h7⟩)))))))
/-- the second clause's start -/
theorem dc2_begin (h0 : codeAny (model prog w) A (.compLoop (dc2 kx vx t0 i0 t1 i1 ifs0 ifs1 scope pos) 1 it (.ref D) env) R s)
    (h : wpAny (model prog w) A (pyIter it) (fun j s' => codeAny (model prog w) A (.compLoop (dc2 kx vx t0 i0 t1 i1 ifs0 ifs1 scope pos) 1 j (.ref D) env) R s') NoE s) :
    codeAny (model prog w) A (.compStart (dc2 kx vx t0 i0 t1 i1 ifs0 ifs1 scope pos) 1 it (.ref D) env) R s := by
  refine codeAny_of_tree ?_
  show wpAny _ _ ((compStart (dc2 kx vx t0 i0 t1 i1 ifs0 ifs1 scope pos) 1 it (.ref D) env).onRaise fun x => do noteFrame x env; standAt theWindowsPlace) _ _ s
  refine wpAny_notedAt ?_
  unfold compStart
  show wpAny _ _ (ask >>= _) _ _ s
  refine wpAny_bind (wpAny_askSetting (wpAny_ite ?_))
  split
  · first
      | exact wpAny_bind (wpAny_pure (wpAny_pure ⟨rfl, h0⟩))
      | exact wpAny_pure ⟨rfl, h0⟩
  · refine wpAny_bind (wpAny_rule ?_)
    show wpAny _ _ (standAt i1.pos >>= _) _ _ s
    exact wpAny_bind (wpAny_standAt (wpAny_bind (offE h fun j s' h' => wpAny_pure ⟨rfl, h'⟩)))
end
section
variable {X : Cx}
/-- {k: v for tg in iter if .. for tg1 in iter1 if ..}: D the new dict; behind the first clause the second one's own loop, from which Nx is reached -/
def tDc2 (wi : TI) (g : TG) (tt : TT) (wi1 : TI) (g1 : TG) (tt1 : TT) (tk tv : TE) (vs vs1 : List Nat) : TE := fun σ H Q => wi σ H fun J H1 => ∀ D, H1 D = none → ∃ W : Nat → Nat → Hp → Prop, (∃ m, W 0 m (upd H1 D (.dK []))) ∧ ∀ i m H, W i m H →
  (J.stop i H ∧ Q (.ref D) H) ∨ (J.go i H ∧ ∃ Nx : Hp → Prop, (∀ H', Nx H' → ∃ m', m' < m ∧ W (i + 1) m' H') ∧ ∀ x H', J.yld i H x H' → g x (wipe σ vs) H' fun σ2 H2 => wipe σ2 vs = wipe σ vs ∧ tt σ2 H2 fun b H3 =>
    if b = true then wi1 σ2 H3 fun J1 H4 => ∃ W1 : Nat → Nat → Hp → Prop, (∃ m, W1 0 m H4) ∧ ∀ j k H, W1 j k H →
      (J1.stop j H ∧ Nx H) ∨ (J1.go j H ∧ ∃ Ny : Hp → Prop, (∀ H', Ny H' → ∃ k', k' < k ∧ W1 (j + 1) k' H') ∧ ∀ x H', J1.yld j H x H' → g1 x (wipe σ2 vs1) H' fun σ3 H5 => wipe σ3 vs1 = wipe σ2 vs1 ∧ tt1 σ3 H5 fun b H6 =>
        if b = true then tk σ3 H6 fun y H7 => tv σ3 H7 fun z H8 => ∃ kvs k, y = kV k ∧ H8 D = some (.dK kvs) ∧ kvs.length < sizeLine ∧ Ny (upd H8 D (.dK (putK kvs k z))) else Ny H6)
    else Nx H3)
/-- what a turn of the loop over fp leaves, from slots that know what the block knew -/
theorem turn_end {P : Program} {w : World} {K : PySem.W.Frag} {tg : Expr} {J : It} {it : Addr} {tn : Nat → Heap → Prop} {Y : Cx} {pins : List (Addr × Obj)} {fp : List Addr} {hp : Heap} {σ0 σ' : L2.St} {H' : Hp} {s' : Shared} {i : Nat}
    (T : Turn P w K tg J fp it tn) (st : tn (i + 1) hp) (I' : Inv Y (pins ++ pinsAt fp hp) σ' H' s') (hl : σ0.length = σ'.length) (hk : ∀ (j : Nat) v, σ0[j]? = some (some v) → σ'[j]? = some (some v)) :
    Inv Y pins σ0 H' s' ∧ tn (i + 1) s'.heap ∧ ∀ b ∈ fp, H' b = none := by
  have pin : ∀ b ∈ fp, ∀ o, hp.get? b = some o → s'.heap.get? b = some o ∧ H' b = none := fun b hb o e =>
    let z := I'.pin (b, o) (List.mem_append_right _ (List.mem_append_right _ (mem_pinsAt hb e)))
    ⟨z.1, z.2.1⟩
  refine ⟨I'.unpinned.weak hl hk, T.keep _ _ _ st fun b hb o e => (pin b hb o e).1, fun b hb => ?_⟩
  obtain ⟨o, e, _⟩ := T.obj _ _ st b hb
  exact (pin b hb o e).2
theorem dc2_core {pins : List (Addr × Obj)} {s : Shared} {σ : L2.St} {H : Hp} {Q : VK} {kx vx tg iter tg1 iter1 : Expr} {ifs ifs1 : List Expr} {scope : Scope} {own : List (Str × Nat)} {vs1 : List Nat} {pos pos' : Pos} {wi wi1 : TI} {g g1 : TG} {tt tt1 : TT} {tk tv : TE} {use : Option (Value → Sem Unit)} {Qf : Value → Shared → Prop}
    (hc : X.calm = true) (hN : X.N.Nodup) (I : Inv X pins σ H s) (hi : PI X tg iter wi) (ok : BlkOk X.N X.env.scope scope own) (hv : ∀ i ∈ vs1, i ∈ own.map (·.2))
    (all : ∀ (s : Shared) (H : Hp) (C : Addr) (cl : List (Str × Addr)) (fp : List Addr), PG (X.blk s H scope (compEnvC scope cl C X.env) fp) tg g ∧ PTs (X.blk s H scope (compEnvC scope cl C X.env) fp) ifs tt ∧ PI (X.blk s H scope (compEnvC scope cl C X.env) fp) tg1 iter1 wi1 ∧ PG (X.blk s H scope (compEnvC scope cl C X.env) fp) tg1 g1 ∧
      PTs (X.blk s H scope (compEnvC scope cl C X.env) fp) ifs1 tt1 ∧ PE (X.blk s H scope (compEnvC scope cl C X.env) fp) kx tk ∧ PE (X.blk s H scope (compEnvC scope cl C X.env) fp) vx tv)
    (hs : ∀ x, foldedSetIterable iter X.env x = pure x) (hs1 : ∀ env x, foldedSetIterable iter1 env x = pure x) (h : tDc2 wi g tt wi1 g1 tt1 tk tv (own.map (·.2)) vs1 σ H Q)
    (hRR : ∀ D C s' m H', Inv X pins σ H' s' → Q (.ref D) H' → s'.heap.Ns C m → FpOk X pins H' C → compPost (model X.prog X.w) X.A X.xe use Qf (.ref D) C (.ok .next) s') :
    wpAny (model X.prog X.w) X.A (comprehension (dc2 kx vx tg iter tg1 iter1 ifs ifs1 scope pos) scope X.env pos' newDict false (eval iter X.env) use) Qf X.xe s := by
  have hfree : ∀ y ∈ scope.names, y.2 = .free → ∃ c, X.env.cells.lookup y.1 = some c := fun y hy e => (ok.free y hy e).elim (fun k => I.ok.has _ (.inl k)) fun k => I.ok.has _ (.inr k)
  refine wpAny_comprehension_free (use := use) rfl hs (closure_ok hfree) ok.kind (fun y hy e => by rw [ok.uniq y hy, e]) (thn (hi.run pins s σ H _ I h) fun xv s1 hx => thn hx fun itv s2 h2 => ?_)
  obtain ⟨it, fp, tn, J, H2, e, I2, T, st2, f2, q⟩ := h2
  subst e
  refine wpAny_newObj_type (newEnv_comp ?_)
  generalize hD : s2.heap.objs.size = D
  have nD : H2 D = none := I2.hok.fresh (Nat.le_of_eq hD)
  obtain ⟨W, ⟨m0, w0⟩, turn⟩ := q D nD
  generalize e3 : ({ s2 with heap := s2.heap.push { cls := .type "dict", data := .dict #[] } } : Shared) = s3
  have h3 : s3.heap = s2.heap.push { cls := .type "dict", data := .dict #[] } := by rw [← e3]
  have I3 : Inv X pins σ (upd H2 D (.dK [])) s3 := by
    rw [← e3]
    refine I2.laid (t' := s2.toks) (fun b o e => Heap.get?_push_of_some _ e) (Nat.le_of_eq hD) ?_
    rw [← hD]
    exact dk_empty s2.heap I2.big
  have f3 : ∀ b ∈ fp, FpOk X pins (upd H2 D (.dK [])) b ∧ b < s3.heap.objs.size := fun b hb => by
    obtain ⟨o, e, _⟩ := T.obj _ _ st2 b hb
    have lt := Heap.lt_size e
    refine ⟨⟨?_, (f2 b hb).2⟩, by rw [h3, Heap.size_push]; exact Nat.lt_succ_of_lt lt⟩
    rw [upd_ne (by rw [← hD]; exact Nat.ne_of_lt lt)]
    exact (f2 b hb).1
  have I4 := block_start I3 ok hN f3
  obtain ⟨pg, pt, pi1, pg1, pt1, pk, pe⟩ := all s3 (upd H2 D (.dK [])) s3.heap.objs.size (cellsFrom (s3.heap.objs.size + 1) scope.names (cloFrom X.env.cells scope.names [])) fp
  show codeAny _ _ (.compStart (dc2 kx vx tg iter tg1 iter1 ifs ifs1 scope pos) 0 (.ref it) (.ref D) (compEnvC scope (cellsFrom (s3.heap.objs.size + 1) scope.names (cloFrom X.env.cells scope.names [])) s3.heap.objs.size X.env)) (compPost (model X.prog X.w) X.A X.xe use Qf (.ref D) s3.heap.objs.size) { s3 with heap := pushCells (s3.heap.push { cls := .type "dict", data := .dict #[] }) scope.names }
  generalize hce : compEnvC scope (cellsFrom (s3.heap.objs.size + 1) scope.names (cloFrom X.env.cells scope.names [])) s3.heap.objs.size X.env = ce at I4 pg pt pk pe pi1 pg1 pt1 ⊢
  have cL : ce.locals = s3.heap.objs.size := by subst hce; rfl
  generalize hH3 : upd H2 D (.dK []) = H3 at I3 I4 pg pt pk pe pi1 pg1 pt1 w0 f3
  generalize e4 : ({ s3 with heap := pushCells (s3.heap.push { cls := .type "dict", data := .dict #[] }) scope.names } : Shared) = s4 at I4 ⊢
  have st4 : tn 0 s4.heap := T.keep _ _ _ st2 fun b _ o e => by
    rw [← e4]
    refine pushCells_keeps _ _ _ _ (Heap.get?_push_of_some _ ?_)
    rw [h3]
    exact Heap.get?_push_of_some _ e
  have stat : ∀ {σ' : L2.St} {H' : Hp} {s' : Shared}, Inv (X.blk s3 H3 scope ce fp) [] σ' H' s' → (∀ b ∈ fp, H' b = none) → ∀ b ∈ fp, FpOk (X.blk s3 H3 scope ce fp) [] H' b := fun {σ' H' s'} I' hn b hb =>
    ⟨hn b hb, (I'.ok.exf b hb).1, I'.ok.exfs b hb, .inl hb, fun x c e => (I'.ok.exf b hb).2 x c e, fun p hp => absurd (show p ∈ ([] : List (Addr × Obj)) ++ [] from hp) (by simp)⟩
  have loop : codeAny (model X.prog X.w) X.A (.compLoop (dc2 kx vx tg iter tg1 iter1 ifs ifs1 scope pos) 0 (.ref it) (.ref D) ce) (compPost (model X.prog X.w) X.A X.xe use Qf (.ref D) s3.heap.objs.size) s4 := by
    refine dc2_outer (hs1 ce) (fun n s' => ∃ i H', Inv (X.blk s3 H3 scope ce fp) [] (wipe σ (own.map (·.2))) H' s' ∧ tn i s'.heap ∧ (∀ b ∈ fp, H' b = none) ∧ W i n H') ?_ m0 ⟨0, H3, I4, st4, fun b hb => (f3 b hb).1.1, w0⟩
    rintro n s5 ⟨i, H5, I5, st5, n5, w5⟩
    rcases turn i n H5 w5 with ⟨stop, qq⟩ | ⟨go, Nx, hNx, step⟩
    · refine thnF (T.done (X.blk s3 H3 scope ce fp) rfl rfl rfl hc i [] s5 _ H5 NoE I5 (stat I5 n5) st5 stop) fun r s6 ⟨hr, I6⟩ => ?_
      subst hr
      have I7 : Inv X pins σ H5 s6 := I3.call' (ch := fp) I6.os I6.base I6.hok I6.bare fun b hb => ⟨(f3 b hb).1.2.2.2.1, (f3 b hb).1.2.1, (f3 b hb).1.2.2.2.2.1, (f3 b hb).1.2.2.2.2.2⟩
      have nC : H5 s3.heap.objs.size = none := by
        rw [← cL]
        exact I6.free
      obtain ⟨m, hn, _⟩ := I6.loc
      have hn : s6.heap.Ns s3.heap.objs.size m := by
        rw [← cL]
        exact hn
      exact hRR D s3.heap.objs.size s6 m H5 I7 qq hn (I3.fpOk (Nat.le_refl _) nC)
    · refine thnF (T.item (X.blk s3 H3 scope ce fp) rfl rfl rfl hc i [] s5 _ H5 NoE I5 (stat I5 n5) st5 go) fun r s6 ⟨u, hr, h6⟩ => ?_
      subst hr
      refine thnF h6 fun _ s7 ⟨x, H7, I7, r7, y7, st7, n7⟩ => ?_
      have J7 := I7.pinned (stat I7 n7) (T.obj _ _ st7)
      refine thnF (pg.run _ s7 _ H7 x u _ J7 r7 (step x H7 y7)) fun _ s8 ⟨σ8, H8, I8, hw8, q8⟩ => ?_
      refine thnF (pt.run _ s8 σ8 H8 _ I8 q8) fun b s9 ⟨H9, I9, q9⟩ => ?_
      have fin : ∀ {σ9 : L2.St} {s' : Shared} {H' : Hp}, Inv (X.blk s3 H3 scope ce fp) ([] ++ pinsAt fp s7.heap) σ9 H' s' → (wipe σ (own.map (·.2))).length = σ9.length → (∀ (j : Nat) v, (wipe σ (own.map (·.2)))[j]? = some (some v) → σ9[j]? = some (some v)) → Nx H' →
          ∃ m, m < n ∧ ∃ i H', Inv (X.blk s3 H3 scope ce fp) [] (wipe σ (own.map (·.2))) H' s' ∧ tn i s'.heap ∧ (∀ b ∈ fp, H' b = none) ∧ W i m H' := fun {σ9 s' H'} I' hl hk nx => by
        obtain ⟨m', hm, w'⟩ := hNx H' nx
        obtain ⟨a1, a2, a3⟩ := turn_end T st7 I' hl hk
        exact ⟨m', hm, i + 1, H', a1, a2, a3, w'⟩
      have l8 : (wipe σ (own.map (·.2))).length = σ8.length := by rw [← hw8, wipe_length]
      have k8 : ∀ (j : Nat) v, (wipe σ (own.map (·.2)))[j]? = some (some v) → σ8[j]? = some (some v) := fun j v e => by
        rw [← hw8] at e
        exact (wipe_some e).1
      have k9 : ∀ (j : Nat) v, (wipe σ (own.map (·.2)))[j]? = some (some v) → (wipe σ8 vs1)[j]? = some (some v) := fun j v e => by
        rw [← hw8] at e
        obtain ⟨a1, a2⟩ := wipe_some e
        rw [wipe_out fun z => a2 (hv j z)]
        exact a1
      cases b with
      | false =>
        simp only [Bool.false_eq_true, if_false] at q9 ⊢
        exact fin I9 l8 k8 q9
      | true =>
        simp only [if_true] at q9 ⊢
        refine thnF (pi1.run _ s9 σ8 H9 _ I9 q9) fun xv s10 hx => thnF hx fun itv s11 h11 => ?_
        obtain ⟨it1, fp1, tn1, J1, H11, a1, I11, T1, st11, f11, W1, ⟨m1, w1⟩, turn1⟩ := h11
        subst a1
        have stat1 : ∀ {H' : Hp}, (∀ b ∈ fp1, H' b = none) → ∀ b ∈ fp1, FpOk (X.blk s3 H3 scope ce fp) ([] ++ pinsAt fp s7.heap) H' b := fun hn b hb => ⟨hn b hb, (f11 b hb).2⟩
        have loop1 : codeAny (model X.prog X.w) X.A (.compLoop (dc2 kx vx tg iter tg1 iter1 ifs ifs1 scope pos) 1 (.ref it1) (.ref D) ce)
            (fun r s' => (∃ f, r = .ok f) ∧ ∃ m, m < n ∧ ∃ i H', Inv (X.blk s3 H3 scope ce fp) [] (wipe σ (own.map (·.2))) H' s' ∧ tn i s'.heap ∧ (∀ b ∈ fp, H' b = none) ∧ W i m H') s11 := by
          refine dc2_inner (fun k s' => ∃ j H', Inv (X.blk s3 H3 scope ce fp) ([] ++ pinsAt fp s7.heap) (wipe σ8 vs1) H' s' ∧ tn1 j s'.heap ∧ (∀ b ∈ fp1, H' b = none) ∧ W1 j k H') ?_ m1 ⟨0, H11, I11.weak (wipe_length _ _) (fun j v e => (wipe_some e).1), st11, fun b hb => (f11 b hb).1, w1⟩
          rintro k s12 ⟨j, H12, I12, st12, n12, w12⟩
          rcases turn1 j k H12 w12 with ⟨stop1, nx1⟩ | ⟨go1, Ny, hNy, step1⟩
          · refine thnF (T1.done (X.blk s3 H3 scope ce fp) rfl rfl rfl hc j _ s12 (wipe σ8 vs1) H12 NoE I12 (stat1 n12) st12 stop1) fun r s13 ⟨hr, I13⟩ => ?_
            subst hr
            exact ⟨⟨_, rfl⟩, fin I13 (l8.trans (wipe_length σ8 vs1).symm) k9 nx1⟩
          · refine thnF (T1.item (X.blk s3 H3 scope ce fp) rfl rfl rfl hc j _ s12 (wipe σ8 vs1) H12 NoE I12 (stat1 n12) st12 go1) fun r s13 ⟨u1, hr, h13⟩ => ?_
            subst hr
            refine thnF h13 fun _ s14 ⟨x1, H14, I14, r14, y14, st14, n14⟩ => ?_
            have J14 := I14.pinned (stat1 n14) (T1.obj _ _ st14)
            refine thnF (pg1.run _ s14 (wipe σ8 vs1) H14 x1 u1 _ J14 r14 (step1 x1 H14 y14)) fun _ s15 ⟨σ15, H15, I15, hw15, q15⟩ => ?_
            refine thnF (pt1.run _ s15 σ15 H15 _ I15 q15) fun b1 s16 ⟨H16, I16, q16⟩ => ?_
            have fin1 : ∀ {s' : Shared} {H' : Hp}, Inv (X.blk s3 H3 scope ce fp) (([] ++ pinsAt fp s7.heap) ++ pinsAt fp1 s14.heap) σ15 H' s' → Ny H' → ∃ m, m < k ∧ ∃ j H', Inv (X.blk s3 H3 scope ce fp) ([] ++ pinsAt fp s7.heap) (wipe σ8 vs1) H' s' ∧ tn1 j s'.heap ∧ (∀ b ∈ fp1, H' b = none) ∧ W1 j m H' := fun {s' H'} I' nx => by
              obtain ⟨m', hm, w'⟩ := hNy H' nx
              obtain ⟨a1, a2, a3⟩ := turn_end (σ0 := wipe σ8 vs1) T1 st14 I' (by rw [← hw15, wipe_length]) fun j v e => by rw [← hw15] at e; exact (wipe_some e).1
              exact ⟨m', hm, j + 1, H', a1, a2, a3, w'⟩
            cases b1 with
            | false =>
              simp only [Bool.false_eq_true, if_false] at q16 ⊢
              exact fin1 I16 q16
            | true =>
              simp only [if_true] at q16 ⊢
              refine thnF (pk.run _ s16 σ15 H16 _ I16 q16) fun z s17 ⟨yk, H17, I17, r17, q17⟩ => ?_
              refine thnF (pe.run _ s17 σ15 H17 _ I17 q17) fun z2 s18 ⟨yv, H18, I18, r18, kvs, kk, ek, hD18, hz, nx⟩ => ?_
              subst ek
              exact d_dictSet (X := X.blk s3 H3 scope ce fp) I18 hD18 hz r17 r18 fun s19 I19 => fin1 I19 nx
        exact dc2_begin loop1 (T1.self X.A 0 _ _ _ st11 loop1)
  exact codeAny_compStart_dict loop (T.self X.A 0 _ _ _ st4 loop)
theorem pe_dc2 {kx vx tg iter tg1 iter1 : Expr} {ifs ifs1 : List Expr} {scope : Scope} {own : List (Str × Nat)} {vs1 : List Nat} {pos : Pos} {wi wi1 : TI} {g g1 : TG} {tt tt1 : TT} {tk tv : TE} (hc : X.calm = true) (hN : X.N.Nodup) (hi : PI X tg iter wi) (ok : BlkOk X.N X.env.scope scope own) (hv : ∀ i ∈ vs1, i ∈ own.map (·.2))
    (all : ∀ (s : Shared) (H : Hp) (C : Addr) (cl : List (Str × Addr)) (fp : List Addr), PG (X.blk s H scope (compEnvC scope cl C X.env) fp) tg g ∧ PTs (X.blk s H scope (compEnvC scope cl C X.env) fp) ifs tt ∧ PI (X.blk s H scope (compEnvC scope cl C X.env) fp) tg1 iter1 wi1 ∧ PG (X.blk s H scope (compEnvC scope cl C X.env) fp) tg1 g1 ∧
      PTs (X.blk s H scope (compEnvC scope cl C X.env) fp) ifs1 tt1 ∧ PE (X.blk s H scope (compEnvC scope cl C X.env) fp) kx tk ∧ PE (X.blk s H scope (compEnvC scope cl C X.env) fp) vx tv)
    (hs : ∀ x, foldedSetIterable iter X.env x = pure x := by intro _; rfl) (hs1 : ∀ env x, foldedSetIterable iter1 env x = pure x := by intro _ _; rfl) : PE X (dc2 kx vx tg iter tg1 iter1 ifs ifs1 scope pos) (tDc2 wi g tt wi1 g1 tt1 tk tv (own.map (·.2)) vs1) := by
  refine ⟨fun pins s σ H Q I h => ?_⟩
  rw [arm_eval_DictComp]
  refine dc2_core hc hN I hi ok hv all hs hs1 h fun D C s' m H' I' q hn f => ⟨m, hn, fun h'' sb => ?_⟩
  obtain ⟨f0, f1, f2, f3, f4, f5⟩ := f
  exact ⟨.ref D, H', I'.turned (t' := s'.toks) (fun b o hb e => (sb.2 b hb).trans e) f0 f1 f3 f4 f5, rfl, q⟩
theorem sw_dict {kx vx : Expr} {gs : List Comprehension} {scope : Scope} {pos py : Pos} {y : Str} {l : Nat} {env : Env} (hk : env.scope.kind = .function) (hy : env.scope.names.lookup y = some .local) (hl : (py.line == pos.line) = true)
    (ha : (scope.names.any fun (n, k) => n == y && (k == .local || k == .cell)) = false) : swapsWith (.DictComp kx vx gs scope pos) (some (.Name y py)) l env = pure true := by
  have ky : env.kindOf y = some .local := hy
  have hb : env.blockKind = .function := by unfold Env.blockKind; rw [hk]; rfl
  unfold swapsWith
  simp only [hb, ky, ha, Expr.pos, hl]
  rfl
/-- name = {.. for .. for ..} on one line, the name a local -/
theorem ps_setDc2 {i : Nat} {y : Str} {py : Pos} {kx vx tg iter tg1 iter1 : Expr} {ifs ifs1 : List Expr} {scope : Scope} {own : List (Str × Nat)} {vs1 : List Nat} {pos spos : Pos} {wi wi1 : TI} {g g1 : TG} {tt tt1 : TT} {tk tv : TE} (hc : X.calm = true) (hN : X.N.Nodup) (hy : X.N[i]? = some y) (hyl : X.env.scope.names.lookup y = some .local)
    (hsw : swapsWith (dc2 kx vx tg iter tg1 iter1 ifs ifs1 scope pos) (some (.Name y py)) spos.line X.env = pure true) (hi : PI X tg iter wi) (ok : BlkOk X.N X.env.scope scope own) (hv : ∀ i ∈ vs1, i ∈ own.map (·.2))
    (all : ∀ (s : Shared) (H : Hp) (C : Addr) (cl : List (Str × Addr)) (fp : List Addr), PG (X.blk s H scope (compEnvC scope cl C X.env) fp) tg g ∧ PTs (X.blk s H scope (compEnvC scope cl C X.env) fp) ifs tt ∧ PI (X.blk s H scope (compEnvC scope cl C X.env) fp) tg1 iter1 wi1 ∧ PG (X.blk s H scope (compEnvC scope cl C X.env) fp) tg1 g1 ∧
      PTs (X.blk s H scope (compEnvC scope cl C X.env) fp) ifs1 tt1 ∧ PE (X.blk s H scope (compEnvC scope cl C X.env) fp) kx tk ∧ PE (X.blk s H scope (compEnvC scope cl C X.env) fp) vx tv)
    (hs : ∀ x, foldedSetIterable iter X.env x = pure x := by intro _; rfl) (hs1 : ∀ env x, foldedSetIterable iter1 env x = pure x := by intro _ _; rfl) : PS X (.Assign [.Name y py] (dc2 kx vx tg iter tg1 iter1 ifs ifs1 scope pos) spos) (tAsg (tDc2 wi g tt wi1 g1 tt1 tk tv (own.map (·.2)) vs1) (gName i)) := by
  refine ⟨fun pins s σ H D I h => ?_⟩
  rw [exec_Assign_Name_used _ _ _ _ hsw]
  refine wpAny_bind (wpAny_standAt (wpAny_bind ?_))
  show wpAny _ X.A (do let _ ← comprehension (dc2 kx vx tg iter tg1 iter1 ifs ifs1 scope pos) scope X.env (firstIterPos [⟨tg, iter, ifs, 0⟩, ⟨tg1, iter1, ifs1, 0⟩] pos) newDict false (eval iter X.env) (some (assign (.Name y py) X.env))) _ _ s
  have h : tDc2 wi g tt wi1 g1 tt1 tk tv (own.map (·.2)) vs1 σ H (fun x H1 => gName i x σ H1 D.nx) := h
  refine wpAny_bind (thn (dc2_core (Qf := fun _ s' => SP X pins D .next s') hc hN I hi ok hv all hs hs1 h fun L C s' m H' I' q hn f => ?_) fun _ s' hq => wpAny_pure (wpAny_pure hq))
  show wpAny _ _ (assign (.Name y py) X.env (.ref L)) _ _ _
  obtain ⟨f0, f1, f2, f3, f4, f5⟩ := f
  refine wpAny_assign_Name (store_ok2 (v := V.ref L) I' hN hy (.inl hyl) rfl (fun s2 I2 ⟨a, sb, ha⟩ => ⟨m, hn.sameBut sb (fun z => ?_), fun h3 sb3 => ⟨_, H', I2.turned (t' := s2.toks) (fun b o hb e => (sb3.2 b hb).trans e) f0 f1 f3 f4 f5, q⟩⟩) (.inr hyl))
  rcases ha with e | e
  · exact f1 (z.trans e)
  · exact f4 y a e z.symm
end
end Ts

set_option Elab.async false
set_option linter.all false
set_option maxRecDepth 100000
set_option maxHeartbeats 4000000
/-! Own rules 3: lists against the empty one; repr; repr(sorted(d.items())). -/
namespace Ts
open PySem PySem.Spec PyProof.Rows L2
section
variable {X : Cx}
/-- a list against an empty one -/
theorem op_neNil (hu : X.A.units + 64 < cLine) : OpR X (compareOp .NotEq) (fun x y H Q => ∃ a b xs, x = .ref a ∧ y = .ref b ∧ SqL X.K H a xs ∧ SqL X.K H b [] ∧ Q (.bl (!xs.isEmpty)) H) := by
  intro pins s σ H x y v u Q I rx ry h
  obtain ⟨a, b, xs, rfl, rfl, ha, hb, q⟩ := h
  cases rx
  cases ry
  obtain ⟨its, rv, p, _⟩ := I.list ha
  obtain ⟨jts, rw', p', _⟩ := I.list hb
  cases rw'
  cases xs with
  | nil =>
    cases rv
    have z := SeqAt.RcNeAt.lists (A := X.A) (e := fun _ => true) p.isList p'.isList rfl (by omega) (fun i hi => absurd hi (by simp))
    exact z X.prog X.w _ _ ⟨.bl false, H, I, rfl, q⟩
  | cons x r =>
    cases rv with
    | cons r1 r2 =>
      have z := SeqAt.RcNeAt.lists_lengths (A := X.A) p.isList p'.isList (by simp) (by omega)
      exact z X.prog X.w _ _ ⟨.bl true, H, I, rfl, q⟩
theorem op_eqNil (hu : X.A.units + 64 < cLine) : OpR X (compareOp .Eq) (fun x y H Q => ∃ a b xs, x = .ref a ∧ y = .ref b ∧ SqL X.K H a xs ∧ SqL X.K H b [] ∧ Q (.bl xs.isEmpty) H) := by
  intro pins s σ H x y v u Q I rx ry h
  obtain ⟨a, b, xs, rfl, rfl, ha, hb, q⟩ := h
  cases rx
  cases ry
  obtain ⟨its, rv, p, _⟩ := I.list ha
  obtain ⟨jts, rw', p', _⟩ := I.list hb
  cases rw'
  cases xs with
  | nil =>
    cases rv
    have z := SeqAt.RcAt.lists (A := X.A) (e := fun _ => true) p.isList p'.isList rfl (by omega) (fun i hi => absurd hi (by simp))
    exact z X.prog X.w _ _ ⟨.bl true, H, I, rfl, q⟩
  | cons x r =>
    cases rv with
    | cons r1 r2 =>
      have z := SeqAt.RcAt.lists_lengths (A := X.A) p.isList p'.isList (by simp) (by omega)
      exact z X.prog X.w _ _ ⟨.bl false, H, I, rfl, q⟩
/-- repr of a bool -/
theorem cr_reprB : CallR X (.builtin "repr") (fun xs H Q => ∃ b, xs = [.bl b] ∧ Q (.str (if b then "True" else "False")) H) := by
  intro pins s σ H xs us Q I r h
  obtain ⟨b, rfl, q⟩ := h
  obtain ⟨u, rfl, ru⟩ := vals1 r
  obtain rfl : u = Value.bool b := ru
  refine PySem.P.repr_of_bool ?_
  exact ⟨.str (if b then ("True" : Str) else "False"), H, I.tok _, ⟨_, rfl⟩, q⟩
/-! ### repr(sorted(d.items())) -/
def pyP (p : Int × Str) : PyData := .tuple [.int p.1, .str p.2]
def kvP (p : Int × Str) : Key × V := (Sum.inl p.1, .str p.2)
def sortedP (ps : List (Int × Str)) : List (Int × Str) := ps.mergeSort (PySem.W.dataLe false pyP)
def itemsText (ps : List (Int × Str)) : Str := (PyData.list ((sortedP ps).map pyP)).shown
theorem each_ix {α β : Type} {R : α → β → Prop} : ∀ {l : List α} {m : List β}, l.length = m.length → (∀ (j : Nat) a b, l[j]? = some a → m[j]? = some b → R a b) → PySem.W.EachIs R l m
  | [], [], _, _ => .nil
  | [], _ :: _, h, _ => by cases h
  | _ :: _, [], h, _ => by cases h
  | a :: l, b :: m, h, k => .cons (k 0 a b rfl rfl) (each_ix (Nat.succ.inj h) fun j x y e1 e2 => k (j + 1) x y e1 e2)
theorem reads_all {h : Heap} {β : Type} {enc : β → PyData} : ∀ {vs : List Value} {bs : List β}, PySem.W.EachIs (fun v b => ∃ as, Reads h v (enc b) as) vs bs → ∃ as, ReadsAll h vs (bs.map enc) as
  | _, _, .nil => ⟨_, ReadsAll.nil⟩
  | _, _, .cons ⟨as, r⟩ t => by
    obtain ⟨bs, q⟩ := reads_all t
    exact ⟨_, ReadsAll.cons r q⟩
theorem alike_P (ps : List (Int × Str)) : PySem.W.AllAlike (ps.map pyP) := fun d hd e he => by
  obtain ⟨p, _, rfl⟩ := List.mem_map.mp hd
  obtain ⟨q, _, rfl⟩ := List.mem_map.mp he
  rfl
theorem sortable_P (ps : List (Int × Str)) : PySem.W.Sortable (ps.map pyP) := .inl fun d hd => by
  obtain ⟨p, _, rfl⟩ := List.mem_map.mp hd
  exact ⟨_, _, rfl⟩
theorem nodict_P : ∀ ps : List (Int × Str), PyData.hasDictAll (ps.map pyP) = false
  | [] => rfl
  | p :: ps => by
    show (PyData.hasDict (pyP p) || PyData.hasDictAll (ps.map pyP)) = false
    rw [nodict_P ps]
    rfl
theorem depth_P : ∀ ps : List (Int × Str), PyData.depthAll (ps.map pyP) ≤ 8
  | [] => by decide
  | p :: ps => by
    have h := depth_P ps
    show max (PyData.depth (pyP p)) (PyData.depthAll (ps.map pyP)) ≤ 8
    have : PyData.depth (pyP p) ≤ 8 := by
      show PyData.depth (.tuple [.int p.1, .str p.2]) ≤ 8
      simp [PyData.depth, PyData.depthAll]
    omega
def tReprItems (te : TE) : TE := fun σ H Q => te σ H fun x H1 => ∃ d ps, x = .ref d ∧ H1 d = some (.dK (ps.map kvP)) ∧ ps.length ≤ 63 ∧ (PyData.list ((sortedP ps).map pyP)).showable = true ∧ (itemsText ps).length ≤ sizeLine ∧ Q (.str (itemsText ps)) H1
theorem pe_reprItems {e : Expr} {te : TE} {p1 p2 apos cpos q1 q2 : Pos} (hg : X.A.guards = some []) (hu : X.A.units + 100 < cLine) (hc : X.calm = true) (he : PE X e te) (hr : Gl X "repr") (mr : X.mg "repr" = none) (ho : Gl X "sorted") (mo : X.mg "sorted" = none)
    (vr : bootBuiltins "repr" = some (.builtin "repr")) (vo : bootBuiltins "sorted" = some (.builtin "sorted")) (hbase : attributeBase e "items" X.env (eval e X.env) = eval e X.env := by rfl) (hline : (apos.endLine == cpos.line) = true := by rfl) :
    PE X (.Call (.Name "repr" p1) [.Call (.Name "sorted" p2) [.Call (.Attribute e "items" apos) [] [] cpos] [] q2] [] q1) (tReprItems te) := by
  refine ⟨fun pins s σ H Q I h => ?_⟩
  refine wpAny_Call_Name_kw (ld_blt I hr mr vr ?_)
  refine PyProof.Rows.callWith_builtin1 (e := .Call (.Name "sorted" p2) [.Call (.Attribute e "items" apos) [] [] cpos] [] q2) (rest := []) ?_ rfl rfl
  refine Calls.spliced_cons ?_
  refine wpAny_Call_Name_kw (ld_blt I ho mo vo ?_)
  refine PyProof.Rows.callWith_builtin1 (e := .Call (.Attribute e "items" apos) [] [] cpos) (rest := []) ?_ rfl rfl
  refine Calls.spliced_cons ?_
  refine wpAny_Call_method (T := "dict") (id := "dict.items") hbase rfl hline F.plainAttrs_dict F.slot_dict_items F.type_dict_items (thn (he.run pins s σ H _ I h) fun u s1 ⟨x, H1, I1, rx, d, ps, ex, hd, h63, hsh, hsz, q⟩ => ?_)
  subst ex
  obtain rfl : u = Value.ref d := rx
  obtain ⟨hz, hs0, vs, kv, hdo⟩ := I1.hok d _ hd
  have tyd := hdo.typeIs
  have nod := hdo.mapOf.noDict
  refine ⟨tyd, nod, ?_⟩
  show wpAny _ _ (callWith cpos (.builtin "dict.items") [.ref d] [] []) _ X.xe s1
  refine method_meetsIn F.slot_dict_items F.entry_dict_items rfl (PySem.evalArgs_none ⟨rfl, tyd, F.args_dict_items_1 _, _, meets_dict_items (mixKind X.prog X.w) d hs0, ⟨vs, hdo⟩, ?_⟩)
  refine Calls.spliced_nil ?_
  obtain ⟨o, es, ep, ho1, hc1, hd1, hk1, hp1, hn1⟩ := hdo
  have lk : ps.length = vs.length := by
    have := Paired.length kv
    rwa [List.length_map] at this
  have le : es.size = ps.length := by
    rw [lk, ← hp1.length]
    simp
  refine DT.sortedI (es := es) (ep := ep) (d := d) (I1.ok.hd hc) ⟨_, Heap.get?_push_size _ rfl, rfl, rfl⟩ ⟨o, Heap.get?_push_of_some _ ho1, hc1, hd1⟩ (by rw [le, sizeLine_eq]; omega) fun h' tk as hk hlt hl hG => ?_
  have k0 : ∀ b o, s1.heap.get? b = some o → h'.get? b = some o := fun b o z => hk b o (Heap.get?_push_of_some _ z)
  have las : as.length = ps.length := by omega
  have hob : (h'.push { cls := .type "list", data := .seq (as.map Value.ref).toArray }).get? h'.objs.size = some (seqObj "list" (as.map Value.ref).toArray 0) := Heap.get?_push_size _ rfl
  have there : ∀ (j : Nat) v (p : Int × Str), (as.map Value.ref)[j]? = some v → ps[j]? = some p → ∃ (t : Addr) (k1 k2 : Tok), v = .ref t ∧ h'.get? t = some { cls := .type "tuple", data := .seq #[.int p.1 k1, .str p.2 k2] } := fun j v p e1 e2 => by
    rw [List.getElem?_map] at e1
    obtain ⟨t, et, rfl⟩ := Option.map_eq_some_iff.mp e1
    obtain ⟨en, e3, e4⟩ := hG.pairs j t et
    have e5 : (ps.map kvP)[j]? = some (kvP p) := by rw [List.getElem?_map, e2]; rfl
    obtain ⟨kw', e6, e7, e8⟩ := LiI.paired_get kv e5
    obtain ⟨k, w0⟩ := kw'
    obtain ⟨a1, a2⟩ := hp1.get? (e := en) (by simpa using e3) e6
    have e7 : (Sum.inl p.1 : Key) = k := e7
    subst e7
    obtain ⟨k1, b1⟩ := Value.isInt_shape (k := p.1) (v := en.key) a1
    obtain ⟨k2, b2⟩ := (show ∃ t, w0 = Value.str p.2 t from e8)
    exact ⟨t, k1, k2, rfl, by rw [e4, b1, a2, b2]⟩
  have ntup : ∀ (t : Addr) u, h'.get? t = some u → t ≠ h'.objs.size := fun t u e => Nat.ne_of_lt (Heap.lt_size e)
  have reads2 : ∀ (h2 : Heap) (t : Addr) (k1 k2 : Tok) (p : Int × Str), h2.get? t = some { cls := .type "tuple", data := .seq #[.int p.1 k1, .str p.2 k2] } → Reads h2 (.ref t) (pyP p) [] := fun h2 t k1 k2 p e =>
    Reads.tuple (vs := #[.int p.1 k1, .str p.2 k2]) e rfl rfl (ReadsAll.cons (Reads.int _ _) (ReadsAll.cons (Reads.str _ _) ReadsAll.nil))
  have big : sizeLine = 16777216 := sizeLine_eq
  refine PySem.W.list_sort_data (R := fun v (p : Int × Str) => ∃ (t : Addr) (k1 k2 : Tok), v = .ref t ∧ h'.get? t = some { cls := .type "tuple", data := .seq #[.int p.1 k1, .str p.2 k2] }) (vs := as.map Value.ref) (bs := ps) (enc := pyP) hob (each_ix (by rw [List.length_map, las]) there)
    (each_ix (by rw [List.length_map, las]) fun j v p e1 e2 => ?_) (alike_P ps) (sortable_P ps) (by omega) (fun p _ => ?_) fun out hlo eo => ?_
  · obtain ⟨t, k1, k2, rfl, e⟩ := there j v p e1 e2
    exact ⟨[], reads2 _ t k1 k2 p (Heap.get?_push_of_some _ e), by simp⟩
  · have : PyData.depth (pyP p) ≤ 8 := by
      show PyData.depth (.tuple [.int p.1, .str p.2]) ≤ 8
      simp [PyData.depth, PyData.depthAll]
    show X.A.units + 1 + 1 + PyData.depth (pyP p) < cLine
    omega
  · obtain ⟨e2, hL⟩ := sortedHeap_at (vs := as.map Value.ref) (out := List.toArray out) hob
    have old : ∀ b u, h'.get? b = some u → (sortedHeap (h'.push { cls := .type "list", data := .seq (as.map Value.ref).toArray }) h'.objs.size (as.map Value.ref) (List.toArray out)).get? b = some u := fun b u e => by
      rw [sortedHeap_old (ntup b u e) (by rw [Heap.size_push]; exact Nat.lt_succ_of_lt (Heap.lt_size e))]
      exact Heap.get?_push_of_some _ e
    generalize sortedHeap (h'.push { cls := .type "list", data := .seq (as.map Value.ref).toArray }) h'.objs.size (as.map Value.ref) (List.toArray out) = h2 at hL old ⊢
    obtain ⟨cs, rr⟩ := reads_all (h := h2) (enc := pyP) (eo.mono fun v p ⟨t, k1, k2, ev, et⟩ => ⟨[], by rw [ev]; exact reads2 _ t k1 k2 p (old t _ et)⟩)
    refine Calls.spliced_nil ?_
    have r0 : Reads h2 (.ref h'.objs.size) (.list ((sortedP ps).map pyP)) (h'.objs.size :: cs) := Reads.list hL rfl rfl (by have z : ReadsAll h2 out ((sortedP ps).map pyP) cs := rr; simpa using z)
    have nd : PyData.hasDict (.list ((sortedP ps).map pyP)) = false := nodict_P _
    have dp : PyData.depth (.list ((sortedP ps).map pyP)) ≤ 9 := by
      have := depth_P (sortedP ps)
      show PyData.depthAll _ + 1 ≤ 9
      omega
    refine repr_of_reads' r0 hsh (PyData.noDict_hsm nd) hg (by omega) (fun _ _ e => e) (fun h3 u tk2 hk3 => ?_) hsz
    exact ⟨.str (itemsText ps), H1, I1.kept fun b u e => hk3 b u (old b u (k0 b u e)), ⟨u, rfl⟩, q⟩
end
end Ts

set_option Elab.async false
set_option linter.all false
set_option maxRecDepth 100000
set_option maxHeartbeats 4000000
/-! Own rules 4: a dict whose keys are tuples of bools: made, setdefault, its items, its keys. -/
namespace Ts
open PySem PySem.Spec PyProof.Rows L2
def kB (bs : List Bool) : List Leaf := bs.map fun b => .num (if b then 1 else 0)
theorem kB_inj : ∀ {a b : List Bool}, kB a = kB b → a = b
  | [], [], _ => rfl
  | [], _ :: _, h => by cases h
  | _ :: _, [], h => by cases h
  | x :: a, y :: b, h => by
    have h : (Leaf.num (if x then 1 else 0)) :: kB a = Leaf.num (if y then 1 else 0) :: kB b := h
    injection h with h1 h2
    rw [kB_inj h2]
    cases x <;> cases y <;> first | rfl | (exfalso; injection h1 with h1; exact absurd h1 (by decide))
abbrev tkB (P : Program) (w : World) : HeapKind P w (List Leaf) := tupleKind (leafKind P w)
/-- rows: the key, its tuple's address, the value, a text -/
abbrev Rws := List (List Bool × Addr × Str)
abbrev RelR (p : List Bool × Addr × Str) (x : List Leaf × Addr × Value) : Prop := x.1 = kB p.1 ∧ x.2.1 = p.2.1 ∧ ∃ t, x.2.2 = Value.str p.2.2 t
def RowsAt (P : Program) (w : World) (d : Addr) (ps : Rws) (h : Heap) : Prop := (d == sysModules) = false ∧ ps.length ≤ 1000 ∧ ∃ xs : List (List Leaf × Addr × Value), Paired RelR ps xs ∧
  ∃ (o : Obj) (es : Array DictEntry) (ep : Nat), h.get? d = some o ∧ o.ExactDict ∧ o.data = .dict es ep ∧ es.toList = xs.map (entryOfKey (tkB P w))
def RowsO (P : Program) (w : World) (d : Addr) (ps : Rws) : HO := .ext (RowsAt P w d ps)
/-- the keys' tuples stand -/
def KeysT (H : Hp) (ps : Rws) : Prop := ∀ p ∈ ps, H p.2.1 = some (.tup (p.1.map V.bl))
theorem rows_stay {P : Program} {w : World} {d : Addr} {ps : Rws} {h h' : Heap} (x : RowsAt P w d ps h) (k : ∀ o, h.get? d = some o → h'.get? d = some o) : RowsAt P w d ps h' :=
  let ⟨a, b, xs, r, o, es, ep, ho, q⟩ := x
  ⟨a, b, xs, r, o, es, ep, k o ho, q⟩
theorem rows_new {P : Program} {w : World} {H : Hp} {d : Addr} {ps : Rws} {h : Heap} (x : RowsAt P w d ps h) : ObjOk P w H h d (RowsO P w d ps) :=
  ⟨x, let ⟨_, _, _, _, o, _, _, ho, _⟩ := x; ⟨o, ho⟩, fun _ _ y k => rows_stay y k⟩
theorem items_B {P : Program} {w : World} : ∀ {bs : List Bool} {its : List Value}, Vals (bs.map V.bl) its → ItemsAre (leafKind P w) (kB bs) its
  | [], _, r => by cases r; exact .nil
  | b :: bs, _, r => by
    cases r with
    | cons r1 r2 =>
      refine .cons ?_ (items_B r2)
      obtain rfl := (show _ = Value.bool b from r1)
      cases b <;> rfl
section
variable {X : Cx} {pins : List (Addr × Obj)} {σ : L2.St} {H : Hp} {s : Shared}
theorem key_B (I : Inv X pins σ H s) {t : Addr} {bs : List Bool} (h : H t = some (.tup (bs.map V.bl))) : (tkB X.prog X.w).is s.heap (kB bs) t := by
  obtain ⟨_, its, r, o, ho, hc, n, hd⟩ := I.hok t _ h
  exact ⟨o, _, n, ho, hc, hd, by simpa using items_B r⟩
theorem rel_mem : ∀ {ps : Rws} {xs : List (List Leaf × Addr × Value)}, Paired RelR ps xs → ∀ x ∈ xs, ∃ p ∈ ps, RelR p x
  | _, _, .cons r t, x, h => by
    rcases List.mem_cons.mp h with rfl | h
    · exact ⟨_, List.mem_cons_self, r⟩
    · obtain ⟨p, hp, q⟩ := rel_mem t x h
      exact ⟨p, List.mem_cons_of_mem _ hp, q⟩
theorem rel_keys : ∀ {ps : Rws} {xs : List (List Leaf × Addr × Value)}, Paired RelR ps xs → xs.map (·.1) = ps.map fun p => kB p.1
  | _, _, .nil => rfl
  | _, _, .cons r t => by rw [List.map_cons, List.map_cons, rel_keys t, r.1]
theorem rel_snoc {p : List Bool × Addr × Str} {x : List Leaf × Addr × Value} (q : RelR p x) : ∀ {ps : Rws} {xs : List (List Leaf × Addr × Value)}, Paired RelR ps xs → Paired RelR (ps ++ [p]) (xs ++ [x])
  | _, _, .nil => .cons q .nil
  | _, _, .cons r t => .cons r (rel_snoc q t)
theorem rows_dict (I : Inv X pins σ H s) {d : Addr} {ps : Rws} (kt : KeysT H ps) (nd : (ps.map (·.1)).Nodup) {xs : List (List Leaf × Addr × Value)} {o : Obj} {es : Array DictEntry} {ep : Nat} (r : Paired RelR ps xs) (ho : s.heap.get? d = some o) (hc : o.ExactDict) (hd : o.data = .dict es ep)
    (he : es.toList = xs.map (entryOfKey (tkB X.prog X.w))) : s.heap.DictOfH (tkB X.prog X.w) d xs := by
  refine ⟨o, es, ep, ho, hc, hd, he, fun x hx => ?_, ?_⟩
  · obtain ⟨p, hp, q1, q2, _⟩ := rel_mem r x hx
    rw [q1, q2]
    exact key_B I (kt p hp)
  · rw [rel_keys r]
    have z : (ps.map fun p => kB p.1) = (ps.map (·.1)).map kB := by rw [List.map_map]; rfl
    rw [z]
    exact List.Pairwise.map kB (fun a b h e => h (kB_inj e)) nd
/-- {} -/
def tDNewB (P : Program) (w : World) : TE := fun _ H Q => ∀ p, H p = none → Q (.ref p) (upd H p (RowsO P w p []))
theorem rows_empty {P : Program} {w : World} {h : Heap} (hb : sysModules < h.objs.size) : RowsAt P w h.objs.size [] (h.push { cls := .type "dict", data := .dict #[] }) :=
  ⟨beq_eq_false_iff_ne.mpr (Ne.symm (Nat.ne_of_lt hb)), Nat.zero_le _, [], .nil, _, #[], 0, Heap.get?_push_size _ rfl, ⟨rfl, rfl, rfl⟩, rfl, rfl⟩
theorem pe_dnewB {pos : Pos} : PE X (.Dict [] [] pos) (tDNewB X.prog X.w) := ⟨fun pins s σ H Q I h =>
  wpAny_Dict_empty ⟨.ref s.heap.objs.size, _, I.laid (a := s.heap.objs.size) (o := RowsO X.prog X.w s.heap.objs.size []) (t' := s.toks) (fun _ _ q => Heap.get?_push_of_some _ q) (Nat.le_refl _) (rows_new (rows_empty I.big)), rfl, h _ (I.hok.fresh (Nat.le_refl _))⟩⟩
theorem rows_get (I : Inv X pins σ H s) {d : Addr} {ps : Rws} (h : H d = some (RowsO X.prog X.w d ps)) : RowsAt X.prog X.w d ps s.heap := (I.hok d _ h).1
theorem atKey_none_iff : ∀ {ps : Rws} {xs : List (List Leaf × Addr × Value)} {bs : List Bool}, Paired RelR ps xs → atKey xs (kB bs) = none → bs ∉ ps.map (·.1)
  | _, _, bs, .nil, _ => by simp
  | _, _, bs, .cons (a := p) (b := x) r t, h => by
    unfold atKey at h
    rw [List.find?_cons] at h
    by_cases e : x.1 = kB bs
    · rw [decide_eq_true e] at h
      cases h
    · rw [decide_eq_false e] at h
      have h2 := atKey_none_iff t h
      intro z
      rw [List.map_cons, List.mem_cons] at z
      rcases z with z | z
      · exact e (by rw [r.1, z])
      · exact h2 z
theorem atKey_some_iff : ∀ {ps : Rws} {xs : List (List Leaf × Addr × Value)} {bs : List Bool} {q : Addr × Value}, Paired RelR ps xs → atKey xs (kB bs) = some q → bs ∈ ps.map (·.1) ∧ ∃ e t, q.2 = Value.str e t
  | _, _, bs, _, .nil, h => by cases h
  | _, _, bs, q, .cons (a := p) (b := x) r t, h => by
    unfold atKey at h
    rw [List.find?_cons] at h
    by_cases e : x.1 = kB bs
    · rw [List.map_cons, List.mem_cons]
      rw [decide_eq_true e] at h
      injection h with h
      obtain ⟨u, hu⟩ := r.2.2
      exact ⟨.inl (kB_inj (e.symm.trans r.1)), _, u, by rw [← h]; exact hu⟩
    · rw [decide_eq_false e] at h
      rw [List.map_cons, List.mem_cons]
      exact ⟨.inr (atKey_some_iff t h).1, (atKey_some_iff t h).2⟩
end
/-- d.setdefault(t, x) -/
def tDSetB (P : Program) (w : World) (td ty tx : TE) : TE := fun σ H Q => td σ H fun x H1 => ∃ d ps, x = .ref d ∧ H1 d = some (RowsO P w d ps) ∧ ty σ H1 fun y H2 => tx σ H2 fun z H3 => ∃ (t : Addr) (bs : List Bool) (e : Str), H3 d = some (RowsO P w d ps) ∧ y = .ref t ∧ z = .str e ∧
  H3 t = some (.tup (bs.map V.bl)) ∧ KeysT H3 ps ∧ (ps.map (·.1)).Nodup ∧ ps.length < 1000 ∧ (bs ∈ ps.map (·.1) → ∀ v, Q v H3) ∧ (bs ∉ ps.map (·.1) → ∀ v, Q v (upd H3 d (RowsO P w d (ps ++ [(bs, t, e)]))))
section
variable {X : Cx} {o e f : Expr} {td ty tx : TE} {apos cpos : Pos}
theorem pe_dsetB (hu : X.A.units + 1 < cLine) (ho : PE X o td) (he : PE X e ty) (hf : PE X f tx) (m : M2 X o "setdefault" apos e f cpos) : PE X (.Call (.Attribute o "setdefault" apos) [e, f] [] cpos) (tDSetB X.prog X.w td ty tx) := by
  refine ⟨fun pins s σ H Q I h => ?_⟩
  refine wpAny_Call_method m.base m.few m.line PySem.F.plainAttrs_dict PySem.F.slot_dict_setdefault PySem.F.type_dict_setdefault (thn (ho.run pins s σ H _ I h) fun u s1 ⟨x, H1, I1, rx, d, ps, ex, hd, q1⟩ => ?_)
  subst ex
  obtain rfl : u = Value.ref d := rx
  obtain ⟨hs0, _, _, _, o0, _, _, ho0, hc0, _, _⟩ := rows_get I1 hd
  refine ⟨⟨o0, ho0, hc0.1⟩, fun b q => ⟨o0, by cases q; exact ho0, hc0.2.1⟩, ?_⟩
  rw [m.trees]
  refine Calls.callWith_builtin rfl (Calls.evalArgs_plain (Calls.spliced_cons (thn (he.run pins s1 σ H1 _ I1 q1) fun iv s2 ⟨y, H2, I2, ry, q2⟩ =>
    Calls.spliced_cons (thn (hf.run pins s2 σ H2 _ I2 q2) fun fv s3 ⟨z, H3, I3, rz, t, bs, e, hd3, ey, ez, ht, kt, nd, hl, q3, q4⟩ => Calls.spliced_nil ?_))))
  subst ey ez
  obtain rfl : iv = Value.ref t := ry
  obtain ⟨tk, rfl⟩ := (show ∃ k, fv = Value.str e k from rz)
  obtain ⟨hs, hl0, xs, r, o, es, ep, hgo, hc, hdt, hes⟩ := rows_get I3 hd3
  have lx : ps.length = xs.length := Paired.length r
  refine call_setdefault_heap (hsz := by rw [← lx]; have := sizeLine_eq; omega) (tupleKind_room_in1 hu) (key_B I3 ht) hs (rows_dict I3 kt nd r hgo hc hdt hes) (fun p hp => ?_) fun hn h' dd' sb => ?_
  · obtain ⟨hm, e', t', ev⟩ := atKey_some_iff r hp
    exact ⟨.str e', _, I3.tok _, ⟨t', ev⟩, q3 hm _⟩
  · have hn' := atKey_none_iff r hn
    rw [storedH_new hn] at dd'
    obtain ⟨o', es', ep', ho', hc', hd', he', _, _⟩ := dd'
    refine ⟨.str e, _, d_write (t' := s3.toks + (tupleKind (leafKind X.prog X.w)).draws (kB bs)) I3 (by rw [hd3]; exact True.intro) sb ⟨_, ho'⟩ (rows_new ⟨hs, ?_, _, rel_snoc ⟨rfl, rfl, _, rfl⟩ r, o', es', ep', ho', hc', hd', he'⟩), ⟨_, rfl⟩, q4 hn' _⟩
    rw [List.length_append]
    show _ + 1 ≤ 1000
    omega
end
/-! ### the keys, the items of the locked dict -/
section
variable {X : Cx} {pins : List (Addr × Obj)} {σ : L2.St} {H : Hp} {s : Shared} {d : Addr} {o : Obj} {ps : Rws}
theorem rel_get : ∀ {ps : Rws} {xs : List (List Leaf × Addr × Value)}, Paired RelR ps xs → ∀ {i : Nat} {p : List Bool × Addr × Str}, ps[i]? = some p → ∃ x, xs[i]? = some x ∧ RelR p x
  | _, _, .nil, i, p, h => by simp at h
  | _, _, .cons r t, 0, p, h => by
    simp only [List.getElem?_cons_zero, Option.some.injEq] at h
    subst h
    exact ⟨_, rfl, r⟩
  | _, _, .cons r t, i + 1, p, h => by
    simp only [List.getElem?_cons_succ] at h ⊢
    exact rel_get t h
theorem frzR (I : Inv X pins σ H s) (h : H d = some (.frz o (RowsO X.prog X.w d ps))) : (d == sysModules) = false ∧ s.heap.get? d = some o ∧ o.ExactDict ∧ ∃ (es : Array DictEntry) (ep : Nat), o.data = .dict es ep ∧ es.size = ps.length ∧
    ∀ (i : Nat) (p : List Bool × Addr × Str), ps[i]? = some p → ∃ (en : DictEntry) (t : Tok), es[i]? = some en ∧ en.key = Value.ref p.2.1 ∧ en.val = Value.str p.2.2 t := by
  obtain ⟨hgd, ⟨hs, hl, xs, r, o', es, ep, ho, hc, hdt, hes⟩, _⟩ := I.hok d _ h
  rw [hgd] at ho
  cases ho
  have lx : ps.length = xs.length := Paired.length r
  refine ⟨hs, hgd, hc, es, ep, hdt, ?_, fun i p hp => ?_⟩
  · have := congrArg List.length hes
    rw [Array.length_toList, List.length_map] at this
    omega
  · obtain ⟨x, hx, r1, r2, t, r3⟩ := rel_get r hp
    refine ⟨entryOfKey (tkB X.prog X.w) x, t, ?_, by show Value.ref x.2.1 = _; rw [r2], r3⟩
    rw [← Array.getElem?_toList, hes, List.getElem?_map, hx]
    rfl
def ItkR (P : Program) (w : World) (d : Addr) (o : Obj) (ps : Rws) : It :=
  ⟨fun i H => H d = some (.frz o (RowsO P w d ps)) ∧ i < ps.length, fun i H x H' => H' = H ∧ ∃ p, ps[i]? = some p ∧ x = .ref p.2.1, fun i H => H d = some (.frz o (RowsO P w d ps)) ∧ ps.length ≤ i⟩
def ItiR (P : Program) (w : World) (d : Addr) (o : Obj) (ps : Rws) : It :=
  ⟨fun i H => H d = some (.frz o (RowsO P w d ps)) ∧ i < ps.length, fun i H x H' => ∃ T p, ps[i]? = some p ∧ x = .ref T ∧ H T = none ∧ H' = upd H T (.tup [.ref p.2.1, .str p.2.2]), fun i H => H d = some (.frz o (RowsO P w d ps)) ∧ ps.length ≤ i⟩
end
section
variable {P : Program} {w : World} {K : PySem.W.Frag} {tg : Expr} {d : Addr} {o : Obj} {es : Array DictEntry} {ep : Nat} {ps : Rws}
theorem turn_keysR (it : Addr) (hod : o.data = .dict es ep) : Turn P w K tg (ItkR P w d o ps) [it] it (fun i h => h.IsKeyIter it d i ps.length ep) where
  mem := by simp
  obj := fun i h st b hb => by
    have e : b = it := by simpa using hb
    subst e
    obtain ⟨oi, e, c, dd⟩ := st
    exact ⟨oi, e, fun v z => by rw [dd] at z; cases z⟩
  keep := fun i h h' st k => st.at fun oi e => k it (by simp) oi e
  item := by
    intro X hP hw hK hc i pins s σ H E I hf st hg
    subst hP hw hK
    obtain ⟨hd, hi⟩ := hg
    obtain ⟨f0, f1, f2, f3, f4, f5⟩ := hf it (by simp)
    obtain ⟨hs, hgd, hx, es', ep', hdt, hsz, ent⟩ := frzR I hd
    obtain ⟨rfl, rfl⟩ := dict_ep hod hdt
    obtain ⟨p, hp⟩ : ∃ p, ps[i]? = some p := ⟨ps[i], List.getElem?_eq_getElem hi⟩
    obtain ⟨en, t, hen, hkey, hv⟩ := ent i p hp
    refine next_key_item st hgd hdt hsz hen fun h' st' sb => ?_
    have I1 : Inv X pins σ H { s with heap := h' } := I.turned (t' := s.toks) (fun b ob hb e => (sb.2 b hb).trans e) f0 f1 f3 f4 f5
    obtain ⟨oi, e, c, dd⟩ := id st'
    exact ⟨en.key, rfl, go_of (s := { s with heap := h' }) e c dd (by decide) ⟨.ref p.2.1, H, I1, hkey, ⟨rfl, p, hp, rfl⟩, st', fun b hb => (hf b hb).1⟩⟩
  done := by
    intro X hP hw hK hc i pins s σ H E I hf st hg
    subst hP hw hK
    obtain ⟨hd, hi⟩ := hg
    obtain ⟨f0, f1, f2, f3, f4, f5⟩ := hf it (by simp)
    obtain ⟨hs, hgd, hx, es', ep', hdt, hsz, ent⟩ := frzR I hd
    obtain ⟨rfl, rfl⟩ := dict_ep hod hdt
    exact next_key_end (I.ok.hd hc) st hgd hdt hsz hi fun h' eb => ⟨rfl, I.turned (t' := s.toks) (fun b ob hb e => eb b ob hb e) f0 f1 f3 f4 f5⟩
  self := fun A i s Q E st h => by
    refine wpAny_pyIter_slot st.typeIs F.slot_dict_keyiterator_iter (wpAny_call_entry F.slot_dict_keyiterator_iter st.typeIs F.entry_dict_keyiterator_iter ?_ (F.args_dict_keyiterator_iter_1 _))
    show wpAny _ _ (ret (.ref it)) _ _ s
    exact wpAny_pure ⟨_, rfl, "dict_keyiterator", _, st.typeIs, F.slot_dict_keyiterator_next.lookup, h⟩
theorem turn_itemsR {elts : List Expr} {kk : Nat} {tpos : Pos} (it : Addr) (hod : o.data = .dict es ep) :
    Turn P w K (.Tuple elts kk tpos) (ItiR P w d o ps) [it] it (fun i h => ∃ ok ov, IsItemIter h it d i ps.length ep ok ov) where
  mem := by simp
  obj := fun i h st b hb => by
    have e : b = it := by simpa using hb
    subst e
    obtain ⟨ok, ov, e⟩ := st
    exact ⟨_, e, fun v z => nomatch z⟩
  keep := fun i h h' st k => let ⟨ok, ov, e⟩ := st; ⟨ok, ov, k it (by simp) _ e⟩
  item := by
    intro X hP hw hK hc i pins s σ H E I hf st hg
    subst hP hw hK
    obtain ⟨hd, hi⟩ := hg
    obtain ⟨hs, hgd, hx, es', ep', hdt, hsz, ent⟩ := frzR I hd
    obtain ⟨rfl, rfl⟩ := dict_ep hod hdt
    obtain ⟨p, hp⟩ : ∃ p, ps[i]? = some p := ⟨ps[i], List.getElem?_eq_getElem hi⟩
    obtain ⟨en, t, hen, hkey, hv⟩ := ent i p hp
    obtain ⟨ok, ov, he⟩ := st
    rw [← hsz] at he hi
    have hlt : it < s.heap.objs.size := Heap.lt_size he
    have een : es'[i] = en := by
      rw [Array.getElem?_eq_getElem hi] at hen
      exact Option.some.inj hen
    refine wpAny_pyNext_items_item_raw he ⟨_, hgd, hx, hdt⟩ hi fun h' ho hT hz hk => ?_
    refine ⟨_, rfl, wpAny_letOwnedTupleGo_items (s := { s with heap := h' }) ho fun h'' he' sb => ?_⟩
    have hT2 : h''.get? s.heap.objs.size = some { cls := .type "tuple", data := .seq #[es'[i].key, es'[i].val] } := (sb.2 _ (Nat.ne_of_gt hlt)).trans hT
    rw [een, hkey, hv] at hT2
    have new : ObjOk X.prog X.w (upd H s.heap.objs.size (.tup [.ref p.2.1, .str p.2.2])) h'' s.heap.objs.size (.tup [.ref p.2.1, .str p.2.2]) :=
      ⟨by show 2 ≤ sizeLine; decide, [.ref p.2.1, .str p.2.2 t], .cons rfl (.cons ⟨_, rfl⟩ .nil), ⟨_, hT2, rfl, _, rfl⟩⟩
    have I1 : Inv X pins σ (upd H s.heap.objs.size (.tup [.ref p.2.1, .str p.2.2])) { s with heap := h'' } :=
      I.turnedNew (t' := s.toks) (ch := [it]) (fun b ob hb e => (sb.2 b (by simpa using hb)).trans (hk b ob (by simpa using hb) e)) hf (Nat.le_refl _) new
    refine ⟨.ref s.heap.objs.size, _, I1, rfl, ⟨_, p, hp, rfl, I.hok.fresh (Nat.le_refl _), rfl⟩, ⟨es'[i].key, es'[i].val, ?_⟩, fun b hb => ?_⟩
    · rw [← hsz]; exact he'
    · have e : b = it := by simpa using hb
      rw [e, upd_ne (Nat.ne_of_lt hlt)]
      exact (hf it (by simp)).1
  done := by
    intro X hP hw hK hc i pins s σ H E I hf st hg
    subst hP hw hK
    obtain ⟨hd, hi⟩ := hg
    obtain ⟨f0, f1, f2, f3, f4, f5⟩ := hf it (by simp)
    obtain ⟨hs, hgd, hx, es', ep', hdt, hsz, ent⟩ := frzR I hd
    obtain ⟨rfl, rfl⟩ := dict_ep hod hdt
    obtain ⟨ok, ov, he⟩ := st
    rw [← hsz] at he hi
    exact wpAny_pyNext_items_end_raw (I.ok.hd hc) he ⟨_, hgd, hx, hdt⟩ hi fun h' eb => ⟨rfl, I.turned (t' := s.toks) (fun b ob hb e => eb b ob hb e) f0 f1 f3 f4 f5⟩
  self := fun A i s Q E st h => let ⟨_, _, e⟩ := st; PySem.W.kcp_self e h
end
def iKeysR (P : Program) (w : World) (td : TE) : TI := fun σ H R => td σ H fun x H1 => ∃ d o ps, x = .ref d ∧ H1 d = some (.frz o (RowsO P w d ps)) ∧ R (ItkR P w d o ps) H1
def iItemsR (P : Program) (w : World) (td : TE) : TI := fun σ H R => td σ H fun x H1 => ∃ d o ps, x = .ref d ∧ H1 d = some (.frz o (RowsO P w d ps)) ∧ R (ItiR P w d o ps) H1
section
variable {X : Cx} {tg e : Expr} {td : TE} {apos cpos : Pos}
theorem pi_keysR (he : PE X e td) : PI X tg e (iKeysR X.prog X.w td) := by
  refine ⟨fun pins s σ H R I h => ?_⟩
  refine thn (he.run pins s σ H _ I h) fun u s1 ⟨x, H1, I1, rx, d, o, ps, ex, hd, q⟩ => ?_
  subst ex
  obtain rfl : u = Value.ref d := rx
  obtain ⟨hs, hgd, hx, es, ep, hdt, hsz, ent⟩ := frzR I1 hd
  refine iter_keys hs hgd hx hdt (pi_one (tk := s1.toks) I1 _ (turn_keysR _ hdt) ⟨_, Heap.get?_push_size _ rfl, rfl, ?_⟩ q)
  rw [hsz] <;> rfl
theorem pi_itemsR {elts : List Expr} {kk : Nat} {tpos : Pos} (he : PE X e td) (hbase : attributeBase e "items" X.env (eval e X.env) = eval e X.env := by rfl) (hline : (apos.endLine == cpos.line) = true := by rfl) :
    PI X (.Tuple elts kk tpos) (.Call (.Attribute e "items" apos) [] [] cpos) (iItemsR X.prog X.w td) := by
  refine ⟨fun pins s σ H R I h => ?_⟩
  refine wpAny_Call_method (T := "dict") (id := "dict.items") hbase rfl hline F.plainAttrs_dict F.slot_dict_items F.type_dict_items (thn (he.run pins s σ H _ I h) fun u s1 ⟨x, H1, I1, rx, d, o, ps, ex, hd, q⟩ => ?_)
  subst ex
  obtain rfl : u = Value.ref d := rx
  obtain ⟨hs, hgd, hx, es, ep, hdt, hsz, ent⟩ := frzR I1 hd
  refine ⟨⟨o, hgd, hx.1⟩, fun b q => ⟨o, by cases q; exact hgd, hx.2.1⟩, ?_⟩
  have I2 : Inv X pins σ H1 { s1 with heap := s1.heap.push { cls := .type "dict_items", data := .fields #[.ref d] } } := I1.kept (t' := s1.toks) fun b ob q => Heap.get?_push_of_some _ q
  have fin : wpAny (model X.prog X.w) X.A (pyIter (.ref s1.heap.objs.size)) (PIE X pins σ (.Tuple elts kk tpos) R) X.xe { s1 with heap := s1.heap.push { cls := .type "dict_items", data := .fields #[.ref d] } } := by
    refine wpAny_pyIter_items_raw (d := d) ⟨_, Heap.get?_push_size _ rfl, rfl, rfl⟩ ⟨_, Heap.get?_push_of_some _ hgd, hx, hdt⟩ (pi_one (tk := s1.toks) I2 _ (turn_itemsR _ hdt) ⟨.none, .none, ?_⟩ q)
    rw [← hsz]
    exact Heap.get?_push_size _ rfl
  show wpAny _ _ (callWith cpos (.builtin "dict.items") [.ref d] [] []) _ X.xe s1
  exact method_meetsIn F.slot_dict_items F.entry_dict_items rfl (PySem.evalArgs_none ⟨rfl, ⟨o, hgd, hx.1⟩, F.args_dict_items_1 _, _, meets_dict_items_raw d hs, ⟨es, ep, _, hgd, hx, hdt⟩, fin⟩)
end
end Ts

set_option Elab.async false
set_option linter.all false
set_option maxRecDepth 100000
set_option maxHeartbeats 4000000
/-! Common words of the walk: the places of the top, the facts of its names, how formulas and tables stand in the heap. -/
namespace Ts
open PySem L2
def top (i : Nat) : Stmt := PySem.Challenge.pw_toldstarts_k34_whole_stuck_sets.main.body.getD i (.Pass ⟨0, 0, 0, 0⟩)
/-- a def of the top -/
structure Def (K : PySem.W.Frag) (mg : Str → Option Value) (x : Str) (i : Nat) (ps : List Str) (f : Addr) (fd : FuncData) : Prop where
  F : Fun K x x (top i) f fd
  b : Binds K fd ps []
  m : mg x = some (.ref f)
/-- a tuple of the top -/
def KTup (K : PySem.W.Frag) (a : Addr) (xs : List V) : Prop := ∃ (o : Obj) (its : Array Value) (n : Nat), K.lookup a = some o ∧ o.cls = .type "tuple" ∧ o.data = .seq its n ∧ its.size ≤ sizeLine ∧ Vals xs its.toList
theorem KTup.sq {K : PySem.W.Frag} {a : Addr} {xs : List V} (h : KTup K a xs) (H : Hp) : SqT K H a xs := .inr h
def wV (w : Wd) : V := .str w.s
def sV (e : Sg) : V := .str e.s
structure Gs (K : PySem.W.Frag) (mg : Str → Option Value) : Prop where
  great : ∃ t, mg "GREATEST" = some (.int (10 ^ 60) t)
  waiting : ∃ t, mg "WAITING" = some (.str "waiting" t)
  begun : ∃ t, mg "BEGUN" = some (.str "begun" t)
  left : ∃ t, mg "LEFT" = some (.str "left" t)
  over : ∃ t, mg "OVER" = some (.str "over" t)
  ends : ∃ a, mg "ENDS" = some (.ref a) ∧ KTup K a (endsAll.map sV)
  states : ∃ a, mg "STATES" = some (.ref a) ∧ KTup K a (allSg.map sV)
  words : ∃ a, mg "ATOM_WORDS" = some (.ref a) ∧ KTup K a (allWd.map wV)
  named : ∃ t, mg "MAX_NAMED" = some (.int 6 t)
  nodes : ∃ t, mg "MAX_AFTER_NODES" = some (.int 60 t)
  deep : ∃ t, mg "MAX_DEEP" = some (.int 8 t)
  members : ∃ t, mg "MAX_MEMBERS" = some (.int 20 t)
  jobn : ∃ t, mg "MAX_JOB_NUMBER" = some (.int 1000000 t)
  both : ∃ t, mg "BOTH" = some (.str "and" t)
  either : ∃ t, mg "EITHER" = some (.str "or" t)
  maxw : ∃ t, mg "MAX_WAITING" = some (.int 60 t)
structure Bs (mg : Str → Option Value) : Prop where
  isi : mg "isinstance" = none
  int : mg "int" = none
  bool : mg "bool" = none
  str : mg "str" = none
  tuple : mg "tuple" = none
  dict : mg "dict" = none
  list : mg "list" = none
  all : mg "all" = none
  any : mg "any" = none
  sum : mg "sum" = none
  zip : mg "zip" = none
  sorted : mg "sorted" = none
  len : mg "len" = none
  range : mg "range" = none
  repr : mg "repr" = none
  max : mg "max" = none
  min : mg "min" = none
  abs : mg "abs" = none
theorem same_new {H : Hp} {p : Addr} (h : H p = none) (o : HO) : Same H (upd H p o) := fun b u q => by rw [upd_ne (ne_of_none q h)]; exact q
theorem small {n : Nat} (h : n ≤ 1000) : n ≤ sizeLine := Nat.le_of_lt (small1000 h)
/-- f(e, ..) of a def of the top -/
theorem pe_callD {X : Cx} {k i : Nat} {x : Str} {ps : List Str} {f : Addr} {fd : FuncData} {sp : Sp} {e : Expr} {es : List Expr} {t : TA} {p pos : Pos} (D : Def X.K X.mg x i ps f fd) (G : FnOk X.prog X.w X.K X.mg X.base CX0 k f fd ps sp) (hr : Room k X.A) (ha : PA X (e :: es) t)
    (hg : Gl X x := by rfl) (hdb : (x == ("__debug__" : Str)) = false := by decide) (he : starEach (e :: es) X.env = (false, eval e X.env) :: starEach es X.env := by rfl) (hpl : (backTo pos (starEach es X.env)).any (·.1) = false := by rfl) :
    PE X (.Call (.Name x p) (e :: es) [] pos) (tCall sp [] E0 t) := pe_call G hr hg D.m D.F.kp D.b .nil pass0 ha hdb he hpl
theorem pe_gI {X : Cx} {x : Str} {n : Int} {pos : Pos} (h : ∃ t, X.mg x = some (.int n t)) (hg : Gl X x := by rfl) (hd : (x == ("__debug__" : Str)) = false := by decide) : PE X (.Name x pos) (tC (.int n)) := let ⟨_, h⟩ := h; pe_glob hg h ⟨_, rfl⟩ hd
theorem pe_gS {X : Cx} {x z : Str} {pos : Pos} (h : ∃ t, X.mg x = some (.str z t)) (hg : Gl X x := by rfl) (hd : (x == ("__debug__" : Str)) = false := by decide) : PE X (.Name x pos) (tC (.str z)) := let ⟨_, h⟩ := h; pe_glob hg h ⟨_, rfl⟩ hd
theorem pe_gR {X : Cx} {x : Str} {a : Addr} {pos : Pos} (h : X.mg x = some (.ref a)) (hg : Gl X x := by rfl) (hd : (x == ("__debug__" : Str)) = false := by decide) : PE X (.Name x pos) (tC (.ref a)) := pe_glob hg h rfl hd
/-- isinstance(e, T), T a built-in type -/
theorem pe_isiT {X : Cx} {e : Expr} {te : TE} {x : Str} {n : String} {p1 p2 p3 : Pos} (T : Bs X.mg) (he : PE X e te) (hm : X.mg x = none) (hv : bootBuiltins x = some (.type n) := by decide +kernel) (hg1 : Gl X "isinstance" := by rfl) (hg : Gl X x := by rfl)
    (hn : x ≠ "__name__" := by decide) (hd : (x == ("__debug__" : Str)) = false := by decide) (hs : starEach [e, .Name x p2] X.env = (false, eval e X.env) :: starEach [.Name x p2] X.env := by rfl) :
    PE X (.Call (.Name "isinstance" p1) [e, .Name x p2] [] p3) (tCB (rIsi X.K) (tCons te (tCons (tC (.ty n)) tNil))) :=
  pe_callB call_isi hg1 T.isi (by decide +kernel) (pa_cons he (pa_cons (pe_bltn hg hm hv (v := .ty n) rfl hn hd) pa_nil) hs) (he := hs)
theorem isi_mk {K : PySem.W.Frag} {H : Hp} {v : V} {t n : String} {b : Bool} {Q : VK} (ty : TyX K H v (.type t)) (h : kitB t n = some b) (q : Q (.bl b) H) : rIsi K [v, .ty n] H Q := ⟨_, _, _, _, _, rfl, .ty n, ty, kit_ty h, q⟩
/-- len(e) of a list or tuple, for comprehensions: K is named -/
def rLenK (K : PySem.W.Frag) : List V → Hp → VK → Prop := fun xs H Q => ∃ p ys, xs = [V.ref p] ∧ (SqL K H p ys ∨ SqT K H p ys) ∧ Q (.int (ys.length : Nat)) H
theorem pe_lenK {X : Cx} (K : PySem.W.Frag) {e : Expr} {te : TE} {p1 p2 : Pos} (hm : X.mg "len" = none) (he : PE X e te) (hK : X.K = K := by rfl) (hg : Gl X "len" := by rfl) (hs : starEach [e] X.env = (false, eval e X.env) :: starEach [] X.env := by rfl) :
    PE X (.Call (.Name "len" p1) [e] [] p2) (tCB (rLenK K) (tCons te tNil)) := by
  subst hK
  exact pe_callB call_len_seq hg hm PySem.boot_len (pa_cons he pa_nil hs) (he := hs)
section
variable {X : Cx}
theorem op_inK (K : PySem.W.Frag) (hK : X.K = K := by rfl) : OpR X (compareOp .In) (rIn K false) := by
  subst hK
  exact op_in_seq
theorem op_notInK (K : PySem.W.Frag) (hK : X.K = K := by rfl) : OpR X (compareOp .NotIn) (rIn K true) := by
  subst hK
  exact op_notIn_seq
theorem cr_anyK (K : PySem.W.Frag) (hc : X.calm = true := by rfl) (hK : X.K = K := by rfl) : CallR X (.builtin "any") (rAny K) := by
  subst hK
  exact cr_any hc
theorem cr_allK (K : PySem.W.Frag) (hc : X.calm = true := by rfl) (hK : X.K = K := by rfl) : CallR X (.builtin "all") (rAll K) := by
  subst hK
  exact cr_all hc
theorem op_eqDK (K : PySem.W.Frag) (hu : X.A.units + 64 < cLine) (hK : X.K = K := by rfl) : OpR X (compareOp .Eq) (rEqD K) := by
  subst hK
  exact op_eqD hu
theorem op_neDK (K : PySem.W.Frag) (hu : X.A.units + 64 < cLine) (hK : X.K = K := by rfl) : OpR X (compareOp .NotEq) (rNeD K) := by
  subst hK
  exact op_neD hu
theorem op_inDK (K : PySem.W.Frag) (hu : X.A.units + 65 < cLine) (hK : X.K = K := by rfl) : OpR X (compareOp .In) (rInD K) := by
  subst hK
  exact op_inD hu
theorem pi_listK {l tg : Expr} {tl : TE} (K : PySem.W.Frag) (hl : PE X l tl) (hK : X.K = K := by rfl) : PI X tg l (iList K tl) := by
  subst hK
  exact pi_list hl
theorem pi_tupK {l tg : Expr} {tl : TE} (K : PySem.W.Frag) (hl : PE X l tl) (hK : X.K = K := by rfl) : PI X tg l (iTup K tl) := by
  subst hK
  exact pi_tup hl
end
end Ts

set_option Elab.async false
set_option linter.all false
set_option maxRecDepth 100000
set_option maxHeartbeats 4000000
/-! List comprehensions that map and filter, the walk of one turn given. -/
namespace Ts
open PySem L2
section
variable {g : TG} {tt : TT} {te : TE} {vs : List Nat} {σ : L2.St} {H1 : Hp} {D : Addr} {Qd : Hp → Prop} {J : It} {α : Type}
theorem lc_run (as : List α) (keep : α → Bool) (out : α → V) (Ok : Hp → Prop) (R : Hp → Hp → Prop) (hn : as.length < sizeLine)
    (hR : ∀ H H' acc, R H H' → H D = some (.lst acc) → H' D = some (.lst acc)) (hO : ∀ H H', Ok H → R H H' → Ok H') (hU : ∀ H acc l, Ok H → H D = some (.lst acc) → Ok (upd H D (.lst l))) (h0 : Ok (upd H1 D (.lst [])))
    (hgo : ∀ i a H, as[i]? = some a → Ok H → J.go i H) (hst : ∀ H, Ok H → J.stop as.length H)
    (hs : ∀ (i : Nat) a H x H' (Qt : V → Hp → Prop) (Qf : Hp → Prop), as[i]? = some a → Ok H → J.yld i H x H' → (keep a = true → ∀ H2, R H H2 → Qt (out a) H2) → (keep a = false → ∀ H2, R H H2 → Qf H2) →
      g x (wipe σ vs) H' fun σ2 H2 => wipe σ2 vs = wipe σ vs ∧ tt σ2 H2 fun b H3 => if b = true then te σ2 H3 Qt else Qf H3)
    (hd : ∀ H, Ok H → H D = some (.lst ((as.filter keep).map out)) → Qd H) :
    ∃ W : Nat → Nat → Hp → Prop, (∃ m, W 0 m (upd H1 D (.lst []))) ∧ ∀ i m H, W i m H →
      (J.stop i H ∧ Qd H) ∨ (J.go i H ∧ ∃ Nx : Hp → Prop, (∀ H', Nx H' → ∃ m', m' < m ∧ W (i + 1) m' H') ∧ ∀ x H', J.yld i H x H' → g x (wipe σ vs) H' fun σ2 H2 => wipe σ2 vs = wipe σ vs ∧ tt σ2 H2 fun b H3 =>
        if b = true then te σ2 H3 fun y H4 => ∃ acc, H4 D = some (.lst acc) ∧ acc.length < sizeLine ∧ Nx (upd H4 D (.lst (acc ++ [y]))) else Nx H3) := by
  refine ⟨fun i m H => m = as.length - i ∧ i ≤ as.length ∧ Ok H ∧ H D = some (.lst (((as.take i).filter keep).map out)), ⟨as.length, by simp, Nat.zero_le _, h0, by rw [upd_same]; rfl⟩, ?_⟩
  rintro i m H ⟨rfl, hi, ok, hD⟩
  by_cases hlt : i < as.length
  · have ha : as[i]? = some as[i] := List.getElem?_eq_getElem hlt
    have tk : as.take (i + 1) = as.take i ++ [as[i]] := List.take_succ_eq_append_getElem hlt
    refine .inr ⟨hgo i _ H ha ok, fun H' => Ok H' ∧ H' D = some (.lst (((as.take (i + 1)).filter keep).map out)), fun H' h' => ⟨as.length - (i + 1), by omega, rfl, hlt, h'⟩, fun x H' y => ?_⟩
    refine hs i _ H x H' _ _ ha ok y (fun hk H2 r => ?_) fun hk H2 r => ?_
    · refine ⟨_, hR H H2 _ r hD, ?_, hU _ _ _ (hO _ _ ok r) (hR H H2 _ r hD), ?_⟩
      · rw [List.length_map]
        exact Nat.lt_of_le_of_lt (Nat.le_trans (List.length_filter_le _ _) (by rw [List.length_take]; omega)) hn
      · rw [upd_same, tk, List.filter_append, List.map_append, List.filter_cons, hk]
        rfl
    · refine ⟨hO _ _ ok r, ?_⟩
      rw [hR H H2 _ r hD, tk, List.filter_append, List.filter_cons, hk]
      show some (HO.lst _) = some (HO.lst (List.map out (_ ++ [])))
      rw [List.append_nil]
  · have e : i = as.length := by omega
    subst e
    rw [List.take_length] at hD
    exact .inl ⟨hst H ok, hd H ok hD⟩
theorem same_refl (H : Hp) : Same H H := fun _ _ h => h
theorem same_upd {H0 H : Hp} {D : Addr} (hD : H0 D = none) (s : Same H0 H) (o : HO) : Same H0 (upd H D o) := fun b u e => by rw [upd_ne (ne_of_none e hD)]; exact s b u e
/-- over a list or tuple; the turn keeps all that stands -/
theorem lc_lstS {K : PySem.W.Frag} {a : Addr} (as : List α) (enc : α → V) (keep : α → Bool) (out : α → V) (hD : H1 D = none) (hq : SqL K H1 a (as.map enc)) (hn : as.length < sizeLine)
    (hs : ∀ x H (Qt : V → Hp → Prop) (Qf : Hp → Prop), x ∈ as → Same H1 H → (keep x = true → ∀ H2, Same H H2 → Qt (out x) H2) → (keep x = false → ∀ H2, Same H H2 → Qf H2) →
      g (enc x) (wipe σ vs) H fun σ2 H2 => wipe σ2 vs = wipe σ vs ∧ tt σ2 H2 fun b H3 => if b = true then te σ2 H3 Qt else Qf H3)
    (hd : ∀ H, Same H1 H → H D = some (.lst ((as.filter keep).map out)) → Qd H) :
    ∃ W : Nat → Nat → Hp → Prop, (∃ m, W 0 m (upd H1 D (.lst []))) ∧ ∀ i m H, W i m H →
      ((Itl K a).stop i H ∧ Qd H) ∨ ((Itl K a).go i H ∧ ∃ Nx : Hp → Prop, (∀ H', Nx H' → ∃ m', m' < m ∧ W (i + 1) m' H') ∧ ∀ x H', (Itl K a).yld i H x H' → g x (wipe σ vs) H' fun σ2 H2 => wipe σ2 vs = wipe σ vs ∧ tt σ2 H2 fun b H3 =>
        if b = true then te σ2 H3 fun y H4 => ∃ acc, H4 D = some (.lst acc) ∧ acc.length < sizeLine ∧ Nx (upd H4 D (.lst (acc ++ [y]))) else Nx H3) := by
  refine lc_run as keep out (Same H1) Same hn (fun H H' acc r h => r _ _ h) (fun H H' a b => a.trans b) (fun H acc l s h => same_upd hD s _) (same_new hD _) (fun i x H e s => ⟨_, enc x, s.seq hq, by rw [List.getElem?_map, e]; rfl⟩)
    (fun H s => ⟨_, s.seq hq, by rw [List.length_map]; exact Nat.le_refl _⟩) (fun i x H y H' Qt Qf e s yl h1 h2 => ?_) hd
  obtain ⟨rfl, f⟩ := yl
  have ey := f _ (s.seq hq)
  rw [List.getElem?_map, e] at ey
  cases ey
  exact hs x _ Qt Qf (List.mem_of_getElem? e) s h1 h2
theorem sameT {H H' : Hp} {K : PySem.W.Frag} {a : Addr} {xs : List V} (s : Same H H') (h : SqT K H a xs) : SqT K H' a xs := by
  rcases h with (h | ⟨o, h⟩) | h
  · exact .inl (.inl (s _ _ h))
  · exact .inl (.inr ⟨o, s _ _ h⟩)
  · exact .inr h
theorem lc_tupS {K : PySem.W.Frag} {a : Addr} (as : List α) (enc : α → V) (keep : α → Bool) (out : α → V) (hD : H1 D = none) (hq : SqT K H1 a (as.map enc)) (hn : as.length < sizeLine)
    (hs : ∀ x H (Qt : V → Hp → Prop) (Qf : Hp → Prop), x ∈ as → Same H1 H → (keep x = true → ∀ H2, Same H H2 → Qt (out x) H2) → (keep x = false → ∀ H2, Same H H2 → Qf H2) →
      g (enc x) (wipe σ vs) H fun σ2 H2 => wipe σ2 vs = wipe σ vs ∧ tt σ2 H2 fun b H3 => if b = true then te σ2 H3 Qt else Qf H3)
    (hd : ∀ H, Same H1 H → H D = some (.lst ((as.filter keep).map out)) → Qd H) :
    ∃ W : Nat → Nat → Hp → Prop, (∃ m, W 0 m (upd H1 D (.lst []))) ∧ ∀ i m H, W i m H →
      ((Itt K a).stop i H ∧ Qd H) ∨ ((Itt K a).go i H ∧ ∃ Nx : Hp → Prop, (∀ H', Nx H' → ∃ m', m' < m ∧ W (i + 1) m' H') ∧ ∀ x H', (Itt K a).yld i H x H' → g x (wipe σ vs) H' fun σ2 H2 => wipe σ2 vs = wipe σ vs ∧ tt σ2 H2 fun b H3 =>
        if b = true then te σ2 H3 fun y H4 => ∃ acc, H4 D = some (.lst acc) ∧ acc.length < sizeLine ∧ Nx (upd H4 D (.lst (acc ++ [y]))) else Nx H3) := by
  refine lc_run as keep out (Same H1) Same hn (fun H H' acc r h => r _ _ h) (fun H H' a b => a.trans b) (fun H acc l s h => same_upd hD s _) (same_new hD _) (fun i x H e s => ⟨_, enc x, sameT s hq, by rw [List.getElem?_map, e]; rfl⟩)
    (fun H s => ⟨_, sameT s hq, by rw [List.length_map]; exact Nat.le_refl _⟩) (fun i x H y H' Qt Qf e s yl h1 h2 => ?_) hd
  obtain ⟨rfl, f⟩ := yl
  have ey := f _ (sameT s hq)
  rw [List.getElem?_map, e] at ey
  cases ey
  exact hs x _ Qt Qf (List.mem_of_getElem? e) s h1 h2
end
/-! ### over a dict that is locked -/
theorem lock_same {H H' : Hp} {d : Addr} {od : Obj} {u : HO} (h : H d = some u) (s : Same (upd H d (.frz od u)) H') : Same H (upd H' d u) := fun b o e => by
  by_cases hb : b = d
  · rw [hb, upd_same, ← e, hb, h]
  · rw [upd_ne hb]
    exact s b o (by rw [upd_ne hb]; exact e)
theorem lock_at {H H' : Hp} {d : Addr} {od : Obj} {u : HO} (s : Same (upd H d (.frz od u)) H') : H' d = some (.frz od u) := s _ _ upd_same
theorem lock_in {H : Hp} {d : Addr} {od : Obj} {u : HO} {b : Addr} {o : HO} (h : H b = some o) (hb : b ≠ d) : upd H d (.frz od u) b = some o := by rw [upd_ne hb]; exact h
theorem lock_none {H : Hp} {d : Addr} {u : HO} {o : HO} {b : Addr} (h : upd H d o b = none) (hd : H d = some u) : H b = none := by
  by_cases hb : b = d
  · rw [hb, upd_same] at h
    cases h
  · rw [upd_ne hb] at h
    exact h
section
variable {g : TG} {tt : TT} {te : TE} {vs : List Nat} {σ : L2.St} {H1 : Hp} {D : Addr} {Qd : Hp → Prop} {α : Type}
theorem lc_itemsS {d : Addr} {o : Obj} {kvs : List (Key × V)} (as : List α) (enc : α → Key × V) (hk : kvs = as.map enc) (keep : α → Bool) (out : α → V) (hD : H1 D = none) (hq : H1 d = some (.frz o (.dK kvs))) (hn : as.length < sizeLine)
    (hs : ∀ x H T (Qt : V → Hp → Prop) (Qf : Hp → Prop), x ∈ as → Same H1 H → H T = none → (keep x = true → ∀ H2, Same H H2 → Qt (out x) H2) → (keep x = false → ∀ H2, Same H H2 → Qf H2) →
      g (.ref T) (wipe σ vs) (upd H T (.tup [kV (enc x).1, (enc x).2])) fun σ2 H2 => wipe σ2 vs = wipe σ vs ∧ tt σ2 H2 fun b H3 => if b = true then te σ2 H3 Qt else Qf H3)
    (hd : ∀ H, Same H1 H → H D = some (.lst ((as.filter keep).map out)) → Qd H) :
    ∃ W : Nat → Nat → Hp → Prop, (∃ m, W 0 m (upd H1 D (.lst []))) ∧ ∀ i m H, W i m H →
      ((Iti d o kvs).stop i H ∧ Qd H) ∨ ((Iti d o kvs).go i H ∧ ∃ Nx : Hp → Prop, (∀ H', Nx H' → ∃ m', m' < m ∧ W (i + 1) m' H') ∧ ∀ x H', (Iti d o kvs).yld i H x H' → g x (wipe σ vs) H' fun σ2 H2 => wipe σ2 vs = wipe σ vs ∧ tt σ2 H2 fun b H3 =>
        if b = true then te σ2 H3 fun y H4 => ∃ acc, H4 D = some (.lst acc) ∧ acc.length < sizeLine ∧ Nx (upd H4 D (.lst (acc ++ [y]))) else Nx H3) := by
  have lk : kvs.length = as.length := by rw [hk, List.length_map]
  refine lc_run as keep out (Same H1) Same hn (fun H H' acc r h => r _ _ h) (fun H H' a b => a.trans b) (fun H acc l s h => same_upd hD s _) (same_new hD _) (fun i x H e s => ⟨s _ _ hq, by rw [lk]; exact (List.getElem?_eq_some_iff.mp e).1⟩)
    (fun H s => ⟨s _ _ hq, Nat.le_of_eq lk⟩) (fun i x H y H' Qt Qf e s yl h1 h2 => ?_) hd
  obtain ⟨T, k, v, ek, rfl, hT, rfl⟩ := yl
  rw [hk, List.getElem?_map, e] at ek
  have ek : enc x = (k, v) := Option.some.inj ek
  have e1 : (enc x).1 = k := by rw [ek]
  have e2 : (enc x).2 = v := by rw [ek]
  rw [← e1, ← e2]
  exact hs x _ T Qt Qf (List.mem_of_getElem? e) s hT h1 h2
theorem lc_keysS {d : Addr} {o : Obj} {kvs : List (Key × V)} (as : List α) (enc : α → Key × V) (hk : kvs = as.map enc) (keep : α → Bool) (out : α → V) (hD : H1 D = none) (hq : H1 d = some (.frz o (.dK kvs))) (hn : as.length < sizeLine)
    (hs : ∀ x H (Qt : V → Hp → Prop) (Qf : Hp → Prop), x ∈ as → Same H1 H → (keep x = true → ∀ H2, Same H H2 → Qt (out x) H2) → (keep x = false → ∀ H2, Same H H2 → Qf H2) →
      g (kV (enc x).1) (wipe σ vs) H fun σ2 H2 => wipe σ2 vs = wipe σ vs ∧ tt σ2 H2 fun b H3 => if b = true then te σ2 H3 Qt else Qf H3)
    (hd : ∀ H, Same H1 H → H D = some (.lst ((as.filter keep).map out)) → Qd H) :
    ∃ W : Nat → Nat → Hp → Prop, (∃ m, W 0 m (upd H1 D (.lst []))) ∧ ∀ i m H, W i m H →
      ((Itk d o kvs).stop i H ∧ Qd H) ∨ ((Itk d o kvs).go i H ∧ ∃ Nx : Hp → Prop, (∀ H', Nx H' → ∃ m', m' < m ∧ W (i + 1) m' H') ∧ ∀ x H', (Itk d o kvs).yld i H x H' → g x (wipe σ vs) H' fun σ2 H2 => wipe σ2 vs = wipe σ vs ∧ tt σ2 H2 fun b H3 =>
        if b = true then te σ2 H3 fun y H4 => ∃ acc, H4 D = some (.lst acc) ∧ acc.length < sizeLine ∧ Nx (upd H4 D (.lst (acc ++ [y]))) else Nx H3) := by
  have lk : kvs.length = as.length := by rw [hk, List.length_map]
  refine lc_run as keep out (Same H1) Same hn (fun H H' acc r h => r _ _ h) (fun H H' a b => a.trans b) (fun H acc l s h => same_upd hD s _) (same_new hD _) (fun i x H e s => ⟨s _ _ hq, by rw [lk]; exact (List.getElem?_eq_some_iff.mp e).1⟩)
    (fun H s => ⟨s _ _ hq, Nat.le_of_eq lk⟩) (fun i x H y H' Qt Qf e s yl h1 h2 => ?_) hd
  obtain ⟨rfl, k, v, ek, rfl⟩ := yl
  rw [hk, List.getElem?_map, e] at ek
  have ek : enc x = (k, v) := Option.some.inj ek
  have e1 : (enc x).1 = k := by rw [ek]
  rw [← e1]
  exact hs x _ Qt Qf (List.mem_of_getElem? e) s h1 h2
end
end Ts

set_option Elab.async false
set_option linter.all false
set_option maxRecDepth 100000
set_option maxHeartbeats 4000000
/-! Tuples as data: ints, bools; equal when their members are. -/
namespace Ts
open PySem L2
def dI (ns : List Int) : PyData := .tuple (ns.map .int)
def dB (bs : List Bool) : PyData := .tuple (bs.map .bool)
theorem eqvAll_I : ∀ ns ms : List Int, PyData.eqvAll (ns.map .int) (ms.map .int) = decide (ns = ms)
  | [], [] => rfl
  | [], _ :: _ => rfl
  | _ :: _, [] => rfl
  | n :: ns, m :: ms => by
    show (PyData.eqv (.int n) (.int m) && PyData.eqvAll (ns.map .int) (ms.map .int)) = _
    rw [eqvAll_I ns ms]
    have e : PyData.eqv (.int n) (.int m) = decide (n = m) := rfl
    rw [e, Bool.eq_iff_iff]
    simp
theorem eqv_I (ns ms : List Int) : PyData.eqv (dI ns) (dI ms) = decide (ns = ms) := eqvAll_I ns ms
theorem eqvAll_B : ∀ ns ms : List Bool, PyData.eqvAll (ns.map .bool) (ms.map .bool) = decide (ns = ms)
  | [], [] => rfl
  | [], _ :: _ => rfl
  | _ :: _, [] => rfl
  | n :: ns, m :: ms => by
    show (PyData.eqv (.bool n) (.bool m) && PyData.eqvAll (ns.map .bool) (ms.map .bool)) = _
    rw [eqvAll_B ns ms]
    have e : PyData.eqv (.bool n) (.bool m) = decide (n = m) := by cases n <;> cases m <;> decide
    rw [e, Bool.eq_iff_iff]
    simp
theorem eqv_B (ns ms : List Bool) : PyData.eqv (dB ns) (dB ms) = decide (ns = ms) := eqvAll_B ns ms
theorem lay_I : ∀ ns : List Int, PyData.canLayAll0 (ns.map .int) = true
  | [] => rfl
  | n :: ns => by
    show (PyData.canLay0 (.int n) && PyData.canLayAll0 (ns.map .int)) = true
    rw [lay_I ns]
    rfl
theorem lay_B : ∀ ns : List Bool, PyData.canLayAll0 (ns.map .bool) = true
  | [] => rfl
  | n :: ns => by
    show (PyData.canLay0 (.bool n) && PyData.canLayAll0 (ns.map .bool)) = true
    rw [lay_B ns]
    rfl
theorem dep_I : ∀ ns : List Int, PyData.depthAll (ns.map .int) ≤ 1
  | [] => by decide
  | n :: ns => by
    show max (PyData.depth (.int n)) (PyData.depthAll (ns.map .int)) ≤ 1
    have := dep_I ns
    have : PyData.depth (.int n) ≤ 1 := by simp [PyData.depth]
    omega
theorem dep_B : ∀ ns : List Bool, PyData.depthAll (ns.map .bool) ≤ 1
  | [] => by decide
  | n :: ns => by
    show max (PyData.depth (.bool n)) (PyData.depthAll (ns.map .bool)) ≤ 1
    have := dep_B ns
    have : PyData.depth (.bool n) ≤ 1 := by simp [PyData.depth]
    omega
theorem dI_dep (ns : List Int) : PyData.depth (dI ns) ≤ 2 := by
  have := dep_I ns
  show PyData.depthAll (ns.map .int) + 1 ≤ 2
  omega
theorem shaped_I (ns : List Int) : SeqAt.shaped (dI ns) = true := by
  unfold SeqAt.shaped
  rw [Bool.and_eq_true, decide_eq_true_iff]
  have := dI_dep ns
  exact ⟨lay_I ns, by omega⟩
theorem shaped_B (ns : List Bool) : SeqAt.shaped (dB ns) = true := by
  unfold SeqAt.shaped
  rw [Bool.and_eq_true, decide_eq_true_iff]
  have := dep_B ns
  refine ⟨lay_B ns, ?_⟩
  show PyData.depthAll (ns.map .bool) + 1 ≤ 64
  omega
theorem all_I {K : PySem.W.Frag} {H : Hp} : ∀ ns : List Int, DpAll K H (ns.map V.int) (ns.map .int)
  | [] => .nil
  | n :: ns => .cons (.int n) (all_I ns)
theorem all_B {K : PySem.W.Frag} {H : Hp} : ∀ ns : List Bool, DpAll K H (ns.map V.bl) (ns.map .bool)
  | [] => .nil
  | n :: ns => .cons (.bl n) (all_B ns)
theorem dp_I {K : PySem.W.Frag} {H : Hp} {a : Addr} {ns : List Int} (h : SqT K H a (ns.map V.int)) : Dp K H (.ref a) (dI ns) := .tup h (all_I ns)
theorem dp_B {K : PySem.W.Frag} {H : Hp} {a : Addr} {ns : List Bool} (h : SqT K H a (ns.map V.bl)) : Dp K H (.ref a) (dB ns) := .tup h (all_B ns)
/-! lists of such tuples -/
theorem any_I (S : List Int) (L : List (List Int)) : ((L.map dI).any fun z => PyData.eqv z (dI S)) = decide (S ∈ L) := by
  induction L with
  | nil => rfl
  | cons T r ih =>
    rw [List.map_cons, List.any_cons, ih, eqv_I, Bool.eq_iff_iff]
    simp only [Bool.or_eq_true, decide_eq_true_eq, List.mem_cons]
    constructor
    · rintro (rfl | h)
      · exact .inl rfl
      · exact .inr h
    · rintro (rfl | h)
      · exact .inl rfl
      · exact .inr h
theorem lay_L : ∀ L : List (List Int), PyData.canLayAll0 (L.map dI) = true
  | [] => rfl
  | S :: L => by
    show (PyData.canLay0 (dI S) && PyData.canLayAll0 (L.map dI)) = true
    rw [lay_L L]
    have e : PyData.canLay0 (dI S) = true := lay_I S
    rw [e]
    rfl
theorem dep_L : ∀ L : List (List Int), PyData.depthAll (L.map dI) ≤ 2
  | [] => by decide
  | S :: L => by
    show max (PyData.depth (dI S)) (PyData.depthAll (L.map dI)) ≤ 2
    have := dep_L L
    have := dI_dep S
    omega
theorem shaped_L (L : List (List Int)) : SeqAt.shaped (.list (L.map dI)) = true := by
  unfold SeqAt.shaped
  rw [Bool.and_eq_true, decide_eq_true_iff]
  have := dep_L L
  refine ⟨lay_L L, ?_⟩
  show PyData.depthAll (L.map dI) + 1 ≤ 64
  omega
/-- the items are the tuples L -/
abbrev TsAt (H : Hp) (xs : List V) (L : List (List Int)) : Prop := Paired (fun v S => ∃ p, v = V.ref p ∧ H p = some (.tup (S.map V.int))) xs L
theorem dp_L {K : PySem.W.Frag} {H : Hp} {a : Addr} {xs : List V} : ∀ {L : List (List Int)}, TsAt H xs L → DpAll K H xs (L.map dI) := by
  intro L h
  induction h with
  | nil => exact .nil
  | cons r t ih =>
    obtain ⟨p, rfl, hp⟩ := r
    exact .cons (dp_I (SqT.of hp)) ih
end Ts

set_option Elab.async false
set_option linter.all false
set_option maxRecDepth 100000
set_option maxHeartbeats 4000000
/-! Defs 1: whole numbers, job numbers, states, ends, atoms. -/
namespace Ts
open PySem L2
section
variable {P : Program} {w : World} {K : PySem.W.Frag} {mg : Str → Option Value} {base : Heap}
/-- what stands for an int: a number, or a thing that is none -/
inductive IsI (H : Hp) (lo hi : Int) : V → Bool → Prop where
  | int (n : Int) : IsI H lo hi (.int n) (decide (lo ≤ n ∧ n ≤ hi))
  | bl (c : Bool) : IsI H lo hi (.bl c) false
  | tup {a : Addr} {xs : List V} (h : H a = some (.tup xs)) : IsI H lo hi (.ref a) false
def spIsInt : Sp := fun vs H Q _ => ∃ v b, vs = [v] ∧ IsI H (-(10 ^ 60) + 1) (10 ^ 60 - 1) v b ∧ Q (.bl b) H
theorem scIsInt : FnScope ["value"] ["value"] (defScope (top 2)) := ⟨rfl, rfl, rfl, by decide +kernel, rfl, by decide +kernel, by decide +kernel⟩
theorem ok_is_integer {f : Addr} {fd : FuncData} (D : Def K mg "is_integer" 2 ["value"] f fd) (G : Gs K mg) (T : Bs mg) : FnOk P w K mg base CX0 1 f fd ["value"] spIsInt := by
  refine D.F.ok scIsInt (fun vs H Q E h => ?_) (fun cdv A outer s H vs Q E hr h => ?_)
  · obtain ⟨v, b, rfl, _⟩ := h
    rfl
  obtain ⟨v, b, rfl, hv, q⟩ := h
  refine ⟨_, pss_one (ps_ret (pe_and (pe_isiT (n := "int") T (pv 0) T.int) (pe_and (pe_not (pe_isiT (n := "bool") T (pv 0) T.bool)) (pe_one (pe_chain op_lt op_lt (pe_un un_neg (pe_gI G.great)) (pv 0) (pe_gI G.great)))))), ?_⟩
  cases hv with
  | int n =>
    refine ⟨_, rfl, _, _, _, _, _, rfl, .ty _, (.base (.int n)), kit_ty (r := true) (by decide +kernel), ⟨_, rfl, ?_⟩⟩
    refine ⟨_, rfl, _, _, _, _, _, rfl, .ty _, (.base (.int n)), kit_ty (r := false) (by decide +kernel), ⟨_, rfl, ⟨_, rfl, ?_⟩⟩⟩
    refine ⟨_, rfl, _, rfl, _, _, rfl, rfl, _, rfl, ?_⟩
    by_cases c1 : -(10 ^ 60 : Int) < n
    · rw [if_pos (decide_eq_true c1)]
      refine ⟨_, _, rfl, rfl, ?_⟩
      have e : decide (n < 10 ^ 60) = decide (-(10 ^ 60) + 1 ≤ n ∧ n ≤ 10 ^ 60 - 1) := by
        rw [decide_eq_decide]
        omega
      show Q (.bl (decide (n < 10 ^ 60))) H
      rw [e]
      exact q
    · rw [if_neg (by rw [decide_eq_false c1]; exact Bool.false_ne_true)]
      have e : decide (-(10 ^ 60) + 1 ≤ n ∧ n ≤ 10 ^ 60 - 1) = false := decide_eq_false (by omega)
      rw [e] at q
      exact q
  | bl c =>
    refine ⟨_, rfl, _, _, _, _, _, rfl, .ty _, (.base (.bl c)), kit_ty (r := true) (by decide +kernel), ⟨_, rfl, ?_⟩⟩
    refine ⟨_, rfl, _, _, _, _, _, rfl, .ty _, (.base (.bl c)), kit_ty (r := true) (by decide +kernel), ⟨_, rfl, ⟨_, rfl, ?_⟩⟩⟩
    exact q
  | tup h => exact ⟨_, rfl, _, _, _, _, _, rfl, .ty _, (.base (.tup h)), kit_ty (r := false) (by decide +kernel), ⟨_, rfl, q⟩⟩
def spIsFrom : Sp := fun vs H Q _ => ∃ v b, vs = [v, .int 1, .int 1000000] ∧ IsI H 1 1000000 v b ∧ Q (.bl b) H
theorem scIsFrom : FnScope ["value", "least", "most"] ["value", "least", "most"] (defScope (top 3)) := ⟨rfl, rfl, rfl, by decide +kernel, rfl, by decide +kernel, by decide +kernel⟩
theorem ok_is_from {f g : Addr} {fd gd : FuncData} (D : Def K mg "is_from" 3 ["value", "least", "most"] f fd) (D1 : Def K mg "is_integer" 2 ["value"] g gd) (G1 : FnOk P w K mg base CX0 1 g gd ["value"] spIsInt) : FnOk P w K mg base CX0 2 f fd ["value", "least", "most"] spIsFrom := by
  refine D.F.ok scIsFrom (fun vs H Q E h => ?_) (fun cdv A outer s H vs Q E hr h => ?_)
  · obtain ⟨v, b, rfl, _⟩ := h
    rfl
  obtain ⟨v, b, rfl, hv, q⟩ := h
  refine ⟨_, pss_one (ps_ret (pe_and (pe_callD D1 G1 hr (pa_cons (pv 0) pa_nil)) (pe_one (pe_chain op_le op_le (pv 1) (pv 0) (pv 2))))), ?_⟩
  cases hv with
  | int n =>
    refine ⟨_, rfl, _, _, rfl, .int n, _, rfl, ?_⟩
    by_cases c : -(10 ^ 60 : Int) + 1 ≤ n ∧ n ≤ 10 ^ 60 - 1
    · rw [if_pos (decide_eq_true c)]
      refine ⟨_, rfl, _, rfl, _, _, rfl, rfl, _, rfl, ?_⟩
      by_cases c1 : (1 : Int) ≤ n
      · rw [if_pos (decide_eq_true c1)]
        refine ⟨_, rfl, _, _, rfl, rfl, ?_⟩
        have e : decide (n ≤ 1000000) = decide (1 ≤ n ∧ n ≤ 1000000) := by
          rw [decide_eq_decide]
          omega
        show Q (.bl (decide (n ≤ 1000000))) H
        rw [e]
        exact q
      · rw [if_neg (by rw [decide_eq_false c1]; exact Bool.false_ne_true)]
        rw [decide_eq_false (by omega)] at q
        exact q
    · rw [if_neg (by rw [decide_eq_false c]; exact Bool.false_ne_true)]
      rw [decide_eq_false (by omega)] at q
      exact q
  | bl c => exact ⟨_, rfl, _, _, rfl, .bl c, _, rfl, q⟩
  | tup h => exact ⟨_, rfl, _, _, rfl, .tup h, _, rfl, q⟩
def spIsJob : Sp := fun vs H Q _ => ∃ v b, vs = [v] ∧ IsI H 1 1000000 v b ∧ Q (.bl b) H
theorem scIsJob : FnScope ["value"] ["value"] (defScope (top 28)) := ⟨rfl, rfl, rfl, by decide +kernel, rfl, by decide +kernel, by decide +kernel⟩
theorem ok_is_job_number {f g : Addr} {fd gd : FuncData} (D : Def K mg "is_job_number" 28 ["value"] f fd) (G : Gs K mg) (D1 : Def K mg "is_from" 3 ["value", "least", "most"] g gd) (G1 : FnOk P w K mg base CX0 2 g gd ["value", "least", "most"] spIsFrom) : FnOk P w K mg base CX0 3 f fd ["value"] spIsJob := by
  refine D.F.ok scIsJob (fun vs H Q E h => ?_) (fun cdv A outer s H vs Q E hr h => ?_)
  · obtain ⟨v, b, rfl, _⟩ := h
    rfl
  obtain ⟨v, b, rfl, hv, q⟩ := h
  refine ⟨_, pss_one (ps_ret (pe_callD D1 G1 hr (pa_cons (pv 0) (pa_cons pe_int (pa_cons (pe_gI G.jobn) pa_nil))))), ?_⟩
  exact ⟨_, rfl, _, _, rfl, hv, q⟩
def spIsState : Sp := fun vs H Q _ => ∃ e : Sg, vs = [sV e] ∧ Q (.bl true) H
theorem scIsState : FnScope ["value"] ["value"] (defScope (top 17)) := ⟨rfl, rfl, rfl, by decide +kernel, rfl, by decide +kernel, by decide +kernel⟩
theorem ok_is_state {f : Addr} {fd : FuncData} (D : Def K mg "is_state" 17 ["value"] f fd) (G : Gs K mg) (T : Bs mg) : FnOk P w K mg base CX0 1 f fd ["value"] spIsState := by
  refine D.F.ok scIsState (fun vs H Q E h => ?_) (fun cdv A outer s H vs Q E hr h => ?_)
  · obtain ⟨v, rfl, _⟩ := h
    rfl
  obtain ⟨e, rfl, q⟩ := h
  obtain ⟨a, ma, ka⟩ := G.states
  refine ⟨_, pss_one (ps_ret (pe_and (pe_isiT (n := "str") T (pv 0) T.str) (pe_one (pe_cmpR op_in_seq (pv 0) (pe_gR ma) (by rfl))))), ?_⟩
  refine ⟨_, rfl, _, _, _, _, _, rfl, .ty _, (.base (.str _)), kit_ty (r := true) (by decide +kernel), ⟨_, rfl, ?_⟩⟩
  refine ⟨_, rfl, _, _, rfl, .inr (ka.sq H), rfl, by decide, ?_⟩
  have z : inV (sV e) (allSg.map sV) = true := by cases e <;> decide
  show Q (.bl (inV (sV e) (allSg.map sV))) H
  rw [z]
  exact q
def spEnds (K : PySem.W.Frag) : Sp := fun vs H Q _ => ∃ e : Sg, vs = [sV e] ∧ ∀ r H', Same H H' → SqT K H' r ((ends e).map sV) → Q (.ref r) H'
theorem scEnds : FnScope ["state"] ["state"] (defScope (top 18)) := ⟨rfl, rfl, rfl, by decide +kernel, rfl, by decide +kernel, by decide +kernel⟩
theorem ok_ends_behind {f : Addr} {fd : FuncData} (D : Def K mg "ends_behind" 18 ["state"] f fd) (G : Gs K mg) : FnOk P w K mg base CX0 1 f fd ["state"] (spEnds K) := by
  refine D.F.ok scEnds (fun vs H Q E h => ?_) (fun cdv A outer s H vs Q E hr h => ?_)
  · obtain ⟨v, rfl, _⟩ := h
    rfl
  obtain ⟨e, rfl, q⟩ := h
  obtain ⟨a, ma, ka⟩ := G.ends
  refine ⟨_, pss_cons (ps_if (pt_cmpR op_eq (pv 0) (pe_gS G.waiting) (nomark _)) (pss_one (ps_ret (pe_gR ma))) pss_nil)
    (pss_one (ps_ret (pe_ifExp (pt_cmpR op_eq (pv 0) (pe_gS G.begun) (nomark _)) (pe_slice sl_tupA (pe_gR ma) (po_some pe_int) po_none) (pe_tup (pa_cons (pv 0) pa_nil))))), ?_⟩
  refine ⟨_, rfl, rfl, _, rfl, ?_⟩
  have one : ∀ e : Sg, ends e = [e] → (∀ r H', Same H H' → SqT K H' r ((ends e).map sV) → Q (.ref r) H') → ∀ p, H p = none → Q (.ref p) (upd H p (.tup [sV e])) := fun e h1 q p hp => by
    refine q p _ (same_new hp _) ?_
    rw [h1]
    exact SqT.of upd_same
  cases e with
  | waiting => exact q a H (fun _ _ h => h) (ka.sq H)
  | begun =>
    refine ⟨_, rfl, rfl, _, rfl, ?_⟩
    refine ⟨_, rfl, a, _, rfl, ka.sq H, fun z => absurd z (by decide), fun _ p hp => q p _ (same_new hp _) (SqT.of upd_same)⟩
  | left => exact ⟨_, rfl, rfl, _, rfl, _, rfl, by show 1 ≤ sizeLine; decide, one _ rfl q⟩
  | well => exact ⟨_, rfl, rfl, _, rfl, _, rfl, by show 1 ≤ sizeLine; decide, one _ rfl q⟩
  | ill => exact ⟨_, rfl, rfl, _, rfl, _, rfl, by show 1 ≤ sizeLine; decide, one _ rfl q⟩
  | late => exact ⟨_, rfl, rfl, _, rfl, _, rfl, by show 1 ≤ sizeLine; decide, one _ rfl q⟩
  | gone => exact ⟨_, rfl, rfl, _, rfl, _, rfl, by show 1 ≤ sizeLine; decide, one _ rfl q⟩
def spAtom : Sp := fun vs H Q _ => ∃ (x : Wd) (e : Sg), vs = [wV x, sV e] ∧ ∀ H', Same H H' → Q (.bl (truth x e)) H'
theorem scAtom : FnScope ["word", "state"] ["word", "state"] (defScope (top 19)) := ⟨rfl, rfl, rfl, by decide +kernel, rfl, by decide +kernel, by decide +kernel⟩
theorem ok_is_atom_true {f : Addr} {fd : FuncData} (D : Def K mg "is_atom_true" 19 ["word", "state"] f fd) (G : Gs K mg) : FnOk P w K mg base CX0 1 f fd ["word", "state"] spAtom := by
  refine D.F.ok scAtom (fun vs H Q E h => ?_) (fun cdv A outer s H vs Q E hr h => ?_)
  · obtain ⟨x, e, rfl, _⟩ := h
    rfl
  obtain ⟨x, e, rfl, q⟩ := h
  obtain ⟨a, ma, ka⟩ := G.ends
  refine ⟨_, pss_cons (ps_if (pt_cmpR op_eq (pv 0) (pe_gS G.begun) (nomark _)) (pss_one (ps_ret (pe_cmpR op_notIn_seq (pv 1) (pe_tup (pa_cons (pe_gS G.waiting) (pa_cons (pe_gS G.left) pa_nil))) (by rfl)))) pss_nil)
    (pss_one (ps_ret (pe_ifExp (pt_cmpR op_eq (pv 0) (pe_gS G.over) (nomark _)) (pe_cmpR op_in_seq (pv 1) (pe_gR ma) (by rfl)) (pe_cmpR op_eq (pv 1) (pv 0) (nomark _))))), ?_⟩
  refine ⟨_, rfl, rfl, _, rfl, ?_⟩
  have s0 : Same H H := fun _ _ h => h
  have q0 := q H s0
  cases x with
  | begun =>
    refine ⟨_, rfl, by show 2 ≤ sizeLine; decide, fun p hp => ?_⟩
    refine ⟨p, _, rfl, .inr (SqT.of upd_same), rfl, by decide, ?_⟩
    have z : (if true = true then !inV (sV e) [.str "waiting", .str "left"] else inV (sV e) [.str "waiting", .str "left"]) = truth .begun e := by cases e <;> decide
    have q1 := q _ (same_new hp (.tup [.str "waiting", .str "left"]))
    rw [← z] at q1
    exact q1
  | over =>
    refine ⟨_, rfl, rfl, _, rfl, _, rfl, a, _, rfl, .inr (ka.sq H), rfl, by decide, ?_⟩
    have z : (if false = true then !inV (sV e) (endsAll.map sV) else inV (sV e) (endsAll.map sV)) = truth .over e := by cases e <;> decide
    rw [← z] at q0
    exact q0
  | well =>
    refine ⟨_, rfl, rfl, _, rfl, _, rfl, _, rfl, rfl, ?_⟩
    have z : decide (sV e = wV .well) = truth .well e := by cases e <;> decide
    rw [← z] at q0
    exact q0
  | ill =>
    refine ⟨_, rfl, rfl, _, rfl, _, rfl, _, rfl, rfl, ?_⟩
    have z : decide (sV e = wV .ill) = truth .ill e := by cases e <;> decide
    rw [← z] at q0
    exact q0
  | late =>
    refine ⟨_, rfl, rfl, _, rfl, _, rfl, _, rfl, rfl, ?_⟩
    have z : decide (sV e = wV .late) = truth .late e := by cases e <;> decide
    rw [← z] at q0
    exact q0
  | left =>
    refine ⟨_, rfl, rfl, _, rfl, _, rfl, _, rfl, rfl, ?_⟩
    have z : decide (sV e = wV .left) = truth .left e := by cases e <;> decide
    rw [← z] at q0
    exact q0
end
end Ts

set_option Elab.async false
set_option linter.all false
set_option maxRecDepth 100000
set_option maxHeartbeats 4000000
/-! Defs 2: ascending numbers. -/
namespace Ts
open PySem L2
section
variable {P : Program} {w : World} {K : PySem.W.Frag} {mg : Str → Option Value} {base : Heap}
def ascB (ns : List Int) : Bool := (ns.zip (ns.drop 1)).all fun p => decide (p.1 < p.2)
def spAsc (K : PySem.W.Frag) : Sp := fun vs H Q _ => ∃ a ns, vs = [.ref a] ∧ SqT K H a (ns.map V.int) ∧ ns.length ≤ 1000 ∧ ∀ H', Same H H' → Q (.bl (ascB ns)) H'
theorem scAsc : FnScope ["items", "one", "other"] ["items"] (defScope (top 4)) := ⟨rfl, rfl, rfl, by decide +kernel, rfl, by decide +kernel, by decide +kernel⟩
theorem ok_are_ascending {f : Addr} {fd : FuncData} (D : Def K mg "are_ascending" 4 ["items"] f fd) (T : Bs mg) : FnOk P w K mg base CX0 1 f fd ["items"] (spAsc K) := by
  refine D.F.ok scAsc (fun vs H Q E h => ?_) (fun cdv A outer s H vs Q E hr h => ?_)
  · obtain ⟨a, ns, rfl, _⟩ := h
    rfl
  obtain ⟨a, ns, rfl, hT, hl, q⟩ := h
  refine ⟨_, pss_one (ps_ret (pe_callB (cr_all rfl) rfl T.all (by decide +kernel) (pa_cons (pe_lc (own := [("one", 1), ("other", 2)]) (g := gTup K 2 (gCons (gName 1) (gCons (gName 2) gNil))) rfl scAsc.nd (RZ.pi_zipA rfl T.zip (pa_cons (pv 0) (pa_cons (pe_slice sl_tupA (pv 0) (po_some pe_int) po_none) pa_nil)))
    (blkOk_by (N := ["items", "one", "other"]) (sc := defScope (top 4)) (by decide +kernel)) (fun _ _ _ _ _ => pg_tup rfl (pgs_cons (pg_name (i := 1) scAsc.nd rfl (Or.inl rfl)) (pgs_cons (pg_name (i := 2) scAsc.nd rfl (Or.inl rfl)) pgs_nil)))
    (fun _ _ _ _ _ => pts_nil) (fun _ _ _ _ _ => pe_cmpR op_lt (pv 1) (pv 2) (nomark _))) pa_nil))), ?_⟩
  have body : ∀ b H2, Same H H2 → SqT K H2 b ((ns.drop 1).map V.int) → ∀ D, H2 D = none → _ := fun b H2 s2 hb D hD =>
    lc_run (σ := L2.start ["items", "one", "other"] [.ref a]) (vs := [1, 2]) (g := gTup K 2 (gCons (gName 1) (gCons (gName 2) gNil))) (tt := tYes) (te := tOp (rI0 fun i j => V.bl (decide (i < j))) (tVar 1) (tVar 2)) (J := RZ.ItzT K a b) (H1 := H2) (D := D)
      (Qd := fun H' => rAll K [.ref D] H' Q) (ns.zip (ns.drop 1)) (fun _ => true) (fun p => .bl (decide (p.1 < p.2))) (Same H2) Same
      (by rw [List.length_zip]; exact Nat.lt_of_le_of_lt (Nat.min_le_left _ _) (small1000 hl)) (fun H H' acc r h => r _ _ h) (fun H H' a b => a.trans b) (fun H acc l s h => same_upd hD s _) (same_new hD _)
      (fun i p H e s3 => by
        rw [List.getElem?_zip_eq_some] at e
        exact ⟨_, _, .int p.1, .int p.2, sameT (s2.trans s3) hT, sameT s3 hb, by rw [List.getElem?_map, e.1]; rfl, by rw [List.getElem?_map, e.2]; rfl⟩)
      (fun H s3 => ⟨_, _, sameT (s2.trans s3) hT, sameT s3 hb, .inr (by rw [List.length_map, List.length_zip]; exact Nat.le_of_eq (Nat.min_eq_right (by rw [List.length_drop]; omega)).symm)⟩)
      (fun i p H x H' Qt Qf e s3 y h1 h2 => by
        rw [List.getElem?_zip_eq_some] at e
        obtain ⟨t, x1, y1, rfl, ht, rfl, f1, f2⟩ := y
        have e1 := f1 _ (sameT (s2.trans s3) hT)
        have e2 := f2 _ (sameT s3 hb)
        rw [List.getElem?_map, e.1] at e1
        rw [List.getElem?_map, e.2] at e2
        cases e1
        cases e2
        refine ⟨t, _, rfl, SqT.of upd_same, rfl, _, _, rfl, _, _, rfl, rfl, rfl, ?_⟩
        refine ⟨_, rfl, _, rfl, _, _, rfl, rfl, ?_⟩
        exact h1 rfl _ (same_new ht _))
      (fun H3 s3 h3 => by
        refine ⟨D, (ns.zip (ns.drop 1)).map fun p => decide (p.1 < p.2), rfl, ?_, ?_⟩
        · rw [List.map_map]
          refine SqL.of ?_
          rw [h3, List.filter_eq_self.mpr (fun _ _ => rfl)]
          rfl
        · have e : ((ns.zip (ns.drop 1)).map fun p => decide (p.1 < p.2)).all id = ascB ns := by
            rw [List.all_map]
            rfl
          rw [e]
          exact q H3 (s2.trans s3))
  have cut : cutV (ns.map V.int) (some 1) none = (ns.drop 1).map V.int := by
    unfold cutV
    show ((ns.map V.int).drop (min 1 (ns.map V.int).length)).take ((ns.map V.int).length - min 1 (ns.map V.int).length) = _
    cases ns with
    | nil => rfl
    | cons x r =>
      have e : min 1 ((x :: r).map V.int).length = 1 := Nat.min_eq_left (by simp)
      rw [e]
      show (r.map V.int).take ((r.map V.int).length + 1 - 1) = r.map V.int
      rw [Nat.add_sub_cancel, List.take_length]
  refine ⟨_, rfl, _, rfl, _, rfl, a, _, rfl, hT, fun z => ?_, fun z p hp => ?_⟩
  · refine ⟨a, a, _, _, rfl, .inr ⟨hT, hT, ?_⟩⟩
    have e : ns = [] := by
      have z1 : min 1 (ns.map V.int).length = 0 := z.1
      rw [List.length_map] at z1
      exact List.length_eq_zero_iff.mp (by omega)
    subst e
    exact fun D hD => body a H (same_refl H) hT D hD
  · refine ⟨a, p, _, _, rfl, .inr ⟨sameT (same_new hp _) hT, SqT.of upd_same, ?_⟩⟩
    exact fun D hD => body p _ (same_new hp _) (by rw [← cut]; exact SqT.of upd_same) D hD
end
end Ts

set_option Elab.async false
set_option linter.all false
set_option maxRecDepth 100000
set_option maxHeartbeats 4000000
/-! Defs 3: formulas in the heap, their nodes, their atoms. -/
namespace Ts
open PySem L2
def cS : Bool → Str
  | true => "and"
  | false => "or"
def AtAt (H : Hp) (v : V) (a : At) : Prop := ∃ p, v = .ref p ∧ H p = some (.tup [wV a.1, .int a.2])
abbrev AtsAt (H : Hp) (xs : List V) (l : List At) : Prop := Paired (AtAt H) xs l
def FmAt (H : Hp) (v : V) : Fm → Prop
  | .atom a => AtAt H v a
  | .node c l => ∃ p b xs, v = .ref p ∧ H p = some (.tup [.str (cS c), .ref b]) ∧ H b = some (.tup xs) ∧ AtsAt H xs l
def FmOk : Fm → Prop
  | .atom a => 1 ≤ a.2 ∧ a.2 ≤ 1000000
  | .node _ l => (∀ a ∈ l, 1 ≤ a.2 ∧ a.2 ≤ 1000000) ∧ 2 ≤ l.length ∧ l.length ≤ 3
def depthF : Fm → Nat
  | .atom _ => 1
  | .node _ _ => 2
theorem depthF_pos (f : Fm) : 1 ≤ depthF f := by cases f <;> exact Nat.le_add_left 1 _
theorem AtAt.same {H H' : Hp} (s : Same H H') {v : V} {a : At} (h : AtAt H v a) : AtAt H' v a := let ⟨p, e, h⟩ := h; ⟨p, e, s _ _ h⟩
theorem paired_mono {α β : Type} {R R' : α → β → Prop} (h : ∀ a b, R a b → R' a b) : ∀ {l : List α} {m : List β}, Paired R l m → Paired R' l m
  | _, _, .nil => .nil
  | _, _, .cons r t => .cons (h _ _ r) (paired_mono h t)
theorem AtsAt.same {H H' : Hp} (s : Same H H') {xs : List V} {l : List At} (h : AtsAt H xs l) : AtsAt H' xs l := paired_mono (fun _ _ h => h.same s) h
theorem FmAt.same {H H' : Hp} (s : Same H H') {v : V} {f : Fm} (h : FmAt H v f) : FmAt H' v f := by
  cases f with
  | atom a => exact AtAt.same s h
  | node c l =>
    obtain ⟨p, b, xs, e, h1, h2, h3⟩ := h
    exact ⟨p, b, xs, e, s _ _ h1, s _ _ h2, h3.same s⟩
/-- the members, as formulas -/
theorem paired_zip {α β : Type} {R : α → β → Prop} : ∀ {l : List α} {m : List β}, Paired R l m → ∃ z : List (α × β), z.map (·.1) = l ∧ z.map (·.2) = m ∧ ∀ p ∈ z, R p.1 p.2
  | _, _, .nil => ⟨[], rfl, rfl, by simp⟩
  | _, _, .cons (a := a) (b := b) r t => by
    obtain ⟨z, e1, e2, h⟩ := paired_zip t
    refine ⟨(a, b) :: z, by rw [List.map_cons, e1], by rw [List.map_cons, e2], fun p hp => ?_⟩
    rcases List.mem_cons.mp hp with rfl | hp
    · exact r
    · exact h p hp
section
variable {P : Program} {w : World} {K : PySem.W.Frag} {mg : Str → Option Value} {base : Heap}
theorem ok_none {f : Addr} {fd : FuncData} {ps : List Str} {k : Nat} {sp : Sp} (h : ∀ vs H Q E, ¬ sp vs H Q E) : FnOk P w K mg base CX0 k f fd ps sp :=
  ⟨fun vs H Q E q => absurd q (h vs H Q E), fun A outer s H args us vs Q E _ _ _ _ q => absurd q (h vs H Q E)⟩
def nodesF : Fm → Int
  | .atom _ => 1
  | .node _ l => 1 + (l.length : Int)
def spNodes (n : Nat) : Sp := fun vs H Q _ => ∃ v f d, vs = [v, .int d] ∧ FmAt H v f ∧ FmOk f ∧ depthF f ≤ n ∧ 1 ≤ d ∧ d + depthF f ≤ 9 ∧ ∀ H', Same H H' → Q (.int (nodesF f)) H'
abbrev nsNodes : List Str := ["value", "depth", "wrong", "word", "what", "part"]
theorem scNodes : FnScope nsNodes ["value", "depth"] (defScope (top 29)) := ⟨rfl, rfl, rfl, by decide +kernel, rfl, by decide +kernel, by decide +kernel⟩
theorem ok_after_nodes {n : Nat} {f g : Addr} {fd gd : FuncData} (D : Def K mg "after_nodes" 29 ["value", "depth"] f fd) (G : Gs K mg) (T : Bs mg) (DJ : Def K mg "is_job_number" 28 ["value"] g gd) (GJ : FnOk P w K mg base CX0 3 g gd ["value"] spIsJob)
    (GR : FnOk P w K mg base CX0 (3 + n) f fd ["value", "depth"] (spNodes n)) : FnOk P w K mg base CX0 (3 + n + 1) f fd ["value", "depth"] (spNodes (n + 1)) := by
  refine D.F.ok scNodes (fun vs H Q E h => ?_) (fun cdv A outer s H vs Q E hr h => ?_)
  · obtain ⟨v, f, d, rfl, _⟩ := h
    rfl
  obtain ⟨v, fm, d, rfl, hf, ok, hdn, hd1, hd9, q⟩ := h
  obtain ⟨aw, mw, kw⟩ := G.words
  refine ⟨_, pss_cons (ps_set (i := 2) scNodes.nd rfl (Or.inl rfl) (pe_op op_add (pe_gI G.nodes) pe_int))
    (pss_cons (ps_if (PW.pt (pw_or (pt_cmpR op_gt (pv 1) (pe_gI G.deep) (nomark _)) (pw_or (pt_not (pt_val (pe_isiT (n := "tuple") T (pv 0) T.tuple))) (pw_or (pt_cmpR op_ne (pe_callB call_len_seq rfl T.len PySem.boot_len (pa_cons (pv 0) pa_nil)) pe_int (nomark _))
      (pw_or1 (pt_not (pt_val (pe_isiT (n := "str") T (pe_ix ix_tup (pv 0) pe_int (fun _ _ => rfl)) T.str)))))))) (pss_one (ps_ret (pv 2))) pss_nil)
    (pss_cons (ps_asg (pv 0) (pg_tup rfl (pgs_cons (pg_name (i := 3) scNodes.nd rfl (Or.inl rfl)) (pgs_cons (pg_name (i := 4) scNodes.nd rfl (Or.inl rfl)) pgs_nil))))
    (pss_cons (ps_if (pt_cmpR op_in_seq (pv 3) (pe_gR mw) (by rfl)) (pss_one (ps_ret (pe_ifExp (pt_val (pe_callD DJ GJ (hr.mono (by omega)) (pa_cons (pv 4) pa_nil))) pe_int (pv 2)))) pss_nil)
    (pss_cons (ps_if (PW.pt (pw_or (pt_cmpR op_notIn_seq (pv 3) (pe_tup (pa_cons (pe_gS G.both) (pa_cons (pe_gS G.either) pa_nil))) (by rfl)) (pw_or (pt_not (pt_val (pe_isiT (n := "tuple") T (pv 4) T.tuple)))
      (pw_or1 (pt_not (pt_chain op_le op_le pe_int (pe_callB call_len_seq rfl T.len PySem.boot_len (pa_cons (pv 4) pa_nil)) (pe_gI G.members))))))) (pss_one (ps_ret (pv 2))) pss_nil)
    (pss_one (ps_ret (pe_op op_add pe_int (pe_callB (cr_sum rfl) rfl T.sum (by decide +kernel) (pa_cons (pe_lc (own := [("part", 5)]) (g := gName 5) rfl scNodes.nd (pi_tup (pv 4)) (blkOk_by (N := nsNodes) (sc := defScope (top 29)) (by decide +kernel))
      (fun _ _ _ _ _ => pg_name (i := 5) scNodes.nd rfl (Or.inl rfl)) (fun _ _ _ _ _ => pts_nil) (fun _ _ _ _ _ => pe_callD D GR hr (pa_cons (pv 5) (pa_cons (pe_op op_add (pv 1) pe_int) pa_nil)))) pa_nil)))))))))
    , ?_⟩
  refine ⟨_, _, rfl, rfl, ?_⟩
  refine ⟨_, rfl, _, _, rfl, rfl, _, rfl, ?_⟩
  have d1 : ¬ (d > 8) := by have := depthF_pos fm; omega
  refine ite2 (fun c => absurd (of_decide_eq_true c) d1) fun _ => ?_
  cases fm with
  | atom a =>
    obtain ⟨p, rfl, hp⟩ := hf
    refine ⟨_, rfl, _, _, _, _, _, rfl, .ty _, .base (.tup hp), kit_ty (r := true) (by decide +kernel), _, rfl, ?_⟩
    refine ⟨_, rfl, p, _, rfl, .inr (SqT.of hp), rfl, _, rfl, ?_⟩
    refine ⟨_, rfl, p, _, _, _, rfl, rfl, SqT.of hp, (show atI [wV a.1, V.int a.2] 0 = some (wV a.1) from rfl), ?_⟩
    refine ⟨_, _, _, _, _, rfl, .ty _, .base (.str _), kit_ty (r := true) (by decide +kernel), _, rfl, ?_⟩
    refine ⟨_, rfl, _, _, rfl, SqT.of hp, rfl, _, _, rfl, _, _, rfl, rfl, ?_⟩
    have z : (if false = true then !inV (wV a.1) (allWd.map wV) else inV (wV a.1) (allWd.map wV)) = true := by cases a.1 <;> decide
    refine ⟨_, rfl, aw, _, rfl, .inr (kw.sq H), rfl, by decide, _, congrArg V.bl z, ?_⟩
    refine iteT ?_
    have j : decide (1 ≤ a.2 ∧ a.2 ≤ 1000000) = true := decide_eq_true ok
    refine ⟨_, rfl, _, _, rfl, .int a.2, _, congrArg V.bl j, ?_⟩
    exact q H (same_refl H)
  | node c l =>
    obtain ⟨p, b, xs, rfl, hp, hb, hx⟩ := hf
    refine ⟨_, rfl, _, _, _, _, _, rfl, .ty _, .base (.tup hp), kit_ty (r := true) (by decide +kernel), _, rfl, ?_⟩
    refine ⟨_, rfl, p, _, rfl, .inr (SqT.of hp), rfl, _, rfl, ?_⟩
    refine ⟨_, rfl, p, _, _, _, rfl, rfl, SqT.of hp, (show atI [V.str (cS c), V.ref b] 0 = some (.str (cS c)) from rfl), ?_⟩
    refine ⟨_, _, _, _, _, rfl, .ty _, .base (.str _), kit_ty (r := true) (by decide +kernel), _, rfl, ?_⟩
    refine ⟨_, rfl, _, _, rfl, SqT.of hp, rfl, _, _, rfl, _, _, rfl, rfl, ?_⟩
    have z : (if false = true then !inV (.str (cS c)) (allWd.map wV) else inV (.str (cS c)) (allWd.map wV)) = false := by cases c <;> decide
    refine ⟨_, rfl, aw, _, rfl, .inr (kw.sq H), rfl, by decide, _, congrArg V.bl z, ?_⟩
    refine iteF ?_
    refine ⟨_, rfl, by show 2 ≤ sizeLine; decide, fun t ht => ?_⟩
    have s1 := same_new ht (.tup [.str "and", .str "or"])
    have z2 : (if true = true then !inV (.str (cS c)) [.str "and", .str "or"] else inV (.str (cS c)) [.str "and", .str "or"]) = false := by cases c <;> decide
    refine ⟨t, _, rfl, .inr (SqT.of upd_same), rfl, by decide, _, congrArg V.bl z2, ?_⟩
    refine iteF ?_
    have hb1 := s1 _ _ hb
    have hx1 := hx.same s1
    refine ⟨_, rfl, _, _, _, _, _, rfl, .ty _, .base (.tup hb1), kit_ty (r := true) (by decide +kernel), _, rfl, ?_⟩
    have lx : xs.length = l.length := Paired.length hx
    have c1 : decide ((2 : Int) ≤ ((xs.length : Nat) : Int)) = true := decide_eq_true (by have := ok.2.1; omega)
    refine ⟨_, rfl, b, _, rfl, .inr (SqT.of hb1), _, _, rfl, rfl, _, congrArg V.bl c1, ?_⟩
    refine iteT ?_
    have c2 : decide (((xs.length : Nat) : Int) ≤ 20) = true := decide_eq_true (by have := ok.2.2; omega)
    refine ⟨_, _, rfl, rfl, _, congrArg V.bl c2, ?_⟩
    refine iteF ?_
    obtain ⟨z, e1, e2, hz⟩ := paired_zip hx1
    have hT : SqT K (upd H t (.tup [.str "and", .str "or"])) b (z.map (·.1)) := by rw [e1]; exact SqT.of hb1
    refine ⟨_, rfl, b, rfl, ⟨_, hT⟩, fun D hD => ?_⟩
    refine lc_tupS z (·.1) (fun _ => true) (fun _ => .int 1) hD hT (by have : z.length = l.length := by rw [← e2, List.length_map]
                                                                       exact small1000 (by have := ok.2.2; omega)) (fun y H2 Qt Qf hy s2 k1 k2 => ?_) fun H2 s2 hD2 => ?_
    · refine ⟨rfl, _, rfl, _, rfl, _, _, rfl, rfl, ?_⟩
      have hl : y.2 ∈ l := by rw [← e2]; exact List.mem_map.mpr ⟨y, hy, rfl⟩
      have h9 : d + ((2 : Nat) : Int) ≤ 9 := hd9
      have h8 : d + 1 + ((1 : Nat) : Int) ≤ 9 := by omega
      exact ⟨_, .atom y.2, _, rfl, (hz y hy).same s2, ok.1 _ hl, Nat.le_of_succ_le_succ hdn, by omega, h8, fun H3 s3 => k1 rfl H3 s3⟩
    · have lz : z.length = l.length := by rw [← e2, List.length_map]
      refine ⟨D, z.map fun _ => 1, rfl, ?_, _, _, rfl, rfl, ?_⟩
      · refine SqL.of ?_
        rw [hD2, List.filter_eq_self.mpr (fun _ _ => rfl), List.map_map]
        rfl
      · have sm : ∀ z : List (V × At), (z.map fun _ => (1 : Int)).sum = (z.length : Int) := fun z => by
          induction z with
          | nil => rfl
          | cons a r ih => rw [List.map_cons, List.sum_cons, ih, List.length_cons]; omega
        have e : V.int (1 + (z.map fun _ => (1 : Int)).sum) = V.int (nodesF (.node c l)) := by
          rw [sm, lz]
          rfl
        show Q (V.int (1 + (z.map fun _ => (1 : Int)).sum)) H2
        rw [e]
        exact q H2 (s1.trans s2)
theorem ok_nodes2 {f g : Addr} {fd gd : FuncData} (D : Def K mg "after_nodes" 29 ["value", "depth"] f fd) (G : Gs K mg) (T : Bs mg) (DJ : Def K mg "is_job_number" 28 ["value"] g gd) (GJ : FnOk P w K mg base CX0 3 g gd ["value"] spIsJob) : FnOk P w K mg base CX0 5 f fd ["value", "depth"] (spNodes 2) :=
  ok_after_nodes (n := 1) D G T DJ GJ (ok_after_nodes (n := 0) D G T DJ GJ (ok_none fun vs H Q E h => by
    obtain ⟨v, f, d, _, _, _, h, _⟩ := h
    have := depthF_pos f
    omega))
end
end Ts

set_option Elab.async false
set_option linter.all false
set_option maxRecDepth 100000
set_option maxHeartbeats 4000000
/-! Defs 4: the atoms of a formula, the jobs that it names. -/
namespace Ts
open PySem L2
section
variable {P : Program} {w : World} {K : PySem.W.Frag} {mg : Str → Option Value} {base : Heap}
def spAtoms (n : Nat) : Sp := fun vs H Q _ => ∃ v f, vs = [v] ∧ FmAt H v f ∧ FmOk f ∧ depthF f ≤ n ∧ ∀ r xs H', Same H H' → H r = none → H' r = some (.lst xs) → AtsAt H' xs f.atoms → Q (.ref r) H'
abbrev nsAtoms : List Str := ["formula", "part", "atom"]
theorem scAtoms : FnScope nsAtoms ["formula"] (defScope (top 30)) := ⟨rfl, rfl, rfl, by decide +kernel, rfl, by decide +kernel, by decide +kernel⟩
def Tups (H H' : Hp) : Prop := ∀ p xs, H p = some (.tup xs) → H' p = some (.tup xs)
theorem tups_upd {H : Hp} {D : Addr} {ys : List V} {o : HO} (h : H D = some (.lst ys)) : Tups H (upd H D o) := fun p xs e => by
  rw [upd_ne (fun z => by rw [z, h] at e; cases e)]
  exact e
theorem AtAt.tups {H H' : Hp} (s : Tups H H') {v : V} {a : At} (h : AtAt H v a) : AtAt H' v a := let ⟨p, e, h⟩ := h; ⟨p, e, s _ _ h⟩
theorem AtsAt.tups {H H' : Hp} (s : Tups H H') {xs : List V} {l : List At} (h : AtsAt H xs l) : AtsAt H' xs l := paired_mono (fun _ _ h => h.tups s) h
theorem FmAt.tups {H H' : Hp} (s : Tups H H') {v : V} {f : Fm} (h : FmAt H v f) : FmAt H' v f := by
  cases f with
  | atom a => exact AtAt.tups s h
  | node c l =>
    obtain ⟨p, b, xs, e, h1, h2, h3⟩ := h
    exact ⟨p, b, xs, e, s _ _ h1, s _ _ h2, h3.tups s⟩
theorem same_none {H H' : Hp} (s : Same H H') {r : Addr} (h : H' r = none) : H r = none := by
  cases e : H r with
  | none => rfl
  | some o => rw [s _ _ e] at h; cases h
theorem paired_get2 {α β : Type} {R : α → β → Prop} : ∀ {l : List α} {m : List β}, Paired R l m → ∀ {i : Nat} {a : α}, l[i]? = some a → ∃ b, m[i]? = some b ∧ R a b
  | _, _, .nil, i, a, h => by simp at h
  | _, _, .cons r t, 0, a, h => by
    simp only [List.getElem?_cons_zero, Option.some.injEq] at h
    subst h
    exact ⟨_, rfl, r⟩
  | _, _, .cons r t, i + 1, a, h => by
    simp only [List.getElem?_cons_succ] at h ⊢
    exact paired_get2 t h
theorem paired_snoc {α β : Type} {R : α → β → Prop} {a : α} {b : β} (q : R a b) : ∀ {l : List α} {m : List β}, Paired R l m → Paired R (l ++ [a]) (m ++ [b])
  | _, _, .nil => .cons q .nil
  | _, _, .cons r t => .cons r (paired_snoc q t)
theorem ok_atoms_in {n : Nat} {f : Addr} {fd : FuncData} (D : Def K mg "atoms_in" 30 ["formula"] f fd) (G : Gs K mg) (GR : FnOk P w K mg base CX0 n f fd ["formula"] (spAtoms n)) : FnOk P w K mg base CX0 (n + 1) f fd ["formula"] (spAtoms (n + 1)) := by
  refine D.F.ok scAtoms (fun vs H Q E h => ?_) (fun cdv A outer s H vs Q E hr h => ?_)
  · obtain ⟨v, f, rfl, _⟩ := h
    rfl
  obtain ⟨v, fm, rfl, hf, ok, hdn, q⟩ := h
  refine ⟨_, pss_cons (ps_if (pt_cmpR op_notIn_seq (pe_ix ix_tup (pv 0) pe_int (fun _ _ => rfl)) (pe_tup (pa_cons (pe_gS G.both) (pa_cons (pe_gS G.either) pa_nil))) (by rfl)) (pss_one (ps_ret (pe_lst (pa_cons (pv 0) pa_nil)))) pss_nil)
    (pss_one (ps_ret (pe_lc2 (own := [("part", 1), ("atom", 2)]) (vs1 := [2]) (g := gName 1) (g1 := gName 2) (wi1 := iList K (tCall (spAtoms n) [] E0 (tCons (tVar 1) tNil))) rfl scAtoms.nd (pi_tup (pe_ix ix_tup (pv 0) pe_int (fun _ _ => rfl))) (blkOk_by (N := nsAtoms) (sc := defScope (top 30)) (by decide +kernel)) (by decide)
      (fun _ _ _ _ _ => pg_name (i := 1) scAtoms.nd rfl (Or.inl rfl)) (fun _ _ _ _ _ => pts_nil) (fun _ _ _ _ _ => pi_list (pe_callD D GR hr (pa_cons (pv 1) pa_nil)))
      (fun _ _ _ _ _ => pg_name (i := 2) scAtoms.nd rfl (Or.inl rfl)) (fun _ _ _ _ _ => pts_nil) (fun _ _ _ _ _ => pv 2)))), ?_⟩
  cases fm with
  | atom a =>
    obtain ⟨p, rfl, hp⟩ := hf
    refine ⟨_, rfl, p, _, _, _, rfl, rfl, SqT.of hp, (show atI [wV a.1, V.int a.2] 0 = some (wV a.1) from rfl), ?_⟩
    refine ⟨by show 2 ≤ sizeLine; decide, fun t ht => ?_⟩
    have z2 : (if true = true then !inV (wV a.1) [.str "and", .str "or"] else inV (wV a.1) [.str "and", .str "or"]) = true := by cases a.1 <;> decide
    refine ⟨t, _, rfl, .inr (SqT.of upd_same), rfl, by decide, _, congrArg V.bl z2, ?_⟩
    refine iteT ?_
    have s1 := same_new ht (.tup [.str "and", .str "or"])
    refine ⟨_, rfl, by show 1 ≤ sizeLine; decide, fun r hr => ?_⟩
    have s2 := same_new hr (.lst [.ref p])
    exact q r _ _ (s1.trans s2) (same_none s1 hr) upd_same (.cons ⟨p, rfl, s2 _ _ (s1 _ _ hp)⟩ .nil)
  | node c l =>
    obtain ⟨p, b, xs, rfl, hp, hb, hx⟩ := hf
    refine ⟨_, rfl, p, _, _, _, rfl, rfl, SqT.of hp, (show atI [V.str (cS c), V.ref b] 0 = some (.str (cS c)) from rfl), ?_⟩
    refine ⟨by show 2 ≤ sizeLine; decide, fun t ht => ?_⟩
    have s1 := same_new ht (.tup [.str "and", .str "or"])
    have z2 : (if true = true then !inV (.str (cS c)) [.str "and", .str "or"] else inV (.str (cS c)) [.str "and", .str "or"]) = false := by cases c <;> decide
    refine ⟨t, _, rfl, .inr (SqT.of upd_same), rfl, by decide, _, congrArg V.bl z2, ?_⟩
    refine iteF ?_
    have hp1 := s1 _ _ hp
    have hb1 := s1 _ _ hb
    have hx1 := hx.same s1
    have lx : xs.length = l.length := Paired.length hx
    have l3 : l.length ≤ 3 := ok.2.2
    generalize upd H t (.tup [.str "and", .str "or"]) = H1 at *
    refine ⟨_, rfl, p, _, _, _, rfl, rfl, SqT.of hp1, (show atI [V.str (cS c), V.ref b] 1 = some (.ref b) from rfl), ?_⟩
    refine ⟨b, rfl, ⟨_, SqT.of hb1⟩, fun D hD => ?_⟩
    refine ⟨fun i m H2 => m = l.length - i ∧ i ≤ l.length ∧ Same H1 H2 ∧ ∃ acc, H2 D = some (.lst acc) ∧ AtsAt H2 acc (l.take i), ⟨l.length, rfl, Nat.zero_le _, same_new hD _, [], upd_same, .nil⟩, ?_⟩
    rintro i m H2 ⟨rfl, hi, s2, acc, hA, ha⟩
    by_cases hlt : i < l.length
    · have tk : l.take (i + 1) = l.take i ++ [l[i]] := List.take_succ_eq_append_getElem hlt
      obtain ⟨x, hxi⟩ : ∃ x, xs[i]? = some x := ⟨xs[i]'(by omega), List.getElem?_eq_getElem (by omega)⟩
      obtain ⟨y, hyi, hxy⟩ := paired_get2 hx1 hxi
      have ey : y = l[i] := by
        rw [List.getElem?_eq_getElem hlt] at hyi
        exact (Option.some.inj hyi).symm
      refine .inr ⟨⟨xs, x, sameT s2 (SqT.of hb1), hxi⟩, fun H3 => i + 1 ≤ l.length ∧ Same H1 H3 ∧ ∃ acc, H3 D = some (.lst acc) ∧ AtsAt H3 acc (l.take (i + 1)), fun H3 h3 => ⟨l.length - (i + 1), by omega, rfl, h3⟩, fun x' H3 y3 => ?_⟩
      obtain ⟨rfl, f3⟩ := y3
      have e3 := f3 _ (sameT s2 (SqT.of hb1))
      rw [hxi] at e3
      cases e3
      refine ⟨rfl, _, rfl, x, .atom y, rfl, hxy.same s2, ok.1 _ (by rw [ey]; exact List.getElem_mem hlt), Nat.le_of_succ_le_succ hdn, fun r ys H4 s4 nr hr4 hy4 => ?_⟩
      refine ⟨r, rfl, ⟨_, SqL.of hr4⟩, ?_⟩
      cases hy4 with
      | cons hy4 hn =>
        cases hn
        rename_i y4
        have hA4 := s4 _ _ hA
        have ha4 := ha.same s4
        refine ⟨fun j k H5 => (j = 0 ∧ k = 1 ∧ H5 = H4) ∨ (j = 1 ∧ k = 0 ∧ H5 = upd H4 D (.lst (acc ++ [y4]))), ⟨1, .inl ⟨rfl, rfl, rfl⟩⟩, ?_⟩
        have ne : r ≠ D := fun z => by
          rw [z, hA] at nr
          cases nr
        rintro j k H5 (⟨rfl, rfl, rfl⟩ | ⟨rfl, rfl, rfl⟩)
        · refine .inr ⟨⟨_, _, SqL.of hr4, rfl⟩, fun H6 => H6 = upd H5 D (.lst (acc ++ [y4])), fun H6 h6 => ⟨0, by decide, .inr ⟨rfl, rfl, h6⟩⟩, fun x6 H6 y6 => ?_⟩
          obtain ⟨rfl, f6⟩ := y6
          have e6 := f6 _ (SqL.of hr4)
          cases e6
          refine ⟨rfl, _, rfl, acc, hA4, ?_, rfl⟩
          have := Paired.length ha
          rw [List.length_take] at this
          exact small1000 (by omega)
        · refine .inl ⟨⟨_, SqL.of (by rw [upd_ne ne]; exact hr4), Nat.le_refl _⟩, hlt, same_upd hD (s2.trans s4) _, _, upd_same, ?_⟩
          have tu := tups_upd (o := .lst (acc ++ [y4])) hA4
          rw [tk, ← ey]
          exact paired_snoc (hy4.tups tu) (ha4.tups tu)
    · have e : i = l.length := by omega
      subst e
      rw [List.take_length] at ha
      exact .inl ⟨⟨xs, sameT s2 (SqT.of hb1), by omega⟩, q D acc H2 (s1.trans s2) (same_none s1 hD) hA ha⟩
end
end Ts

set_option Elab.async false
set_option linter.all false
set_option maxRecDepth 100000
set_option maxHeartbeats 4000000
/-! Defs 5: the jobs that a formula names. -/
namespace Ts
open PySem L2
def addK (ks : List Int) (n : Int) : List Int := if n ∈ ks then ks else ks ++ [n]
def kbl (ks : List Int) : List (Key × V) := ks.map fun n => (Sum.inl n, V.bl true)
theorem kbl_any {ks : List Int} {n : Int} : ((kbl ks).any fun kv => decide (kv.1 = (Sum.inl n : Key))) = decide (n ∈ ks) := by
  rw [Bool.eq_iff_iff, List.any_eq_true, decide_eq_true_iff]
  constructor
  · rintro ⟨kv, h, e⟩
    obtain ⟨m, hm, rfl⟩ := List.mem_map.mp h
    have e := of_decide_eq_true e
    injection e with e
    rw [← e]
    exact hm
  · exact fun h => ⟨_, List.mem_map.mpr ⟨n, h, rfl⟩, decide_eq_true rfl⟩
theorem putK_kbl (ks : List Int) (n : Int) : putK (kbl ks) (Sum.inl n) (.bl true) = kbl (addK ks n) := by
  unfold putK addK
  rw [kbl_any]
  by_cases h : n ∈ ks
  · rw [if_pos (decide_eq_true h), if_pos h]
    unfold kbl
    rw [List.map_map]
    refine List.map_congr_left fun m _ => ?_
    show (if (Sum.inl m : Key) = Sum.inl n then ((Sum.inl m : Key), V.bl true) else (Sum.inl m, V.bl true)) = _
    split <;> rfl
  · rw [if_neg (by rw [decide_eq_false h]; exact Bool.false_ne_true), if_neg h]
    unfold kbl
    rw [List.map_append]
    rfl
theorem addK_mem {ks : List Int} {n m : Int} : m ∈ addK ks n ↔ m ∈ ks ∨ m = n := by
  unfold addK
  split
  · rename_i h
    exact ⟨.inl, fun h' => h'.elim id fun e => e ▸ h⟩
  · rw [List.mem_append, List.mem_singleton]
theorem addK_nodup {ks : List Int} {n : Int} (h : ks.Nodup) : (addK ks n).Nodup := by
  unfold addK
  split
  · exact h
  · rename_i q
    rw [List.nodup_append]
    refine ⟨h, by simp, fun a ha b hb => ?_⟩
    rw [List.mem_singleton.mp hb]
    exact fun e => q (e ▸ ha)
theorem addK_len {ks : List Int} {n : Int} : (addK ks n).length ≤ ks.length + 1 := by
  unfold addK
  split
  · exact Nat.le_succ _
  · rw [List.length_append]
    exact Nat.le_refl _
def keysF (ns : List Int) : List Int := ns.foldl addK []
theorem keysF_snoc (ns : List Int) (n : Int) : keysF (ns ++ [n]) = addK (keysF ns) n := by
  unfold keysF
  rw [List.foldl_append]
  rfl
theorem fold_mem : ∀ {ns ks : List Int} {m : Int}, m ∈ ns.foldl addK ks ↔ m ∈ ks ∨ m ∈ ns
  | [], ks, m => by simp
  | n :: r, ks, m => by
    rw [List.foldl_cons, fold_mem, addK_mem, List.mem_cons, or_assoc]
theorem keysF_mem {ns : List Int} {m : Int} : m ∈ keysF ns ↔ m ∈ ns := by
  unfold keysF
  rw [fold_mem]
  simp
theorem fold_nodup : ∀ {ns ks : List Int}, ks.Nodup → (ns.foldl addK ks).Nodup
  | [], _, h => h
  | n :: r, _, h => fold_nodup (ns := r) (addK_nodup h)
theorem keysF_nodup (ns : List Int) : (keysF ns).Nodup := fold_nodup List.nodup_nil
theorem fold_len : ∀ {ns ks : List Int}, (ns.foldl addK ks).length ≤ ks.length + ns.length
  | [], ks => Nat.le_refl _
  | n :: r, ks => by
    have h1 := fold_len (ns := r) (ks := addK ks n)
    have h2 := addK_len (ks := ks) (n := n)
    rw [List.foldl_cons, List.length_cons]
    omega
theorem keysF_len (ns : List Int) : (keysF ns).length ≤ ns.length := by
  have := fold_len (ns := ns) (ks := [])
  simpa [keysF] using this
/-- an ascending list of different numbers -/
theorem asc_of {ys ks : List Int} (p : ys.Perm ks) (s : ys.Pairwise (· ≤ ·)) (nd : ks.Nodup) : ys.Pairwise (· < ·) := by
  have ndy : ys.Nodup := p.nodup_iff.mpr nd
  refine List.Pairwise.imp₂ (R := fun a b => a ≤ b) (S := fun a b => a ≠ b) (fun a b h1 h2 => ?_) s ndy
  omega
def DGetNs (H : Hp) : Prop := True
section
variable {P : Program} {w : World} {K : PySem.W.Frag} {mg : Str → Option Value} {base : Heap}
def spNamed : Sp := fun vs H Q _ => ∃ v f, vs = [v] ∧ FmAt H v f ∧ FmOk f ∧ ∀ (r : Addr) (ns : List Int) (H' : Hp), Same H H' → H r = none → H' r = some (.lst (ns.map V.int)) → ns.Pairwise (· < ·) → (∀ n, n ∈ ns ↔ n ∈ f.jobs) → ns.length ≤ 3 → Q (.ref r) H'
abbrev nsNamed : List Str := ["formula", "word", "number"]
theorem scNamed : FnScope nsNamed ["formula"] (defScope (top 31)) := ⟨rfl, rfl, rfl, by decide +kernel, rfl, by decide +kernel, by decide +kernel⟩
theorem depthF_le2 (f : Fm) : depthF f ≤ 2 := by cases f <;> simp [depthF]
theorem atoms_len {f : Fm} (ok : FmOk f) : f.atoms.length ≤ 3 := by
  cases f with
  | atom a => exact (by decide : 1 ≤ 3)
  | node c l => exact ok.2.2
theorem dk_ne_tups {H : Hp} {D : Addr} {kvs : List (Key × V)} {o : HO} (h : H D = some (.dK kvs)) : Tups H (upd H D o) := fun p xs e => by
  rw [upd_ne (fun z => by rw [z, h] at e; cases e)]
  exact e
theorem ok_named_in {f g : Addr} {fd gd : FuncData} (D : Def K mg "named_in" 31 ["formula"] f fd) (T : Bs mg) (DA : Def K mg "atoms_in" 30 ["formula"] g gd) (GA : FnOk P w K mg base CX0 2 g gd ["formula"] (spAtoms 2)) : FnOk P w K mg base CX0 3 f fd ["formula"] spNamed := by
  refine D.F.ok scNamed (fun vs H Q E h => ?_) (fun cdv A outer s H vs Q E hr h => ?_)
  · obtain ⟨v, f, rfl, _⟩ := h
    rfl
  obtain ⟨v, fm, rfl, hf, ok, q⟩ := h
  refine ⟨_, pss_one (ps_ret (pe_callB (call_sortedDI rfl) rfl T.sorted (by decide +kernel) (pa_cons (pe_dc (own := [("word", 1), ("number", 2)]) (g := gTup K 2 (gCons (gName 1) (gCons (gName 2) gNil))) rfl scNamed.nd (pi_list (pe_callD DA GA hr (pa_cons (pv 0) pa_nil)))
    (blkOk_by (N := nsNamed) (sc := defScope (top 31)) (by decide +kernel)) (fun _ _ _ _ _ => pg_tup rfl (pgs_cons (pg_name (i := 1) scNamed.nd rfl (Or.inl rfl)) (pgs_cons (pg_name (i := 2) scNamed.nd rfl (Or.inl rfl)) pgs_nil))) (fun _ _ _ _ _ => pts_nil)
    (fun _ _ _ _ _ => pv 2) (fun _ _ _ _ _ => pe_bl)) pa_nil))), ?_⟩
  have d2 := depthF_le2 fm
  refine ⟨_, rfl, _, _, rfl, hf, ok, d2, fun r xs H1 s1 nr hr1 hx1 => ?_⟩
  refine ⟨r, rfl, ⟨_, SqL.of hr1⟩, fun D hD => ?_⟩
  have lx : xs.length = fm.atoms.length := Paired.length hx1
  have l3 := atoms_len ok
  have neD : r ≠ D := fun z => by
    rw [z, hD] at hr1
    cases hr1
  refine ⟨fun i m H2 => m = xs.length - i ∧ i ≤ xs.length ∧ Same H1 H2 ∧ H2 D = some (.dK (kbl (keysF ((fm.atoms.map (·.2)).take i)))), ⟨xs.length, rfl, Nat.zero_le _, same_new hD _, by rw [upd_same]; rfl⟩, ?_⟩
  rintro i m H2 ⟨rfl, hi, s2, hD2⟩
  have hr2 := s2 _ _ hr1
  by_cases hlt : i < xs.length
  · have hla : i < fm.atoms.length := by omega
    have hxi : xs[i]? = some xs[i] := List.getElem?_eq_getElem hlt
    obtain ⟨a, hai, p, hp1, hp2⟩ := paired_get2 hx1 hxi
    refine .inr ⟨⟨xs, _, SqL.of hr2, hxi⟩, fun H3 => i + 1 ≤ xs.length ∧ Same H1 H3 ∧ H3 D = some (.dK (kbl (keysF ((fm.atoms.map (·.2)).take (i + 1))))), fun H3 h3 => ⟨xs.length - (i + 1), by omega, rfl, h3⟩, fun x H3 y => ?_⟩
    obtain ⟨rfl, f3⟩ := y
    have e3 := f3 _ (SqL.of hr2)
    rw [hxi] at e3
    cases e3
    refine ⟨p, _, hp1, SqT.of (s2 _ _ hp2), rfl, _, _, rfl, _, _, rfl, rfl, rfl, ?_⟩
    refine ⟨_, rfl, _, Sum.inl a.2, rfl, hD2, ?_, hlt, same_upd hD s2 _, ?_⟩
    · have h1 := keysF_len ((fm.atoms.map (·.2)).take i)
      rw [List.length_take] at h1
      unfold kbl
      rw [List.length_map]
      exact small1000 (by omega)
    · have tk : (fm.atoms.map (·.2)).take (i + 1) = (fm.atoms.map (·.2)).take i ++ [a.2] := by
        rw [List.take_succ, List.getElem?_map, hai]
        rfl
      rw [upd_same, tk, keysF_snoc]
      exact congrArg (fun z => some (HO.dK z)) (putK_kbl _ _)
  · have e : i = xs.length := by omega
    subst e
    have tk : (fm.atoms.map (·.2)).take xs.length = fm.jobs := by
      rw [lx]
      exact List.take_of_length_le (by rw [List.length_map]; exact Nat.le_refl _)
    rw [tk] at hD2
    refine .inl ⟨⟨xs, SqL.of hr2, Nat.le_refl _⟩, ?_⟩
    have lk : (keysF fm.jobs).length ≤ 3 := by
      have h1 := keysF_len fm.jobs
      have h2 : fm.jobs.length = fm.atoms.length := List.length_map _
      omega
    refine ⟨D, kbl (keysF fm.jobs), keysF fm.jobs, rfl, .of hD2, by unfold kbl; rw [List.map_map]; rfl, by omega, fun ys p perm srt np => ?_⟩
    refine q p ys _ (s1.trans (s2.trans (same_new np _))) (same_none (s1.trans s2) np) upd_same (asc_of perm srt (keysF_nodup _)) (fun n => ?_) (by rw [perm.length_eq]; exact lk)
    rw [perm.mem_iff, keysF_mem]
def spAfter : Sp := fun vs H Q _ => ∃ v f, vs = [v] ∧ FmAt H v f ∧ FmOk f ∧ ∀ H', Same H H' → Q (.bl true) H'
theorem scAfter : FnScope ["value"] ["value"] (defScope (top 32)) := ⟨rfl, rfl, rfl, by decide +kernel, rfl, by decide +kernel, by decide +kernel⟩
theorem ok_is_after_formula {f g g' : Addr} {fd gd gd' : FuncData} (D : Def K mg "is_after_formula" 32 ["value"] f fd) (G : Gs K mg) (T : Bs mg) (DN : Def K mg "after_nodes" 29 ["value", "depth"] g gd) (GN : FnOk P w K mg base CX0 5 g gd ["value", "depth"] (spNodes 2))
    (DM : Def K mg "named_in" 31 ["formula"] g' gd') (GM : FnOk P w K mg base CX0 3 g' gd' ["formula"] spNamed) : FnOk P w K mg base CX0 6 f fd ["value"] spAfter := by
  refine D.F.ok scAfter (fun vs H Q E h => ?_) (fun cdv A outer s H vs Q E hr h => ?_)
  · obtain ⟨v, f, rfl, _⟩ := h
    rfl
  obtain ⟨v, fm, rfl, hf, ok, q⟩ := h
  refine ⟨_, pss_one (ps_ret (pe_and (pe_cmpR op_le (pe_callD DN GN hr (pa_cons (pv 0) (pa_cons pe_int pa_nil))) (pe_gI G.nodes) (nomark _))
    (pe_one (pe_cmpR op_le (pe_callB call_len_seq rfl T.len PySem.boot_len (pa_cons (pe_callD DM GM (hr.mono (by decide)) (pa_cons (pv 0) pa_nil)) pa_nil)) (pe_gI G.named) (nomark _))))), ?_⟩
  have d2 := depthF_le2 fm
  have n4 : nodesF fm ≤ 60 := by
    cases fm with
    | atom a => show (1 : Int) ≤ 60; decide
    | node c l => have := ok.2.2; show 1 + (l.length : Int) ≤ 60; omega
  refine ⟨_, rfl, _, _, _, rfl, hf, ok, d2, by decide, by omega, fun H1 s1 => ⟨_, _, rfl, rfl, _, rfl, ?_⟩⟩
  rw [decide_eq_true n4]
  refine ⟨_, rfl, _, _, rfl, hf.same s1, ok, fun r ns H2 s2 _ hr2 _ _ l3 => ?_⟩
  refine ⟨r, _, rfl, .inl (SqL.of hr2), _, _, rfl, rfl, ?_⟩
  have e : decide ((((ns.map V.int).length : Nat) : Int) ≤ 6) = true := decide_eq_true (by rw [List.length_map]; omega)
  show Q (.bl (decide ((((ns.map V.int).length : Nat) : Int) ≤ 6))) H2
  rw [e]
  exact q H2 (s1.trans s2)
end
end Ts

set_option Elab.async false
set_option linter.all false
set_option maxRecDepth 100000
set_option maxHeartbeats 4000000
/-! Defs 6: known states, what could be, rows. -/
namespace Ts
open PySem L2
def kvS (kv : List (Int × Sg)) : List (Key × V) := kv.map fun p => (Sum.inl p.1, sV p.2)
theorem valV_kvS (kv : List (Int × Sg)) (n : Int) : valV (kvS kv) (Sum.inl n) = (kv.lookup n).map sV := by
  induction kv with
  | nil => rfl
  | cons p r ih =>
    obtain ⟨m, e⟩ := p
    unfold kvS valV at ih ⊢
    rw [List.map_cons, List.find?_cons, List.lookup_cons]
    by_cases h : m = n
    · subst h
      rw [show decide ((Sum.inl m : Key) = Sum.inl m) = true from decide_eq_true rfl, show (m == m) = true from beq_self_eq_true m]
      rfl
    · rw [show decide ((Sum.inl m : Key) = Sum.inl n) = false from decide_eq_false fun z => h (Sum.inl.inj z), show (n == m) = false from beq_eq_false_iff_ne.mpr fun z => h z.symm]
      exact ih
theorem dget_kvS {H : Hp} {d : Addr} {kv : List (Int × Sg)} {n : Int} {e : Sg} (h : H d = some (.dK (kvS kv))) (l : kv.lookup n = some e) : DGet H d (.int n) (some (sV e)) := by
  have g := DGet.k (k := Sum.inl n) h
  rw [valV_kvS, l] at g
  exact g
theorem inV_ints (n : Int) (ns : List Int) : inV (.int n) (ns.map V.int) = decide (n ∈ ns) := by
  induction ns with
  | nil => rfl
  | cons m r ih =>
    unfold inV at ih ⊢
    rw [List.map_cons, List.any_cons, ih]
    have e : eqV (.int m) (.int n) = decide (n = m) := by
      show decide (m = n) = decide (n = m)
      rw [decide_eq_decide]
      exact eq_comm
    rw [e, Bool.eq_iff_iff]
    simp
theorem flat_ints (ns : List Int) : (ns.map V.int).all flatV = true := by
  rw [List.all_map, List.all_eq_true]
  exact fun _ _ => rfl
section
variable {P : Program} {w : World} {K : PySem.W.Frag} {mg : Str → Option Value} {base : Heap}
def spKnown : Sp := fun vs H Q _ => ∃ d kv, vs = [.ref d] ∧ H d = some (.dK (kvS kv)) ∧ (∀ p ∈ kv, 1 ≤ p.1 ∧ p.1 ≤ 1000000) ∧ kv.length ≤ 1000 ∧ ∀ H', Same H H' → Q (.bl true) H'
abbrev nsKnown : List Str := ["value", "number", "state"]
theorem scKnown : FnScope nsKnown ["value"] (defScope (top 33)) := ⟨rfl, rfl, rfl, by decide +kernel, rfl, by decide +kernel, by decide +kernel⟩
theorem ok_is_known {f g g' : Addr} {fd gd gd' : FuncData} (D : Def K mg "is_known" 33 ["value"] f fd) (T : Bs mg) (DJ : Def K mg "is_job_number" 28 ["value"] g gd) (GJ : FnOk P w K mg base CX0 3 g gd ["value"] spIsJob)
    (DS : Def K mg "is_state" 17 ["value"] g' gd') (GS : FnOk P w K mg base CX0 1 g' gd' ["value"] spIsState) : FnOk P w K mg base CX0 4 f fd ["value"] spKnown := by
  refine D.F.ok scKnown (fun vs H Q E h => ?_) (fun cdv A outer s H vs Q E hr h => ?_)
  · obtain ⟨v, f, rfl, _⟩ := h
    rfl
  obtain ⟨d, kv, rfl, hd, hk, hl, q⟩ := h
  refine ⟨_, pss_cons (ps_if (pt_not (pt_val (pe_isiT (n := "dict") T (pv 0) T.dict))) (pss_one (ps_ret pe_bl)) pss_nil)
    (pss_one (ps_ret (pe_lock (pe_callB (cr_all rfl) rfl T.all (by decide +kernel) (pa_cons (pe_lc (own := [("number", 1), ("state", 2)]) (g := gTup K 2 (gCons (gName 1) (gCons (gName 2) gNil))) rfl scKnown.nd (pi_items (pv 0)) (blkOk_by (N := nsKnown) (sc := defScope (top 33)) (by decide +kernel))
      (fun _ _ _ _ _ => pg_tup rfl (pgs_cons (pg_name (i := 1) scKnown.nd rfl (Or.inl rfl)) (pgs_cons (pg_name (i := 2) scKnown.nd rfl (Or.inl rfl)) pgs_nil))) (fun _ _ _ _ _ => pts_nil)
      (fun _ _ _ _ _ => pe_and (pe_callD DJ GJ hr (pa_cons (pv 1) pa_nil)) (pe_one (pe_callD DS GS (hr.mono (by decide)) (pa_cons (pv 2) pa_nil))))) pa_nil))))), ?_⟩
  refine ⟨_, rfl, _, _, _, _, _, rfl, .ty _, .base (.dK hd), kit_ty (r := true) (by decide +kernel), _, rfl, ?_⟩
  refine ⟨d, _, hd, trivial, fun od => ?_⟩
  refine ⟨_, rfl, d, od, _, rfl, upd_same, fun D hD => ?_⟩
  refine lc_itemsS kv (fun p => (Sum.inl p.1, sV p.2)) rfl (fun _ => true) (fun _ => .bl true) hD upd_same (small1000 hl) (fun x H2 t Qt Qf hx s2 ht k1 k2 => ?_) fun H2 s2 hD2 => ?_
  · refine ⟨t, _, rfl, SqT.of upd_same, rfl, _, _, rfl, _, _, rfl, rfl, rfl, ?_⟩
    refine ⟨_, rfl, _, _, rfl, .int x.1, _, congrArg V.bl (decide_eq_true (hk x hx)), ?_⟩
    refine iteT ?_
    exact ⟨_, rfl, x.2, rfl, k1 rfl _ (same_new ht _)⟩
  · refine ⟨D, kv.map fun _ => true, rfl, SqL.of ?_, lock_at s2, ?_⟩
    · rw [hD2, List.filter_eq_self.mpr (fun _ _ => rfl), List.map_map]
      rfl
    · have e : (kv.map fun _ => true).all id = true := by
        rw [List.all_map, List.all_eq_true]
        exact fun _ _ => rfl
      rw [e]
      exact q _ (lock_same hd s2)
def spCould (K : PySem.W.Frag) : Sp := fun vs H Q _ => ∃ (x : Wd) (n : Int) (dk a dc : Addr) (kn : List (Int × Sg)) (hs : List Int) (ch : List (Int × Sg)), vs = [wV x, .int n, .ref dk, .ref a, .ref dc] ∧ H dk = some (.dK (kvS kn)) ∧ n ∈ kn.map (·.1) ∧ SqT K H a (hs.map V.int) ∧ H dc = some (.dK (kvS ch)) ∧
  ∀ H', Same H H' → Q (.bl (couldB (stL kn) hs ch x n)) H'
abbrev nsCould : List Str := ["word", "number", "known", "held", "chosen", "end"]
theorem scCould : FnScope nsCould ["word", "number", "known", "held", "chosen"] (defScope (top 35)) := ⟨rfl, rfl, rfl, by decide +kernel, rfl, by decide +kernel, by decide +kernel⟩
theorem ok_could_be {f g g' : Addr} {fd gd gd' : FuncData} (D : Def K mg "could_be" 35 ["word", "number", "known", "held", "chosen"] f fd) (T : Bs mg) (DA : Def K mg "is_atom_true" 19 ["word", "state"] g gd) (GA : FnOk P w K mg base CX0 1 g gd ["word", "state"] spAtom)
    (DE : Def K mg "ends_behind" 18 ["state"] g' gd') (GE : FnOk P w K mg base CX0 1 g' gd' ["state"] (spEnds K)) : FnOk P w K mg base CX0 2 f fd ["word", "number", "known", "held", "chosen"] (spCould K) := by
  refine D.F.ok scCould (fun vs H Q E h => ?_) (fun cdv A outer s H vs Q E hr h => ?_)
  · obtain ⟨x, n, dk, a, dc, kn, hs, ch, rfl, _⟩ := h
    rfl
  obtain ⟨x, n, dk, a, dc, kn, hs, ch, rfl, hk, hn, ha, hc, q⟩ := h
  have hu := hu_of hr
  refine ⟨_, pss_cons (ps_if (pt_cmp (pc_din hu (pv 1) (pv 4))) (pss_one (ps_ret (pe_callD DA GA hr (pa_cons (pv 0) (pa_cons (pe_dget hu (pv 4) (pv 1) (fun _ _ => rfl)) pa_nil))))) pss_nil)
    (pss_one (ps_ret (pe_and (pe_cmpR op_notIn_seq (pv 1) (pv 3) (by rfl)) (pe_one (pe_callB (cr_any rfl) rfl T.any (by decide +kernel) (pa_cons (pe_lc (own := [("end", 5)]) (g := gName 5) rfl scCould.nd (pi_tup (pe_callD DE GE hr (pa_cons (pe_dget hu (pv 2) (pv 1) (fun _ _ => rfl)) pa_nil)))
      (blkOk_by (N := nsCould) (sc := defScope (top 35)) (by decide +kernel)) (fun _ _ _ _ _ => pg_name (i := 5) scCould.nd rfl (Or.inl rfl)) (fun _ _ _ _ _ => pts_nil) (fun _ _ _ _ _ => pe_callD DA GA hr (pa_cons (pv 0) (pa_cons (pv 5) pa_nil)))) pa_nil)))))), ?_⟩
  refine ⟨_, rfl, _, rfl, dc, _, rfl, DGet.k (k := Sum.inl n) hc, _, rfl, ?_⟩
  rw [valV_kvS]
  unfold couldB at q
  cases e : ch.lookup n with
  | some e1 =>
    rw [e] at q
    refine iteT ?_
    exact ⟨_, rfl, _, rfl, _, rfl, dc, _, rfl, dget_kvS hc e, x, e1, rfl, q⟩
  | none =>
    rw [e] at q
    refine iteF ?_
    refine ⟨_, rfl, _, rfl, a, _, rfl, .inr ha, rfl, flat_ints hs, _, rfl, ?_⟩
    have z : (if true = true then !inV (V.int n) (hs.map V.int) else inV (V.int n) (hs.map V.int)) = !(decide (n ∈ hs)) := by
      rw [if_pos rfl, inV_ints]
    rw [z]
    by_cases hh : n ∈ hs
    · rw [decide_eq_true hh] at q ⊢
      exact q H (same_refl H)
    · rw [decide_eq_false hh] at q ⊢
      refine iteT ?_
      obtain ⟨e2, h2, _⟩ := lookup_in hn
      have st : stL kn n = e2 := by unfold stL; rw [h2]; rfl
      rw [st] at q
      refine ⟨_, rfl, _, rfl, dk, _, rfl, dget_kvS hk h2, e2, rfl, fun r H1 s1 hr1 => ?_⟩
      refine ⟨r, rfl, ⟨_, hr1⟩, fun D hD => ?_⟩
      refine lc_tupS (ends e2) sV (fun _ => true) (fun y => .bl (truth x y)) hD hr1 (small1000 (Nat.le_trans (ends_len e2) (by decide))) (fun y H2 Qt Qf hy s2 k1 k2 => ?_) fun H2 s2 hD2 => ?_
      · exact ⟨rfl, _, rfl, _, rfl, x, y, rfl, fun H3 s3 => k1 rfl H3 s3⟩
      · refine ⟨D, (ends e2).map fun y => truth x y, rfl, SqL.of ?_, ?_⟩
        · rw [hD2, List.filter_eq_self.mpr (fun _ _ => rfl), List.map_map]
          rfl
        · have z2 : ((ends e2).map fun y => truth x y).any id = (!false && (ends e2).any fun e => truth x e) := by
            rw [List.any_map]
            rfl
          rw [z2]
          exact q _ (s1.trans s2)
end
end Ts

set_option Elab.async false
set_option linter.all false
set_option maxRecDepth 100000
set_option maxHeartbeats 4000000
/-! Defs 7: rows that are beaten, the best ends, the open jobs. -/
namespace Ts
open PySem L2
def retE : Stmt → Expr
  | .Return (some e) _ => e
  | _ => .Constant .none 0 ⟨0, 0, 0, 0⟩
def lcScope : Expr → Scope
  | .ListComp _ _ sc _ => sc
  | _ => defScope (top 0)
section
variable {P : Program} {w : World} {K : PySem.W.Frag} {mg : Str → Option Value} {base : Heap}
def spBeaten (K : PySem.W.Frag) : Sp := fun vs H Q _ => ∃ (a b : Addr) (r o : List Bool), vs = [.ref a, .ref b] ∧ SqT K H a (r.map V.bl) ∧ SqT K H b (o.map V.bl) ∧ r.length ≤ 1000 ∧ ∀ H', Same H H' → Q (.bl (beatenB r o)) H'
abbrev nsBeaten : List Str := ["row", "other", "here", "there"]
theorem scBeaten : FnScope nsBeaten ["row", "other"] (defScope (top 38)) := ⟨rfl, rfl, rfl, by decide +kernel, rfl, by decide +kernel, by decide +kernel⟩
theorem ok_is_beaten {f : Addr} {fd : FuncData} (D : Def K mg "is_beaten" 38 ["row", "other"] f fd) (T : Bs mg) : FnOk P w K mg base CX0 1 f fd ["row", "other"] (spBeaten K) := by
  refine D.F.ok scBeaten (fun vs H Q E h => ?_) (fun cdv A outer s H vs Q E hr h => ?_)
  · obtain ⟨a, b, r, o, rfl, _⟩ := h
    rfl
  obtain ⟨a, b, r, o, rfl, ha, hb, hl, q⟩ := h
  refine ⟨_, pss_one (ps_ret (pe_and (pe_cmpR (op_neD hr.units) (pv 0) (pv 1) (nomark _)) (pe_one (pe_callB (cr_all rfl) rfl T.all (by decide +kernel) (pa_cons (pe_lc (own := [("here", 2), ("there", 3)]) (g := gTup K 2 (gCons (gName 2) (gCons (gName 3) gNil))) rfl scBeaten.nd (RZ.pi_zipA rfl T.zip (pa_cons (pv 0) (pa_cons (pv 1) pa_nil)))
    (blkOk_by (N := nsBeaten) (sc := defScope (top 38)) (by decide +kernel)) (fun _ _ _ _ _ => pg_tup rfl (pgs_cons (pg_name (i := 2) scBeaten.nd rfl (Or.inl rfl)) (pgs_cons (pg_name (i := 3) scBeaten.nd rfl (Or.inl rfl)) pgs_nil)))
    (fun _ _ _ _ _ => pts_nil) (fun _ _ _ _ _ => pe_or (pv 3) (pe_one (pe_not (pv 2))))) pa_nil))))), ?_⟩
  refine ⟨_, rfl, _, rfl, _, _, dp_B ha, dp_B hb, shaped_B r, shaped_B o, _, rfl, ?_⟩
  rw [eqv_B]
  unfold beatenB at q
  by_cases hro : r = o
  · rw [decide_eq_true hro]
    rw [decide_eq_false (fun z => z hro)] at q
    exact q H (same_refl H)
  rw [decide_eq_false hro]
  rw [decide_eq_true (show r ≠ o from hro)] at q
  refine iteT ?_
  refine ⟨_, rfl, _, rfl, a, b, _, _, rfl, .inr ⟨ha, hb, fun D hD => ?_⟩⟩
  refine lc_run (r.zip o) (fun _ => true) (fun p => .bl (p.2 || !p.1)) (Same H) Same (by rw [List.length_zip]; exact Nat.lt_of_le_of_lt (Nat.min_le_left _ _) (small1000 hl)) (fun H H' acc r h => r _ _ h) (fun H H' a b => a.trans b) (fun H acc l s h => same_upd hD s _) (same_new hD _)
    (fun i p H e s3 => ?_) (fun H s3 => ⟨_, _, sameT s3 ha, sameT s3 hb, ?_⟩) (fun i p H x H' Qt Qf e s3 y h1 h2 => ?_) (fun H3 s3 h3 => ?_)
  · rw [List.getElem?_zip_eq_some] at e
    exact ⟨_, _, .bl p.1, .bl p.2, sameT s3 ha, sameT s3 hb, by rw [List.getElem?_map, e.1]; rfl, by rw [List.getElem?_map, e.2]; rfl⟩
  · rw [List.length_map, List.length_map, List.length_zip]
    omega
  · rw [List.getElem?_zip_eq_some] at e
    obtain ⟨t, x1, y1, rfl, ht, rfl, f1, f2⟩ := y
    have e1 := f1 _ (sameT s3 ha)
    have e2 := f2 _ (sameT s3 hb)
    rw [List.getElem?_map, e.1] at e1
    rw [List.getElem?_map, e.2] at e2
    cases e1
    cases e2
    refine ⟨t, _, rfl, SqT.of upd_same, rfl, _, _, rfl, _, _, rfl, rfl, rfl, ?_⟩
    refine ⟨_, rfl, _, rfl, ?_⟩
    have k1 := h1 rfl _ (same_new ht (.tup [.bl p.1, .bl p.2]))
    cases e3 : p.2 with
    | true =>
      rw [e3] at k1
      exact k1
    | false =>
      rw [e3] at k1
      refine iteF ?_
      exact ⟨_, rfl, _, rfl, k1⟩
  · refine ⟨D, (r.zip o).map fun p => p.2 || !p.1, rfl, SqL.of ?_, ?_⟩
    · rw [h3, List.filter_eq_self.mpr (fun _ _ => rfl), List.map_map]
      rfl
    · have e : ((r.zip o).map fun p => p.2 || !p.1).all id = (true && (r.zip o).all fun p => p.2 || !p.1) := by
        rw [List.all_map]
        rfl
      rw [e]
      exact q H3 s3
def spOpen (K : PySem.W.Frag) : Sp := fun vs H Q _ => ∃ (v : V) (f : Fm) (dk a dc : Addr) (kn : List (Int × Sg)) (hs : List Int) (ch : List (Int × Sg)), vs = [v, .ref dk, .ref a, .ref dc] ∧ FmAt H v f ∧ FmOk f ∧ H dk = some (.dK (kvS kn)) ∧ (∀ n ∈ f.jobs, n ∈ kn.map (·.1)) ∧ SqT K H a (hs.map V.int) ∧ H dc = some (.dK (kvS ch)) ∧
  ∀ (r : Addr) (ns : List Int) (H' : Hp), Same H H' → H r = none → H' r = some (.lst (ns.map V.int)) → (∀ n, n ∈ ns ↔ n ∈ f.jobs ∧ openB (stL kn) hs ch n = true) → ns.length ≤ 3 → Q (.ref r) H'
abbrev nsOpen : List Str := ["formula", "known", "held", "chosen", "jobs", "number"]
theorem scOpen : FnScope nsOpen ["formula", "known", "held", "chosen"] (defScope (top 37)) := ⟨rfl, rfl, rfl, by decide +kernel, rfl, by decide +kernel, by decide +kernel⟩
theorem ok_open_jobs {f g g' : Addr} {fd gd gd' : FuncData} (D : Def K mg "open_jobs" 37 ["formula", "known", "held", "chosen"] f fd) (T : Bs mg) (DM : Def K mg "named_in" 31 ["formula"] g gd) (GM : FnOk P w K mg base CX0 3 g gd ["formula"] spNamed)
    (DE : Def K mg "ends_behind" 18 ["state"] g' gd') (GE : FnOk P w K mg base CX0 1 g' gd' ["state"] (spEnds K)) : FnOk P w K mg base CX0 4 f fd ["formula", "known", "held", "chosen"] (spOpen K) := by
  refine D.F.ok scOpen (fun vs H Q E h => ?_) (fun cdv A outer s H vs Q E hr h => ?_)
  · obtain ⟨v, fm, dk, a, dc, kn, hs, ch, rfl, _⟩ := h
    rfl
  obtain ⟨v, fm, dk, a, dc, kn, hs, ch, rfl, hf, ok, hk, hjk, ha, hc, q⟩ := h
  have hu := hu_of hr
  refine ⟨_, pss_cons (ps_setLc (i := 4) (own := [("number", 5)]) (g := gName 5) rfl scOpen.nd rfl rfl (sw_true rfl rfl rfl (by decide +kernel)) (pi_list (pe_callD DM GM hr (pa_cons (pv 0) pa_nil))) (blkOk_by (N := nsOpen) (sc := defScope (top 37)) (by decide +kernel))
      (fun _ _ _ _ _ => pg_name (i := 5) scOpen.nd rfl (Or.inl rfl)) (fun _ _ _ _ _ => pts_one (PW.pt (pw_and (pt_cmpR (op_notInK K) (pv 5) (pv 2) (by rfl)) (pw_and1 (pt_cmp (pc_dnotin hu (pv 5) (pv 3))))))) (fun _ _ _ _ _ => pv 5))
    (pss_one (ps_ret (pe_lc (own := [("number", 5)]) (g := gName 5) rfl scOpen.nd (pi_list (pv 4)) (blkOk_by (N := nsOpen) (sc := defScope (top 37)) (by decide +kernel))
      (fun _ _ _ _ _ => pg_name (i := 5) scOpen.nd rfl (Or.inl rfl)) (fun _ _ _ _ _ => pts_one (pt_cmpR op_gt (pe_lenK K T.len (pe_callD DE GE (hr.mono (by decide)) (pa_cons (pe_dget hu (pv 1) (pv 5) (fun _ _ => rfl)) pa_nil))) pe_int (nomark _))) (fun _ _ _ _ _ => pv 5)))), ?_⟩
  refine ⟨_, rfl, _, _, rfl, hf, ok, fun r ns H1 s1 nr hr1 asc mem l3 => ?_⟩
  refine ⟨r, rfl, ⟨_, SqL.of hr1⟩, fun D hD => ?_⟩
  have hk1 := s1 _ _ hk
  have hc1 := s1 _ _ hc
  have ha1 := sameT s1 ha
  refine lc_lstS ns V.int (fun n => !(decide (n ∈ hs)) && (ch.lookup n).isNone) V.int hD (SqL.of hr1) (small1000 (by omega)) (fun n H2 Qt Qf hn s2 k1 k2 => ?_) fun H2 s2 hD2 => ?_
  · refine ⟨rfl, _, rfl, _, rfl, a, _, rfl, .inr (sameT s2 ha1), rfl, flat_ints hs, _, rfl, ?_⟩
    have z : (if true = true then !inV (V.int n) (hs.map V.int) else inV (V.int n) (hs.map V.int)) = !(decide (n ∈ hs)) := by
      rw [if_pos rfl, inV_ints]
    rw [z]
    by_cases hh : n ∈ hs
    · rw [decide_eq_true hh] at k2 ⊢
      exact k2 rfl H2 (same_refl H2)
    · rw [decide_eq_false hh] at k1 k2 ⊢
      refine iteT ?_
      refine ⟨_, rfl, _, rfl, dc, _, rfl, DGet.k (k := Sum.inl n) (s2 _ _ hc1), _, rfl, ?_⟩
      rw [valV_kvS]
      cases e : ch.lookup n with
      | some e1 =>
        rw [e] at k2
        exact k2 rfl H2 (same_refl H2)
      | none =>
        rw [e] at k1
        exact ⟨_, rfl, k1 rfl H2 (same_refl H2)⟩
  · refine ⟨_, rfl, D, rfl, ⟨_, SqL.of hD2⟩, fun D2 hn2 => ?_⟩
    refine lc_lstS (ns.filter fun n => !(decide (n ∈ hs)) && (ch.lookup n).isNone) V.int (fun n => decide (1 < (ends (stL kn n)).length)) V.int hn2 (SqL.of hD2) (small1000 (Nat.le_trans (List.length_filter_le _ _) (by omega))) (fun n H3 Qt Qf hn s3 k1 k2 => ?_) fun H3 s3 hD3 => ?_
    · have hnj : n ∈ kn.map (·.1) := hjk n ((mem n).mp (List.mem_filter.mp hn).1)
      obtain ⟨e2, h2, _⟩ := lookup_in hnj
      have st : stL kn n = e2 := by unfold stL; rw [h2]; rfl
      rw [st] at k1 k2
      refine ⟨rfl, _, rfl, _, rfl, dk, _, rfl, dget_kvS (s3 _ _ (s2 _ _ hk1)) h2, e2, rfl, fun r4 H4 s4 hr4 => ?_⟩
      refine ⟨r4, _, rfl, .inr hr4, _, _, rfl, rfl, _, rfl, ?_⟩
      have z : decide ((((ends e2).map sV).length : Nat) > (1 : Int)) = decide (1 < (ends e2).length) := by
        rw [List.length_map, decide_eq_decide]
        omega
      rw [z]
      cases e5 : decide (1 < (ends e2).length) with
      | true => exact ⟨_, rfl, k1 e5 H4 s4⟩
      | false => exact k2 e5 H4 s4
    · refine q D2 _ H3 (s1.trans (s2.trans s3)) (same_none (s1.trans s2) hn2) hD3 (fun n => ?_) ?_
      · rw [List.mem_filter, List.mem_filter, mem]
        unfold openB
        simp only [Bool.and_eq_true]
        constructor
        · rintro ⟨⟨h1, h2, h3⟩, h4⟩
          exact ⟨h1, ⟨h2, h3⟩, h4⟩
        · rintro ⟨h1, ⟨h2, h3⟩, h4⟩
          exact ⟨⟨h1, h2, h3⟩, h4⟩
      · exact Nat.le_trans (List.length_filter_le _ _) (Nat.le_trans (List.length_filter_le _ _) l3)
end
end Ts

set_option Elab.async false
set_option linter.all false
set_option maxRecDepth 100000
set_option maxHeartbeats 4000000
/-! Defs 8: the best ends. -/
namespace Ts
open PySem L2
theorem pi_keysRK {X : Cx} {tg e : Expr} {td : TE} (P : Program) (w : World) (he : PE X e td) (hP : X.prog = P := by rfl) (hw : X.w = w := by rfl) : PI X tg e (iKeysR P w td) := by
  subst hP hw
  exact pi_keysR he
abbrev RelQ (p : List Bool × Addr × Str) (q : List Bool × Sg) : Prop := p.1 = q.1 ∧ p.2.2 = q.2.s
theorem relQ_keys : ∀ {ps : Rws} {acc : List (List Bool × Sg)}, Paired RelQ ps acc → ps.map (·.1) = acc.map (·.1)
  | _, _, .nil => rfl
  | _, _, .cons r t => by rw [List.map_cons, List.map_cons, relQ_keys t, r.1]
theorem relQ_any (x : List Bool) : ∀ {ps : Rws} {acc : List (List Bool × Sg)}, Paired RelQ ps acc → (ps.any fun q => beatenB x q.1) = acc.any fun q => beatenB x q.1
  | _, _, .nil => rfl
  | _, _, .cons r t => by rw [List.any_cons, List.any_cons, relQ_any x t, r.1]
theorem relQ_out (f : List Bool → Bool) : ∀ {ps : Rws} {acc : List (List Bool × Sg)}, Paired RelQ ps acc → (ps.filter fun p => f p.1).map (fun p => V.str p.2.2) = ((acc.filter fun p => f p.1).map (·.2)).map sV
  | _, _, .nil => rfl
  | _, _, .cons (a := p) (b := q) r t => by
    have ih := relQ_out f t
    rw [List.filter_cons, List.filter_cons, r.1]
    split
    · rw [List.map_cons, List.map_cons, List.map_cons, ih, r.2]
      rfl
    · exact ih
theorem putRow_old {ws : List Wd} {acc : List (List Bool × Sg)} {e : Sg} (h : rowOf ws e ∈ acc.map (·.1)) : putRow ws acc e = acc := by
  unfold putRow
  rw [if_pos (List.contains_iff_mem.mpr h)]
theorem putRow_new {ws : List Wd} {acc : List (List Bool × Sg)} {e : Sg} (h : rowOf ws e ∉ acc.map (·.1)) : putRow ws acc e = acc ++ [(rowOf ws e, e)] := by
  unfold putRow
  rw [if_neg (fun z => h (List.contains_iff_mem.mp z))]
theorem putRow_nodup {ws : List Wd} {acc : List (List Bool × Sg)} {e : Sg} (h : (acc.map (·.1)).Nodup) : ((putRow ws acc e).map (·.1)).Nodup := by
  unfold putRow
  split
  · exact h
  · rename_i q
    rw [List.map_append, List.nodup_append]
    refine ⟨h, by simp, fun a ha b hb z => q ?_⟩
    have hb : b = rowOf ws e := by simpa using hb
    rw [List.contains_iff_mem]
    rw [← hb, ← z]
    exact ha
theorem fold_nodupR {ws : List Wd} : ∀ {es : List Sg} {acc : List (List Bool × Sg)}, (acc.map (·.1)).Nodup → ((es.foldl (putRow ws) acc).map (·.1)).Nodup
  | [], _, h => h
  | _ :: r, _, h => fold_nodupR (es := r) (putRow_nodup h)
section
variable {P : Program} {w : World} {K : PySem.W.Frag} {mg : Str → Option Value} {base : Heap}
def spBest (K : PySem.W.Frag) : Sp := fun vs H Q _ => ∃ (v : V) (f : Fm) (n : Int) (dk : Addr) (kn : List (Int × Sg)), vs = [v, .int n, .ref dk] ∧ FmAt H v f ∧ FmOk f ∧ H dk = some (.dK (kvS kn)) ∧ n ∈ kn.map (·.1) ∧
  ∀ (r : Addr) (H' : Hp), Same H H' → H r = none → H' r = some (.lst ((bestOf (wordsOf f n) (ends (stL kn n))).map sV)) → Q (.ref r) H'
abbrev nsBest : List Str := ["formula", "number", "known", "words", "found", "end", "word", "other", "row"]
theorem scBest : FnScope nsBest ["formula", "number", "known"] (defScope (top 39)) := ⟨rfl, rfl, rfl, by decide +kernel, rfl, by decide +kernel, by decide +kernel⟩
def scBest3 : Scope := lcScope (retE ((defBody (top 39)).getD 3 (.Pass ⟨0, 0, 0, 0⟩)))
theorem ok_best_ends {f g1 g2 g3 g4 : Addr} {fd d1 d2 d3 d4 : FuncData} (D : Def K mg "best_ends" 39 ["formula", "number", "known"] f fd) (T : Bs mg) (DA : Def K mg "atoms_in" 30 ["formula"] g1 d1) (GA : FnOk P w K mg base CX0 2 g1 d1 ["formula"] (spAtoms 2))
    (DE : Def K mg "ends_behind" 18 ["state"] g2 d2) (GE : FnOk P w K mg base CX0 1 g2 d2 ["state"] (spEnds K)) (DT : Def K mg "is_atom_true" 19 ["word", "state"] g3 d3) (GT : FnOk P w K mg base CX0 1 g3 d3 ["word", "state"] spAtom)
    (DB : Def K mg "is_beaten" 38 ["row", "other"] g4 d4) (GB : FnOk P w K mg base CX0 1 g4 d4 ["row", "other"] (spBeaten K)) : FnOk P w K mg base CX0 3 f fd ["formula", "number", "known"] (spBest K) := by
  refine D.F.ok scBest (fun vs H Q E h => ?_) (fun cdv A outer s H vs Q E hr h => ?_)
  · obtain ⟨v, fm, n, dk, kn, rfl, _⟩ := h
    rfl
  obtain ⟨v, fm, n, dk, kn, rfl, hf, ok, hk, hn, q⟩ := h
  have hu := hu_of hr
  refine ⟨_, pss_cons (ps_setLc (i := 3) (own := [("word", 6), ("other", 7)]) (g := gTup K 2 (gCons (gName 6) (gCons (gName 7) gNil))) rfl scBest.nd rfl rfl (sw_true rfl rfl rfl (by decide +kernel)) (pi_list (pe_callD DA GA hr (pa_cons (pv 0) pa_nil))) (blkOk_by (N := nsBest) (sc := defScope (top 39)) (by decide +kernel))
      (fun _ _ _ _ _ => pg_tup rfl (pgs_cons (pg_name (i := 6) scBest.nd rfl (Or.inl rfl)) (pgs_cons (pg_name (i := 7) scBest.nd rfl (Or.inl rfl)) pgs_nil))) (fun _ _ _ _ _ => pts_one (pt_cmpR op_eq (pv 7) (pv 1) (nomark _))) (fun _ _ _ _ _ => pv 6))
    (pss_cons (ps_set (i := 4) scBest.nd rfl (Or.inr rfl) pe_dnewB)
    (pss_cons (ps_for PassesOwn.never rfl (pi_tup (pe_callD DE GE (hr.mono (by decide)) (pa_cons (pe_dget hu (pv 2) (pv 1) (fun _ _ => rfl)) pa_nil))) (pg_name (i := 5) scBest.nd rfl (Or.inr rfl))
      (pss_one (ps_expr (pe_dsetB hu (pv 4) (pe_callTy call_tuple_of rfl T.tuple (by decide +kernel) (pa_cons (pe_lc (own := [("word", 6)]) (g := gName 6) rfl scBest.nd (pi_list (pv 3)) (blkOk_by (N := nsBest) (sc := defScope (top 39)) (by decide +kernel))
        (fun _ _ _ _ _ => pg_name (i := 6) scBest.nd rfl (Or.inl rfl)) (fun _ _ _ _ _ => pts_nil) (fun _ _ _ _ _ => pe_callD DT GT (hr.mono (by decide)) (pa_cons (pv 6) (pa_cons (pv 5) pa_nil)))) pa_nil)) (pv 5) ⟨rfl, rfl, rfl, rfl⟩))))
    (pss_one (ps_ret (pe_lock (pe_lc (own := [("row", 8), ("end", 5)]) (g := gTup K 2 (gCons (gName 8) (gCons (gName 5) gNil))) rfl scBest.nd (pi_itemsR (pv 4)) (blkOk_by (N := nsBest) (sc := defScope (top 39)) (by decide +kernel))
      (fun _ _ _ _ _ => pg_tup rfl (pgs_cons (pg_name (i := 8) scBest.nd rfl (Or.inr rfl)) (pgs_cons (pg_name (i := 5) scBest.nd rfl (Or.inl rfl)) pgs_nil)))
      (fun _ _ _ _ _ => pts_one (pt_not (pt_val (pe_callB (cr_anyK K) rfl T.any (by decide +kernel) (pa_cons (pe_lc (own := [("other", 7)]) (g := gName 7) rfl scBest.nd (pi_keysRK P w (pv 4)) (blkOk_by (N := nsBest) (sc := relS scBest3 (defScope (top 39))) (by decide +kernel))
        (fun _ _ _ _ _ => pg_name (i := 7) scBest.nd rfl (Or.inl rfl)) (fun _ _ _ _ _ => pts_nil) (fun _ _ _ _ _ => pe_callD DB GB (hr.mono (by decide)) (pa_cons (pv 8) (pa_cons (pv 7) pa_nil)))) pa_nil))))) (fun _ _ _ _ _ => pv 5))))))), ?_⟩
  have d2 := depthF_le2 fm
  refine ⟨_, rfl, _, _, rfl, hf, ok, d2, fun r xs H1 s1 nr hr1 hx1 => ?_⟩
  obtain ⟨z, ez1, ez2, hz⟩ := paired_zip hx1
  have lz : z.length ≤ 3 := by
    have := atoms_len ok
    rw [← ez2, List.length_map] at this
    exact this
  have hr1' : SqL K H1 r (z.map (·.1)) := by rw [ez1]; exact SqL.of hr1
  refine ⟨r, rfl, ⟨_, hr1'⟩, fun D hD => ?_⟩
  refine lc_lstS z (·.1) (fun y => decide (y.2.2 = n)) (fun y => wV y.2.1) hD hr1' (small1000 (by omega)) (fun y H2 Qt Qf hy s2 k1 k2 => ?_) fun H2 s2 hD2 => ?_
  · obtain ⟨p, hp1, hp2⟩ := hz y hy
    refine ⟨p, _, hp1, SqT.of (s2 _ _ hp2), rfl, _, _, rfl, _, _, rfl, rfl, rfl, ?_⟩
    have e1 : decide (V.int y.2.2 = V.int n) = decide (y.2.2 = n) := by
      rw [decide_eq_decide]
      exact ⟨fun h => V.int.inj h, fun h => congrArg V.int h⟩
    refine ⟨_, rfl, _, rfl, rfl, _, rfl, ?_⟩
    rw [e1]
    cases e : decide (y.2.2 = n) with
    | true => exact ⟨_, rfl, k1 e H2 (same_refl H2)⟩
    | false => exact k2 e H2 (same_refl H2)
  have hW : H2 D = some (.lst ((wordsOf fm n).map wV)) := by
    rw [hD2]
    unfold wordsOf
    rw [← ez2, List.filter_map, List.map_map, List.map_map]
    rfl
  generalize hws : wordsOf fm n = ws at *
  have lws : ws.length ≤ 3 := by
    rw [← hws]
    unfold wordsOf
    rw [List.length_map]
    exact Nat.le_trans (List.length_filter_le _ _) (atoms_len ok)
  obtain ⟨e0, h0, _⟩ := lookup_in hn
  have st : stL kn n = e0 := by unfold stL; rw [h0]; rfl
  rw [st] at q
  intro d hd
  have hk2 := s2 _ _ (s1 _ _ hk)
  have sd := same_new hd (RowsO P w d [])
  refine ⟨_, rfl, _, rfl, dk, _, rfl, dget_kvS (sd _ _ hk2) h0, e0, rfl, fun re H5 s5 hre => ?_⟩
  have hd5 : H5 d = some (RowsO P w d []) := s5 _ _ upd_same
  have hW5 : H5 D = some (.lst (ws.map wV)) := s5 _ _ (sd _ _ hW)
  have neD : D ≠ d := ne_of_none hW hd
  have l5 := ends_len e0
  refine ⟨re, rfl, ⟨_, hre⟩, ?_⟩
  have hre' : ∀ H6, (∀ b u, b ≠ d → H5 b = some u → H6 b = some u) → SqT K H6 re ((ends e0).map sV) := fun H6 o6 => by
    rcases hre with (h | ⟨o, h⟩) | h
    · exact .inl (.inl (o6 _ _ (fun z => by rw [z, hd5] at h; cases h) h))
    · exact .inl (.inr ⟨o, o6 _ _ (fun z => by rw [z, hd5] at h; cases h) h⟩)
    · exact .inr h
  refine for_tup (xs := (ends e0).map sV) (fun i σ H6 => (∃ o, σ = [some v, some (.int n), some (.ref dk), some (.ref D), some (.ref d), o, none, none, none]) ∧ (∀ b u, b ≠ d → H5 b = some u → H6 b = some u) ∧
    ∃ ps, H6 d = some (RowsO P w d ps) ∧ KeysT H6 ps ∧ ps.length ≤ i ∧ Paired RelQ ps (((ends e0).take i).foldl (putRow ws) [])) ⟨⟨none, rfl⟩, fun _ _ _ h => h, [], hd5, (fun p hp => by cases hp), Nat.le_refl _, .nil⟩
    (fun i σ H6 _ h => hre' H6 h.2.1) (fun i x σ H6 hx h => ?_) (fun σ H6 h => ?_)
  · obtain ⟨⟨o, rfl⟩, o6, ps, h6, kt, lp, rel⟩ := h
    rw [List.getElem?_map] at hx
    obtain ⟨e1, he1, rfl⟩ := Option.map_eq_some_iff.mp hx
    have hi : i < (ends e0).length := (List.getElem?_eq_some_iff.mp he1).1
    have tk : (ends e0).take (i + 1) = (ends e0).take i ++ [e1] := by
      rw [List.take_succ, he1]
      rfl
    refine ⟨_, rfl, d, ps, rfl, h6, ?_⟩
    have hW6 := o6 _ _ neD hW5
    refine ⟨_, rfl, D, rfl, ⟨_, SqL.of hW6⟩, fun D2 hD2 => ?_⟩
    refine lc_lstS ws wV (fun _ => true) (fun y => .bl (truth y e1)) hD2 (SqL.of hW6) (small1000 (by omega)) (fun y H7 Qt Qf hy s7 k1 k2 => ?_) fun H7 s7 hD7 => ?_
    · exact ⟨rfl, _, rfl, _, rfl, y, e1, rfl, fun H8 s8 => k1 rfl H8 s8⟩
    · have hr7 : H7 D2 = some (.lst ((rowOf ws e1).map V.bl)) := by
        rw [hD7, List.filter_eq_self.mpr (fun _ _ => rfl)]
        unfold rowOf
        rw [List.map_map]
        rfl
      refine ⟨D2, _, rfl, .inl ⟨SqL.of hr7, fun t ht => ?_⟩⟩
      have s8 := s7.trans (same_new ht (.tup ((rowOf ws e1).map V.bl)))
      have h8 := s8 _ _ h6
      have kt8 : KeysT (upd H7 t (.tup ((rowOf ws e1).map V.bl))) ps := fun p hp => s8 _ _ (kt p hp)
      have nd : (ps.map (·.1)).Nodup := by
        rw [relQ_keys rel]
        exact fold_nodupR List.nodup_nil
      refine ⟨_, rfl, t, rowOf ws e1, e1.s, h8, rfl, rfl, upd_same, kt8, nd, by omega, fun hm _ => ?_, fun hm _ => ?_⟩
      · refine ⟨⟨_, rfl⟩, fun b u hb h => s8 _ _ (o6 b u hb h), ps, h8, kt8, Nat.le_succ_of_le lp, ?_⟩
        rw [tk, List.foldl_append]
        show Paired RelQ ps (putRow ws _ e1)
        rw [putRow_old (by rw [← relQ_keys rel]; exact hm)]
        exact rel
      · refine ⟨⟨_, rfl⟩, fun b u hb h => by rw [upd_ne hb]; exact s8 _ _ (o6 b u hb h), ps ++ [(rowOf ws e1, t, e1.s)], upd_same, fun p hp => ?_, by rw [List.length_append]; exact Nat.succ_le_succ lp, ?_⟩
        · have key : (upd H7 t (.tup ((rowOf ws e1).map V.bl))) p.2.1 = some (.tup (p.1.map V.bl)) := by
            rcases List.mem_append.mp hp with hp | hp
            · exact kt8 p hp
            · rw [List.mem_singleton.mp hp]
              exact upd_same
          rw [upd_ne (fun z => by rw [z, h8] at key; cases key)]
          exact key
        · rw [tk, List.foldl_append]
          show Paired RelQ _ (putRow ws _ e1)
          rw [putRow_new (by rw [← relQ_keys rel]; exact hm)]
          exact paired_snoc ⟨rfl, rfl⟩ rel
  · obtain ⟨⟨o, rfl⟩, o6, ps, h6, kt, lp, rel⟩ := h
    rw [List.length_map, List.take_length] at rel
    rw [List.length_map] at lp
    refine ⟨d, _, h6, trivial, fun od => ?_⟩
    refine ⟨_, rfl, d, od, ps, rfl, upd_same, fun D2 hD2 => ?_⟩
    have ktL : KeysT (upd H6 d (.frz od (RowsO P w d ps))) ps := fun p hp => by
      rw [upd_ne (fun z => by have := kt p hp; rw [z, h6] at this; cases this)]
      exact kt p hp
    have fz : upd H6 d (.frz od (RowsO P w d ps)) d = some (.frz od (RowsO P w d ps)) := upd_same
    have back : ∀ {H7 : Hp}, Same (upd H6 d (.frz od (RowsO P w d ps))) H7 → Same H6 (upd H7 d (RowsO P w d ps)) := fun s7 => lock_same h6 s7
    have nD2 : H6 D2 = none := lock_none hD2 h6
    generalize upd H6 d (.frz od (RowsO P w d ps)) = H7 at *
    refine lc_run ps (fun p => !(ps.any fun q => beatenB p.1 q.1)) (fun p => .str p.2.2) (Same H7) Same (small1000 (by omega)) (fun H H' acc r h => r _ _ h) (fun H H' a b => a.trans b) (fun H acc l s h => same_upd hD2 s _) (same_new hD2 _)
      (fun i p H8 e s8 => ⟨s8 _ _ fz, (List.getElem?_eq_some_iff.mp e).1⟩) (fun H8 s8 => ⟨s8 _ _ fz, Nat.le_refl _⟩) (fun i p H8 x H9 Qt Qf e s8 y k1 k2 => ?_) (fun H8 s8 h8 => ?_)
    · obtain ⟨t, p', hp', rfl, ht, rfl⟩ := y
      rw [e] at hp'
      cases hp'
      have hm : p ∈ ps := List.mem_of_getElem? e
      have s9 := s8.trans (same_new ht (.tup [.ref p.2.1, .str p.2.2]))
      refine ⟨t, _, rfl, SqT.of upd_same, rfl, _, _, rfl, _, _, rfl, rfl, rfl, ?_⟩
      have t9 : Same H8 (upd H8 t (.tup [.ref p.2.1, .str p.2.2])) := same_new ht _
      generalize upd H8 t (.tup [.ref p.2.1, .str p.2.2]) = H9 at *
      refine ⟨_, rfl, d, od, ps, rfl, s9 _ _ fz, fun D3 hD3 => ?_⟩
      refine lc_run ps (fun _ => true) (fun q => .bl (beatenB p.1 q.1)) (Same H9) Same (small1000 (by omega)) (fun H H' acc r h => r _ _ h) (fun H H' a b => a.trans b) (fun H acc l s h => same_upd hD3 s _) (same_new hD3 _)
        (fun i p H8 e s8 => ⟨s8 _ _ (s9 _ _ fz), (List.getElem?_eq_some_iff.mp e).1⟩) (fun H8 s8 => ⟨s8 _ _ (s9 _ _ fz), Nat.le_refl _⟩) (fun i q H10 x H11 Qt' Qf' e' s10 y k1' k2' => ?_) (fun H10 s10 h10 => ?_)
      · obtain ⟨rfl, q', hq', rfl⟩ := y
        rw [e'] at hq'
        cases hq'
        have hq : q ∈ ps := List.mem_of_getElem? e'
        refine ⟨rfl, _, rfl, _, rfl, p.2.1, q.2.1, p.1, q.1, rfl, SqT.of (s10 _ _ (s9 _ _ (ktL p hm))), SqT.of (s10 _ _ (s9 _ _ (ktL q hq))), ?_, fun H12 s12 => k1' rfl H12 s12⟩
        have inF : ∀ {ps : Rws} {acc : List (List Bool × Sg)}, Paired RelQ ps acc → ∀ p ∈ ps, ∃ q ∈ acc, p.1 = q.1 := fun r => by
          induction r with
          | nil => intro p h; cases h
          | cons r t ih =>
            intro p h
            rcases List.mem_cons.mp h with rfl | h
            · exact ⟨_, List.mem_cons_self, r.1⟩
            · obtain ⟨q, hq, e⟩ := ih p h
              exact ⟨q, List.mem_cons_of_mem _ hq, e⟩
        obtain ⟨q2, hq2, e2⟩ := inF rel p hm
        have := (found_in (ws := ws) (es := ends e0) hq2).1
        rw [e2, this]
        unfold rowOf
        rw [List.length_map]
        omega
      · refine ⟨D3, ps.map fun q => beatenB p.1 q.1, rfl, SqL.of ?_, _, rfl, ?_⟩
        · rw [h10, List.filter_eq_self.mpr (fun _ _ => rfl), List.map_map]
          rfl
        · have e3 : (ps.map fun q => beatenB p.1 q.1).any id = ps.any fun q => beatenB p.1 q.1 := by
            rw [List.any_map]
            rfl
          rw [e3]
          cases e4 : ps.any fun q => beatenB p.1 q.1 with
          | true =>
            rw [e4] at k2
            exact k2 rfl _ (t9.trans s10)
          | false =>
            rw [e4] at k1
            exact ⟨_, rfl, k1 rfl _ (t9.trans s10)⟩
    · refine ⟨s8 _ _ fz, ?_⟩
      have b8 := back s8
      have neD2 : D2 ≠ d := fun z => by rw [z, fz] at hD2; cases hD2
      have s6 : Same H5 (upd H8 d (RowsO P w d ps)) → True := fun _ => trivial
      have hfin : (upd H8 d (RowsO P w d ps)) D2 = some (.lst ((bestOf ws (ends e0)).map sV)) := by
        rw [upd_ne neD2, h8]
        have e5 := relQ_out (fun x => !(ps.any fun q => beatenB x q.1)) rel
        rw [e5]
        unfold bestOf foundOf
        have e6 : (fun p : List Bool × Sg => !(ps.any fun q => beatenB p.1 q.1)) = fun p => !(((ends e0).foldl (putRow ws) []).any fun q => beatenB p.1 q.1) := funext fun p => by rw [relQ_any p.1 rel]
        rw [e6]
      refine q D2 _ (fun b u h => ?_) ?_ hfin
      · have nb : b ≠ d := fun z => by
          rw [z] at h
          have := s2 _ _ (s1 _ _ h)
          rw [hd] at this
          cases this
        exact b8 _ _ (o6 b u nb (s5 _ _ (sd _ _ (s2 _ _ (s1 _ _ h)))))
      · cases e7 : H D2 with
        | none => rfl
        | some u =>
          have nb : D2 ≠ d := neD2
          have := o6 D2 u nb (s5 _ _ (sd _ _ (s2 _ _ (s1 _ _ e7))))
          rw [nD2] at this
          cases this
end
end Ts

set_option Elab.async false
set_option linter.all false
set_option maxRecDepth 100000
set_option maxHeartbeats 4000000
/-! Own rules 5: objects pinned while a call runs; a lambda with parameters, handed on. -/
namespace Ts
open PySem PySem.Spec PyProof.Rows L2 LamX NdefX
/-- the very object o -/
def Pin (o : Obj) : HO := .frz o (.ext fun _ => True)
def clr (H : Hp) (a : Addr) : Hp := fun b => if b = a then none else H b
theorem clr_same {H : Hp} {a : Addr} : clr H a a = none := if_pos rfl
theorem clr_ne {H : Hp} {a b : Addr} (h : b ≠ a) : clr H a b = H b := if_neg h
theorem clr_some {H : Hp} {a b : Addr} {o : HO} (h : clr H a b = some o) : b ≠ a ∧ H b = some o := by
  unfold clr at h
  split at h
  · cases h
  · rename_i n
    exact ⟨n, h⟩
theorem upd_pin {H : Hp} {a b : Addr} {o : Obj} {u : HO} (h : upd H a (Pin o) b = some u) (n : u ≠ Pin o) : b ≠ a ∧ H b = some u := by
  unfold upd at h
  split at h
  · exact absurd (Option.some.inj h).symm n
  · rename_i q
    exact ⟨q, h⟩
section
variable {P : Program} {w : World} {K : PySem.W.Frag} {mg : Str → Option Value} {base : Heap} {A : Around} {outer : List Env} {s s' : Shared} {H : Hp} {a : Addr} {o : Obj}
theorem pin_ok {H : Hp} {h : Heap} (g : h.get? a = some o) : ObjOk P w H h a (Pin o) := ⟨g, trivial, ⟨o, g⟩, fun _ _ _ _ => trivial⟩
theorem hok_pin {H : Hp} {h : Heap} (x : HOk P w H h) (ha : H a = none) (g : h.get? a = some o) : HOk P w (upd H a (Pin o)) h := fun b u e => by
  by_cases hb : b = a
  · subst hb
    rw [upd_same] at e
    cases e
    exact pin_ok g
  · rw [upd_ne hb] at e
    exact (x b u e).stay (fun _ _ _ q => q) (fun c q => by rw [upd_ne (ne_of_none q ha)]; exact q) fun c xs q => by rw [upd_ne (ne_of_none q ha)]; exact q
theorem hok_clr {H : Hp} {h : Heap} (x : HOk P w H h) (ha : H a = some (Pin o)) : HOk P w (clr H a) h := fun b u e => by
  obtain ⟨hb, e⟩ := clr_some e
  exact (x b u e).stay (fun _ _ _ q => q) (fun c q => by rw [clr_ne (ne_of q ha (by intro z; cases z))]; exact q) fun c xs q => by rw [clr_ne (ne_of q ha (by intro z; cases z))]; exact q
theorem pin_env0 (e0 : Env0 P w K mg base A outer s H) (ha : H a = none) (g : s.heap.get? a = some o) (hb : base.objs.size ≤ a) (hf : a ∉ frs outer) : Env0 P w K mg base A outer s (upd H a (Pin o)) :=
  ⟨e0.frames, e0.mod, fun b u e => ⟨(e0.bs b u e).1, by rw [upd_ne (Nat.ne_of_lt (Nat.lt_of_lt_of_le (Heap.lt_size e) hb))]; exact (e0.bs b u e).2⟩, e0.bsz, e0.funs,
    fun b hm => by rw [upd_ne (fun z => hf (by rw [← z]; exact hm))]; exact e0.frf b hm, hok_pin e0.hok ha g, e0.bare⟩
theorem pin_end {Q Q' : VK} {u : Value} (ha : H a = none) (g : s.heap.get? a = some o) (hf : a ∉ frs outer) (h : CE outer P w (upd H a (Pin o)) s Q' u s') (hQ : ∀ v H', H' a = some (Pin o) → Q' v H' → Q v (clr H' a)) : CE outer P w H s Q u s' := by
  obtain ⟨v, H', os, bare, un, hok, r, q⟩ := h
  have hp : H' a = some (Pin o) := un.frzs a o _ upd_same
  have g' : s'.heap.get? a = some o := (hok a _ hp).1
  refine ⟨v, clr H' a, os, bare, ⟨fun b u e n hb hx => ?_, fun b u e n hb hx => ?_, fun b u e n hx => ?_, un.there, fun b xs e => ?_, fun b ob u e => ?_, fun b ps e => ?_⟩, hok_clr hok hp, r, hQ v H' hp q⟩
  · by_cases z : b = a
    · rw [z, g] at e
      cases e
      rw [z]
      exact g'
    · exact un.keep b u e (by rw [upd_ne z]; exact n) hb hx
  · have z : b ≠ a := fun z => hf (by rw [← z]; exact hb)
    exact un.slot b u e (by rw [upd_ne z]; exact n) hb hx
  · by_cases z : b = a
    · rw [z]
      exact clr_same
    · rw [clr_ne z]
      exact un.free b u e (by rw [upd_ne z]; exact n) hx
  · have z := ne_of_none e ha
    rw [clr_ne z]
    exact un.tups b xs (by rw [upd_ne z]; exact e)
  · have z := ne_of_none e ha
    rw [clr_ne z]
    exact un.frzs b ob u (by rw [upd_ne z]; exact e)
  · have z := ne_of_none e ha
    obtain ⟨more, q⟩ := un.tbls b ps (by rw [upd_ne z]; exact e)
    exact ⟨more, by rw [clr_ne z]; exact q⟩
theorem unpin_env0 (e0 : Env0 P w K mg base A outer s H) (ha : H a = some (Pin o)) : Env0 P w K mg base A outer s (clr H a) :=
  ⟨e0.frames, e0.mod, fun b u e => ⟨(e0.bs b u e).1, by
    by_cases z : b = a
    · rw [z]; exact clr_same
    · rw [clr_ne z]; exact (e0.bs b u e).2⟩, e0.bsz, e0.funs, fun b hm => by
    by_cases z : b = a
    · rw [z]; exact clr_same
    · rw [clr_ne z]; exact e0.frf b hm, hok_clr e0.hok ha, e0.bare⟩
theorem unpin_end {Q Q' : VK} {u : Value} (e0 : Env0 P w K mg base A outer s H) (ha : H a = some (Pin o)) (h : CE outer P w (clr H a) s Q' u s') (hQ : ∀ v H', H' a = none → Q' v H' → Q v (upd H' a (Pin o))) : CE outer P w H s Q u s' := by
  obtain ⟨v, H', os, bare, un, hok, r, q⟩ := h
  have g : s.heap.get? a = some o := (e0.hok a _ ha).1
  have hf : a ∉ frs outer := fun z => by
    have := e0.frf a z
    rw [ha] at this
    cases this
  have hn : H' a = none := un.free a o g clr_same (by simp)
  have g' : s'.heap.get? a = some o := un.keep a o g clr_same hf (by simp)
  refine ⟨v, upd H' a (Pin o), os, bare, ⟨fun b u e n hb hx => ?_, fun b u e n hb hx => ?_, fun b u e n hx => ?_, un.there, fun b xs e => ?_, fun b ob u e => ?_, fun b ps e => ?_⟩, hok_pin hok hn g', r, hQ v H' hn q⟩
  · have z : b ≠ a := fun z => by rw [z, ha] at n; cases n
    exact un.keep b u e (by rw [clr_ne z]; exact n) hb hx
  · have z : b ≠ a := fun z => by rw [z, ha] at n; cases n
    exact un.slot b u e (by rw [clr_ne z]; exact n) hb hx
  · have z : b ≠ a := fun z => by rw [z, ha] at n; cases n
    rw [upd_ne z]
    exact un.free b u e (by rw [clr_ne z]; exact n) hx
  · have z : b ≠ a := ne_of e ha (by intro z; cases z)
    rw [upd_ne z]
    exact un.tups b xs (by rw [clr_ne z]; exact e)
  · by_cases z : b = a
    · rw [z, ha] at e
      rw [z, upd_same, ← Option.some.inj e]
    · rw [upd_ne z]
      exact un.frzs b ob u (by rw [clr_ne z]; exact e)
  · have z : b ≠ a := ne_of e ha (by intro z; cases z)
    obtain ⟨more, q⟩ := un.tbls b ps (by rw [clr_ne z]; exact e)
    exact ⟨more, by rw [upd_ne z]; exact q⟩
/-- the lambda's body run -/
theorem lam_run {N ps fr : List Str} {F : NF} {f : Addr} {body : Expr} {pm ctv : Value} {us : List Value} {vs : List V} {ws : List (Option V)} {k : Nat} {tb : TE} {Q : VK} (S : NScope N ps fr F.scope)
    (hb : bindArgs (PySem.W.kla_fn "<lambda>" F.qual F.params body F.scope F.cl pm (.ref F.c) ctv) ⟨us, []⟩ = pure (ps.zip us)) (hr : Room (k + 1) A) (e0 : Env0 P w K mg base A outer s H)
    (hf : s.heap.get? f = some (PySem.W.kla_obj "<lambda>" F.qual F.params body F.scope F.cl pm F.c ctv)) (hc : H F.c = some (CodeO F.c F.qual)) (C : CellsAt F.cl fr ws s.heap H) (r : Vals vs us) (hl : vs.length = ps.length)
    (hbody : Room k (A.deeper (envF F f s.heap.objs.size)) → PE (ncx L2.CX0 P w K mg base N F f A outer s H L2.E0) body tb) (q : tb (startF N vs ws) H Q) :
    codeAny (model P w) A (.call (.ref f) ⟨us, []⟩) (CR L2.CX0 outer P w H s Q L2.E0) s := by
  have lim : s.heap.NoLimit := e0.mod.nolimit.keeps fun b o e => (e0.bs b o e).1
  refine PySem.W.kla_callFunE hr.depth hf rfl S.co S.gen rfl (codeO_at e0.hok hc) ?_
  rw [hb]
  refine wpAny_pure (wpAny_newFunctionEnv S.nocell (fun ⟨n, _⟩ hy => S.par n (List.of_mem_zip hy).1) (fun h₁ hns hsb => ⟨lim.fresh _ hsb, ?_⟩) S.kind)
  show codeAny _ _ (.expr body (envF F f s.heap.objs.size)) _ _
  have kp : ∀ b o, s.heap.get? b = some o → h₁.get? b = some o := fun b o e => hsb.extBut b o (Nat.ne_of_lt (Heap.lt_size e)) (Heap.get?_push_of_some _ e)
  have J : Inv (ncx L2.CX0 P w K mg base N F f A outer s H L2.E0) [] (startF N vs ws) H { s with heap := h₁, toks := s.toks + (ps.zip us).length } := inv_startN S hr.hd e0 hl r C hns kp
  refine PySem.W.kla_codeExpr (wpAny_mono ((hbody (hr.deeper _)).run [] _ _ H Q J q) (fun v s' hq => ?_) fun e s' hq => hq)
  obtain ⟨w', H', J', rv, q⟩ := hq
  exact ⟨w', H', J'.os, J'.bare, J'.base, J'.hok, rv, q⟩
/-! ### is_hopeful's lambda -/
def lamE : Expr := match retE ((defBody (top 36)).getD 0 (.Pass ⟨0, 0, 0, 0⟩)) with
  | .Call _ (_ :: l :: _) _ _ => l
  | e => e
def lamP : Arguments := match lamE with
  | .Lambda p _ _ _ => p
  | _ => defArgs (top 36)
def lamB : Expr := match lamE with
  | .Lambda _ b _ _ => b
  | e => e
def lamS : Scope := match lamE with
  | .Lambda _ _ sc _ => sc
  | _ => defScope (top 36)
abbrev lamQ : Str := ("is_hopeful" : Str) ++ ".<locals>." ++ "<lambda>"
abbrev nsLam : List Str := ["word", "number", "chosen", "held", "known"]
theorem scLam : NScope nsLam ["word", "number"] ["chosen", "held", "known"] lamS := nscope_by (by decide +kernel)
abbrev lamF (cl : List (Str × Addr)) (c' : Addr) : NF := ⟨"<lambda>", lamQ, lamP, [], lamS, cl, c'⟩
abbrev lamO (cl : List (Str × Addr)) (pm : Value) (c' : Addr) (ctv : Value) : Obj := PySem.W.kla_obj "<lambda>" lamQ lamP lamB lamS cl pm c' ctv
/-- the lambda at f, its cells pinned -/
structure LamW (H : Hp) (f dk a dc : Addr) (cl : List (Str × Addr)) (pm ctv : Value) (c' cc ch ck : Addr) (oc oh ok : Obj) : Prop where
  f : H f = some (Pin (lamO cl pm c' ctv))
  c : H c' = some (CodeO c' lamQ)
  lc : cl.lookup ("chosen" : Str) = some cc
  lh : cl.lookup ("held" : Str) = some ch
  lk : cl.lookup ("known" : Str) = some ck
  tot : ∀ y c, cl.lookup y = some c → c = cc ∨ c = ch ∨ c = ck
  inj : ∀ x y c, cl.lookup x = some c → cl.lookup y = some c → x = y
  pc : H cc = some (Pin oc)
  ph : H ch = some (Pin oh)
  pk : H ck = some (Pin ok)
  dc : oc.data = .cell (some (.ref dc))
  dh : oh.data = .cell (some (.ref a))
  dk : ok.data = .cell (some (.ref dk))
structure LamAt (H : Hp) (f : Addr) (kn : List (Int × Sg)) (hs : List Int) (ch : List (Int × Sg)) : Prop where
  ex : ∃ dk a dc cl pm ctv c' cc chh ck oc oh ok, LamW H f dk a dc cl pm ctv c' cc chh ck oc oh ok ∧ H dk = some (.dK (kvS kn)) ∧ H a = some (.tup (hs.map V.int)) ∧ H dc = some (.dK (kvS ch))
theorem LamAt.same {H H' : Hp} {f : Addr} {kn : List (Int × Sg)} {hs : List Int} {ch : List (Int × Sg)} (s : Same H H') (L : LamAt H f kn hs ch) : LamAt H' f kn hs ch := by
  obtain ⟨dk, a, dc, cl, pm, ctv, c', cc, chh, ck, oc, oh, ok, w, h1, h2, h3⟩ := L.ex
  exact ⟨dk, a, dc, cl, pm, ctv, c', cc, chh, ck, oc, oh, ok, ⟨s _ _ w.f, s _ _ w.c, w.lc, w.lh, w.lk, w.tot, w.inj, s _ _ w.pc, s _ _ w.ph, s _ _ w.pk, w.dc, w.dh, w.dk⟩, s _ _ h1, s _ _ h2, s _ _ h3⟩
theorem lam_bind (q : Str) (cl : List (Str × Addr)) (pm cv ctv : Value) : ∀ us : List Value, us.length = 2 → bindArgs (PySem.W.kla_fn "<lambda>" q lamP lamB lamS cl pm cv ctv) ⟨us, []⟩ = pure ((["word", "number"] : List Str).zip us)
  | [_, _], _ => rfl
theorem lam_call {X : Cx} {pins : List (Addr × Obj)} {σ : L2.St} {H : Hp} {s : Shared} {f g : Addr} {gd : FuncData} {kn : List (Int × Sg)} {hs : List Int} {ch : List (Int × Sg)} {x : Wd} {n : Int} {us : List Value} {Q : VK}
    (DC : Def X.K X.mg "could_be" 35 ["word", "number", "known", "held", "chosen"] g gd) (GC : FnOk X.prog X.w X.K X.mg X.base L2.CX0 2 g gd ["word", "number", "known", "held", "chosen"] (spCould X.K)) (hr : Room 3 X.A)
    (I : Inv X pins σ H s) (L : LamAt H f kn hs ch) (hn : n ∈ kn.map (·.1)) (r : Vals [wV x, .int n] us) (q : ∀ H', Same H H' → Q (.bl (couldB (stL kn) hs ch x n)) H') : wpAny (model X.prog X.w) X.A (call (.ref f) us) (EP X pins σ Q) X.xe s := by
  obtain ⟨dk, a, dc, cl, pm, ctv, c', cc, chh, ck, oc, oh, ok, w, h1, h2, h3⟩ := L.ex
  have n1 : chh ≠ cc := fun z => by
    have := w.inj "chosen" "held" cc w.lc (by rw [← z]; exact w.lh)
    exact absurd this (by decide)
  have n2 : ck ≠ cc := fun z => by
    have := w.inj "chosen" "known" cc w.lc (by rw [← z]; exact w.lk)
    exact absurd this (by decide)
  have n3 : ck ≠ chh := fun z => by
    have := w.inj "held" "known" chh w.lh (by rw [← z]; exact w.lk)
    exact absurd this (by decide)
  have e0 := I.env0
  have e1 := unpin_env0 e0 w.pc
  have p2 : clr H cc chh = some (Pin oh) := by rw [clr_ne n1]; exact w.ph
  have e2 := unpin_env0 e1 p2
  have p3 : clr (clr H cc) chh ck = some (Pin ok) := by rw [clr_ne n3, clr_ne n2]; exact w.pk
  have e3 := unpin_env0 e2 p3
  have to3 : ∀ {b u}, H b = some u → (∀ o, u ≠ Pin o) → clr (clr (clr H cc) chh) ck b = some u := fun {b u} e nu => by
    have m1 : b ≠ cc := fun z => by rw [z, w.pc] at e; exact nu _ (Option.some.inj e).symm
    have m2 : b ≠ chh := fun z => by rw [z, w.ph] at e; exact nu _ (Option.some.inj e).symm
    have m3 : b ≠ ck := fun z => by rw [z, w.pk] at e; exact nu _ (Option.some.inj e).symm
    rw [clr_ne m3, clr_ne m2, clr_ne m1]
    exact e
  have out3 : ∀ c, (c = cc ∨ c = chh ∨ c = ck) → clr (clr (clr H cc) chh) ck c = none := fun c hc => by
    by_cases m3 : c = ck
    · rw [m3]; exact clr_same
    rw [clr_ne m3]
    by_cases m2 : c = chh
    · rw [m2]; exact clr_same
    rw [clr_ne m2]
    rcases hc with hc | hc | hc
    · rw [hc]; exact clr_same
    · exact absurd hc m2
    · exact absurd hc m3
  have cel : ∀ c, (c = cc ∨ c = chh ∨ c = ck) → ∃ v, s.heap.IsCell c v := fun c hc => by
    rcases hc with hc | hc | hc
    · exact ⟨_, oc, by rw [hc]; exact (I.hok cc _ w.pc).1, w.dc⟩
    · exact ⟨_, oh, by rw [hc]; exact (I.hok chh _ w.ph).1, w.dh⟩
    · exact ⟨_, ok, by rw [hc]; exact (I.hok ck _ w.pk).1, w.dk⟩
  have C : CellsAt (lamF cl c').cl ["chosen", "held", "known"] [some (.ref dc), some (.ref a), some (.ref dk)] s.heap (clr (clr (clr H cc) chh) ck) := by
    refine ⟨rfl, fun y c e => ⟨out3 c (w.tot y c e), cel c (w.tot y c e)⟩, w.inj, fun i y hy => ?_⟩
    match i, hy with
    | 0, hy =>
      cases hy
      exact ⟨cc, w.lc, fun v hv => by cases hv; exact ⟨.ref dc, rfl, oc, (I.hok cc _ w.pc).1, w.dc⟩⟩
    | 1, hy =>
      cases hy
      exact ⟨chh, w.lh, fun v hv => by cases hv; exact ⟨.ref a, rfl, oh, (I.hok chh _ w.ph).1, w.dh⟩⟩
    | 2, hy =>
      cases hy
      exact ⟨ck, w.lk, fun v hv => by cases hv; exact ⟨.ref dk, rfl, ok, (I.hok ck _ w.pk).1, w.dk⟩⟩
    | i + 3, hy => cases hy
  have hl : us.length = 2 := r.length.symm
  have rc : codeAny (model X.prog X.w) X.A (.call (.ref f) ⟨us, []⟩) (CR L2.CX0 X.stack X.prog X.w (clr (clr (clr H cc) chh) ck) s (fun v H' => Q v (upd (upd (upd H' ck (Pin ok)) chh (Pin oh)) cc (Pin oc))) L2.E0) s := by
    refine lam_run (F := lamF cl c') (k := 2) (vs := [wV x, .int n]) (tb := tCall (spCould X.K) [] L2.E0 (tCons (tVar 0) (tCons (tVar 1) (tCons (tVar 4) (tCons (tVar 3) (tCons (tVar 2) tNil)))))) scLam (lam_bind _ _ _ _ _ us hl) hr e3 (I.hok f _ w.f).1 (to3 w.c (fun o z => by cases z)) C r rfl (fun hr2 => ?_) ?_
    · exact pe_callD DC GC hr2 (pa_cons (pv 0) (pa_cons (pv 1) (pa_cons (pv 4) (pa_cons (pv 3) (pa_cons (pv 2) pa_nil)))))
    · refine ⟨_, rfl, _, rfl, _, rfl, _, rfl, _, rfl, x, n, dk, a, dc, kn, hs, ch, rfl, to3 h1 (fun o z => by cases z), hn, SqT.of (to3 h2 (fun o z => by cases z)), to3 h3 (fun o z => by cases z), fun H' s3 => q _ fun b u e => ?_⟩
      by_cases m1 : b = cc
      · rw [m1, upd_same, ← w.pc, ← m1]
        exact e
      rw [upd_ne m1]
      by_cases m2 : b = chh
      · rw [m2, upd_same, ← w.ph, ← m2]
        exact e
      rw [upd_ne m2]
      by_cases m3 : b = ck
      · rw [m3, upd_same, ← w.pk, ← m3]
        exact e
      rw [upd_ne m3]
      exact s3 b u (by rw [clr_ne m3, clr_ne m2, clr_ne m1]; exact e)
  refine wpAny_call (codeAny_mono rc fun r s' hq => ?_)
  cases r with
  | error e => exact (show False from hq).elim
  | ok fl =>
    cases fl with
    | ret u => exact I.after (unpin_end e0 w.pc (unpin_end e1 p2 (unpin_end e2 p3 (Q := fun v H' => Q v (upd (upd H' chh (Pin oh)) cc (Pin oc))) hq fun v H' _ q => q) (Q := fun v H' => Q v (upd H' cc (Pin oc))) fun v H' _ q => q) fun v H' _ q => q)
    | next => exact False.elim hq
    | brk => exact False.elim hq
    | cont => exact False.elim hq
end
end Ts

set_option Elab.async false
set_option linter.all false
set_option maxRecDepth 100000
set_option maxHeartbeats 4000000
/-! Defs 9: a formula read by a lambda. -/
namespace Ts
open PySem PySem.Spec PyProof.Rows L2 LamX NdefX
def tReadL (i : Nat) (t : TA) : TE := fun σ H Q => ∃ f, σ[i]? = some (some (.ref f)) ∧ (∃ kn hs ch, LamAt H f kn hs ch) ∧
  t σ H fun vs H1 => ∃ (kn : List (Int × Sg)) (hs : List Int) (ch : List (Int × Sg)) (x : Wd) (n : Int), vs = [wV x, .int n] ∧ LamAt H1 f kn hs ch ∧ n ∈ kn.map (·.1) ∧ ∀ H', Same H1 H' → Q (.bl (couldB (stL kn) hs ch x n)) H'
theorem fnAt_lam {X : Cx} {pins : List (Addr × Obj)} {σ : L2.St} {H : Hp} {s : Shared} {f : Addr} {kn : List (Int × Sg)} {hs : List Int} {ch : List (Int × Sg)} (I : Inv X pins σ H s) (L : LamAt H f kn hs ch) : PySem.W.FnAt f s.heap := by
  obtain ⟨dk, a, dc, cl, pm, ctv, c', cc, chh, ck, oc, oh, ok, w, _⟩ := L.ex
  exact ⟨_, _, _, _, (I.hok f _ w.f).1⟩
theorem pe_readL {X : Cx} {i : Nat} {x : Str} {p pos : Pos} {e : Expr} {es : List Expr} {t : TA} {g : Addr} {gd : FuncData} (DC : Def X.K X.mg "could_be" 35 ["word", "number", "known", "held", "chosen"] g gd) (GC : FnOk X.prog X.w X.K X.mg X.base L2.CX0 2 g gd ["word", "number", "known", "held", "chosen"] (spCould X.K)) (hr : Room 3 X.A)
    (ha : PA X (e :: es) t) (hN : X.N[i]? = some x := by rfl) (hv : Vis X.env.scope x := by first | exact .inl rfl | exact .inr (.inl rfl) | exact .inr (.inr rfl)) (hd : (x == ("__debug__" : Str)) = false := by decide) (hcd : (x == ("__classdict__" : Str)) = false := by decide)
    (he : starEach (e :: es) X.env = (false, eval e X.env) :: starEach es X.env := by rfl) (hpl : (backTo pos (starEach es X.env)).any (·.1) = false := by rfl) :
    PE X (.Call (.Name x p) (e :: es) [] pos) (tReadL i t) := by
  refine ⟨fun pins s σ H Q I h => ?_⟩
  obtain ⟨f, hs, ⟨_, _, _, L0⟩, ht⟩ := h
  refine wpAny_Call_Name_kw (thn ((pe_var (pos := p) hN hv hd hcd).run pins s σ H (fun v H1 => v = .ref f ∧ H1 = H) I ⟨.ref f, hs, rfl, rfl⟩) fun u s1 ⟨v, H1, I1, r1, q1⟩ => ?_)
  obtain ⟨ev, eH⟩ := q1
  subst ev
  rw [eH] at I1
  obtain rfl : u = Value.ref f := r1
  refine PySem.W.callWith_F (first := []) (fnAt_lam I1 L0) (thn (ha.run pos pins s1 σ H _ I1 ht) fun us s2 ⟨vs, H2, I2, r, kn, hh, ch, x, n, ev, L, hn, q⟩ => ⟨fnAt_lam I2 L, ?_⟩) he hpl
  show wpAny _ _ (call (.ref f) us) _ _ _
  subst ev
  exact lam_call DC GC hr I2 L hn r q
section
variable {P : Program} {w : World} {K : PySem.W.Frag} {mg : Str → Option Value} {base : Heap}
def spRead (n : Nat) : Sp := fun vs H Q _ => ∃ (v : V) (f : Addr) (fm : Fm) (kn : List (Int × Sg)) (hs : List Int) (ch : List (Int × Sg)), vs = [v, .ref f] ∧ FmAt H v fm ∧ FmOk fm ∧ depthF fm ≤ n ∧ LamAt H f kn hs ch ∧ (∀ j ∈ fm.jobs, j ∈ kn.map (·.1)) ∧
  ∀ H', Same H H' → Q (.bl (fm.ev (couldB (stL kn) hs ch))) H'
abbrev nsRead : List Str := ["formula", "reading", "word", "what", "part"]
theorem scRead : FnScope nsRead ["formula", "reading"] (defScope (top 34)) := ⟨rfl, rfl, rfl, by decide +kernel, rfl, by decide +kernel, by decide +kernel⟩
theorem ok_is_read {n : Nat} {f g : Addr} {fd gd : FuncData} (D : Def K mg "is_read" 34 ["formula", "reading"] f fd) (G : Gs K mg) (T : Bs mg) (DC : Def K mg "could_be" 35 ["word", "number", "known", "held", "chosen"] g gd) (GC : FnOk P w K mg base CX0 2 g gd ["word", "number", "known", "held", "chosen"] (spCould K))
    (GR : FnOk P w K mg base CX0 (3 + n) f fd ["formula", "reading"] (spRead n)) : FnOk P w K mg base CX0 (3 + n + 1) f fd ["formula", "reading"] (spRead (n + 1)) := by
  refine D.F.ok scRead (fun vs H Q E h => ?_) (fun cdv A outer s H vs Q E hr h => ?_)
  · obtain ⟨v, f, fm, kn, hs, ch, rfl, _⟩ := h
    rfl
  obtain ⟨v, fl, fm, kn, hs, ch, rfl, hf, ok, hdn, L, hj, q⟩ := h
  refine ⟨_, pss_cons (ps_asg (pv 0) (pg_tup rfl (pgs_cons (pg_name (i := 2) scRead.nd rfl (Or.inl rfl)) (pgs_cons (pg_name (i := 3) scRead.nd rfl (Or.inl rfl)) pgs_nil))))
    (pss_cons (ps_if (pt_cmpR op_eq (pv 2) (pe_gS G.both) (nomark _)) (pss_one (ps_ret (pe_callB (cr_all rfl) rfl T.all (by decide +kernel) (pa_cons (pe_lc (own := [("part", 4)]) (g := gName 4) rfl scRead.nd (pi_tup (pv 3)) (blkOk_by (N := nsRead) (sc := defScope (top 34)) (by decide +kernel))
      (fun _ _ _ _ _ => pg_name (i := 4) scRead.nd rfl (Or.inl rfl)) (fun _ _ _ _ _ => pts_nil) (fun _ _ _ _ _ => pe_callD D GR hr (pa_cons (pv 4) (pa_cons (pv 1) pa_nil)))) pa_nil)))) pss_nil)
    (pss_cons (ps_if (pt_cmpR op_eq (pv 2) (pe_gS G.either) (nomark _)) (pss_one (ps_ret (pe_callB (cr_any rfl) rfl T.any (by decide +kernel) (pa_cons (pe_lc (own := [("part", 4)]) (g := gName 4) rfl scRead.nd (pi_tup (pv 3)) (blkOk_by (N := nsRead) (sc := defScope (top 34)) (by decide +kernel))
      (fun _ _ _ _ _ => pg_name (i := 4) scRead.nd rfl (Or.inl rfl)) (fun _ _ _ _ _ => pts_nil) (fun _ _ _ _ _ => pe_callD D GR hr (pa_cons (pv 4) (pa_cons (pv 1) pa_nil)))) pa_nil)))) pss_nil)
    (pss_one (ps_ret (pe_readL (i := 1) DC GC (hr.mono (by omega)) (pa_cons (pv 2) (pa_cons (pv 3) pa_nil))))))), ?_⟩
  cases fm with
  | atom a =>
    obtain ⟨p, rfl, hp⟩ := hf
    refine ⟨_, rfl, p, _, rfl, SqT.of hp, rfl, _, _, rfl, _, _, rfl, rfl, ?_⟩
    have z1 : decide (wV a.1 = V.str "and") = false := by cases a.1 <;> decide
    have z2 : decide (wV a.1 = V.str "or") = false := by cases a.1 <;> decide
    refine ⟨_, rfl, rfl, _, congrArg V.bl z1, ?_⟩
    refine iteF ?_
    refine ⟨_, rfl, rfl, _, congrArg V.bl z2, ?_⟩
    refine iteF ?_
    refine ⟨fl, rfl, ⟨kn, hs, ch, L⟩, _, rfl, _, rfl, kn, hs, ch, a.1, a.2, rfl, L, hj a.2 (by simp [Fm.jobs, Fm.atoms]), q⟩
  | node c l =>
    obtain ⟨p, b, xs, rfl, hp, hb, hx⟩ := hf
    refine ⟨_, rfl, p, _, rfl, SqT.of hp, rfl, _, _, rfl, _, _, rfl, rfl, ?_⟩
    obtain ⟨z, e1, e2, hz⟩ := paired_zip hx
    have hT : SqT K H b (z.map (·.1)) := by rw [e1]; exact SqT.of hb
    have lz : z.length = l.length := by rw [← e2, List.length_map]
    have l3 : l.length ≤ 3 := ok.2.2
    have part : ∀ y ∈ z, ∀ H2, Same H H2 → ∀ (Qt : V → Hp → Prop), (∀ H3, Same H2 H3 → Qt (.bl (couldB (stL kn) hs ch y.2.1 y.2.2)) H3) → spRead n [y.1, .ref fl] H2 Qt E0 := fun y hy H2 s2 Qt k => by
      have hl : y.2 ∈ l := by rw [← e2]; exact List.mem_map.mpr ⟨y, hy, rfl⟩
      exact ⟨y.1, fl, .atom y.2, kn, hs, ch, rfl, (hz y hy).same s2, ok.1 _ hl, Nat.le_of_succ_le_succ hdn, L.same s2, fun j hj' => hj j (by
        have : j = y.2.2 := by simpa [Fm.jobs, Fm.atoms] using hj'
        rw [this]
        exact List.mem_map.mpr ⟨y.2, hl, rfl⟩), k⟩
    cases c with
    | true =>
      refine ⟨_, rfl, rfl, _, rfl, ?_⟩
      refine ⟨_, rfl, b, rfl, ⟨_, hT⟩, fun D hD => ?_⟩
      refine lc_tupS z (·.1) (fun _ => true) (fun y => .bl (couldB (stL kn) hs ch y.2.1 y.2.2)) hD hT (small1000 (by omega)) (fun y H2 Qt Qf hy s2 k1 k2 => ?_) fun H2 s2 hD2 => ?_
      · exact ⟨rfl, _, rfl, _, rfl, part y hy H2 s2 Qt (k1 rfl)⟩
      · refine ⟨D, z.map fun y => couldB (stL kn) hs ch y.2.1 y.2.2, rfl, SqL.of ?_, ?_⟩
        · rw [hD2, List.filter_eq_self.mpr (fun _ _ => rfl), List.map_map]
          rfl
        · have e3 : (z.map fun y => couldB (stL kn) hs ch y.2.1 y.2.2).all id = (Fm.node true l).ev (couldB (stL kn) hs ch) := by
            rw [List.all_map]
            show _ = l.all fun a => couldB (stL kn) hs ch a.1 a.2
            rw [← e2, List.all_map]
            rfl
          rw [e3]
          exact q H2 s2
    | false =>
      refine ⟨_, rfl, rfl, _, rfl, ?_⟩
      refine ⟨_, rfl, rfl, _, rfl, ?_⟩
      refine ⟨_, rfl, b, rfl, ⟨_, hT⟩, fun D hD => ?_⟩
      refine lc_tupS z (·.1) (fun _ => true) (fun y => .bl (couldB (stL kn) hs ch y.2.1 y.2.2)) hD hT (small1000 (by omega)) (fun y H2 Qt Qf hy s2 k1 k2 => ?_) fun H2 s2 hD2 => ?_
      · exact ⟨rfl, _, rfl, _, rfl, part y hy H2 s2 Qt (k1 rfl)⟩
      · refine ⟨D, z.map fun y => couldB (stL kn) hs ch y.2.1 y.2.2, rfl, SqL.of ?_, ?_⟩
        · rw [hD2, List.filter_eq_self.mpr (fun _ _ => rfl), List.map_map]
          rfl
        · have e3 : (z.map fun y => couldB (stL kn) hs ch y.2.1 y.2.2).any id = (Fm.node false l).ev (couldB (stL kn) hs ch) := by
            rw [List.any_map]
            show _ = l.any fun a => couldB (stL kn) hs ch a.1 a.2
            rw [← e2, List.any_map]
            rfl
          rw [e3]
          exact q H2 s2
theorem ok_read2 {f g : Addr} {fd gd : FuncData} (D : Def K mg "is_read" 34 ["formula", "reading"] f fd) (G : Gs K mg) (T : Bs mg) (DC : Def K mg "could_be" 35 ["word", "number", "known", "held", "chosen"] g gd) (GC : FnOk P w K mg base CX0 2 g gd ["word", "number", "known", "held", "chosen"] (spCould K)) :
    FnOk P w K mg base CX0 5 f fd ["formula", "reading"] (spRead 2) :=
  ok_is_read (n := 1) D G T DC GC (ok_is_read (n := 0) D G T DC GC (ok_none fun vs H Q E h => by
    obtain ⟨v, f, fm, _, _, _, _, _, _, h, _⟩ := h
    have := depthF_pos fm
    omega))
end
end Ts

set_option Elab.async false
set_option linter.all false
set_option maxRecDepth 100000
set_option maxHeartbeats 4000000
/-! Own rules 6: a lambda is made at a new place; handed to a def with its cells pinned. -/
namespace Ts
open PySem PySem.Spec PyProof.Rows L2 LamX NdefX
section
variable {X : Cx} {pins : List (Addr × Obj)} {σ : L2.St} {H : Hp} {s : Shared}
/-- the function object lies behind all that stood; the table may have grown -/
theorem lam_new {q : Str} {c Pt : Addr} {params : Arguments} {body : Expr} {scope : Scope} {pos : Pos} {E : Value → Shared → Prop} {Q : Value → Shared → Prop} (I : Inv X pins σ H s) (TB : TabB X.base X.mg c Pt) (hcode : X.env.code = .ref c) (tab : TabS H Pt q)
    (hq : X.env.qual ++ "<lambda>" = q) (hdef : defaultsOf params X.env = ([], [])) (hfree : ∀ y ∈ scope.names, y.2 = .free → ∃ c, X.env.cells.lookup y.1 = some c)
    (out : ∀ (f c' : Addr) (pm ctv : Value) (H1 : Hp) (s' : Shared), Inv X pins σ H1 s' → ExtN H H1 → TabS H1 Pt q → s.heap.objs.size ≤ f → H1 f = none →
      s'.heap.get? f = some (PySem.W.kla_obj "<lambda>" q params body scope (cloFrom X.env.cells scope.names []) pm c' ctv) → H1 c' = some (CodeO c' q) → Q (.ref f) s') :
    wpAny (model X.prog X.w) X.A (eval (.Lambda params body scope pos) X.env) Q E s := by
  subst hq
  obtain ⟨ps, at_, tri, known⟩ := tab
  have there : s.heap.get? Pt = some { cls := .none, data := .fields ps } := I.hok Pt _ at_
  have glob := I.mod.glob.keeps I.bk
  have code := TB.code.keeps I.bk
  have blt := TB.bm.keeps I.bk
  have clo := closure_ok hfree
  refine PySem.W.kla_eval hdef ?_
  cases e : codeAmong pos ps.toList with
  | some cv =>
    obtain ⟨c', rfl, hc'⟩ := known pos cv e
    refine PySem.W.kla_makeFunctionHit (mg := X.mg) (c := c) (P := Pt) (ps := ps) clo I.ok.glob glob hcode code there tri e blt fun ctv h' tk old size => ?_
    have J := I.kept (t' := tk) (h' := h'.push (PySem.W.kla_obj "<lambda>" (X.env.qual ++ "<lambda>") params body scope (cloFrom X.env.cells scope.names []) ((X.mg "__name__").getD .none) c' ctv)) fun b o z => Heap.get?_push_of_some _ (old b o z)
    exact out _ c' _ ctv H _ J (ExtN.refl H) ⟨ps, at_, tri, known⟩ size (I.hok.fresh size) (Heap.get?_push_size _ rfl) hc'
  | none =>
    refine PySem.W.kla_makeFunction (mg := X.mg) (c := c) (P := Pt) (ps := ps) clo I.ok.glob glob hcode code there tri e TB.gP blt fun c' ctv h' tk old low high rec_ grown => ?_
    obtain ⟨c2, oc, vs, t, ec, hoc, hd, hv⟩ := rec_
    cases ec
    have size : s.heap.objs.size ≤ h'.objs.size := Nat.le_of_lt (Nat.lt_of_le_of_lt low high)
    have free : H c' = none := I.hok.fresh low
    have apart : Pt ≠ c' := ne_of_none at_ free
    have J := inv_table (t' := tk) (more := #[rawInt pos.line, rawInt pos.col, .ref c']) (h' := h'.push (PySem.W.kla_obj "<lambda>" (X.env.qual ++ "<lambda>") params body scope (cloFrom X.env.cells scope.names []) ((X.mg "__name__").getD .none) c' ctv)) I at_
      (fun b o nb z => Heap.get?_push_of_some _ (old b o nb z)) (Heap.get?_push_of_some _ grown) low ⟨oc, vs, t, Heap.get?_push_of_some _ hoc, hd, hv⟩
    have keep : ExtN H (upd (upd H Pt (.tbl (ps ++ #[rawInt pos.line, rawInt pos.col, .ref c']))) c' (CodeO c' (X.env.qual ++ "<lambda>"))) := fun b o z n => by
      have nb : b ≠ Pt := fun y => n ps (by rw [y, at_] at z; exact (Option.some.inj z).symm)
      rw [upd_ne (ne_of_none z free), upd_ne nb]
      exact z
    have told : (ps ++ #[rawInt pos.line, rawInt pos.col, .ref c']).toList = ps.toList ++ [rawInt pos.line, rawInt pos.col, .ref c'] := by simp
    refine out _ c' _ ctv _ _ J keep ⟨_, by rw [upd_ne apart]; exact upd_same, by rw [told]; exact PySem.TriplesOk_snoc _ _ _ _ tri, fun p' cv h => ?_⟩ size ?_ (Heap.get?_push_size _ rfl) upd_same
    · rw [told] at h
      rcases among_app _ tri h with h | h
      · obtain ⟨c0, y1, y2⟩ := known p' cv h
        exact ⟨c0, y1, keep _ _ y2 codeO_ne⟩
      · exact ⟨c', h, upd_same⟩
    · rw [upd_ne (Nat.ne_of_gt high), upd_ne (Nat.ne_of_gt (Nat.lt_of_lt_of_le (Heap.lt_size there) size))]
      exact I.hok.fresh size
/-- a cell of the frame's own name -/
theorem cell_far {x : Str} {c : Addr} (I : Inv X pins σ H s) (fs : ∀ b ∈ frs X.stack, b = X.env.locals ∨ b ∈ X.fs) (hx : X.fn x = true) (hc : X.env.cells.lookup x = some c) : X.base.objs.size ≤ c ∧ c ∉ frs X.stack := by
  have h1 := I.ok.cab x c hx hc
  refine ⟨Nat.le_trans I.ok.bsz h1, fun z => ?_⟩
  rcases fs c z with e | e
  · obtain ⟨v, o, ho, hd⟩ := I.cell x c hc
    obtain ⟨m, ⟨od, es, ep, h2, h3, _⟩, _⟩ := I.loc
    rw [e, h2] at ho
    cases ho
    rw [h3] at hd
    cases hd
  · obtain ⟨_, o, ho, _⟩ := I.ok.funs.mem e
    exact Nat.lt_irrefl _ (Nat.lt_of_lt_of_le (Heap.lt_size ho) h1)
end
/-- is_read(formula, lambda ..) -/
def tHope (Pt : Addr) (t1 : TE) : TE := fun σ H Q => t1 σ H fun v H1 => TabS H1 Pt lamQ ∧ ∃ (dk a dc : Addr) (kn : List (Int × Sg)) (hs : List Int) (ch : List (Int × Sg)) (fm : Fm), σ[1]? = some (some (.ref dk)) ∧ σ[2]? = some (some (.ref a)) ∧ σ[3]? = some (some (.ref dc)) ∧ FmAt H1 v fm ∧ FmOk fm ∧
  H1 dk = some (.dK (kvS kn)) ∧ H1 a = some (.tup (hs.map V.int)) ∧ H1 dc = some (.dK (kvS ch)) ∧ (∀ j ∈ fm.jobs, j ∈ kn.map (·.1)) ∧ ∀ H2, ExtN H1 H2 → TabS H2 Pt lamQ → Q (.bl (hopeB fm (stL kn) hs ch)) H2
section
variable {X : Cx}
theorem fm_ext {H H' : Hp} (e : ExtN H H') {v : V} {f : Fm} (h : FmAt H v f) : FmAt H' v f := h.tups fun p xs z => e p _ z (fun ps y => by cases y)
theorem pe_hope {c Pt g : Addr} {gd : FuncData} {e1 : Expr} {t1 : TE} {p lpos pos : Pos} (DR : Def X.K X.mg "is_read" 34 ["formula", "reading"] g gd) (GR : FnOk X.prog X.w X.K X.mg X.base L2.CX0 5 g gd ["formula", "reading"] (spRead 2)) (hr : Room 5 X.A) (h1 : PE X e1 t1)
    (TB : TabB X.base X.mg c Pt) (hcode : X.env.code = .ref c) (hq : X.env.qual ++ "<lambda>" = lamQ) (hk : ∀ y ∈ lamS.names, y.2 = .free → X.env.scope.names.lookup y.1 = some .cell) (hN : ([3, 2, 1] : List Nat).map (fun j => X.N[j]?) = (["chosen", "held", "known"] : List Str).map some) (hfn : ∀ x, X.fn x = true)
    (hg : Gl X "is_read" := by rfl) (hdef : defaultsOf lamP X.env = ([], []) := by rfl) (he : starEach [e1, .Lambda lamP lamB lamS lpos] X.env = (false, eval e1 X.env) :: starEach [.Lambda lamP lamB lamS lpos] X.env := by rfl) :
    PE X (.Call (.Name "is_read" p) [e1, .Lambda lamP lamB lamS lpos] [] pos) (tHope Pt t1) := by
  refine ⟨fun pins s σ H Q I h => ?_⟩
  refine wpAny_Call_Name_kw (ld_glob I hg DR.m ?_ (by decide))
  refine PySem.W.callWith_K (h₀ := X.base) I.ok.mod.kin DR.F.kp ?_ he (by rfl)
  rw [he]
  show wpAny _ _ (spliced ((false, eval e1 X.env) :: (false, eval (.Lambda lamP lamB lamS lpos) X.env) :: backTo pos (starEach [] X.env))) _ _ s
  have hfree : ∀ {pins : List (Addr × Obj)} {σ : L2.St} {H : Hp} {s : Shared}, Inv X pins σ H s → ∀ y ∈ lamS.names, y.2 = .free → ∃ c, X.env.cells.lookup y.1 = some c := fun I y hy e => I.ok.has _ (.inl (hk y hy e))
  refine Calls.spliced_cons (thn (h1.run pins s σ H _ I h) fun u1 s1 ⟨v, H1, I1, r1, tab, dk, a, dc, kn, hs, ch, fm, s1k, s2h, s3c, hf, ok, hdk, ha, hdc, hj, q⟩ => ?_)
  refine Calls.spliced_cons (lam_new I1 TB hcode tab hq hdef (hfree I1) fun f c' pm ctv H2 s2 I2 eN tab2 size fn fo hc => ?_)
  refine Calls.spliced_nil ⟨I2.kIn, ?_⟩
  have hfr : ∀ b ∈ frs X.stack, b = X.env.locals ∨ b ∈ X.fs := fun b hb => List.mem_cons.mp (I2.stkSub b hb)
  have cp : Caps X (cloFrom X.env.cells lamS.names []) ["chosen", "held", "known"] [3, 2, 1] := Caps.made I2.ok (fun y hy e => .inl (hk y hy e)) (fun y hy => PySem.mem_of_lookup (scLam.frk y hy)) hN
  have C := cells_of I2 cp
  generalize hcl : cloFrom X.env.cells lamS.names [] = cl at *
  obtain ⟨cc, lc, wc⟩ := C.has 0 "chosen" rfl
  obtain ⟨chh, lh, wh⟩ := C.has 1 "held" rfl
  obtain ⟨ck, lk, wk⟩ := C.has 2 "known" rfl
  obtain ⟨uc, ruc, oc, goc, dcc⟩ := wc (.ref dc) (congrArg some (slotAt_of s3c))
  obtain ⟨uh, ruh, oh, goh, dhh⟩ := wh (.ref a) (congrArg some (slotAt_of s2h))
  obtain ⟨uk, ruk, ok', gok, dkk⟩ := wk (.ref dk) (congrArg some (slotAt_of s1k))
  obtain rfl : uc = Value.ref dc := ruc
  obtain rfl : uh = Value.ref a := ruh
  obtain rfl : uk = Value.ref dk := ruk
  have n1 : chh ≠ cc := fun z => absurd (C.inj "chosen" "held" cc lc (by rw [← z]; exact lh)) (by decide)
  have n2 : ck ≠ cc := fun z => absurd (C.inj "chosen" "known" cc lc (by rw [← z]; exact lk)) (by decide)
  have n3 : ck ≠ chh := fun z => absurd (C.inj "held" "known" chh lh (by rw [← z]; exact lk)) (by decide)
  have old : ∀ y c, cl.lookup y = some c → c < s1.heap.objs.size := fun y c e => by
    obtain ⟨v, o, ho, _⟩ := I1.cell y c (cp.sub y c e)
    exact Heap.lt_size ho
  have nf : ∀ y c, cl.lookup y = some c → c ≠ f := fun y c e => Nat.ne_of_lt (Nat.lt_of_lt_of_le (old y c e) size)
  have far : ∀ y c, cl.lookup y = some c → X.base.objs.size ≤ c ∧ c ∉ frs X.stack := fun y c e => cell_far I2 hfr (hfn y) (cp.sub y c e)
  have hfb : X.base.objs.size ≤ f := Nat.le_trans (Nat.le_trans I1.ok.bsz I1.sz) size
  have hff : f ∉ frs X.stack := fun z => by
    rcases hfr f z with e | e
    · exact Nat.lt_irrefl _ (Nat.lt_of_lt_of_le I1.lt (by rw [← e]; exact size))
    · obtain ⟨_, o, ho, _⟩ := I1.ok.funs.mem e
      exact Nat.lt_irrefl _ (Nat.lt_of_lt_of_le (Heap.lt_size ho) (Nat.le_trans I1.sz size))
  have e0 := I2.env0
  have m1 := (C.all _ _ lc).1
  have m2 := (C.all _ _ lh).1
  have m3 := (C.all _ _ lk).1
  have a1 := pin_env0 e0 fn fo hfb hff
  have k1 : upd H2 f (Pin (lamO cl pm c' ctv)) cc = none := by rw [upd_ne (nf _ _ lc)]; exact m1
  have a2 := pin_env0 a1 k1 goc (far _ _ lc).1 (far _ _ lc).2
  have k2 : upd (upd H2 f (Pin (lamO cl pm c' ctv))) cc (Pin oc) chh = none := by rw [upd_ne n1, upd_ne (nf _ _ lh)]; exact m2
  have a3 := pin_env0 a2 k2 goh (far _ _ lh).1 (far _ _ lh).2
  have k3 : upd (upd (upd H2 f (Pin (lamO cl pm c' ctv))) cc (Pin oc)) chh (Pin oh) ck = none := by rw [upd_ne n3, upd_ne n2, upd_ne (nf _ _ lk)]; exact m3
  have a4 := pin_env0 a3 k3 gok (far _ _ lk).1 (far _ _ lk).2
  have up : ∀ {b u}, H2 b = some u → upd (upd (upd (upd H2 f (Pin (lamO cl pm c' ctv))) cc (Pin oc)) chh (Pin oh)) ck (Pin ok') b = some u := fun {b u} e => by
    rw [upd_ne (ne_of_none e m3), upd_ne (ne_of_none e m2), upd_ne (ne_of_none e m1), upd_ne (ne_of_none e fn)]
    exact e
  have ex : ∀ {b u}, H1 b = some u → (∀ ps, u ≠ .tbl ps) → upd (upd (upd (upd H2 f (Pin (lamO cl pm c' ctv))) cc (Pin oc)) chh (Pin oh)) ck (Pin ok') b = some u := fun {b u} e n => up (eN b u e n)
  have W : LamW (upd (upd (upd (upd H2 f (Pin (lamO cl pm c' ctv))) cc (Pin oc)) chh (Pin oh)) ck (Pin ok')) f dk a dc cl pm ctv c' cc chh ck oc oh ok' := by
    refine ⟨?_, up hc, lc, lh, lk, fun y c e => ?_, C.inj, ?_, ?_, upd_same, dcc, dhh, dkk⟩
    · rw [upd_ne (fun z => nf _ _ lk z.symm), upd_ne (fun z => nf _ _ lh z.symm), upd_ne (fun z => nf _ _ lc z.symm)]
      exact upd_same
    · have hy : y ∈ (["chosen", "held", "known"] : List Str) := by
        rw [← hcl] at e
        rcases cloFrom_mem (PySem.mem_of_lookup e) with hm | ⟨hm, _⟩
        · cases hm
        · exact scLam.free _ hm rfl
      simp only [List.mem_cons, List.not_mem_nil, or_false] at hy
      rcases hy with rfl | rfl | rfl
      · rw [lc] at e; exact .inl (Option.some.inj e).symm
      · rw [lh] at e; exact .inr (.inl (Option.some.inj e).symm)
      · rw [lk] at e; exact .inr (.inr (Option.some.inj e).symm)
    · rw [upd_ne (fun z => n2 z.symm), upd_ne (fun z => n1 z.symm)]
      exact upd_same
    · rw [upd_ne (fun z => n3 z.symm)]
      exact upd_same
  have rc : codeAny (model X.prog X.w) X.A (.call (.ref g) ⟨[u1, .ref f], []⟩) (CR L2.CX0 X.stack X.prog X.w (upd (upd (upd (upd H2 f (Pin (lamO cl pm c' ctv))) cc (Pin oc)) chh (Pin oh)) ck (Pin ok')) s2 (fun v H' => Q v (clr (clr (clr (clr H' ck) chh) cc) f)) L2.E0) s2 := by
    refine GR.run X.A X.stack s2 _ ⟨[u1, .ref f], []⟩ [u1, .ref f] [v, .ref f] _ L2.E0 hr a4 (DR.b s2 [u1, .ref f] I2.kIn rfl) (.cons r1 (.cons rfl .nil)) ?_
    refine ⟨v, f, fm, kn, hs, ch, rfl, ?_, ok, depthF_le2 fm, ⟨dk, a, dc, cl, pm, ctv, c', cc, chh, ck, oc, oh, ok', W, ex hdk (fun _ z => by cases z), ex ha (fun _ z => by cases z), ex hdc (fun _ z => by cases z)⟩, hj, fun H' sm => ?_⟩
    · exact hf.tups fun p xs z => ex z (fun _ y => by cases y)
    · have dn : ∀ {b u}, H2 b = some u → clr (clr (clr (clr H' ck) chh) cc) f b = some u := fun {b u} e => by
        rw [clr_ne (ne_of_none e fn), clr_ne (ne_of_none e m1), clr_ne (ne_of_none e m2), clr_ne (ne_of_none e m3)]
        exact sm b u (up e)
      exact q _ (fun b u e n => dn (eN b u e n)) (tab2.ext fun b u e => dn e)
  refine wpAny_call (codeAny_mono rc fun r s' hq => ?_)
  cases r with
  | error e => exact (show False from hq).elim
  | ok fl =>
    cases fl with
    | ret u =>
      exact I2.after (pin_end fn fo hff (pin_end (Q := fun v H' => Q v (clr H' f)) k1 goc (far _ _ lc).2 (pin_end (Q := fun v H' => Q v (clr (clr H' cc) f)) k2 goh (far _ _ lh).2 (pin_end (Q := fun v H' => Q v (clr (clr (clr H' chh) cc) f)) k3 gok (far _ _ lk).2 hq fun v H' _ q => q) fun v H' _ q => q) fun v H' _ q => q) fun v H' _ q => q)
    | next => exact False.elim hq
    | brk => exact False.elim hq
    | cont => exact False.elim hq
end
end Ts

set_option Elab.async false
set_option linter.all false
set_option maxRecDepth 100000
set_option maxHeartbeats 4000000
/-! Defs 10: hope, and whether there is an outcome. -/
namespace Ts
open PySem PySem.Spec PyProof.Rows L2 LamX NdefX
section
variable {P : Program} {w : World} {K : PySem.W.Frag} {mg : Str → Option Value} {base : Heap}
def spHope (Pt : Addr) : Sp := fun vs H Q _ => ∃ (v : V) (dk a dc : Addr) (kn : List (Int × Sg)) (hs : List Int) (ch : List (Int × Sg)) (fm : Fm), vs = [v, .ref dk, .ref a, .ref dc] ∧ TabS H Pt lamQ ∧ FmAt H v fm ∧ FmOk fm ∧
  H dk = some (.dK (kvS kn)) ∧ H a = some (.tup (hs.map V.int)) ∧ H dc = some (.dK (kvS ch)) ∧ (∀ j ∈ fm.jobs, j ∈ kn.map (·.1)) ∧ ∀ H2, ExtN H H2 → TabS H2 Pt lamQ → Q (.bl (hopeB fm (stL kn) hs ch)) H2
abbrev nsHope : List Str := ["formula", "known", "held", "chosen"]
theorem scHope : FnScope nsHope ["formula", "known", "held", "chosen"] (defScope (top 36)) := ⟨rfl, rfl, rfl, by decide +kernel, rfl, by decide +kernel, by decide +kernel⟩
theorem hope_cells : ∀ y ∈ lamS.names, y.2 = .free → (defScope (top 36)).names.lookup y.1 = some .cell := by decide +kernel
theorem ok_is_hopeful {f g c Pt : Addr} {fd gd : FuncData} (D : Def K mg "is_hopeful" 36 ["formula", "known", "held", "chosen"] f fd) (hcd : fd.code = .ref c) (TB : TabB base mg c Pt) (DR : Def K mg "is_read" 34 ["formula", "reading"] g gd) (GR : FnOk P w K mg base CX0 5 g gd ["formula", "reading"] (spRead 2)) :
    FnOk P w K mg base CX0 6 f fd ["formula", "known", "held", "chosen"] (spHope Pt) := by
  obtain ⟨oc, od, kV, doc, pm, an, cdv, ct, osl, rfl, lk, hcq⟩ := D.F.ex
  obtain rfl : cdv = .ref c := hcd
  refine fn_of lk hcq scHope (fun vs H Q E h => ?_) (fun A outer s H vs Q E hr h => ?_)
  · obtain ⟨v, dk, a, dc, kn, hs, ch, fm, rfl, _⟩ := h
    rfl
  obtain ⟨v, dk, a, dc, kn, hs, ch, fm, rfl, tab, hf, ok, hk, ha, hc, hj, q⟩ := h
  have body : PSs (cxOf CX0 P w K mg base nsHope "is_hopeful" (defScope (top 36)) f (.ref c) A outer s H E).nox (defBody (top 36)) _ :=
    pss_one (ps_ret (pe_hope (c := c) (Pt := Pt) DR GR hr (pv 0) TB rfl rfl hope_cells rfl (fun _ => rfl)))
  refine ⟨_, body.nox, ?_⟩
  exact ⟨_, rfl, tab, dk, a, dc, kn, hs, ch, fm, rfl, rfl, rfl, hf, ok, hk, ha, hc, hj, q⟩
end
end Ts

set_option Elab.async false
set_option linter.all false
set_option maxRecDepth 100000
set_option maxHeartbeats 4000000
/-! Comprehensions whose turns may let the table of code objects grow. -/
namespace Ts
open PySem PySem.Spec PyProof.Rows L2 LamX NdefX
theorem extL {K : PySem.W.Frag} {H H' : Hp} (e : ExtN H H') {a : Addr} {xs : List V} (h : SqL K H a xs) : SqL K H' a xs := by
  rcases h with (h | ⟨o, h⟩) | h
  · exact .inl (.inl (e _ _ h (fun _ z => by cases z)))
  · exact .inl (.inr ⟨o, e _ _ h (fun _ z => by cases z)⟩)
  · exact .inr h
theorem extT {K : PySem.W.Frag} {H H' : Hp} (e : ExtN H H') {a : Addr} {xs : List V} (h : SqT K H a xs) : SqT K H' a xs := by
  rcases h with (h | ⟨o, h⟩) | h
  · exact .inl (.inl (e _ _ h (fun _ z => by cases z)))
  · exact .inl (.inr ⟨o, e _ _ h (fun _ z => by cases z)⟩)
  · exact .inr h
theorem ext_same {H H' : Hp} (s : Same H H') : ExtN H H' := fun b o h _ => s b o h
theorem ext_upd {H0 H : Hp} {D : Addr} (hD : H0 D = none) (s : ExtN H0 H) (o : HO) : ExtN H0 (upd H D o) := fun b u e n => by rw [upd_ne (ne_of_none e hD)]; exact s b u e n
theorem ext_new {H : Hp} {D : Addr} (hD : H D = none) (o : HO) : ExtN H (upd H D o) := ext_upd hD (ExtN.refl H) o
theorem tab_same {H H' : Hp} {Pt : Addr} {q : Str} (t : TabS H Pt q) (s : Same H H') : TabS H' Pt q := t.ext s
theorem tab_upd {H : Hp} {Pt D : Addr} {q : Str} {u o : HO} (t : TabS H Pt q) (hD : H D = some u) (n1 : ∀ ps, u ≠ .tbl ps) (n2 : ∀ c, u ≠ CodeO c q) : TabS (upd H D o) Pt q := by
  obtain ⟨ps, h1, h2, h3⟩ := t
  refine ⟨ps, by rw [upd_ne (fun z => n1 ps (by rw [← z, h1] at hD; exact (Option.some.inj hD).symm))]; exact h1, h2, fun pos cv hc => ?_⟩
  obtain ⟨c, e1, e2⟩ := h3 pos cv hc
  exact ⟨c, e1, by rw [upd_ne (fun z => n2 c (by rw [← z, e2] at hD; exact (Option.some.inj hD).symm))]; exact e2⟩
theorem tab_lst {H : Hp} {Pt D : Addr} {q : Str} {xs : List V} {o : HO} (t : TabS H Pt q) (hD : H D = some (.lst xs)) : TabS (upd H D o) Pt q := tab_upd t hD (fun _ z => by cases z) (fun _ z => by cases z)
theorem tab_new {H : Hp} {Pt D : Addr} {q : Str} {o : HO} (t : TabS H Pt q) (hD : H D = none) : TabS (upd H D o) Pt q := t.ext (same_new hD o)
section
variable {g : TG} {tt : TT} {te : TE} {vs : List Nat} {σ : L2.St} {H1 : Hp} {D : Addr} {Qd : Hp → Prop} {α : Type} {Pt : Addr} {q : Str}
theorem lc_lstN {K : PySem.W.Frag} {a : Addr} (as : List α) (enc : α → V) (keep : α → Bool) (out : α → V) (hD : H1 D = none) (tab : TabS H1 Pt q) (hq : SqL K H1 a (as.map enc)) (hn : as.length < sizeLine)
    (hs : ∀ x H (Qt : V → Hp → Prop) (Qf : Hp → Prop), x ∈ as → ExtN H1 H → TabS H Pt q → (keep x = true → ∀ H2, ExtN H H2 → TabS H2 Pt q → Qt (out x) H2) → (keep x = false → ∀ H2, ExtN H H2 → TabS H2 Pt q → Qf H2) →
      g (enc x) (wipe σ vs) H fun σ2 H2 => wipe σ2 vs = wipe σ vs ∧ tt σ2 H2 fun b H3 => if b = true then te σ2 H3 Qt else Qf H3)
    (hd : ∀ H, ExtN H1 H → TabS H Pt q → H D = some (.lst ((as.filter keep).map out)) → Qd H) :
    ∃ W : Nat → Nat → Hp → Prop, (∃ m, W 0 m (upd H1 D (.lst []))) ∧ ∀ i m H, W i m H →
      ((Itl K a).stop i H ∧ Qd H) ∨ ((Itl K a).go i H ∧ ∃ Nx : Hp → Prop, (∀ H', Nx H' → ∃ m', m' < m ∧ W (i + 1) m' H') ∧ ∀ x H', (Itl K a).yld i H x H' → g x (wipe σ vs) H' fun σ2 H2 => wipe σ2 vs = wipe σ vs ∧ tt σ2 H2 fun b H3 =>
        if b = true then te σ2 H3 fun y H4 => ∃ acc, H4 D = some (.lst acc) ∧ acc.length < sizeLine ∧ Nx (upd H4 D (.lst (acc ++ [y]))) else Nx H3) := by
  refine lc_run as keep out (fun H => ExtN H1 H ∧ TabS H Pt q) (fun H H' => ExtN H H' ∧ TabS H' Pt q) hn (fun H H' acc r h => r.1 _ _ h (fun _ z => by cases z)) (fun H H' a b => ⟨a.1.trans b.1, b.2⟩) (fun H acc l s h => ⟨ext_upd hD s.1 _, tab_lst s.2 h⟩) ⟨ext_new hD _, tab_new tab hD⟩ (fun i x H e s => ⟨_, enc x, extL s.1 hq, by rw [List.getElem?_map, e]; rfl⟩)
    (fun H s => ⟨_, extL s.1 hq, by rw [List.length_map]; exact Nat.le_refl _⟩) (fun i x H y H' Qt Qf e s yl h1 h2 => ?_) (fun H s h => hd H s.1 s.2 h)
  obtain ⟨rfl, f⟩ := yl
  have ey := f _ (extL s.1 hq)
  rw [List.getElem?_map, e] at ey
  cases ey
  exact hs x _ Qt Qf (List.mem_of_getElem? e) s.1 s.2 (fun k H2 a b => h1 k H2 ⟨a, b⟩) (fun k H2 a b => h2 k H2 ⟨a, b⟩)
theorem lc_tupN {K : PySem.W.Frag} {a : Addr} (as : List α) (enc : α → V) (keep : α → Bool) (out : α → V) (hD : H1 D = none) (tab : TabS H1 Pt q) (hq : SqT K H1 a (as.map enc)) (hn : as.length < sizeLine)
    (hs : ∀ x H (Qt : V → Hp → Prop) (Qf : Hp → Prop), x ∈ as → ExtN H1 H → TabS H Pt q → (keep x = true → ∀ H2, ExtN H H2 → TabS H2 Pt q → Qt (out x) H2) → (keep x = false → ∀ H2, ExtN H H2 → TabS H2 Pt q → Qf H2) →
      g (enc x) (wipe σ vs) H fun σ2 H2 => wipe σ2 vs = wipe σ vs ∧ tt σ2 H2 fun b H3 => if b = true then te σ2 H3 Qt else Qf H3)
    (hd : ∀ H, ExtN H1 H → TabS H Pt q → H D = some (.lst ((as.filter keep).map out)) → Qd H) :
    ∃ W : Nat → Nat → Hp → Prop, (∃ m, W 0 m (upd H1 D (.lst []))) ∧ ∀ i m H, W i m H →
      ((Itt K a).stop i H ∧ Qd H) ∨ ((Itt K a).go i H ∧ ∃ Nx : Hp → Prop, (∀ H', Nx H' → ∃ m', m' < m ∧ W (i + 1) m' H') ∧ ∀ x H', (Itt K a).yld i H x H' → g x (wipe σ vs) H' fun σ2 H2 => wipe σ2 vs = wipe σ vs ∧ tt σ2 H2 fun b H3 =>
        if b = true then te σ2 H3 fun y H4 => ∃ acc, H4 D = some (.lst acc) ∧ acc.length < sizeLine ∧ Nx (upd H4 D (.lst (acc ++ [y]))) else Nx H3) := by
  refine lc_run as keep out (fun H => ExtN H1 H ∧ TabS H Pt q) (fun H H' => ExtN H H' ∧ TabS H' Pt q) hn (fun H H' acc r h => r.1 _ _ h (fun _ z => by cases z)) (fun H H' a b => ⟨a.1.trans b.1, b.2⟩) (fun H acc l s h => ⟨ext_upd hD s.1 _, tab_lst s.2 h⟩) ⟨ext_new hD _, tab_new tab hD⟩ (fun i x H e s => ⟨_, enc x, extT s.1 hq, by rw [List.getElem?_map, e]; rfl⟩)
    (fun H s => ⟨_, extT s.1 hq, by rw [List.length_map]; exact Nat.le_refl _⟩) (fun i x H y H' Qt Qf e s yl h1 h2 => ?_) (fun H s h => hd H s.1 s.2 h)
  obtain ⟨rfl, f⟩ := yl
  have ey := f _ (extT s.1 hq)
  rw [List.getElem?_map, e] at ey
  cases ey
  exact hs x _ Qt Qf (List.mem_of_getElem? e) s.1 s.2 (fun k H2 a b => h1 k H2 ⟨a, b⟩) (fun k H2 a b => h2 k H2 ⟨a, b⟩)
end
end Ts

set_option Elab.async false
set_option linter.all false
set_option maxRecDepth 100000
set_option maxHeartbeats 4000000
/-! Defs 11: whether there is an outcome. -/
namespace Ts
open PySem PySem.Spec PyProof.Rows L2 LamX NdefX
theorem ix_listK {X : Cx} (K : PySem.W.Frag) (hK : X.K = K := by rfl) : IxR X (rIxL K) := by
  subst hK
  exact ix_list
theorem valV_none {kvs : List (Key × V)} {k : Key} (h : k ∉ kvs.map (·.1)) : valV kvs k = none := by
  unfold valV
  rw [Option.map_eq_none_iff, List.find?_eq_none]
  intro p hp e
  exact h (List.mem_map.mpr ⟨p, hp, of_decide_eq_true e⟩)
theorem mergeK_app : ∀ {more kvs : List (Key × V)}, ((kvs ++ more).map (·.1)).Nodup → mergeK kvs more = kvs ++ more
  | [], kvs, _ => by rw [List.append_nil]; rfl
  | p :: r, kvs, nd => by
    have hp : p.1 ∉ kvs.map (·.1) := by
      rw [List.map_append, List.nodup_append] at nd
      exact fun z => nd.2.2 _ z p.1 (by simp) rfl
    show mergeK (putK kvs p.1 p.2) r = _
    rw [putK_new p.2 (valV_none hp), mergeK_app (by rw [List.append_assoc]; exact nd), List.append_assoc]
    rfl
theorem kvS_keys (kv : List (Int × Sg)) : (kvS kv).map (·.1) = (kv.map (·.1)).map Sum.inl := by
  unfold kvS
  rw [List.map_map, List.map_map]
  rfl
theorem nodup_inl {ns : List Int} (h : ns.Nodup) : (ns.map (Sum.inl : Int → Key)).Nodup := List.Pairwise.map _ (fun a b h e => h (Sum.inl.inj e)) h
theorem mergeK_kvS {kv : List (Int × Sg)} (h : (kv.map (·.1)).Nodup) : mergeK [] (kvS kv) = kvS kv := mergeK_app (by rw [List.nil_append, kvS_keys]; exact nodup_inl h)
theorem mergeK_one {ch : List (Int × Sg)} {j : Int} {e : Sg} (h : (ch.map (·.1)).Nodup) (hj : ch.lookup j = none) : mergeK (mergeK [] (kvS ch)) (putK [] (Sum.inl j) (sV e)) = kvS (ch ++ [(j, e)]) := by
  rw [mergeK_kvS h]
  have e1 : putK ([] : List (Key × V)) (Sum.inl j) (sV e) = [(Sum.inl j, sV e)] := rfl
  have hn : j ∉ ch.map (·.1) := fun z => by
    obtain ⟨e', h', _⟩ := lookup_in z
    rw [hj] at h'
    cases h'
  rw [e1, mergeK_app (by
    rw [List.map_append, kvS_keys, List.nodup_append]
    refine ⟨nodup_inl h, by simp, fun a ha b hb z => ?_⟩
    obtain ⟨n, hm, rfl⟩ := List.mem_map.mp ha
    have hb : b = Sum.inl j := by simpa using hb
    rw [hb] at z
    exact hn (by rw [← Sum.inl.inj z]; exact hm))]
  unfold kvS
  rw [List.map_append]
  rfl
/-- the open jobs that are left -/
def leftN (fm : Fm) (st : Int → Sg) (hs : List Int) (ch : List (Int × Sg)) : Nat := (fm.jobs.filter (openB st hs ch)).length
theorem filter_lt {α : Type} {p q : α → Bool} (h : ∀ x, q x = true → p x = true) : ∀ {l : List α} {x : α}, x ∈ l → p x = true → q x = false → (l.filter q).length < (l.filter p).length
  | [], _, hx, _, _ => by cases hx
  | y :: r, x, hx, hp, hq => by
    have le : (r.filter q).length ≤ (r.filter p).length := by
      rw [← List.countP_eq_length_filter, ← List.countP_eq_length_filter]
      exact List.countP_mono_left fun x _ => h x
    rw [List.filter_cons, List.filter_cons]
    rcases List.mem_cons.mp hx with rfl | hx
    · rw [hp, hq]
      show (r.filter q).length < (r.filter p).length + 1
      omega
    · have ih := filter_lt h hx hp hq
      cases e1 : q y with
      | true =>
        rw [h y e1]
        show (r.filter q).length + 1 < (r.filter p).length + 1
        omega
      | false =>
        cases e2 : p y with
        | true => show (r.filter q).length < (r.filter p).length + 1; omega
        | false => exact ih
theorem left_lt {fm : Fm} {st : Int → Sg} {hs : List Int} {ch : List (Int × Sg)} {j : Int} {e : Sg} (hj : j ∈ fm.jobs) (ho : openB st hs ch j = true) : leftN fm st hs (ch ++ [(j, e)]) < leftN fm st hs ch := by
  refine filter_lt (fun n h => ?_) hj ho ?_
  · unfold openB at h ⊢
    rw [lookup_snoc] at h
    simp only [Bool.and_eq_true] at h ⊢
    refine ⟨⟨h.1.1, ?_⟩, h.2⟩
    cases e1 : ch.lookup n with
    | none => rfl
    | some x => rw [e1] at h; exact absurd h.1.2 (by simp)
  · unfold openB
    rw [lookup_snoc, if_pos rfl]
    cases e1 : ch.lookup j <;> simp
section
variable {P : Program} {w : World} {K : PySem.W.Frag} {mg : Str → Option Value} {base : Heap}
def spOut (Pt : Addr) (n : Nat) : Sp := fun vs H Q _ => ∃ (v : V) (dk a dc : Addr) (kn : List (Int × Sg)) (hs : List Int) (ch : List (Int × Sg)) (fm : Fm), vs = [v, .ref dk, .ref a, .ref dc] ∧ TabS H Pt lamQ ∧ FmAt H v fm ∧ FmOk fm ∧
  H dk = some (.dK (kvS kn)) ∧ H a = some (.tup (hs.map V.int)) ∧ H dc = some (.dK (kvS ch)) ∧ (∀ j ∈ fm.jobs, j ∈ kn.map (·.1)) ∧ (ch.map (·.1)).Nodup ∧ leftN fm (stL kn) hs ch < n ∧ ch.length + n < 1000 ∧
  ∀ H2, ExtN H H2 → TabS H2 Pt lamQ → Q (.bl (canB fm (posOf (stL kn) hs ch))) H2
abbrev nsOut : List Str := ["formula", "known", "held", "chosen", "jobs", "ends", "end"]
theorem scOut : FnScope nsOut ["formula", "known", "held", "chosen"] (defScope (top 40)) := ⟨rfl, rfl, rfl, by decide +kernel, rfl, by decide +kernel, by decide +kernel⟩
abbrev psOut : List Str := ["formula", "known", "held", "chosen"]
theorem ok_has_outcome {n : Nat} {f g1 g2 g3 Pt : Addr} {fd d1 d2 d3 : FuncData} (D : Def K mg "has_outcome" 40 psOut f fd) (T : Bs mg) (DH : Def K mg "is_hopeful" 36 psOut g1 d1) (GH : FnOk P w K mg base CX0 6 g1 d1 psOut (spHope Pt))
    (DJ : Def K mg "open_jobs" 37 psOut g2 d2) (GJ : FnOk P w K mg base CX0 4 g2 d2 psOut (spOpen K)) (DB : Def K mg "best_ends" 39 ["formula", "number", "known"] g3 d3) (GB : FnOk P w K mg base CX0 3 g3 d3 ["formula", "number", "known"] (spBest K))
    (GR : FnOk P w K mg base CX0 (6 + n) f fd psOut (spOut Pt n)) : FnOk P w K mg base CX0 (6 + n + 1) f fd psOut (spOut Pt (n + 1)) := by
  refine D.F.ok scOut (fun vs H Q E h => ?_) (fun cdv A outer s H vs Q E hr h => ?_)
  · obtain ⟨v, dk, a, dc, kn, hs, ch, fm, rfl, _⟩ := h
    rfl
  obtain ⟨v, dk, a, dc, kn, hs, ch, fm, rfl, tab, hf, ok, hk, ha, hc, hj, nd, hn, hl, q⟩ := h
  have hu : A.units + 3 + 64 < cLine := hr.units
  refine ⟨_, pss_cons (ps_if (pt_not (pt_val (pe_callD DH GH (hr.mono (by omega)) (pa_cons (pv 0) (pa_cons (pv 1) (pa_cons (pv 2) (pa_cons (pv 3) pa_nil))))))) (pss_one (ps_ret pe_bl)) pss_nil)
    (pss_cons (ps_set (i := 4) scOut.nd rfl (Or.inr rfl) (pe_callD DJ GJ (hr.mono (by omega)) (pa_cons (pv 0) (pa_cons (pv 1) (pa_cons (pv 2) (pa_cons (pv 3) pa_nil))))))
    (pss_cons (ps_if (pt_cmpR (op_eqNil hr.units) (pv 4) (pe_lst pa_nil) (nomark _)) (pss_one (ps_ret pe_bl)) pss_nil)
    (pss_cons (ps_set (i := 5) scOut.nd rfl (Or.inl rfl) (pe_callD DB GB (hr.mono (by omega)) (pa_cons (pv 0) (pa_cons (pe_ix ix_list (pv 4) pe_int (fun _ _ => rfl)) (pa_cons (pv 1) pa_nil)))))
    (pss_one (ps_ret (pe_callB (cr_any rfl) rfl T.any (by decide +kernel) (pa_cons (pe_lc (own := [("end", 6)]) (g := gName 6) rfl scOut.nd (pi_list (pv 5)) (blkOk_by (N := nsOut) (sc := defScope (top 40)) (by decide +kernel))
      (fun _ _ _ _ _ => pg_name (i := 6) scOut.nd rfl (Or.inl rfl)) (fun _ _ _ _ _ => pts_nil) (fun _ _ _ _ _ => pe_callD D GR hr (pa_cons (pv 0) (pa_cons (pv 1) (pa_cons (pv 2) (pa_cons (pe_star1 (pv 3) (pe_ix (ix_listK K) (pv 4) pe_int (fun _ _ => rfl)) (pv 6)) pa_nil)))))) pa_nil))))))), ?_⟩
  refine ⟨_, rfl, _, rfl, _, rfl, _, rfl, v, dk, a, dc, kn, hs, ch, fm, rfl, tab, hf, ok, hk, ha, hc, hj, fun H1 e1 t1 => ⟨_, rfl, ?_⟩⟩
  cases eh : hopeB fm (stL kn) hs ch with
  | false =>
    have ec : canB fm (posOf (stL kn) hs ch) = false := by
      cases e : canB fm (posOf (stL kn) hs ch) with
      | false => rfl
      | true => rw [hope_of_can e] at eh; cases eh
    have q1 := q H1 e1 t1
    rw [ec] at q1
    exact q1
  | true =>
    refine iteF ?_
    have hf1 := fm_ext e1 hf
    have hk1 := e1 _ _ hk (fun _ z => by cases z)
    have ha1 := e1 _ _ ha (fun _ z => by cases z)
    have hc1 := e1 _ _ hc (fun _ z => by cases z)
    refine ⟨_, rfl, _, rfl, _, rfl, _, rfl, v, fm, dk, a, dc, kn, hs, ch, rfl, hf1, ok, hk1, hj, SqT.of ha1, hc1, fun r ns H2 s2 nr hr2 mem l3 => ?_⟩
    refine ⟨_, rfl, by show 0 ≤ sizeLine; decide, fun em hem => ?_⟩
    have s3 := s2.trans (same_new hem (.lst []))
    refine ⟨r, em, ns.map V.int, rfl, rfl, SqL.of (same_new hem (.lst []) _ _ hr2), SqL.of upd_same, _, rfl, ?_⟩
    have e3 : ExtN H1 (upd H2 em (.lst [])) := ext_same s3
    have t3 := tab_same t1 s3
    have hr3 : (upd H2 em (.lst [])) r = some (.lst (ns.map V.int)) := same_new hem (.lst []) _ _ hr2
    generalize upd H2 em (.lst []) = H3 at *
    cases ns with
    | nil =>
      have no : ∀ n ∈ fm.jobs, openB (stL kn) hs ch n = false := fun n hn => by
        cases e : openB (stL kn) hs ch n with
        | false => rfl
        | true => exact absurd ((mem n).mpr ⟨hn, e⟩) (by simp)
      have q3 := q H3 (e1.trans e3) t3
      rw [can_of_hope eh no] at q3
      exact q3
    | cons j r' =>
      obtain ⟨hjj, hjo⟩ := (mem j).mp List.mem_cons_self
      have hlj : ch.lookup j = none := by
        unfold openB at hjo
        simp only [Bool.and_eq_true] at hjo
        exact Option.isNone_iff_eq_none.mp hjo.1.2
      refine iteF ?_
      have ix : ∀ H4, ExtN H3 H4 → atI ((j :: r').map V.int) 0 = some (.int j) := fun _ _ => atI_nat (xs := (j :: r').map V.int) (j := 0) rfl
      refine ⟨_, rfl, _, rfl, r, _, _, _, rfl, rfl, SqL.of hr3, ix H3 (ExtN.refl _), _, rfl, v, fm, j, dk, kn, rfl, fm_ext e3 hf1, ok, e3 _ _ hk1 (fun _ z => by cases z), hj j hjj, fun re H4 s4 nre hre => ?_⟩
      have e4 : ExtN H1 H4 := e3.trans (ext_same s4)
      have t4 := tab_same t3 s4
      have hr4 := s4 _ _ hr3
      refine ⟨_, rfl, re, rfl, ⟨_, SqL.of hre⟩, fun D4 hD4 => ?_⟩
      have lb : (bestOf (wordsOf fm j) (ends (stL kn j))).length ≤ 5 := by
        have h1 := ends_len (stL kn j)
        have h2 : ∀ {ws : List Wd} {es : List Sg} {acc : List (List Bool × Sg)}, (es.foldl (putRow ws) acc).length ≤ acc.length + es.length := fun {ws es acc} => by
          induction es generalizing acc with
          | nil => exact Nat.le_refl _
          | cons x r ih =>
            have h3 := ih (acc := putRow ws acc x)
            have h4 : (putRow ws acc x).length ≤ acc.length + 1 := by
              unfold putRow
              split
              · exact Nat.le_succ _
              · rw [List.length_append]; exact Nat.le_refl _
            rw [List.foldl_cons, List.length_cons]
            omega
        have h3 := h2 (ws := wordsOf fm j) (es := ends (stL kn j)) (acc := [])
        unfold bestOf
        rw [List.length_map]
        refine Nat.le_trans (List.length_filter_le _ _) ?_
        unfold foundOf
        simp only [List.length_nil] at h3
        omega
      refine lc_lstN (Pt := Pt) (q := lamQ) (bestOf (wordsOf fm j) (ends (stL kn j))) sV (fun _ => true) (fun e => .bl (canB fm (posOf (stL kn) hs (ch ++ [(j, e)])))) hD4 t4 (SqL.of hre) (small1000 (by omega)) (fun e H5 Qt Qf he e5 t5 k1 k2 => ?_) fun H5 e5 t5 hD5 => ?_
      · have c5 : H5 dc = some (.dK (kvS ch)) := e5 _ _ (e4 _ _ hc1 (fun _ z => by cases z)) (fun _ z => by cases z)
        refine ⟨rfl, _, rfl, _, rfl, _, rfl, fun p hp => ?_⟩
        have u1 := same_new hp (.dK [])
        refine ⟨_, rfl, upd_same, dc, kvS ch, rfl, fun z => (by rw [z, c5] at hp; cases hp), u1 _ _ c5, fun q0 hq0 => ?_⟩
        have np : p ≠ q0 := fun z => by rw [← z, upd_same] at hq0; cases hq0
        have hq5 : H5 q0 = none := by
          rw [upd_ne (Ne.symm np), upd_ne (Ne.symm np)] at hq0
          exact hq0
        have up : ∀ {b u}, H5 b = some u → (upd (upd (upd H5 p (.dK [])) p (.dK (mergeK [] (kvS ch)))) q0 (.dK []) : Hp) b = some u := fun {b u} h => by
          rw [upd_ne (ne_of_none h hq5), upd_ne (ne_of_none h hp), upd_ne (ne_of_none h hp)]
          exact h
        have hr5 := e5 _ _ hr4 (fun _ z => by cases z)
        refine ⟨_, rfl, r, _, _, _, rfl, rfl, SqL.of (up hr5), ix H3 (ExtN.refl _), _, rfl, Sum.inl j, rfl, upd_same, (by rw [upd_ne np]; exact upd_same), np, (by unfold kvS; rw [List.length_map]; omega), ?_⟩
        rw [show sV e = V.str e.s from rfl] at *
        have mk : mergeK (mergeK [] (kvS ch)) (putK [] (Sum.inl j) (V.str e.s)) = kvS (ch ++ [(j, e)]) := mergeK_one nd hlj
        rw [mk]
        have up2 : ∀ {b u}, H5 b = some u → (upd (upd (upd (upd (upd H5 p (.dK [])) p (.dK (mergeK [] (kvS ch)))) q0 (.dK [])) q0 (.dK (putK [] (Sum.inl j) (V.str e.s)))) p (.dK (kvS (ch ++ [(j, e)]))) : Hp) b = some u := fun {b u} h => by
          rw [upd_ne (ne_of_none h hp), upd_ne (ne_of_none h hq5)]
          exact up h
        have sm2 : Same H5 (upd (upd (upd (upd (upd H5 p (.dK [])) p (.dK (mergeK [] (kvS ch)))) q0 (.dK [])) q0 (.dK (putK [] (Sum.inl j) (V.str e.s)))) p (.dK (kvS (ch ++ [(j, e)])))) := fun b u h => up2 h
        have ll := left_lt (e := e) hjj hjo
        refine ⟨v, dk, a, p, kn, hs, ch ++ [(j, e)], fm, rfl, tab_same t5 sm2, (fm_ext e5 (fm_ext e4 hf1)).same sm2, ok, sm2 _ _ (e5 _ _ (e4 _ _ hk1 (fun _ z => by cases z)) (fun _ z => by cases z)), sm2 _ _ (e5 _ _ (e4 _ _ ha1 (fun _ z => by cases z)) (fun _ z => by cases z)), upd_same, hj, ?_, by omega, by rw [List.length_append]; show ch.length + 1 + n < 1000; omega, fun H6 e6 t6 => k1 rfl H6 ((ext_same sm2).trans e6) t6⟩
        rw [List.map_append, List.nodup_append]
        refine ⟨nd, by simp, fun x hx y hy z => ?_⟩
        have hy : y = j := by simpa using hy
        rw [z, hy] at hx
        obtain ⟨e', h', _⟩ := lookup_in hx
        rw [hlj] at h'
        cases h'
      · refine ⟨D4, (bestOf (wordsOf fm j) (ends (stL kn j))).map fun e => canB fm (posOf (stL kn) hs (ch ++ [(j, e)])), rfl, SqL.of ?_, ?_⟩
        · rw [hD5, List.filter_eq_self.mpr (fun _ _ => rfl), List.map_map]
          rfl
        · have e6 : ((bestOf (wordsOf fm j) (ends (stL kn j))).map fun e => canB fm (posOf (stL kn) hs (ch ++ [(j, e)]))).any id = canB fm (posOf (stL kn) hs ch) := by
            rw [List.any_map, can_split hjo]
            rfl
          rw [e6]
          exact q H5 (e1.trans (e4.trans e5)) t5
end
end Ts

set_option Elab.async false
set_option linter.all false
set_option maxRecDepth 100000
set_option maxHeartbeats 4000000
/-! Defs 12: wishes, the states of all jobs. -/
namespace Ts
open PySem PySem.Spec PyProof.Rows L2 LamX NdefX
def OpAt (H : Hp) (v : V) : Option Fm → Prop
  | none => v = .non
  | some f => FmAt H v f
abbrev WR (H : Hp) (p : Key × V) (q : Int × Option Fm) : Prop := p.1 = Sum.inl q.1 ∧ OpAt H p.2 q.2
abbrev WsAt (H : Hp) (kvs : List (Key × V)) (ws : Ws) : Prop := Paired (WR H) kvs ws
theorem OpAt.tups {H H' : Hp} (s : Tups H H') {v : V} {o : Option Fm} (h : OpAt H v o) : OpAt H' v o := by
  cases o with
  | none => exact h
  | some f => exact FmAt.tups s h
theorem WsAt.tups {H H' : Hp} (s : Tups H H') {kvs : List (Key × V)} {ws : Ws} (h : WsAt H kvs ws) : WsAt H' kvs ws := paired_mono (fun _ _ r => ⟨r.1, r.2.tups s⟩) h
theorem tups_same {H H' : Hp} (s : Same H H') : Tups H H' := fun p xs e => s _ _ e
theorem tups_ext {H H' : Hp} (s : ExtN H H') : Tups H H' := fun p xs e => s _ _ e (fun _ z => by cases z)
theorem tups_lock {H : Hp} {d : Addr} {kvs : List (Key × V)} {o : HO} (h : H d = some (.dK kvs)) : Tups H (upd H d o) := dk_ne_tups h
structure WsOk (ws : Ws) : Prop where
  asc : (ws.map (·.1)).Pairwise (· < ·)
  rng : ∀ q ∈ ws, 1 ≤ q.1 ∧ q.1 ≤ 1000000
  fm : ∀ q ∈ ws, ∀ f, q.2 = some f → FmOk f
  len : ws.length ≤ 10
theorem WsOk.nd {ws : Ws} (h : WsOk ws) : (ws.map (·.1)).Nodup := h.asc.imp fun h e => by omega
theorem ws_keys {H : Hp} {kvs : List (Key × V)} {ws : Ws} (h : WsAt H kvs ws) : kvs.map (·.1) = (ws.map (·.1)).map Sum.inl := by
  induction h with
  | nil => rfl
  | cons r t ih => rw [List.map_cons, List.map_cons, List.map_cons, ih, r.1]
theorem ws_get {H : Hp} {kvs : List (Key × V)} {ws : Ws} (h : WsAt H kvs ws) {n : Int} : match ws.lookup n with
    | none => valV kvs (Sum.inl n) = none
    | some o => ∃ v, valV kvs (Sum.inl n) = some v ∧ OpAt H v o := by
  induction h with
  | nil => rfl
  | cons r t ih =>
    rename_i p q kvs ws
    obtain ⟨m, o⟩ := q
    obtain ⟨k, v⟩ := p
    obtain ⟨e, r2⟩ := r
    have e : k = Sum.inl m := e
    subst e
    rw [List.lookup_cons]
    unfold valV at ih ⊢
    rw [List.find?_cons]
    by_cases z : m = n
    · subst z
      rw [show (m == m) = true from beq_self_eq_true m, show decide ((Sum.inl m : Key) = Sum.inl m) = true from decide_eq_true rfl]
      exact ⟨v, rfl, r2⟩
    · rw [show (n == m) = false from beq_eq_false_iff_ne.mpr fun y => z y.symm, show decide ((Sum.inl m : Key) = Sum.inl n) = false from decide_eq_false fun y => z (Sum.inl.inj y)]
      exact ih
/-- what a wish is, by its job -/
theorem ws_fw {H : Hp} {kvs : List (Key × V)} {ws : Ws} (h : WsAt H kvs ws) {n : Int} (hn : n ∈ ws.map (·.1)) : ∃ v, valV kvs (Sum.inl n) = some v ∧ OpAt H v (fw ws n) := by
  have g := ws_get h (n := n)
  unfold fw
  cases e : ws.lookup n with
  | none =>
    exfalso
    obtain ⟨q, hq, rfl⟩ := List.mem_map.mp hn
    have := List.lookup_eq_none_iff.mp e q hq
    simp at this
  | some o =>
    rw [e] at g
    exact g
section
variable {P : Program} {w : World} {K : PySem.W.Frag} {mg : Str → Option Value} {base : Heap}
def spWishes : Sp := fun vs H Q _ => ∃ (d : Addr) (kvs : List (Key × V)) (ws : Ws), vs = [.ref d] ∧ H d = some (.dK kvs) ∧ WsAt H kvs ws ∧ WsOk ws ∧ ∀ H', Same H H' → Q (.bl true) H'
abbrev nsWishes : List Str := ["value", "number", "f"]
theorem scWishes : FnScope nsWishes ["value"] (defScope (top 43)) := ⟨rfl, rfl, rfl, by decide +kernel, rfl, by decide +kernel, by decide +kernel⟩
theorem ok_are_wishes {f g1 g2 : Addr} {fd d1 d2 : FuncData} (D : Def K mg "are_wishes" 43 ["value"] f fd) (G : Gs K mg) (T : Bs mg) (DJ : Def K mg "is_job_number" 28 ["value"] g1 d1) (GJ : FnOk P w K mg base CX0 3 g1 d1 ["value"] spIsJob)
    (DA : Def K mg "is_after_formula" 32 ["value"] g2 d2) (GA : FnOk P w K mg base CX0 6 g2 d2 ["value"] spAfter) : FnOk P w K mg base CX0 7 f fd ["value"] spWishes := by
  refine D.F.ok scWishes (fun vs H Q E h => ?_) (fun cdv A outer s H vs Q E hr h => ?_)
  · obtain ⟨d, kvs, ws, rfl, _⟩ := h
    rfl
  obtain ⟨d, kvs, ws, rfl, hd, hw, ok, q⟩ := h
  have lw : kvs.length = ws.length := Paired.length hw
  refine ⟨_, pss_cons (ps_if (PW.pt (pw_or (pt_not (pt_val (pe_isiT (n := "dict") T (pv 0) T.dict))) (pw_or1 (pt_cmpR op_gt (pe_callB call_lenD rfl T.len PySem.boot_len (pa_cons (pv 0) pa_nil)) (pe_gI G.maxw) (nomark _))))) (pss_one (ps_ret pe_bl)) pss_nil)
    (pss_one (ps_ret (pe_lock (pe_callB (cr_all rfl) rfl T.all (by decide +kernel) (pa_cons (pe_lc (own := [("number", 1), ("f", 2)]) (g := gTup K 2 (gCons (gName 1) (gCons (gName 2) gNil))) rfl scWishes.nd (pi_items (pv 0)) (blkOk_by (N := nsWishes) (sc := defScope (top 43)) (by decide +kernel))
      (fun _ _ _ _ _ => pg_tup rfl (pgs_cons (pg_name (i := 1) scWishes.nd rfl (Or.inl rfl)) (pgs_cons (pg_name (i := 2) scWishes.nd rfl (Or.inl rfl)) pgs_nil))) (fun _ _ _ _ _ => pts_nil)
      (fun _ _ _ _ _ => pe_and (pe_callD DJ GJ (hr.mono (by decide)) (pa_cons (pv 1) pa_nil)) (pe_one (pe_or (pe_cmpR op_isN (pv 2) pe_non (nomark _)) (pe_one (pe_callD DA GA hr (pa_cons (pv 2) pa_nil))))))) pa_nil))))), ?_⟩
  refine ⟨_, rfl, _, _, _, _, _, rfl, .ty _, .base (.dK hd), kit_ty (r := true) (by decide +kernel), _, rfl, ?_⟩
  have l10 := ok.len
  have c1 : decide (((kvs.length : Nat) : Int) > 60) = false := decide_eq_false (by omega)
  refine ⟨_, rfl, d, kvs, rfl, hd, _, _, rfl, rfl, _, congrArg V.bl c1, ?_⟩
  refine iteF ?_
  refine ⟨d, _, hd, trivial, fun od => ?_⟩
  refine ⟨_, rfl, d, od, _, rfl, upd_same, fun D hD => ?_⟩
  obtain ⟨z, ez1, ez2, hz⟩ := paired_zip (hw.tups (tups_lock (o := .frz od (.dK kvs)) hd))
  have lz : z.length = ws.length := by rw [← ez2, List.length_map]
  have at_ : upd H d (.frz od (.dK kvs)) d = some (.frz od (.dK kvs)) := upd_same
  have fin : ∀ {H2 : Hp}, Same (upd H d (.frz od (.dK kvs))) H2 → Same H (upd H2 d (.dK kvs)) := fun s2 => lock_same hd s2
  generalize upd H d (.frz od (.dK kvs)) = H1 at *
  refine lc_itemsS z (·.1) ez1.symm (fun _ => true) (fun _ => .bl true) hD at_ (small1000 (by omega)) (fun x H2 t Qt Qf hx s2 ht k1 k2 => ?_) fun H2 s2 hD2 => ?_
  · obtain ⟨r1, r2⟩ := hz x hx
    have hm : x.2 ∈ ws := by rw [← ez2]; exact List.mem_map.mpr ⟨x, hx, rfl⟩
    have s3 := s2.trans (same_new ht (.tup [kV x.1.1, x.1.2]))
    have s4 : Same H2 (upd H2 t (.tup [kV x.1.1, x.1.2])) := same_new ht _
    refine ⟨t, _, rfl, SqT.of upd_same, rfl, _, _, rfl, _, _, rfl, rfl, rfl, ?_⟩
    have ek : kV x.1.1 = V.int x.2.1 := by rw [r1]; rfl
    refine ⟨_, rfl, _, _, rfl, ?_, _, congrArg V.bl (decide_eq_true (ok.rng _ hm)), ?_⟩
    · rw [ek]
      exact .int x.2.1
    refine iteT ?_
    cases eo : x.2.2 with
    | none =>
      rw [eo] at r2
      have r2 : x.1.2 = .non := r2
      refine ⟨_, rfl, rfl, _, congrArg V.bl (decide_eq_true r2), ?_⟩
      exact k1 rfl _ s4
    | some fm =>
      rw [eo] at r2
      have r2 : FmAt H1 x.1.2 fm := r2
      have nn : x.1.2 ≠ .non := fun z => by
        rw [z] at r2
        cases fm with
        | atom a => obtain ⟨p, e, _⟩ := r2; cases e
        | node c l => obtain ⟨p, b, xs, e, _⟩ := r2; cases e
      refine ⟨_, rfl, rfl, _, congrArg V.bl (decide_eq_false nn), ?_⟩
      refine iteF ?_
      refine ⟨_, rfl, x.1.2, fm, rfl, r2.same s3, ok.fm _ hm fm eo, fun H3 s5 => k1 rfl H3 (s4.trans s5)⟩
  · refine ⟨D, z.map fun _ => true, rfl, SqL.of ?_, s2 _ _ at_, ?_⟩
    · rw [hD2, List.filter_eq_self.mpr (fun _ _ => rfl), List.map_map]
      rfl
    · have e : (z.map fun _ => true).all id = true := by
        rw [List.all_map, List.all_eq_true]
        exact fun _ _ => rfl
      rw [e]
      exact q _ (fin s2)
end
end Ts

set_option Elab.async false
set_option linter.all false
set_option maxRecDepth 100000
set_option maxHeartbeats 4000000
/-! Defs 13: the states of all jobs. -/
namespace Ts
open PySem PySem.Spec PyProof.Rows L2 LamX NdefX
def stOf (kn : List (Int × Sg)) (ws : Ws) : List (Int × Sg) := kn ++ ws.map fun q => (q.1, Sg.waiting)
theorem lookup_out {kv : List (Int × Sg)} {n : Int} (h : n ∉ kv.map (·.1)) : kv.lookup n = none := by
  rw [List.lookup_eq_none_iff]
  intro p hp
  rw [bne_iff_ne]
  exact fun e => h (List.mem_map.mpr ⟨p, hp, e.symm⟩)
theorem stOf_keys (kn : List (Int × Sg)) (ws : Ws) : (stOf kn ws).map (·.1) = kn.map (·.1) ++ ws.map (·.1) := by
  unfold stOf
  rw [List.map_append, List.map_map]
  rfl
structure KnOk (kn : List (Int × Sg)) (ws : Ws) : Prop where
  nd : (kn.map (·.1)).Nodup
  rng : ∀ p ∈ kn, 1 ≤ p.1 ∧ p.1 ≤ 1000000
  len : kn.length ≤ 10
  dis : ∀ n ∈ ws.map (·.1), n ∉ kn.map (·.1)
  jobs : ∀ q ∈ ws, ∀ f, q.2 = some f → ∀ j ∈ f.jobs, j ∈ (stOf kn ws).map (·.1)
theorem KnOk.all {kn : List (Int × Sg)} {ws : Ws} (h : KnOk kn ws) (ok : WsOk ws) : ((stOf kn ws).map (·.1)).Nodup := by
  rw [stOf_keys, List.nodup_append]
  exact ⟨h.nd, ok.nd, fun a ha b hb e => h.dis b hb (e ▸ ha)⟩
theorem mergeK_st {kn : List (Int × Sg)} {ws : Ws} (h : KnOk kn ws) (ok : WsOk ws) : mergeK (mergeK [] (kvS kn)) (kvS (ws.map fun q => (q.1, Sg.waiting))) = kvS (stOf kn ws) := by
  rw [mergeK_kvS h.nd]
  have e : kvS kn ++ kvS (ws.map fun q => (q.1, Sg.waiting)) = kvS (stOf kn ws) := by
    unfold kvS stOf
    rw [List.map_append]
  rw [mergeK_app (by rw [e, kvS_keys]; exact nodup_inl (h.all ok)), e]
section
variable {P : Program} {w : World} {K : PySem.W.Frag} {mg : Str → Option Value} {base : Heap}
def spStates : Sp := fun vs H Q _ => ∃ (dw dk : Addr) (kvs : List (Key × V)) (ws : Ws) (kn : List (Int × Sg)), vs = [.ref dw, .ref dk] ∧ dk ≠ dw ∧ H dw = some (.dK kvs) ∧ WsAt H kvs ws ∧ WsOk ws ∧ H dk = some (.dK (kvS kn)) ∧ KnOk kn ws ∧
  ∀ (r : Addr) (H' : Hp), Same H H' → H r = none → H' r = some (.dK (kvS (stOf kn ws))) → Q (.ref r) H'
abbrev nsStates : List Str := ["wishes", "known", "states", "named", "lacking", "number", "f"]
theorem scStates : FnScope nsStates ["wishes", "known"] (defScope (top 44)) := ⟨rfl, rfl, rfl, by decide +kernel, rfl, by decide +kernel, by decide +kernel⟩
theorem ok_states_with {f g1 g2 g3 : Addr} {fd d1 d2 d3 : FuncData} (D : Def K mg "states_with" 44 ["wishes", "known"] f fd) (G : Gs K mg) (T : Bs mg) (DW : Def K mg "are_wishes" 43 ["value"] g1 d1) (GW : FnOk P w K mg base CX0 7 g1 d1 ["value"] spWishes)
    (DK : Def K mg "is_known" 33 ["value"] g2 d2) (GK : FnOk P w K mg base CX0 4 g2 d2 ["value"] spKnown) (DM : Def K mg "named_in" 31 ["formula"] g3 d3) (GM : FnOk P w K mg base CX0 3 g3 d3 ["formula"] spNamed) : FnOk P w K mg base CX0 8 f fd ["wishes", "known"] spStates := by
  refine D.F.ok scStates (fun vs H Q E h => ?_) (fun cdv A outer s H vs Q E hr h => ?_)
  · obtain ⟨dw, dk, kvs, ws, kn, rfl, _⟩ := h
    rfl
  obtain ⟨dw, dk, kvs, ws, kn, rfl, dne, hd, hw, ok, hk, kok, q⟩ := h
  have hu := hu_of hr
  have lw : kvs.length = ws.length := Paired.length hw
  have l10 := ok.len
  have ek := ws_keys hw
  refine ⟨_, pss_cons (ps_if (PW.pt (pw_or (pt_not (pt_val (pe_callD DW GW hr (pa_cons (pv 0) pa_nil)))) (pw_or (pt_not (pt_val (pe_callD DK GK (hr.mono (by decide)) (pa_cons (pv 1) pa_nil)))) (pw_or1 (pt_val (pe_lock (pe_callB (cr_any rfl) rfl T.any (by decide +kernel) (pa_cons (pe_lc (own := [("number", 5)]) (g := gName 5) rfl scStates.nd (pi_keys (pv 0))
      (blkOk_by (N := nsStates) (sc := defScope (top 44)) (by decide +kernel)) (fun _ _ _ _ _ => pg_name (i := 5) scStates.nd rfl (Or.inl rfl)) (fun _ _ _ _ _ => pts_nil) (fun _ _ _ _ _ => pe_cmp (pc_din hu (pv 5) (pv 1)) rfl)) pa_nil)))))))) (pss_one ps_never) pss_nil)
    (pss_cons (ps_set (i := 2) scStates.nd rfl (Or.inr rfl) (pe_star2 (pv 1) (pe_lock (pe_dc (own := [("number", 5)]) (g := gName 5) rfl scStates.nd (pi_keys (pv 0)) (blkOk_by (N := nsStates) (sc := defScope (top 44)) (by decide +kernel))
      (fun _ _ _ _ _ => pg_name (i := 5) scStates.nd rfl (Or.inl rfl)) (fun _ _ _ _ _ => pts_nil) (fun _ _ _ _ _ => pv 5) (fun _ _ _ _ _ => pe_gS G.waiting)))))
    (pss_cons (ps_lock (ps_setDc2 (i := 3) (own := [("f", 6), ("number", 5)]) (vs1 := [5]) (g := gName 6) (g1 := gName 5) (wi1 := iList K (tCall spNamed [] E0 (tCons (tVar 6) tNil))) (tt1 := tYes) (tk := tVar 5) (tv := tC (.bl true)) rfl scStates.nd rfl rfl (sw_dict rfl rfl rfl (by decide +kernel)) (pi_values (pv 0)) (blkOk_by (N := nsStates) (sc := defScope (top 44)) (by decide +kernel)) (by decide)
      (fun _ _ _ _ _ => ⟨pg_name (i := 6) scStates.nd rfl (Or.inl rfl), pts_one (pt_cmpR op_notN (pv 6) pe_non (nomark _)), pi_list (pe_callD DM GM (hr.mono (by decide)) (pa_cons (pv 6) pa_nil)), pg_name (i := 5) scStates.nd rfl (Or.inl rfl), pts_nil, pv 5, pe_bl⟩)))
    (pss_cons (ps_set (i := 4) scStates.nd rfl (Or.inl rfl) (pe_callB cr_sorted rfl T.sorted (by decide +kernel) (pa_cons (pe_lock (pe_lc (own := [("number", 5)]) (g := gName 5) rfl scStates.nd (pi_keys (pv 3)) (blkOk_by (N := nsStates) (sc := defScope (top 44)) (by decide +kernel))
      (fun _ _ _ _ _ => pg_name (i := 5) scStates.nd rfl (Or.inl rfl)) (fun _ _ _ _ _ => pts_one (pt_cmp (pc_dnotin hu (pv 5) (pv 2)))) (fun _ _ _ _ _ => pv 5))) pa_nil)))
    (pss_cons (ps_if (pt_cmpR (op_neNil hr.units) (pv 4) (pe_lst pa_nil) (nomark _)) (pss_one ps_never) pss_nil)
    (pss_one (ps_ret (pv 2))))))), ?_⟩
  -- are_wishes, is_known
  refine ⟨_, rfl, dw, kvs, ws, rfl, hd, hw, ok, fun H1 s1 => ⟨_, rfl, ?_⟩⟩
  refine iteF ?_
  have hd1 := s1 _ _ hd
  have hk1 := s1 _ _ hk
  have l10k := kok.len
  refine ⟨_, rfl, dk, kn, rfl, hk1, kok.rng, by omega, fun H2 s2 => ⟨_, rfl, ?_⟩⟩
  refine iteF ?_
  have hd2 := s2 _ _ hd1
  have hk2 := s2 _ _ hk1
  -- no key of the wishes is known
  refine ⟨dw, _, hd2, trivial, fun od => ?_⟩
  refine ⟨_, rfl, dw, od, rfl, .inl ⟨kvs, upd_same, fun D hD => ?_⟩⟩
  have kq : ∀ {i : Nat} {k : Key} {v : V}, kvs[i]? = some (k, v) → ∃ q, ws[i]? = some q ∧ k = Sum.inl q.1 := fun {i k v} e => by
    have e2 : (kvs.map (·.1))[i]? = some k := by rw [List.getElem?_map, e]; rfl
    rw [ek, List.getElem?_map, List.getElem?_map] at e2
    cases e3 : ws[i]? with
    | none => rw [e3] at e2; cases e2
    | some q => rw [e3] at e2; exact ⟨q, rfl, (Option.some.inj e2).symm⟩
  have lockk : upd H2 dw (.frz od (.dK kvs)) dk = some (.dK (kvS kn)) := lock_in hk2 dne
  have at1 : upd H2 dw (.frz od (.dK kvs)) dw = some (.frz od (.dK kvs)) := upd_same
  have back : ∀ {H3 : Hp}, Same (upd H2 dw (.frz od (.dK kvs))) H3 → Same H2 (upd H3 dw (.dK kvs)) := fun s3 => lock_same hd2 s3
  generalize upd H2 dw (.frz od (.dK kvs)) = HL at *
  refine lc_run (J := Itk dw od kvs) ws (fun _ => true) (fun _ => .bl false) (Same HL) Same (small1000 (by omega)) (fun H H' acc r h => r _ _ h) (fun H H' a b => a.trans b) (fun H acc l s h => same_upd hD s _) (same_new hD _)
    (fun i x H e s => ⟨s _ _ at1, by rw [lw]; exact (List.getElem?_eq_some_iff.mp e).1⟩) (fun H s => ⟨s _ _ at1, Nat.le_of_eq lw⟩) (fun i x H y H' Qt Qf e s yl k1 k2 => ?_) (fun H3 s3 h3 => ?_)
  · obtain ⟨rfl, k, v, e1, rfl⟩ := yl
    obtain ⟨q', e2, rfl⟩ := kq e1
    rw [e] at e2
    cases e2
    refine ⟨rfl, _, rfl, _, rfl, dk, _, rfl, DGet.k (k := Sum.inl x.1) (s _ _ lockk), ?_⟩
    rw [valV_kvS]
    have nk : kn.lookup x.1 = none := lookup_out (kok.dis x.1 (List.mem_map.mpr ⟨x, List.mem_of_getElem? e, rfl⟩))
    rw [nk]
    exact k1 rfl _ (same_refl _)
  have ef : (ws.map fun _ => false).any id = false := by
    rw [List.any_map, List.any_eq_false]
    intro _ _ z
    cases z
  refine ⟨D, ws.map fun _ => false, rfl, SqL.of ?_, s3 _ _ at1, false, congrArg V.bl ef, ?_⟩
  · rw [h3, List.filter_eq_self.mpr (fun _ _ => rfl), List.map_map]
    rfl
  refine iteF ?_
  have s4 := back s3
  have hd4 := s4 _ _ hd2
  have hk4 := s4 _ _ hk2
  have S4 : Same H (upd H3 dw (.dK kvs)) := s1.trans (s2.trans s4)
  clear lockk at1 back hD s3 h3
  generalize upd H3 dw (.dK kvs) = H4 at *
  -- states = {**known, **{..}}
  intro p hp
  have u1 := same_new hp (.dK [])
  have nk : p ≠ dk := fun z => by rw [z, hk4] at hp; cases hp
  have nw : p ≠ dw := fun z => by rw [z, hd4] at hp; cases hp
  refine ⟨_, rfl, upd_same, dk, kvS kn, rfl, nk, u1 _ _ hk4, ?_⟩
  have hd5 : (upd (upd H4 p (.dK [])) p (.dK (mergeK [] (kvS kn)))) dw = some (.dK kvs) := by rw [upd_ne (Ne.symm nw)]; exact u1 _ _ hd4
  refine ⟨dw, _, hd5, trivial, fun od2 => ?_⟩
  refine ⟨_, rfl, dw, od2, rfl, .inl ⟨kvs, upd_same, fun D5 hD5 => ?_⟩⟩
  have at2 : upd (upd (upd H4 p (.dK [])) p (.dK (mergeK [] (kvS kn)))) dw (.frz od2 (.dK kvs)) dw = some (.frz od2 (.dK kvs)) := upd_same
  have back2 : ∀ {H6 : Hp}, Same (upd (upd (upd H4 p (.dK [])) p (.dK (mergeK [] (kvS kn)))) dw (.frz od2 (.dK kvs))) H6 → Same (upd (upd H4 p (.dK [])) p (.dK (mergeK [] (kvS kn)))) (upd H6 dw (.dK kvs)) := fun s6 => lock_same hd5 s6
  have sp : Same H4 (upd (upd H4 p (.dK [])) p (.dK (mergeK [] (kvS kn)))) := fun b u e => by
    rw [upd_ne (ne_of_none e hp), upd_ne (ne_of_none e hp)]
    exact e
  have pp : (upd (upd H4 p (.dK [])) p (.dK (mergeK [] (kvS kn)))) p = some (.dK (mergeK [] (kvS kn))) := upd_same
  generalize upd (upd H4 p (.dK [])) p (.dK (mergeK [] (kvS kn))) = H5 at *
  have pD : p ≠ D5 := fun z => by
    have := lock_none hD5 hd5
    rw [← z, pp] at this
    cases this
  generalize upd H5 dw (.frz od2 (.dK kvs)) = H6 at *
  refine ⟨fun i m H7 => m = ws.length - i ∧ i ≤ ws.length ∧ Same H6 H7 ∧ H7 D5 = some (.dK (kvS ((ws.take i).map fun q => (q.1, Sg.waiting)))), ⟨ws.length, rfl, Nat.zero_le _, same_new hD5 _, upd_same⟩, ?_⟩
  rintro i m H7 ⟨rfl, hi, s7, hD7⟩
  by_cases hlt : i < ws.length
  · have hwi : ws[i]? = some ws[i] := List.getElem?_eq_getElem hlt
    refine .inr ⟨⟨s7 _ _ at2, by omega⟩, fun H8 => i + 1 ≤ ws.length ∧ Same H6 H8 ∧ H8 D5 = some (.dK (kvS ((ws.take (i + 1)).map fun q => (q.1, Sg.waiting)))), fun H8 h8 => ⟨ws.length - (i + 1), by omega, rfl, h8⟩, fun x H8 y8 => ?_⟩
    obtain ⟨rfl, k, v, e1, rfl⟩ := y8
    obtain ⟨q', e2, rfl⟩ := kq e1
    rw [hwi] at e2
    cases e2
    refine ⟨rfl, _, rfl, _, Sum.inl ws[i].1, rfl, hD7, ?_, hlt, same_upd hD5 s7 _, ?_⟩
    · unfold kvS
      rw [List.length_map, List.length_map, List.length_take]
      exact small1000 (by omega)
    · have tk : ws.take (i + 1) = ws.take i ++ [ws[i]] := List.take_succ_eq_append_getElem hlt
      have nn : (Sum.inl ws[i].1 : Key) ∉ (kvS ((ws.take i).map fun q => (q.1, Sg.waiting))).map (·.1) := by
        rw [kvS_keys]
        intro z
        obtain ⟨n, hn, en⟩ := List.mem_map.mp z
        obtain ⟨p2, hp2, rfl⟩ := List.mem_map.mp hn
        obtain ⟨q2, hq2, rfl⟩ := List.mem_map.mp hp2
        have e3 : q2.1 = ws[i].1 := Sum.inl.inj en
        have nd2 := ok.nd
        rw [← List.take_append_drop i ws, List.map_append, List.nodup_append] at nd2
        refine nd2.2.2 q2.1 (List.mem_map.mpr ⟨q2, hq2, rfl⟩) ws[i].1 (List.mem_map.mpr ⟨ws[i], ?_, rfl⟩) e3
        rw [List.drop_eq_getElem_cons hlt]
        exact List.mem_cons_self
      show upd H8 D5 (.dK (putK (kvS ((ws.take i).map fun q => (q.1, Sg.waiting))) (Sum.inl ws[i].1) (sV .waiting))) D5 = _
      rw [upd_same, putK_new _ (valV_none nn), tk, List.map_append]
      unfold kvS
      rw [List.map_append]
      rfl
  have ei : i = ws.length := by omega
  subst ei
  rw [List.take_length] at hD7
  refine .inl ⟨⟨s7 _ _ at2, Nat.le_of_eq lw⟩, s7 _ _ at2, ?_⟩
  have s8 := back2 s7
  have nD5 : D5 ≠ dw := fun z => by rw [z, at2] at hD5; cases hD5
  have hD8 : (upd H7 dw (.dK kvs)) D5 = some (.dK (kvS (ws.map fun q => (q.1, Sg.waiting)))) := by rw [upd_ne nD5]; exact hD7
  have hpp := s8 _ _ pp
  refine ⟨hpp, D5, _, rfl, pD, hD8, by unfold kvS; rw [List.length_map, List.length_map, List.length_map]; omega, ?_⟩
  rw [mergeK_st kok ok]
  have S9 : Same H4 (upd (upd H7 dw (.dK kvs)) p (.dK (kvS (stOf kn ws)))) := fun b u e => by
    rw [upd_ne (ne_of_none e hp)]
    exact s8 _ _ (sp _ _ e)
  have hp9 : (upd (upd H7 dw (.dK kvs)) p (.dK (kvS (stOf kn ws)))) p = some (.dK (kvS (stOf kn ws))) := upd_same
  have hd9 := S9 _ _ hd4
  clear hD8 hpp s8 hD7 s7 back2 at2 hD5
  generalize upd (upd H7 dw (.dK kvs)) p (.dK (kvS (stOf kn ws))) = H9 at *
  -- named = {.. for f in wishes.values() .. for number in named_in(f)}
  have hw9 : WsAt H9 kvs ws := (hw.tups (tups_same S4)).tups (tups_same S9)
  refine ⟨dw, _, hd9, trivial, fun od3 => ?_⟩
  refine ⟨_, rfl, dw, od3, kvs, rfl, upd_same, fun D3 hD3 => ?_⟩
  have at3 : upd H9 dw (.frz od3 (.dK kvs)) dw = some (.frz od3 (.dK kvs)) := upd_same
  have back3 : ∀ {H : Hp}, Same (upd H9 dw (.frz od3 (.dK kvs))) H → Same H9 (upd H dw (.dK kvs)) := fun s6 => lock_same hd9 s6
  have hwL : WsAt (upd H9 dw (.frz od3 (.dK kvs))) kvs ws := hw9.tups (tups_lock hd9)
  have nD3 : H9 D3 = none := lock_none hD3 hd9
  have nD3w : D3 ≠ dw := fun z => by rw [z, at3] at hD3; cases hD3
  generalize upd H9 dw (.frz od3 (.dK kvs)) = HA at *
  refine ⟨fun i m H7 => m = ws.length - i ∧ i ≤ ws.length ∧ Same HA H7 ∧ ∃ ks : List Int, H7 D3 = some (.dK (kbl ks)) ∧ (∀ n ∈ ks, n ∈ (stOf kn ws).map (·.1)) ∧ ks.length ≤ 3 * i, ⟨ws.length, rfl, Nat.zero_le _, same_new hD3 _, [], upd_same, (fun n hn => by cases hn), Nat.zero_le _⟩, ?_⟩
  rintro i m H7 ⟨rfl, hi, s7, ks, hD7, hks, lks⟩
  by_cases hlt : i < ws.length
  · have hwi : ws[i]? = some ws[i] := List.getElem?_eq_getElem hlt
    refine .inr ⟨⟨s7 _ _ at3, by omega⟩, fun H8 => i + 1 ≤ ws.length ∧ Same HA H8 ∧ ∃ ks : List Int, H8 D3 = some (.dK (kbl ks)) ∧ (∀ n ∈ ks, n ∈ (stOf kn ws).map (·.1)) ∧ ks.length ≤ 3 * (i + 1), fun H8 h8 => ⟨ws.length - (i + 1), by omega, rfl, h8⟩, fun x H8 y8 => ?_⟩
    obtain ⟨rfl, k, e1⟩ := y8
    obtain ⟨q', e2, r1, r2⟩ := paired_get2 hwL e1
    rw [hwi] at e2
    cases e2
    have r2 : OpAt HA x ws[i].2 := r2
    have hm : ws[i] ∈ ws := List.getElem_mem hlt
    refine ⟨rfl, _, rfl, rfl, ?_⟩
    cases eo : ws[i].2 with
    | none =>
      rw [eo] at r2
      have r2 : x = .non := r2
      refine ⟨false, congrArg V.bl (by rw [decide_eq_true r2]; rfl), ?_⟩
      exact ⟨hlt, s7, ks, hD7, hks, by omega⟩
    | some fm =>
      rw [eo] at r2
      have r2 : FmAt HA x fm := r2
      have nn : x ≠ .non := fun z => by
        rw [z] at r2
        cases fm with
        | atom a => obtain ⟨p, e, _⟩ := r2; cases e
        | node c l => obtain ⟨p, b, xs, e, _⟩ := r2; cases e
      refine ⟨true, congrArg V.bl (by rw [decide_eq_false nn]; rfl), ?_⟩
      refine iteT ?_
      refine ⟨_, rfl, x, fm, rfl, r2.same s7, ok.fm _ hm fm eo, fun r ns H10 s10 nr hr10 _ mem l3 => ?_⟩
      refine ⟨r, rfl, ⟨_, SqL.of hr10⟩, ?_⟩
      have neD : r ≠ D3 := fun z => by
        rw [z, hD7] at nr
        cases nr
      refine ⟨fun j k H11 => k = ns.length - j ∧ j ≤ ns.length ∧ Same HA H11 ∧ H11 r = some (.lst (ns.map V.int)) ∧ ∃ ks : List Int, H11 D3 = some (.dK (kbl ks)) ∧ (∀ n ∈ ks, n ∈ (stOf kn ws).map (·.1)) ∧ ks.length ≤ 3 * i + j, ⟨ns.length, rfl, Nat.zero_le _, s7.trans s10, hr10, ks, s10 _ _ hD7, hks, lks⟩, ?_⟩
      rintro j k H11 ⟨rfl, hj, s11, hr11, ks2, hD11, hks2, lks2⟩
      by_cases hjl : j < ns.length
      · have hnj : ns[j]? = some ns[j] := List.getElem?_eq_getElem hjl
        refine .inr ⟨⟨_, .int ns[j], SqL.of hr11, by rw [List.getElem?_map, hnj]; rfl⟩, fun H12 => j + 1 ≤ ns.length ∧ Same HA H12 ∧ H12 r = some (.lst (ns.map V.int)) ∧ ∃ ks : List Int, H12 D3 = some (.dK (kbl ks)) ∧ (∀ n ∈ ks, n ∈ (stOf kn ws).map (·.1)) ∧ ks.length ≤ 3 * i + (j + 1), fun H12 h12 => ⟨ns.length - (j + 1), by omega, rfl, h12⟩, fun y H12 y12 => ?_⟩
        obtain ⟨rfl, f12⟩ := y12
        have e12 := f12 _ (SqL.of hr11)
        rw [List.getElem?_map, hnj] at e12
        cases e12
        refine ⟨rfl, _, rfl, _, Sum.inl ns[j], rfl, hD11, ?_, hjl, same_upd hD3 s11 _, by rw [upd_ne neD]; exact hr11, addK ks2 ns[j], ?_, fun n hn => ?_, ?_⟩
        · unfold kbl
          rw [List.length_map]
          exact small1000 (by omega)
        · show upd H12 D3 (.dK (putK (kbl ks2) (Sum.inl ns[j]) (.bl true))) D3 = _
          rw [upd_same, putK_kbl]
        · rcases addK_mem.mp hn with h | h
          · exact hks2 n h
          · rw [h]
            exact kok.jobs _ hm fm eo _ ((mem _).mp (List.getElem_mem hjl))
        · have := addK_len (ks := ks2) (n := ns[j])
          omega
      · have ej : j = ns.length := by omega
        subst ej
        exact .inl ⟨⟨_, SqL.of hr11, by rw [List.length_map]; exact Nat.le_refl _⟩, hlt, s11, ks2, hD11, hks2, by omega⟩
  have ei : i = ws.length := by omega
  subst ei
  refine .inl ⟨⟨s7 _ _ at3, Nat.le_of_eq lw⟩, s7 _ _ at3, ?_⟩
  have s8 := back3 s7
  have hD8 : (upd H7 dw (.dK kvs)) D3 = some (.dK (kbl ks)) := by rw [upd_ne nD3w]; exact hD7
  have hp8 := s8 _ _ hp9
  generalize upd H7 dw (.dK kvs) = HB at *
  -- lacking
  refine ⟨D3, _, hD8, trivial, fun od4 => ?_⟩
  refine ⟨_, rfl, D3, od4, rfl, .inl ⟨kbl ks, upd_same, fun D4 hD4 => ?_⟩⟩
  have at4 : upd HB D3 (.frz od4 (.dK (kbl ks))) D3 = some (.frz od4 (.dK (kbl ks))) := upd_same
  have back4 : ∀ {H : Hp}, Same (upd HB D3 (.frz od4 (.dK (kbl ks)))) H → Same HB (upd H D3 (.dK (kbl ks))) := fun s6 => lock_same hD8 s6
  have pD3 : p ≠ D3 := fun z => by rw [z, nD3] at hp9; cases hp9
  have hpL : upd HB D3 (.frz od4 (.dK (kbl ks))) p = some (.dK (kvS (stOf kn ws))) := lock_in hp8 pD3
  have nD4 : HB D4 = none := lock_none hD4 hD8
  have nD43 : D4 ≠ D3 := fun z => by rw [z, at4] at hD4; cases hD4
  generalize upd HB D3 (.frz od4 (.dK (kbl ks))) = HC at *
  refine lc_keysS ks (fun n => (Sum.inl n, V.bl true)) rfl (fun _ => false) (fun n => .int n) hD4 at4 (small1000 (by omega)) (fun n H10 Qt Qf hn s10 k1 k2 => ?_) fun H10 s10 hD10 => ?_
  · refine ⟨rfl, _, rfl, _, rfl, p, _, rfl, DGet.k (k := Sum.inl n) (s10 _ _ hpL), _, rfl, ?_⟩
    obtain ⟨e', h', _⟩ := lookup_in (hks n hn)
    rw [valV_kvS, h']
    exact k2 rfl _ (same_refl _)
  have hD11 : (upd H10 D3 (.dK (kbl ks))) D4 = some (.lst ([].map V.int)) := by
    rw [upd_ne nD43, hD10, List.filter_eq_nil_iff.mpr (fun _ _ z => by cases z)] <;> rfl
  refine ⟨s10 _ _ at4, D4, [], rfl, SqL.of hD11, by decide, fun ns' pl perm _ hpl => ?_⟩
  obtain rfl : ns' = [] := List.Perm.eq_nil perm
  have s11 := (back4 s10).trans (same_new hpl (.lst ([].map V.int)))
  have hpl' : (upd (upd H10 D3 (.dK (kbl ks))) pl (.lst ([].map V.int))) pl = some (.lst []) := upd_same
  generalize upd (upd H10 D3 (.dK (kbl ks))) pl (.lst ([].map V.int)) = HE at *
  refine ⟨_, rfl, by show 0 ≤ sizeLine; decide, fun em hem => ?_⟩
  refine ⟨pl, em, [], rfl, rfl, SqL.of (same_new hem (.lst []) _ _ hpl'), SqL.of upd_same, false, rfl, ?_⟩
  refine iteF ?_
  refine ⟨_, rfl, ?_⟩
  have fin := s8.trans (s11.trans (same_new hem (.lst [])))
  exact q p _ (S4.trans (S9.trans fin)) (same_none S4 hp) (fin _ _ hp9)
end
end Ts

set_option Elab.async false
set_option linter.all false
set_option maxRecDepth 100000
set_option maxHeartbeats 4000000
/-! Defs 14: what is still stuck, the stuck set. -/
namespace Ts
open PySem PySem.Spec PyProof.Rows L2 LamX NdefX
theorem gen_get {kvs : List (Key × V)} {H : Hp} {ws : Ws} (h : WsAt H kvs ws) (n : Int) : decide ((valV kvs (Sum.inl n)).getD .non = V.non) = !(fw ws n).isSome := by
  have g := ws_get h (n := n)
  unfold fw
  cases e : ws.lookup n with
  | none =>
    rw [e] at g
    have g : valV kvs (Sum.inl n) = none := g
    rw [g]
    rfl
  | some o =>
    rw [e] at g
    obtain ⟨v, g1, g2⟩ := g
    rw [g1]
    cases o with
    | none =>
      have g2 : v = .non := g2
      rw [g2]
      rfl
    | some f =>
      have nn : v ≠ .non := fun z => by
        have g2 : FmAt H v f := g2
        rw [z] at g2
        cases f with
        | atom a => obtain ⟨p, e, _⟩ := g2; cases e
        | node c l => obtain ⟨p, b, xs, e, _⟩ := g2; cases e
      show decide (v = V.non) = false
      exact decide_eq_false nn
theorem fw_mem {ws : Ws} {n : Int} {f : Fm} (h : fw ws n = some f) : (n, some f) ∈ ws := by
  unfold fw at h
  cases e : ws.lookup n with
  | none => rw [e] at h; cases h
  | some o =>
    rw [e] at h
    have h : o = some f := h
    rw [h] at e
    obtain ⟨l1, l2, h1, _⟩ := List.lookup_eq_some_iff.mp e
    rw [h1]
    exact List.mem_append_right _ List.mem_cons_self
theorem leftN_le (fm : Fm) (ok : FmOk fm) (st : Int → Sg) (hs : List Int) (ch : List (Int × Sg)) : leftN fm st hs ch < 4 := by
  unfold leftN
  have h1 := List.length_filter_le (openB st hs ch) fm.jobs
  have h2 := atoms_len ok
  have h3 : fm.jobs.length = fm.atoms.length := List.length_map _
  omega
section
variable {P : Program} {w : World} {K : PySem.W.Frag} {mg : Str → Option Value} {base : Heap}
def spStill (Pt : Addr) : Sp := fun vs H Q _ => ∃ (dw ds a : Addr) (kvs : List (Key × V)) (ws : Ws) (sv : List (Int × Sg)) (hs : List Int), vs = [.ref dw, .ref ds, .ref a] ∧ TabS H Pt lamQ ∧ H dw = some (.dK kvs) ∧ WsAt H kvs ws ∧ WsOk ws ∧ H ds = some (.dK (kvS sv)) ∧
  (∀ q ∈ ws, ∀ f, q.2 = some f → ∀ j ∈ f.jobs, j ∈ sv.map (·.1)) ∧ H a = some (.tup (hs.map V.int)) ∧ (∀ n ∈ hs, ∃ f, fw ws n = some f) ∧ hs.length ≤ 10 ∧
  ∀ (r : Addr) (H' : Hp), ExtN H H' → TabS H' Pt lamQ → H' r = some (.tup ((stillL ws (stL sv) hs).map V.int)) → Q (.ref r) H'
abbrev nsStill : List Str := ["wishes", "states", "held", "number"]
theorem scStill : FnScope nsStill ["wishes", "states", "held"] (defScope (top 45)) := ⟨rfl, rfl, rfl, by decide +kernel, rfl, by decide +kernel, by decide +kernel⟩
theorem ok_still_stuck {f g Pt : Addr} {fd gd : FuncData} (D : Def K mg "still_stuck" 45 ["wishes", "states", "held"] f fd) (T : Bs mg) (DO : Def K mg "has_outcome" 40 psOut g gd) (GO : FnOk P w K mg base CX0 10 g gd psOut (spOut Pt 4)) : FnOk P w K mg base CX0 11 f fd ["wishes", "states", "held"] (spStill Pt) := by
  refine D.F.ok scStill (fun vs H Q E h => ?_) (fun cdv A outer s H vs Q E hr h => ?_)
  · obtain ⟨dw, ds, a, kvs, ws, sv, hs, rfl, _⟩ := h
    rfl
  obtain ⟨dw, ds, a, kvs, ws, sv, hs, rfl, tab, hd, hw, ok, hds, hj, ha, hf, hl, q⟩ := h
  have hu := hu_of hr
  refine ⟨_, pss_one (ps_ret (pe_callTy call_tuple_of rfl T.tuple (by decide +kernel) (pa_cons (pe_lc (own := [("number", 3)]) (g := gName 3) rfl scStill.nd (pi_tup (pv 2)) (blkOk_by (N := nsStill) (sc := defScope (top 45)) (by decide +kernel))
    (fun _ _ _ _ _ => pg_name (i := 3) scStill.nd rfl (Or.inl rfl)) (fun _ _ _ _ _ => pts_one (pt_not (pt_val (pe_callD DO GO hr (pa_cons (pe_dget hu (pv 0) (pv 3) (fun _ _ => rfl)) (pa_cons (pv 1) (pa_cons (pv 2) (pa_cons pe_dnewK pa_nil)))))))) (fun _ _ _ _ _ => pv 3)) pa_nil))), ?_⟩
  refine ⟨_, rfl, a, rfl, ⟨_, SqT.of ha⟩, fun D2 hD2 => ?_⟩
  refine lc_tupN (Pt := Pt) (q := lamQ) hs V.int (lostB ws (stL sv) hs) V.int hD2 tab (SqT.of ha) (small1000 (by omega)) (fun n H1 Qt Qf hn e1 t1 k1 k2 => ?_) fun H1 e1 t1 h1 => ?_
  · obtain ⟨fm, efm⟩ := hf n hn
    have hd1 := e1 _ _ hd (fun _ z => by cases z)
    have hw1 := hw.tups (tups_ext e1)
    obtain ⟨v, hv1, hv2⟩ := ws_fw hw1 (fw_key efm)
    rw [efm] at hv2
    have hv2 : FmAt H1 v fm := hv2
    have lost : lostB ws (stL sv) hs n = !canB fm (posOf (stL sv) hs []) := by
      unfold lostB
      rw [efm]
    rw [lost] at k1 k2
    have mem := fw_mem efm
    have okf := ok.fm _ mem fm rfl
    have g : DGet H1 dw (.int n) (some v) := by
      have g := DGet.k (k := Sum.inl n) hd1
      rw [hv1] at g
      exact g
    refine ⟨rfl, _, rfl, _, rfl, dw, v, rfl, g, _, rfl, _, rfl, fun p hp => ?_⟩
    have s2 := same_new hp (.dK [])
    refine ⟨v, ds, a, p, sv, hs, [], fm, rfl, tab_same t1 s2, hv2.same s2, okf, s2 _ _ (e1 _ _ hds (fun _ z => by cases z)), s2 _ _ (e1 _ _ ha (fun _ z => by cases z)), upd_same, hj _ mem fm rfl, List.nodup_nil, leftN_le fm okf _ _ _, by decide, fun H2 e2 t2 => ?_⟩
    have e3 := (ext_same s2).trans e2
    cases ec : canB fm (posOf (stL sv) hs []) with
    | true =>
      rw [ec] at k2
      exact ⟨_, rfl, k2 rfl H2 e3 t2⟩
    | false =>
      rw [ec] at k1
      exact ⟨_, rfl, _, rfl, k1 rfl H2 e3 t2⟩
  · refine ⟨D2, _, rfl, .inl ⟨SqL.of h1, fun t ht => ?_⟩⟩
    exact q t _ (e1.trans (ext_new ht _)) (tab_new t1 ht) upd_same
def spStuck (Pt : Addr) : Sp := fun vs H Q _ => ∃ (dw dk : Addr) (kvs : List (Key × V)) (ws : Ws) (kn : List (Int × Sg)), vs = [.ref dw, .ref dk] ∧ dk ≠ dw ∧ TabS H Pt lamQ ∧ H dw = some (.dK kvs) ∧ WsAt H kvs ws ∧ WsOk ws ∧ H dk = some (.dK (kvS kn)) ∧ KnOk kn ws ∧
  ∀ (r : Addr) (H' : Hp), ExtN H H' → TabS H' Pt lamQ → H' r = some (.tup ((toldL ws (stL (stOf kn ws))).map V.int)) → Q (.ref r) H'
abbrev nsStuck : List Str := ["wishes", "known", "states", "found", "later", "number"]
theorem scStuck : FnScope nsStuck ["wishes", "known"] (defScope (top 46)) := ⟨rfl, rfl, rfl, by decide +kernel, rfl, by decide +kernel, by decide +kernel⟩
theorem some_fw {ws : Ws} {n : Int} (h : n ∈ someL ws) : ∃ f, fw ws n = some f := by
  have := (List.mem_filter.mp h).2
  exact Option.isSome_iff_exists.mp this
def StInv (Pt dw dk ds : Addr) (H : Hp) (ws : Ws) (sv : List (Int × Sg)) (m : Nat) (σ : L2.St) (H6 : Hp) : Prop :=
  ∃ (fv : V) (a : Addr) (L : List Int), σ = [some (.ref dw), some (.ref dk), some (.ref ds), some fv, some (.ref a), none] ∧ ExtN H H6 ∧ TabS H6 Pt lamQ ∧ H6 ds = some (.dK (kvS sv)) ∧ H6 a = some (.tup (L.map V.int)) ∧
    gfix ws (stL sv) L = toldL ws (stL sv) ∧ L.Sublist (someL ws) ∧ ((fv = .non ∧ m = L.length + 1) ∨ ∃ b F, fv = .ref b ∧ H6 b = some (.tup (F.map V.int)) ∧ L = stillL ws (stL sv) F ∧ m = L.length + (if L = F then 0 else 1))
theorem ok_stuck_set {f g1 g2 Pt : Addr} {fd d1 d2 : FuncData} (D : Def K mg "stuck_set" 46 ["wishes", "known"] f fd) (T : Bs mg) (DS : Def K mg "states_with" 44 ["wishes", "known"] g1 d1) (GS : FnOk P w K mg base CX0 8 g1 d1 ["wishes", "known"] spStates)
    (DT : Def K mg "still_stuck" 45 ["wishes", "states", "held"] g2 d2) (GT : FnOk P w K mg base CX0 11 g2 d2 ["wishes", "states", "held"] (spStill Pt)) : FnOk P w K mg base CX0 12 f fd ["wishes", "known"] (spStuck Pt) := by
  refine D.F.ok scStuck (fun vs H Q E h => ?_) (fun cdv A outer s H vs Q E hr h => ?_)
  · obtain ⟨dw, dk, kvs, ws, kn, rfl, _⟩ := h
    rfl
  obtain ⟨dw, dk, kvs, ws, kn, rfl, dne, tab, hd, hw, ok, hk, kok, q⟩ := h
  have hu := hu_of hr
  have lw : kvs.length = ws.length := Paired.length hw
  have l10 := ok.len
  have ek := ws_keys hw
  refine ⟨_, pss_cons (ps_set (i := 2) scStuck.nd rfl (Or.inl rfl) (pe_callD DS GS (hr.mono (by decide)) (pa_cons (pv 0) (pa_cons (pv 1) pa_nil))))
    (pss_cons (ps_par (i := 3) (j := 4) (by rfl) scStuck.nd rfl rfl (by decide) rfl rfl (pa_cons pe_non (pa_cons (pe_callTy call_tuple_of rfl T.tuple (by decide +kernel) (pa_cons (pe_callB cr_sorted rfl T.sorted (by decide +kernel) (pa_cons (pe_lock (pe_lc (own := [("number", 5)]) (g := gName 5) rfl scStuck.nd (pi_keys (pv 0)) (blkOk_by (N := nsStuck) (sc := defScope (top 46)) (by decide +kernel))
      (fun _ _ _ _ _ => pg_name (i := 5) scStuck.nd rfl (Or.inl rfl)) (fun _ _ _ _ _ => pts_one (pt_cmpR op_notN (pe_dget hu (pv 0) (pv 5) (fun _ _ => rfl)) pe_non (nomark _))) (fun _ _ _ _ _ => pv 5))) pa_nil)) pa_nil)) pa_nil)) (by rfl))
    (pss_cons (ps_while PassesOwn.never (pt_cmpR (op_neD hr.units) (pv 4) (pv 3) (nomark _)) (pss_one (ps_par (i := 3) (j := 4) (by rfl) scStuck.nd rfl rfl (by decide) rfl rfl (pa_cons (pv 4) (pa_cons (pe_callD DT GT hr (pa_cons (pv 0) (pa_cons (pv 2) (pa_cons (pv 4) pa_nil)))) pa_nil)) (by rfl))))
    (pss_one (ps_ret (pv 3))))), ?_⟩
  refine ⟨_, rfl, _, rfl, dw, dk, kvs, ws, kn, rfl, dne, hd, hw, ok, hk, kok, fun ds H1 s1 nds hds => ?_⟩
  have hd1 := s1 _ _ hd
  have hw1 := hw.tups (tups_same s1)
  refine ⟨dw, _, hd1, trivial, fun od => ?_⟩
  refine ⟨_, rfl, dw, od, rfl, .inl ⟨kvs, upd_same, fun D2 hD2 => ?_⟩⟩
  have atL : upd H1 dw (.frz od (.dK kvs)) dw = some (.frz od (.dK kvs)) := upd_same
  have back : ∀ {H3 : Hp}, Same (upd H1 dw (.frz od (.dK kvs))) H3 → Same H1 (upd H3 dw (.dK kvs)) := fun s3 => lock_same hd1 s3
  have hwL : WsAt (upd H1 dw (.frz od (.dK kvs))) kvs ws := hw1.tups (tups_lock hd1)
  have nD2 : D2 ≠ dw := fun z => by rw [z, atL] at hD2; cases hD2
  generalize upd H1 dw (.frz od (.dK kvs)) = HL at *
  obtain ⟨z, ez1, ez2, hz⟩ := paired_zip hwL
  have lz : z.length = ws.length := by rw [← ez2, List.length_map]
  refine lc_keysS z (·.1) ez1.symm (fun y => (fw ws y.2.1).isSome) (fun y => .int y.2.1) hD2 atL (small1000 (by omega)) (fun y H2 Qt Qf hy s2 k1 k2 => ?_) fun H2 s2 h2 => ?_
  · obtain ⟨r1, r2⟩ := hz y hy
    have hm : y.2 ∈ ws := by rw [← ez2]; exact List.mem_map.mpr ⟨y, hy, rfl⟩
    rw [r1]
    obtain ⟨v, hv1, hv2⟩ := ws_fw hwL (n := y.2.1) (List.mem_map.mpr ⟨y.2, hm, rfl⟩)
    have g : DGet H2 dw (.int y.2.1) (some v) := by
      rw [← hv1]
      exact .inl ⟨kvs, Sum.inl y.2.1, .inr ⟨od, s2 _ _ atL⟩, rfl, rfl⟩
    refine ⟨rfl, _, rfl, _, rfl, dw, v, rfl, g, rfl, ?_⟩
    have gg := gen_get hwL y.2.1
    rw [hv1] at gg
    have gg : decide (v = V.non) = !(fw ws y.2.1).isSome := gg
    cases ef : (fw ws y.2.1).isSome with
    | true =>
      rw [ef] at gg
      refine ⟨true, congrArg V.bl (by rw [gg]; rfl), ?_⟩
      exact ⟨_, rfl, k1 ef H2 (same_refl H2)⟩
    | false =>
      rw [ef] at gg
      refine ⟨false, congrArg V.bl (by rw [gg]; rfl), ?_⟩
      exact k2 ef H2 (same_refl H2)
  have hL : (z.filter fun y => (fw ws y.2.1).isSome).map (fun y => V.int y.2.1) = (someL ws).map V.int := by
    unfold someL
    rw [← ez2, List.map_map, List.filter_map, List.map_map]
    rfl
  rw [hL] at h2
  have h2' : (upd H2 dw (.dK kvs)) D2 = some (.lst ((someL ws).map V.int)) := by rw [upd_ne nD2]; exact h2
  have s3 := back s2
  have sl : (someL ws).length ≤ 10 := by
    unfold someL
    refine Nat.le_trans (List.length_filter_le _ _) ?_
    rw [List.length_map]
    omega
  refine ⟨s2 _ _ atL, D2, someL ws, rfl, SqL.of h2', by omega, fun ns' p perm srt hp => ?_⟩
  have en : ns' = someL ws := List.Perm.eq_of_pairwise (fun _ _ _ _ a b => Int.le_antisymm a b) srt ((ok.asc.imp fun h => Int.le_of_lt h).sublist List.filter_sublist) perm
  subst en
  have s4 := s3.trans (same_new hp (.lst ((someL ws).map V.int)))
  have hp4 : (upd (upd H2 dw (.dK kvs)) p (.lst ((someL ws).map V.int))) p = some (.lst ((someL ws).map V.int)) := upd_same
  generalize upd (upd H2 dw (.dK kvs)) p (.lst ((someL ws).map V.int)) = H4 at *
  refine ⟨p, _, rfl, .inl ⟨SqL.of hp4, fun t ht => ?_⟩⟩
  refine ⟨_, _, rfl, ?_⟩
  have s5 := s1.trans (s4.trans (same_new ht (.tup ((someL ws).map V.int))))
  have ht5 : (upd H4 t (.tup ((someL ws).map V.int))) t = some (.tup ((someL ws).map V.int)) := upd_same
  have hds5 : (upd H4 t (.tup ((someL ws).map V.int))) ds = some (.dK (kvS (stOf kn ws))) := same_new ht _ _ _ (s4 _ _ hds)
  generalize upd H4 t (.tup ((someL ws).map V.int)) = H5 at *
  -- the loop
  refine ⟨StInv Pt dw dk ds H ws (stOf kn ws), ⟨_, .non, t, someL ws, rfl, ext_same s5, tab_same tab s5, hds5, ht5, rfl, List.Sublist.refl _, .inl ⟨rfl, rfl⟩⟩, ?_⟩
  rintro m σ H6 ⟨fv, a, L, rfl, e6, t6, hds6, ha6, gx, sub, hfv⟩
  have turn : m = L.length + 1 → ∃ N : L2.St → Hp → Prop, (∀ σ' H', N σ' H' → ∃ m', m' < m ∧ StInv Pt dw dk ds H ws (stOf kn ws) m' σ' H') ∧ tPar 3 4 (tCons (tVar 4) (tCons (tCall (spStill Pt) [] E0 (tCons (tVar 0) (tCons (tVar 2) (tCons (tVar 4) tNil)))) tNil))
      { nx := N, rt := Q, bk := fun _ _ => False, ct := N } [some (.ref dw), some (.ref dk), some (.ref ds), some fv, some (.ref a), none] H6 := fun hm => by
    refine ⟨fun σ' H' => ∃ m', m' < m ∧ StInv Pt dw dk ds H ws (stOf kn ws) m' σ' H', fun σ' H' h => h, ?_⟩
    refine ⟨_, rfl, _, rfl, _, rfl, _, rfl, dw, ds, a, kvs, ws, stOf kn ws, L, rfl, t6, e6 _ _ hd (fun _ z => by cases z), hw.tups (tups_ext e6), ok, hds6, kok.jobs, ha6, fun n hn => some_fw (sub.subset hn), Nat.le_trans sub.length_le sl, fun r H7 e7 t7 hr7 => ?_⟩
    refine ⟨_, _, rfl, (stillL ws (stL (stOf kn ws)) L).length + (if stillL ws (stL (stOf kn ws)) L = L then 0 else 1), ?_, .ref a, r, stillL ws (stL (stOf kn ws)) L, rfl, e6.trans e7, t7, e7 _ _ hds6 (fun _ z => by cases z), hr7, by rw [gfix_step]; exact gx, (still_sub _ _ _).trans sub, .inr ⟨a, L, rfl, e7 _ _ ha6 (fun _ z => by cases z), rfl, rfl⟩⟩
    rw [hm]
    by_cases z : stillL ws (stL (stOf kn ws)) L = L
    · rw [if_pos z, z]
      omega
    · rw [if_neg z]
      have := still_lt z
      omega
  rcases hfv with ⟨rfl, hm⟩ | ⟨b, F, rfl, hb, hLF, hm⟩
  · refine ⟨_, rfl, _, rfl, dI L, .none, dp_I (SqT.of ha6), .non, shaped_I L, rfl, true, rfl, ?_⟩
    refine iteT ?_
    exact turn hm
  · refine ⟨_, rfl, _, rfl, dI L, dI F, dp_I (SqT.of ha6), dp_I (SqT.of hb), shaped_I L, shaped_I F, !decide (L = F), by rw [eqv_I], ?_⟩
    by_cases z : L = F
    · rw [decide_eq_true z]
      refine iteF ?_
      refine ⟨_, rfl, ?_⟩
      have eF : F = toldL ws (stL (stOf kn ws)) := by
        rw [← gx, z]
        exact (gfix_id (by rw [← hLF]; exact z)).symm
      rw [eF] at hb
      exact q b H6 e6 t6 hb
    · rw [decide_eq_false z]
      rw [if_neg z] at hm
      refine iteT ?_
      exact turn hm
end
end Ts

set_option Elab.async false
set_option linter.all false
set_option maxRecDepth 100000
set_option maxHeartbeats 4000000
/-! Defs 15: whether a value is a stuck set. -/
namespace Ts
open PySem PySem.Spec PyProof.Rows L2 LamX NdefX
theorem op_isNK {X : Cx} : OpR X (compareOp .Is) (fun x y H Q => y = .non ∧ Q (.bl (decide (x = .non))) H) := op_isN
def isStB (ws : Ws) (st : Int → Sg) (ns : List Int) : Bool := (ns.all fun n => decide (1 ≤ n ∧ n ≤ 1000000)) && (ascB ns && ((ns.all fun n => (fw ws n).isSome) && decide (stillL ws st ns = ns)))
theorem not_all (p : Int → Bool) : ∀ ns : List Int, (ns.any (id ∘ fun n => !p n)) = !ns.all p
  | [] => rfl
  | n :: r => by
    rw [List.any_cons, List.all_cons, not_all p r]
    show (!p n || !r.all p) = !(p n && r.all p)
    cases p n <;> rfl
/-- what the value is: no tuple; a tuple with something that is no job number; a tuple of ints -/
inductive ValAt (H : Hp) (ws : Ws) (st : Int → Sg) : V → Bool → Prop
  | non : ValAt H ws st .non false
  | str (x : Str) : ValAt H ws st (.str x) false
  | lst {a : Addr} {xs : List V} (h : H a = some (.lst xs)) : ValAt H ws st (.ref a) false
  | dK {a : Addr} {kvs : List (Key × V)} (h : H a = some (.dK kvs)) : ValAt H ws st (.ref a) false
  | bad {a : Addr} {xs : List V} {bs : List Bool} (h : H a = some (.tup xs)) (r : Paired (fun v b => IsI H 1 1000000 v b) xs bs) (hb : bs.all id = false) (hl : xs.length ≤ 10) : ValAt H ws st (.ref a) false
  | nums {a : Addr} {ns : List Int} (h : H a = some (.tup (ns.map V.int))) (hl : ns.length ≤ 10) : ValAt H ws st (.ref a) (isStB ws st ns)
theorem IsI.same {H H' : Hp} (s : Same H H') {lo hi : Int} {v : V} {b : Bool} (h : IsI H lo hi v b) : IsI H' lo hi v b := by
  cases h with
  | int n => exact .int n
  | bl c => exact .bl c
  | tup h => exact .tup (s _ _ h)
section
variable {P : Program} {w : World} {K : PySem.W.Frag} {mg : Str → Option Value} {base : Heap}
def spIsSt (Pt : Addr) : Sp := fun vs H Q _ => ∃ (dw dk : Addr) (v : V) (b : Bool) (kvs : List (Key × V)) (ws : Ws) (kn : List (Int × Sg)), vs = [.ref dw, .ref dk, v] ∧ dk ≠ dw ∧ TabS H Pt lamQ ∧ H dw = some (.dK kvs) ∧ WsAt H kvs ws ∧ WsOk ws ∧ H dk = some (.dK (kvS kn)) ∧ KnOk kn ws ∧
  ValAt H ws (stL (stOf kn ws)) v b ∧ ∀ (H' : Hp), ExtN H H' → TabS H' Pt lamQ → Q (.bl b) H'
abbrev nsIsSt : List Str := ["wishes", "known", "value", "states", "number"]
theorem scIsSt : FnScope nsIsSt ["wishes", "known", "value"] (defScope (top 47)) := ⟨rfl, rfl, rfl, by decide +kernel, rfl, by decide +kernel, by decide +kernel⟩
theorem ok_is_stuck_set {f g1 g2 g3 g4 Pt : Addr} {fd d1 d2 d3 d4 : FuncData} (D : Def K mg "is_stuck_set" 47 ["wishes", "known", "value"] f fd) (T : Bs mg) (DS : Def K mg "states_with" 44 ["wishes", "known"] g1 d1) (GS : FnOk P w K mg base CX0 8 g1 d1 ["wishes", "known"] spStates)
    (DT : Def K mg "still_stuck" 45 ["wishes", "states", "held"] g2 d2) (GT : FnOk P w K mg base CX0 11 g2 d2 ["wishes", "states", "held"] (spStill Pt)) (DJ : Def K mg "is_job_number" 28 ["value"] g3 d3) (GJ : FnOk P w K mg base CX0 3 g3 d3 ["value"] spIsJob)
    (DA : Def K mg "are_ascending" 4 ["items"] g4 d4) (GA : FnOk P w K mg base CX0 1 g4 d4 ["items"] (spAsc K)) : FnOk P w K mg base CX0 12 f fd ["wishes", "known", "value"] (spIsSt Pt) := by
  refine D.F.ok scIsSt (fun vs H Q E h => ?_) (fun cdv A outer s H vs Q E hr h => ?_)
  · obtain ⟨dw, dk, v, b, kvs, ws, kn, rfl, _⟩ := h
    rfl
  obtain ⟨dw, dk, v, b, kvs, ws, kn, rfl, dne, tab, hd, hw, ok, hk, kok, hv, q⟩ := h
  have hu := hu_of hr
  refine ⟨_, pss_cons (ps_set (i := 3) scIsSt.nd rfl (Or.inl rfl) (pe_callD DS GS (hr.mono (by decide)) (pa_cons (pv 0) (pa_cons (pv 1) pa_nil))))
    (pss_cons (ps_if (PW.pt (pw_or (pt_not (pt_val (pe_isiT (n := "tuple") T (pv 2) T.tuple))) (pw_or (pt_not (pt_val (pe_callB (cr_all rfl) rfl T.all (by decide +kernel) (pa_cons (pe_lc (own := [("number", 4)]) (g := gName 4) rfl scIsSt.nd (pi_tup (pv 2)) (blkOk_by (N := nsIsSt) (sc := defScope (top 47)) (by decide +kernel))
      (fun _ _ _ _ _ => pg_name (i := 4) scIsSt.nd rfl (Or.inl rfl)) (fun _ _ _ _ _ => pts_nil) (fun _ _ _ _ _ => pe_callD DJ GJ (hr.mono (by decide)) (pa_cons (pv 4) pa_nil))) pa_nil)))) (pw_or1 (pt_not (pt_val (pe_callD DA GA (hr.mono (by decide)) (pa_cons (pv 2) pa_nil)))))))) (pss_one (ps_ret pe_bl)) pss_nil)
    (pss_cons (ps_if (pt_val (pe_callB (cr_any rfl) rfl T.any (by decide +kernel) (pa_cons (pe_lc (own := [("number", 4)]) (g := gName 4) rfl scIsSt.nd (pi_tup (pv 2)) (blkOk_by (N := nsIsSt) (sc := defScope (top 47)) (by decide +kernel))
      (fun _ _ _ _ _ => pg_name (i := 4) scIsSt.nd rfl (Or.inl rfl)) (fun _ _ _ _ _ => pts_nil) (fun _ _ _ _ _ => pe_cmpR op_isNK (pe_dget1 hu (pv 0) (pv 4) ⟨rfl, rfl, rfl, rfl⟩) pe_non (nomark _))) pa_nil))) (pss_one (ps_ret pe_bl)) pss_nil)
    (pss_one (ps_ret (pe_cmpR (op_eqD hr.units) (pe_callD DT GT hr (pa_cons (pv 0) (pa_cons (pv 3) (pa_cons (pv 2) pa_nil)))) (pv 2) (nomark _)))))), ?_⟩
  refine ⟨_, rfl, _, rfl, dw, dk, kvs, ws, kn, rfl, dne, hd, hw, ok, hk, kok, fun ds H1 s1 nds hds => ?_⟩
  have e1 := ext_same s1
  have t1 := tab_same tab s1
  cases hv with
  | non => exact ⟨_, rfl, _, _, _, _, _, rfl, .ty _, .base .non, kit_ty (r := false) (by decide +kernel), _, rfl, q H1 e1 t1⟩
  | str x => exact ⟨_, rfl, _, _, _, _, _, rfl, .ty _, .base (.str x), kit_ty (r := false) (by decide +kernel), _, rfl, q H1 e1 t1⟩
  | lst h => exact ⟨_, rfl, _, _, _, _, _, rfl, .ty _, .base (.lst (s1 _ _ h)), kit_ty (r := false) (by decide +kernel), _, rfl, q H1 e1 t1⟩
  | dK h => exact ⟨_, rfl, _, _, _, _, _, rfl, .ty _, .base (.dK (s1 _ _ h)), kit_ty (r := false) (by decide +kernel), _, rfl, q H1 e1 t1⟩
  | @bad a xs bs h r hb hl =>
    have h1 := s1 _ _ h
    refine ⟨_, rfl, _, _, _, _, _, rfl, .ty _, .base (.tup h1), kit_ty (r := true) (by decide +kernel), _, rfl, ?_⟩
    refine iteF ?_
    obtain ⟨z, ez1, ez2, hz⟩ := paired_zip r
    have lz : z.length = xs.length := by rw [← ez1, List.length_map]
    have hT : SqT K H1 a (z.map (·.1)) := by rw [ez1]; exact SqT.of h1
    refine ⟨_, rfl, a, rfl, ⟨_, hT⟩, fun D2 hD2 => ?_⟩
    refine lc_tupS z (·.1) (fun _ => true) (fun y => .bl y.2) hD2 hT (small1000 (by omega)) (fun y H2 Qt Qf hy s2 k1 k2 => ?_) fun H2 s2 h2 => ?_
    · exact ⟨rfl, _, rfl, y.1, y.2, rfl, (hz y hy).same (s1.trans s2), k1 rfl H2 (same_refl H2)⟩
    · refine ⟨D2, bs, rfl, SqL.of ?_, false, congrArg V.bl hb, ?_⟩
      · rw [h2, List.filter_eq_self.mpr (fun _ _ => rfl), ← ez2, List.map_map]
        rfl
      · exact q H2 (e1.trans (ext_same s2)) (tab_same t1 s2)
  | @nums a ns h hl =>
    have h1 := s1 _ _ h
    refine ⟨_, rfl, _, _, _, _, _, rfl, .ty _, .base (.tup h1), kit_ty (r := true) (by decide +kernel), _, rfl, ?_⟩
    refine iteF ?_
    refine ⟨_, rfl, a, rfl, ⟨_, SqT.of h1⟩, fun D2 hD2 => ?_⟩
    refine lc_tupS ns V.int (fun _ => true) (fun n => .bl (decide (1 ≤ n ∧ n ≤ 1000000))) hD2 (SqT.of h1) (small1000 (by omega)) (fun n H2 Qt Qf hy s2 k1 k2 => ?_) fun H2 s2 h2 => ?_
    · exact ⟨rfl, _, rfl, _, _, rfl, .int n, k1 rfl H2 (same_refl H2)⟩
    have ea : (ns.map fun n => decide (1 ≤ n ∧ n ≤ 1000000)).all id = ns.all fun n => decide (1 ≤ n ∧ n ≤ 1000000) := by
      rw [List.all_map]
      rfl
    refine ⟨D2, ns.map fun n => decide (1 ≤ n ∧ n ≤ 1000000), rfl, SqL.of ?_, _, congrArg V.bl ea, ?_⟩
    · rw [h2, List.filter_eq_self.mpr (fun _ _ => rfl), List.map_map]
      rfl
    have e2 := e1.trans (ext_same s2)
    have t2 := tab_same t1 s2
    unfold isStB at q
    cases ca : ns.all fun n => decide (1 ≤ n ∧ n ≤ 1000000) with
    | false =>
      rw [ca] at q
      exact q H2 e2 t2
    | true =>
      rw [ca] at q
      refine iteF ?_
      have h3 := s2 _ _ h1
      refine ⟨_, rfl, a, ns, rfl, SqT.of h3, by omega, fun H3 s3 => ⟨_, rfl, ?_⟩⟩
      have e3 := e2.trans (ext_same s3)
      have t3 := tab_same t2 s3
      cases cb : ascB ns with
      | false =>
        rw [cb] at q
        exact q H3 e3 t3
      | true =>
        rw [cb] at q
        refine iteF ?_
        have h4 := s3 _ _ h3
        have hd4 := e3 _ _ hd (fun _ z => by cases z)
        have hw4 := hw.tups (tups_ext e3)
        refine ⟨_, rfl, a, rfl, ⟨_, SqT.of h4⟩, fun D4 hD4 => ?_⟩
        refine lc_tupS ns V.int (fun _ => true) (fun n => .bl (!(fw ws n).isSome)) hD4 (SqT.of h4) (small1000 (by omega)) (fun n H5 Qt Qf hy s5 k1 k2 => ?_) fun H5 s5 h5 => ?_
        · refine ⟨rfl, _, rfl, dw, rfl, .inl ⟨kvs, .of (s5 _ _ hd4)⟩, _, rfl, _, DGet.k (k := Sum.inl n) (s5 _ _ hd4), rfl, ?_⟩
          rw [gen_get hw4 n]
          exact k1 rfl H5 (same_refl H5)
        have ec : (ns.map fun n => !(fw ws n).isSome).any id = !(ns.all fun n => (fw ws n).isSome) := by
          rw [List.any_map]
          exact not_all (fun n => (fw ws n).isSome) ns
        refine ⟨D4, ns.map fun n => !(fw ws n).isSome, rfl, SqL.of ?_, _, congrArg V.bl ec, ?_⟩
        · rw [h5, List.filter_eq_self.mpr (fun _ _ => rfl), List.map_map]
          rfl
        have e5 := e3.trans (ext_same s5)
        have t5 := tab_same t3 s5
        cases cd : ns.all fun n => (fw ws n).isSome with
        | false =>
          rw [cd] at q
          exact q H5 e5 t5
        | true =>
          rw [cd] at q
          refine iteF ?_
          have hf : ∀ n ∈ ns, ∃ f, fw ws n = some f := fun n hn => Option.isSome_iff_exists.mp (List.all_eq_true.mp cd n hn)
          have h6 := s5 _ _ h4
          have hds5 : H5 ds = some (.dK (kvS (stOf kn ws))) := s5 _ _ (s3 _ _ (s2 _ _ hds))
          refine ⟨_, rfl, _, rfl, _, rfl, dw, ds, a, kvs, ws, stOf kn ws, ns, rfl, t5, s5 _ _ hd4, hw4.tups (tups_same s5), ok, hds5, kok.jobs, h6, hf, hl, fun r H6 e6 t6 hr6 => ?_⟩
          refine ⟨_, rfl, dI (stillL ws (stL (stOf kn ws)) ns), dI ns, dp_I (SqT.of hr6), dp_I (SqT.of (e6 _ _ h6 (fun _ z => by cases z))), shaped_I _, shaped_I _, ?_⟩
          have q6 := q H6 (e5.trans e6) t6
          rw [eqv_I]
          exact q6
end
end Ts

set_option Elab.async false
set_option linter.all false
set_option maxRecDepth 100000
set_option maxHeartbeats 4000000
/-! Law defs 1: the dice, what is rolled and picked. -/
namespace Ts
open PySem L2
def DiceAt (H : Hp) (d : Addr) : Prop := ∃ a b c : Int, 0 ≤ a ∧ H d = some (.lst [.int a, .int b, .int c])
def Off (d : Addr) (H H' : Hp) : Prop := ∀ b u, b ≠ d → H b = some u → H' b = some u
theorem Off.refl (d : Addr) (H : Hp) : Off d H H := fun _ _ _ h => h
theorem Off.trans {d : Addr} {H H1 H2 : Hp} (a : Off d H H1) (b : Off d H1 H2) : Off d H H2 := fun c u hc h => b c u hc (a c u hc h)
theorem Off.same {d : Addr} {H H' : Hp} (s : Same H H') : Off d H H' := fun b u _ h => s b u h
theorem Off.upd {d : Addr} {H : Hp} {o : HO} : Off d H (upd H d o) := fun b u hb h => by rw [upd_ne hb]; exact h
theorem DiceAt.same {H H' : Hp} {d : Addr} (s : Same H H') (h : DiceAt H d) : DiceAt H' d := let ⟨a, b, c, h0, h⟩ := h; ⟨a, b, c, h0, s _ _ h⟩
section
variable {P : Program} {w : World} {K : PySem.W.Frag} {mg : Str → Option Value} {base : Heap}
def spDice (K : PySem.W.Frag) : Sp := fun vs H Q _ => ∃ (a : Addr) (ns : List Int) (k : Nat), vs = [.ref a, .int k] ∧ SqL K H a (ns.map V.int) ∧ k ≤ 100 ∧ ∀ (r : Addr) (H' : Hp), Same H H' → H r = none → DiceAt H' r → Q (.ref r) H'
abbrev nsDice : List Str := ["_law_script", "_law_spot", "_law_cell", "_law_left"]
theorem scDice : FnScope nsDice ["_law_script", "_law_spot"] (defScope (top 49)) := ⟨rfl, rfl, rfl, by decide +kernel, rfl, by decide +kernel, by decide +kernel⟩
theorem ok_dice {f : Addr} {fd : FuncData} (D : Def K mg "_law_dice" 49 ["_law_script", "_law_spot"] f fd) (T : Bs mg) : FnOk P w K mg base CX0 1 f fd ["_law_script", "_law_spot"] (spDice K) := by
  refine D.F.ok scDice (fun vs H Q E h => ?_) (fun cdv A outer s H vs Q E hr h => ?_)
  · obtain ⟨a, ns, k, rfl, _⟩ := h
    rfl
  obtain ⟨a, ns, k, rfl, ha, hk, q⟩ := h
  refine ⟨_, pss_cons (ps_set (i := 2) scDice.nd rfl (Or.inl rfl) (pe_ifExp (pt_cmpR op_lt (pv 1) (pe_callB call_len_seq rfl T.len PySem.boot_len (pa_cons (pv 0) pa_nil)) (nomark _))
      (pe_callTy call_int1 rfl T.int (by decide +kernel) (pa_cons (pe_ix ix_list (pv 0) (pv 1) (fun _ _ => rfl)) pa_nil)) (pe_op op_add (pe_op op_mul pe_int (pv 1)) pe_int)))
    (pss_cons (ps_set (i := 3) scDice.nd rfl (Or.inl rfl) (pe_op op_mod (pe_callB (call_max2 rfl) rfl T.max (by decide +kernel) (pa_cons pe_int (pa_cons (pe_op op_sub (pe_callB call_abs rfl T.abs (by decide +kernel) (pa_cons (pv 2) pa_nil)) (pe_op op_pow pe_int pe_int)) pa_nil)))
      (pe_op op_mulW (pe_op op_pow pe_int pe_int) (pe_op op_pow pe_int pe_int))))
    (pss_one (ps_ret (pe_lst (pa_cons (pv 3) (pa_cons (pe_op op_add (pe_op op_add (pe_op op_add (pe_op op_mul (pe_op op_mod (pe_callB call_abs rfl T.abs (by decide +kernel) (pa_cons (pv 2) pa_nil)) pe_int) pe_int) (pe_op op_mul pe_int (pv 1)))
      (pe_op op_mul pe_int (pe_callTy call_int1 rfl T.int (by decide +kernel) (pa_cons (pe_cmpR op_lt (pv 2) pe_int (nomark _)) pa_nil)))) pe_int) (pa_cons pe_int pa_nil))))))), ?_⟩
  refine ⟨_, rfl, _, rfl, a, _, rfl, .inl ha, _, _, rfl, rfl, _, rfl, ?_⟩
  refine ite2 (fun c => ?_) (fun c => ?_)
  · have c' : (k : Int) < (((ns.map V.int).length : Nat) : Int) := of_decide_eq_true c
    rw [List.length_map] at c'
    have hk' : k < ns.length := by omega
    have at_ : atI (ns.map V.int) ((k : Nat) : Int) = some (.int ns[k]) := atI_nat (by rw [List.getElem?_map, List.getElem?_eq_getElem hk'] <;> rfl)
    refine ⟨_, rfl, _, rfl, a, _, _, _, rfl, rfl, ha, at_, .inl ⟨_, rfl, ?_⟩⟩
    generalize ns[k] = cell
    refine ⟨_, rfl, _, rfl, _, _, rfl, rfl, ⟨by decide, by decide, by decide⟩, _, _, rfl, rfl, _, _, rfl, ?_⟩
    refine ⟨_, _, rfl, rfl, ⟨by decide, by decide, by decide⟩, _, _, rfl, rfl, ⟨by decide, by decide, by decide⟩, _, _, rfl, rfl, wide_mul (a := 200) (b := 200) (by decide +kernel) (by decide +kernel) (by decide) (by decide) (by decide), _, _, rfl, rfl, (by show (0 : Int) < 10 ^ Int.toNat 60 * 10 ^ Int.toNat 60; decide +kernel), ?_⟩
    refine ⟨_, rfl, _, rfl, _, rfl, _, _, rfl, rfl, (by show (0 : Int) < 1152921504606846697; decide), _, _, rfl, rfl, .inl ⟨?_, ?_⟩, ?_⟩
    · have := Int.emod_nonneg (if cell < 0 then -cell else cell) (show (1152921504606846697 : Int) ≠ 0 by decide)
      omega
    · have := Int.emod_lt_of_pos (if cell < 0 then -cell else cell) (show (0 : Int) < 1152921504606846697 by decide)
      omega
    refine ⟨_, rfl, _, _, rfl, rfl, .inl ⟨by decide, by decide⟩, _, _, rfl, rfl, _, rfl, _, _, rfl, rfl, .inr ⟨_, rfl, ?_⟩⟩
    refine ⟨_, _, rfl, rfl, .inl ⟨by decide, by decide⟩, _, _, rfl, rfl, _, _, rfl, rfl, by show 3 ≤ sizeLine; decide, fun r hr => q r _ (same_new hr _) hr ⟨_, _, _, ?_, upd_same⟩⟩
    exact Int.emod_nonneg _ (by decide +kernel)
  · refine ⟨_, rfl, _, _, rfl, rfl, .inl ⟨by decide, by decide⟩, _, _, rfl, rfl, ?_⟩
    generalize (71 * (k : Int) + 31) = cell
    refine ⟨_, rfl, _, rfl, _, _, rfl, rfl, ⟨by decide, by decide, by decide⟩, _, _, rfl, rfl, _, _, rfl, ?_⟩
    refine ⟨_, _, rfl, rfl, ⟨by decide, by decide, by decide⟩, _, _, rfl, rfl, ⟨by decide, by decide, by decide⟩, _, _, rfl, rfl, wide_mul (a := 200) (b := 200) (by decide +kernel) (by decide +kernel) (by decide) (by decide) (by decide), _, _, rfl, rfl, (by show (0 : Int) < 10 ^ Int.toNat 60 * 10 ^ Int.toNat 60; decide +kernel), ?_⟩
    refine ⟨_, rfl, _, rfl, _, rfl, _, _, rfl, rfl, (by show (0 : Int) < 1152921504606846697; decide), _, _, rfl, rfl, .inl ⟨?_, ?_⟩, ?_⟩
    · have := Int.emod_nonneg (if cell < 0 then -cell else cell) (show (1152921504606846697 : Int) ≠ 0 by decide)
      omega
    · have := Int.emod_lt_of_pos (if cell < 0 then -cell else cell) (show (0 : Int) < 1152921504606846697 by decide)
      omega
    refine ⟨_, rfl, _, _, rfl, rfl, .inl ⟨by decide, by decide⟩, _, _, rfl, rfl, _, rfl, _, _, rfl, rfl, .inr ⟨_, rfl, ?_⟩⟩
    refine ⟨_, _, rfl, rfl, .inl ⟨by decide, by decide⟩, _, _, rfl, rfl, _, _, rfl, rfl, by show 3 ≤ sizeLine; decide, fun r hr => q r _ (same_new hr _) hr ⟨_, _, _, ?_, upd_same⟩⟩
    exact Int.emod_nonneg _ (by decide +kernel)
/-- a number below t; the dice move -/
def spRoll : Sp := fun vs H Q _ => ∃ (d : Addr) (t : Int), vs = [.ref d, .int t] ∧ DiceAt H d ∧ 1 ≤ t ∧ t ≤ 1000 ∧ ∀ (r : Int) (H' : Hp), 0 ≤ r → r < t → Off d H H' → DiceAt H' d → Q (.int r) H'
abbrev nsRoll : List Str := ["_law_dice_here", "_law_total", "_law_found", "_law_one", "_law_two"]
theorem scRoll : FnScope nsRoll ["_law_dice_here", "_law_total"] (defScope (top 50)) := ⟨rfl, rfl, rfl, by decide +kernel, rfl, by decide +kernel, by decide +kernel⟩
theorem ok_roll {f : Addr} {fd : FuncData} (D : Def K mg "_law_roll" 50 ["_law_dice_here", "_law_total"] f fd) (T : Bs mg) : FnOk P w K mg base CX0 1 f fd ["_law_dice_here", "_law_total"] spRoll := by
  refine D.F.ok scRoll (fun vs H Q E h => ?_) (fun cdv A outer s H vs Q E hr h => ?_)
  · obtain ⟨d, t, rfl, _⟩ := h
    rfl
  obtain ⟨d, t, rfl, ⟨a, b, c, ha, hd⟩, h1, h2, q⟩ := h
  have at0 : atI [V.int a, .int b, .int c] 0 = some (.int a) := atI_nat (j := 0) rfl
  have at2 : atI [V.int a, .int b, .int c] 2 = some (.int c) := atI_nat (j := 2) rfl
  refine ⟨_, pss_cons (ps_if (pt_cmpR op_gt (pe_ix ix_list (pv 0) pe_int (fun _ _ => rfl)) pe_int (nomark _))
      (pss_cons (ps_set (i := 2) scRoll.nd rfl (Or.inl rfl) (pe_op op_mod (pe_callTy call_int1 rfl T.int (by decide +kernel) (pa_cons (pe_ix ix_list (pv 0) pe_int (fun _ _ => rfl)) pa_nil)) (pv 1)))
      (pss_cons (ps_asg (pe_op op_fdiv (pe_ix ix_list (pv 0) pe_int (fun _ _ => rfl)) (pv 1)) (pg_sub (pv 0) pe_int set_list))
      (pss_one (ps_ret (pv 2))))) pss_nil)
    (pss_cons (ps_asg (pe_op op_add (pe_ix ix_list (pv 0) pe_int (fun _ _ => rfl)) pe_int) (pg_sub (pv 0) pe_int set_list))
    (pss_cons (ps_set (i := 3) scRoll.nd rfl (Or.inl rfl) (pe_op op_mod (pe_callTy call_int1 rfl T.int (by decide +kernel) (pa_cons (pe_op op_add (pe_ix ix_list (pv 0) pe_int (fun _ _ => rfl)) (pe_op op_mul pe_int (pe_ix ix_list (pv 0) pe_int (fun _ _ => rfl)))) pa_nil)) pe_int))
    (pss_cons (ps_set (i := 4) scRoll.nd rfl (Or.inl rfl) (pe_op op_add (pe_op op_mul (pe_op op_mod (pe_callTy call_int1 rfl T.int (by decide +kernel) (pa_cons (pe_op op_add (pe_op op_mulW (pv 3) (pv 3)) (pe_op op_mul pe_int (pe_ix ix_list (pv 0) pe_int (fun _ _ => rfl)))) pa_nil)) pe_int) pe_int) (pv 3)))
    (pss_one (ps_ret (pe_op op_mod (pe_callTy call_int1 rfl T.int (by decide +kernel) (pa_cons (pe_op op_fdiv (pv 4) pe_int) pa_nil)) (pv 1))))))), ?_⟩
  refine ⟨_, rfl, d, _, _, _, rfl, rfl, SqL.of hd, at0, _, _, rfl, rfl, _, rfl, ?_⟩
  refine ite2 (fun cp => ?_) (fun _ => ?_)
  · refine ⟨_, rfl, d, _, _, _, rfl, rfl, SqL.of hd, at0, .inl ⟨_, rfl, _, rfl, _, _, rfl, rfl, (by show 0 < t; omega), ?_⟩⟩
    refine ⟨_, rfl, d, _, _, _, rfl, rfl, SqL.of hd, at0, _, rfl, _, _, rfl, rfl, ⟨(by show 0 < t; omega), (by show t < 1073741824; omega)⟩, ?_⟩
    refine ⟨_, rfl, d, _, _, 0, rfl, rfl, hd, rfl, ?_⟩
    exact ⟨_, rfl, q _ _ (Int.emod_nonneg _ (by omega)) (Int.emod_lt_of_pos _ (by omega)) Off.upd ⟨a / t, b, c, Int.ediv_nonneg ha (by omega), upd_same⟩⟩
  · refine ⟨_, rfl, d, _, _, _, rfl, rfl, SqL.of hd, at2, _, _, rfl, rfl, ?_⟩
    refine ⟨_, rfl, d, _, _, 2, rfl, rfl, hd, rfl, ?_⟩
    have hd2 : (upd H d (.lst [V.int a, .int b, .int (c + 1)])) d = some (.lst [V.int a, .int b, .int (c + 1)]) := upd_same
    have o2 : Off d H (upd H d (.lst [V.int a, .int b, .int (c + 1)])) := Off.upd
    have at1' : atI [V.int a, .int b, .int (c + 1)] 1 = some (.int b) := atI_nat (j := 1) rfl
    have at2' : atI [V.int a, .int b, .int (c + 1)] 2 = some (.int (c + 1)) := atI_nat (j := 2) rfl
    have ex : ([V.int a, .int b, .int c].set 2 (.int (c + 1))) = [V.int a, .int b, .int (c + 1)] := rfl
    refine ⟨_, rfl, d, _, _, _, rfl, rfl, SqL.of hd2, at1', _, rfl, d, _, _, _, rfl, rfl, SqL.of hd2, at2', _, _, rfl, rfl, .inl ⟨by decide, by decide⟩, _, _, rfl, rfl, .inl ⟨_, rfl, _, _, rfl, rfl, (by show (0 : Int) < 2305843009213693561; decide), ?_⟩⟩
    have p1 := Int.emod_nonneg (b + 67867967 * (c + 1)) (show (2305843009213693561 : Int) ≠ 0 by decide)
    have p2 := Int.emod_lt_of_pos (b + 67867967 * (c + 1)) (show (0 : Int) < 2305843009213693561 by decide)
    generalize hone : (b + 67867967 * (c + 1)) % 2305843009213693561 = one at p1 p2
    have pw : one.natAbs < 2 ^ 62 := by omega
    refine ⟨_, rfl, _, rfl, _, _, rfl, rfl, (by rw [hone]; exact wide_mul (a := 62) (b := 62) pw pw (by decide) (by decide) (by decide)), _, rfl, d, _, _, _, rfl, rfl, SqL.of hd2, at2', _, _, rfl, rfl, .inl ⟨by decide, by decide⟩, _, _, rfl, rfl, .inl ⟨_, rfl, _, _, rfl, rfl, (by show (0 : Int) < 2305843009213693907; decide), ?_⟩⟩
    refine ⟨_, _, rfl, rfl, .inl ⟨?_, ?_⟩, _, rfl, _, _, rfl, rfl, ?_⟩
    · have := Int.emod_nonneg ((b + 67867967 * (c + 1)) % 2305843009213693561 * ((b + 67867967 * (c + 1)) % 2305843009213693561) + 101 * (c + 1)) (show (2305843009213693907 : Int) ≠ 0 by decide)
      omega
    · have := Int.emod_lt_of_pos ((b + 67867967 * (c + 1)) % 2305843009213693561 * ((b + 67867967 * (c + 1)) % 2305843009213693561) + 101 * (c + 1)) (show (0 : Int) < 2305843009213693907 by decide)
      omega
    refine ⟨_, rfl, _, _, rfl, rfl, ⟨by decide, by decide⟩, .inl ⟨_, rfl, _, rfl, _, _, rfl, rfl, (by show 0 < t; omega), ?_⟩⟩
    exact q _ _ (Int.emod_nonneg _ (by omega)) (Int.emod_lt_of_pos _ (by omega)) o2 ⟨a, b, c + 1, ha, hd2⟩
/-- an item of a list -/
def spPick (K : PySem.W.Frag) : Sp := fun vs H Q _ => ∃ (d a : Addr) (xs : List V), vs = [.ref d, .ref a] ∧ DiceAt H d ∧ SqL K H a xs ∧ a ≠ d ∧ xs ≠ [] ∧ xs.length ≤ 1000 ∧ ∀ (x : V) (H' : Hp), x ∈ xs → Off d H H' → DiceAt H' d → Q x H'
theorem scPick : FnScope ["_law_dice_here", "_law_items"] ["_law_dice_here", "_law_items"] (defScope (top 51)) := ⟨rfl, rfl, rfl, by decide +kernel, rfl, by decide +kernel, by decide +kernel⟩
theorem offL {d : Addr} {H H' : Hp} (o : Off d H H') {a : Addr} {xs : List V} (ha : a ≠ d) (h : SqL K H a xs) : SqL K H' a xs := by
  rcases h with (h | ⟨u, h⟩) | h
  · exact .inl (.inl (o _ _ ha h))
  · exact .inl (.inr ⟨u, o _ _ ha h⟩)
  · exact .inr h
theorem ok_pick {f g : Addr} {fd gd : FuncData} (D : Def K mg "_law_pick" 51 ["_law_dice_here", "_law_items"] f fd) (T : Bs mg) (DR : Def K mg "_law_roll" 50 ["_law_dice_here", "_law_total"] g gd) (GR : FnOk P w K mg base CX0 1 g gd ["_law_dice_here", "_law_total"] spRoll) :
    FnOk P w K mg base CX0 2 f fd ["_law_dice_here", "_law_items"] (spPick K) := by
  refine D.F.ok scPick (fun vs H Q E h => ?_) (fun cdv A outer s H vs Q E hr h => ?_)
  · obtain ⟨d, a, xs, rfl, _⟩ := h
    rfl
  obtain ⟨d, a, xs, rfl, hd, ha, ne, hx, hl, q⟩ := h
  refine ⟨_, pss_one (ps_ret (pe_ix ix_list (pv 1) (pe_callD DR GR hr (pa_cons (pv 0) (pa_cons (pe_callB call_len_seq rfl T.len PySem.boot_len (pa_cons (pv 1) pa_nil)) pa_nil))) (fun _ _ => rfl))), ?_⟩
  have hp : 0 < xs.length := List.length_pos_iff.mpr hx
  refine ⟨_, rfl, _, rfl, _, rfl, a, xs, rfl, .inl ha, d, _, rfl, hd, (by show (1 : Int) ≤ (xs.length : Nat); omega), (by show ((xs.length : Nat) : Int) ≤ 1000; omega), fun r H' h0 h1 o hd' => ?_⟩
  have hr' : r.toNat < xs.length := by omega
  have er : r = ((r.toNat : Nat) : Int) := by omega
  have at1 : atI xs ((r.toNat : Nat) : Int) = some xs[r.toNat] := atI_nat (List.getElem?_eq_getElem hr')
  have at_ : atI xs r = some xs[r.toNat] := by
    rw [← er] at at1
    exact at1
  exact ⟨a, xs, r, _, rfl, rfl, offL o ne ha, at_, q _ H' (List.getElem_mem hr') o hd'⟩
def spStatesL : Sp := fun vs H Q _ => vs = [] ∧ ∀ (r : Addr) (H' : Hp), Same H H' → H r = none → H' r = some (.lst (allSg.map sV)) → Q (.ref r) H'
theorem scStatesL : FnScope [] [] (defScope (top 52)) := ⟨rfl, rfl, rfl, by decide +kernel, rfl, by decide +kernel, by decide +kernel⟩
theorem ok_all_states {f : Addr} {fd : FuncData} (D : Def K mg "_law_all_states" 52 [] f fd) : FnOk P w K mg base CX0 1 f fd [] spStatesL := by
  refine D.F.ok scStatesL (fun vs H Q E h => ?_) (fun cdv A outer s H vs Q E hr h => ?_)
  · obtain ⟨rfl, _⟩ := h
    rfl
  obtain ⟨rfl, q⟩ := h
  refine ⟨_, pss_one (ps_ret (pe_lst (pa_cons pe_str (pa_cons pe_str (pa_cons pe_str (pa_cons pe_str (pa_cons pe_str (pa_cons pe_str (pa_cons pe_str pa_nil))))))))), ?_⟩
  exact ⟨by show 7 ≤ sizeLine; decide, fun r hr => q r _ (same_new hr _) hr upd_same⟩
def spEndsL : Sp := fun vs H Q _ => ∃ e : Sg, vs = [sV e] ∧ ∀ (r : Addr) (H' : Hp), Same H H' → H r = none → H' r = some (.lst ((ends e).map sV)) → Q (.ref r) H'
theorem scEndsL : FnScope ["_law_state"] ["_law_state"] (defScope (top 53)) := ⟨rfl, rfl, rfl, by decide +kernel, rfl, by decide +kernel, by decide +kernel⟩
theorem ok_law_ends {f : Addr} {fd : FuncData} (D : Def K mg "_law_ends_behind" 53 ["_law_state"] f fd) : FnOk P w K mg base CX0 1 f fd ["_law_state"] spEndsL := by
  refine D.F.ok scEndsL (fun vs H Q E h => ?_) (fun cdv A outer s H vs Q E hr h => ?_)
  · obtain ⟨e, rfl, _⟩ := h
    rfl
  obtain ⟨e, rfl, q⟩ := h
  refine ⟨_, pss_cons (ps_if (pt_cmpR op_eq (pv 0) pe_str (nomark _)) (pss_one (ps_ret (pe_lst (pa_cons pe_str (pa_cons pe_str (pa_cons pe_str (pa_cons pe_str (pa_cons pe_str pa_nil)))))))) pss_nil)
    (pss_one (ps_ret (pe_ifExp (pt_cmpR op_eq (pv 0) pe_str (nomark _)) (pe_lst (pa_cons pe_str (pa_cons pe_str (pa_cons pe_str (pa_cons pe_str pa_nil))))) (pe_lst (pa_cons (pv 0) pa_nil))))), ?_⟩
  refine ⟨_, rfl, rfl, _, rfl, ?_⟩
  cases e with
  | waiting => exact ⟨by show 5 ≤ sizeLine; decide, fun r hr => q r _ (same_new hr _) hr upd_same⟩
  | begun => exact ⟨_, rfl, rfl, _, rfl, by show 4 ≤ sizeLine; decide, fun r hr => q r _ (same_new hr _) hr upd_same⟩
  | left => exact ⟨_, rfl, rfl, _, rfl, _, rfl, by show 1 ≤ sizeLine; decide, fun r hr => q r _ (same_new hr _) hr upd_same⟩
  | well => exact ⟨_, rfl, rfl, _, rfl, _, rfl, by show 1 ≤ sizeLine; decide, fun r hr => q r _ (same_new hr _) hr upd_same⟩
  | ill => exact ⟨_, rfl, rfl, _, rfl, _, rfl, by show 1 ≤ sizeLine; decide, fun r hr => q r _ (same_new hr _) hr upd_same⟩
  | late => exact ⟨_, rfl, rfl, _, rfl, _, rfl, by show 1 ≤ sizeLine; decide, fun r hr => q r _ (same_new hr _) hr upd_same⟩
  | gone => exact ⟨_, rfl, rfl, _, rfl, _, rfl, by show 1 ≤ sizeLine; decide, fun r hr => q r _ (same_new hr _) hr upd_same⟩
theorem scHolds : FnScope ["_law_word", "_law_state"] ["_law_word", "_law_state"] (defScope (top 54)) := ⟨rfl, rfl, rfl, by decide +kernel, rfl, by decide +kernel, by decide +kernel⟩
theorem ok_atom_holds {f : Addr} {fd : FuncData} (D : Def K mg "_law_atom_holds" 54 ["_law_word", "_law_state"] f fd) : FnOk P w K mg base CX0 1 f fd ["_law_word", "_law_state"] spAtom := by
  refine D.F.ok scHolds (fun vs H Q E h => ?_) (fun cdv A outer s H vs Q E hr h => ?_)
  · obtain ⟨x, e, rfl, _⟩ := h
    rfl
  obtain ⟨x, e, rfl, q⟩ := h
  refine ⟨_, pss_cons (ps_if (pt_cmpR op_eq (pv 0) pe_str (nomark _)) (pss_one (ps_ret (pe_cmpR op_notIn_seq (pv 1) (pe_tup (pa_cons pe_str (pa_cons pe_str pa_nil))) (by rfl)))) pss_nil)
    (pss_one (ps_ret (pe_ifExp (pt_cmpR op_eq (pv 0) pe_str (nomark _)) (pe_cmpR op_notIn_seq (pv 1) (pe_tup (pa_cons pe_str (pa_cons pe_str pa_nil))) (by rfl)) (pe_cmpR op_eq (pv 1) (pv 0) (nomark _))))), ?_⟩
  refine ⟨_, rfl, rfl, _, rfl, ?_⟩
  have q0 := q H (same_refl H)
  cases x with
  | begun =>
    refine ⟨_, rfl, by show 2 ≤ sizeLine; decide, fun p hp => ?_⟩
    refine ⟨p, _, rfl, .inr (SqT.of upd_same), rfl, by decide, ?_⟩
    have z : (if true = true then !inV (sV e) [.str "waiting", .str "left"] else inV (sV e) [.str "waiting", .str "left"]) = truth .begun e := by cases e <;> decide
    have q1 := q _ (same_new hp (.tup [.str "waiting", .str "left"]))
    rw [← z] at q1
    exact q1
  | over =>
    refine ⟨_, rfl, rfl, _, rfl, _, rfl, by show 2 ≤ sizeLine; decide, fun p hp => ?_⟩
    refine ⟨p, _, rfl, .inr (SqT.of upd_same), rfl, by decide, ?_⟩
    have z : (if true = true then !inV (sV e) [.str "waiting", .str "begun"] else inV (sV e) [.str "waiting", .str "begun"]) = truth .over e := by cases e <;> decide
    have q1 := q _ (same_new hp (.tup [.str "waiting", .str "begun"]))
    rw [← z] at q1
    exact q1
  | well =>
    refine ⟨_, rfl, rfl, _, rfl, _, rfl, _, rfl, rfl, ?_⟩
    have z : decide (sV e = wV .well) = truth .well e := by cases e <;> decide
    rw [← z] at q0
    exact q0
  | ill =>
    refine ⟨_, rfl, rfl, _, rfl, _, rfl, _, rfl, rfl, ?_⟩
    have z : decide (sV e = wV .ill) = truth .ill e := by cases e <;> decide
    rw [← z] at q0
    exact q0
  | late =>
    refine ⟨_, rfl, rfl, _, rfl, _, rfl, _, rfl, rfl, ?_⟩
    have z : decide (sV e = wV .late) = truth .late e := by cases e <;> decide
    rw [← z] at q0
    exact q0
  | left =>
    refine ⟨_, rfl, rfl, _, rfl, _, rfl, _, rfl, rfl, ?_⟩
    have z : decide (sV e = wV .left) = truth .left e := by cases e <;> decide
    rw [← z] at q0
    exact q0
end
end Ts

set_option Elab.async false
set_option linter.all false
set_option maxRecDepth 100000
set_option maxHeartbeats 4000000
/-! Law defs 2: what holds of a formula, its jobs. -/
namespace Ts
open PySem L2
theorem filter_all {α : Type} (p : α → Bool) : ∀ l : List α, decide ((l.filter p).length = l.length) = l.all p
  | [] => rfl
  | x :: r => by
    have ih := filter_all p r
    have le := List.length_filter_le p r
    rw [List.filter_cons, List.all_cons]
    cases h : p x with
    | true =>
      rw [← ih]
      show decide ((r.filter p).length + 1 = r.length + 1) = (true && _)
      rw [Bool.true_and, decide_eq_decide]
      omega
    | false =>
      show decide ((r.filter p).length = r.length + 1) = (false && _)
      rw [Bool.false_and]
      exact decide_eq_false (by omega)
theorem filter_any {α : Type} (p : α → Bool) : ∀ l : List α, (!(l.filter p).isEmpty) = l.any p
  | [] => rfl
  | x :: r => by
    rw [List.filter_cons, List.any_cons]
    cases h : p x with
    | true => rfl
    | false => exact filter_any p r
section
variable {P : Program} {w : World} {K : PySem.W.Frag} {mg : Str → Option Value} {base : Heap}
def spHolds (n : Nat) : Sp := fun vs H Q _ => ∃ (v : V) (ds : Addr) (fm : Fm) (kv : List (Int × Sg)), vs = [v, .ref ds] ∧ FmAt H v fm ∧ FmOk fm ∧ depthF fm ≤ n ∧ H ds = some (.dK (kvS kv)) ∧ (∀ j ∈ fm.jobs, j ∈ kv.map (·.1)) ∧ ∀ H', Same H H' → Q (.bl (evL fm kv)) H'
abbrev nsAH : List Str := ["_law_f", "_law_states", "_law_found", "_law_part"]
theorem scAH : FnScope nsAH ["_law_f", "_law_states"] (defScope (top 55)) := ⟨rfl, rfl, rfl, by decide +kernel, rfl, by decide +kernel, by decide +kernel⟩
theorem ok_after_holds {n : Nat} {f g : Addr} {fd gd : FuncData} (D : Def K mg "_law_after_holds" 55 ["_law_f", "_law_states"] f fd) (T : Bs mg) (DA : Def K mg "_law_atom_holds" 54 ["_law_word", "_law_state"] g gd) (GA : FnOk P w K mg base CX0 1 g gd ["_law_word", "_law_state"] spAtom)
    (GR : FnOk P w K mg base CX0 (1 + n) f fd ["_law_f", "_law_states"] (spHolds n)) : FnOk P w K mg base CX0 (1 + n + 1) f fd ["_law_f", "_law_states"] (spHolds (n + 1)) := by
  refine D.F.ok scAH (fun vs H Q E h => ?_) (fun cdv A outer s H vs Q E hr h => ?_)
  · obtain ⟨v, ds, fm, kv, rfl, _⟩ := h
    rfl
  obtain ⟨v, ds, fm, kv, rfl, hf, ok, hdn, hd, hj, q⟩ := h
  have hu := hu_of hr
  refine ⟨_, pss_cons (ps_if (pt_cmpR op_in_seq (pe_ix ix_tup (pv 0) pe_int (fun _ _ => rfl)) (pe_tup (pa_cons pe_str (pa_cons pe_str pa_nil))) (by rfl))
      (pss_cons (ps_setLc (i := 2) (own := [("_law_part", 3)]) (g := gName 3) rfl scAH.nd rfl rfl (sw_true rfl rfl rfl (by decide +kernel)) (pi_tup (pe_ix ix_tup (pv 0) pe_int (fun _ _ => rfl))) (blkOk_by (N := nsAH) (sc := defScope (top 55)) (by decide +kernel))
        (fun _ _ _ _ _ => pg_name (i := 3) scAH.nd rfl (Or.inl rfl)) (fun _ _ _ _ _ => pts_one (pt_val (pe_callD D GR hr (pa_cons (pv 3) (pa_cons (pv 1) pa_nil))))) (fun _ _ _ _ _ => pv 3))
      (pss_one (ps_ret (pe_ifExp (pt_cmpR op_eq (pe_ix ix_tup (pv 0) pe_int (fun _ _ => rfl)) pe_str (nomark _)) (pe_cmpR op_eq (pe_callB call_len_seq rfl T.len PySem.boot_len (pa_cons (pv 2) pa_nil)) (pe_callB call_len_seq rfl T.len PySem.boot_len (pa_cons (pe_ix ix_tup (pv 0) pe_int (fun _ _ => rfl)) pa_nil)) (nomark _))
        (pe_cmpR (op_neNil hr.units) (pv 2) (pe_lst pa_nil) (nomark _)))))) pss_nil)
    (pss_one (ps_ret (pe_callD DA GA (hr.mono (by omega)) (pa_cons (pe_ix ix_tup (pv 0) pe_int (fun _ _ => rfl)) (pa_cons (pe_dget hu (pv 1) (pe_ix ix_tup (pv 0) pe_int (fun _ _ => rfl)) (fun _ _ => rfl)) pa_nil))))), ?_⟩
  have st : ∀ j ∈ fm.jobs, kv.lookup j = some (stL kv j) := fun j hj' => by
    obtain ⟨e, h, _⟩ := lookup_in (hj j hj')
    unfold stL
    rw [h]
    rfl
  cases fm with
  | atom a =>
    obtain ⟨p, rfl, hp⟩ := hf
    refine ⟨_, rfl, p, _, _, _, rfl, rfl, SqT.of hp, (show atI [wV a.1, V.int a.2] 0 = some (wV a.1) from rfl), ?_⟩
    refine ⟨by show 2 ≤ sizeLine; decide, fun t ht => ?_⟩
    have z2 : (if false = true then !inV (wV a.1) [.str "and", .str "or"] else inV (wV a.1) [.str "and", .str "or"]) = false := by cases a.1 <;> decide
    refine ⟨t, _, rfl, .inr (SqT.of upd_same), rfl, by decide, _, congrArg V.bl z2, ?_⟩
    refine iteF ?_
    have s1 := same_new ht (.tup [.str "and", .str "or"])
    have hp1 := s1 _ _ hp
    have hd1 := s1 _ _ hd
    refine ⟨_, rfl, p, _, _, _, rfl, rfl, SqT.of hp1, (show atI [wV a.1, V.int a.2] 0 = some (wV a.1) from rfl), _, rfl, _, rfl, p, _, _, _, rfl, rfl, SqT.of hp1, (show atI [wV a.1, V.int a.2] 1 = some (.int a.2) from rfl), ds, _, rfl, dget_kvS hd1 (st a.2 (by simp [Fm.jobs, Fm.atoms])), a.1, _, rfl, fun H' s2 => q H' (s1.trans s2)⟩
  | node c l =>
    obtain ⟨p, b, xs, rfl, hp, hb, hx⟩ := hf
    refine ⟨_, rfl, p, _, _, _, rfl, rfl, SqT.of hp, (show atI [V.str (cS c), V.ref b] 0 = some (.str (cS c)) from rfl), ?_⟩
    refine ⟨by show 2 ≤ sizeLine; decide, fun t ht => ?_⟩
    have z2 : (if false = true then !inV (.str (cS c)) [.str "and", .str "or"] else inV (.str (cS c)) [.str "and", .str "or"]) = true := by cases c <;> decide
    refine ⟨t, _, rfl, .inr (SqT.of upd_same), rfl, by decide, _, congrArg V.bl z2, ?_⟩
    refine iteT ?_
    have s1 := same_new ht (.tup [.str "and", .str "or"])
    have hp1 := s1 _ _ hp
    have hb1 := s1 _ _ hb
    have hd1 := s1 _ _ hd
    have hx1 := hx.same s1
    generalize upd H t (.tup [.str "and", .str "or"]) = H1 at *
    obtain ⟨z, e1, e2, hz⟩ := paired_zip hx1
    have hT : SqT K H1 b (z.map (·.1)) := by rw [e1]; exact SqT.of hb1
    have lz : z.length = l.length := by rw [← e2, List.length_map]
    have l3 : l.length ≤ 3 := ok.2.2
    have zl : ∀ y ∈ z, y.2 ∈ l := fun y hy => by rw [← e2]; exact List.mem_map.mpr ⟨y, hy, rfl⟩
    refine ⟨_, rfl, p, _, _, _, rfl, rfl, SqT.of hp1, (show atI [V.str (cS c), V.ref b] 1 = some (.ref b) from rfl), ?_⟩
    refine ⟨b, rfl, ⟨_, hT⟩, fun D hD => ?_⟩
    refine lc_tupS z (·.1) (fun y => truth y.2.1 (stL kv y.2.2)) (·.1) hD hT (small1000 (by omega)) (fun y H2 Qt Qf hy s2 k1 k2 => ?_) fun H2 s2 hD2 => ?_
    · refine ⟨rfl, _, rfl, _, rfl, y.1, ds, .atom y.2, kv, rfl, (hz y hy).same s2, ok.1 _ (zl y hy), Nat.le_of_succ_le_succ hdn, s2 _ _ hd1, fun j hj' => hj j (by
        have : j = y.2.2 := by simpa [Fm.jobs, Fm.atoms] using hj'
        rw [this]
        exact List.mem_map.mpr ⟨y.2, zl y hy, rfl⟩), fun H3 s3 => ?_⟩
      have ev : evL (.atom y.2) kv = truth y.2.1 (stL kv y.2.2) := rfl
      rw [ev]
      cases e : truth y.2.1 (stL kv y.2.2) with
      | true => exact ⟨_, rfl, _, rfl, k1 e H3 s3⟩
      | false => exact ⟨_, rfl, k2 e H3 s3⟩
    have hp2 := s2 _ _ hp1
    have hb2 := s2 _ _ hb1
    refine ⟨_, rfl, p, _, _, _, rfl, rfl, SqT.of hp2, (show atI [V.str (cS c), V.ref b] 0 = some (.str (cS c)) from rfl), rfl, _, rfl, ?_⟩
    have lf : ((z.filter fun y => truth y.2.1 (stL kv y.2.2)).map (·.1)).length = (l.filter fun a => truth a.1 (stL kv a.2)).length := by
      rw [List.length_map, ← e2, List.filter_map, List.length_map]
      rfl
    have lx : xs.length = l.length := Paired.length hx1
    cases c with
    | true =>
      refine ⟨_, rfl, D, _, rfl, .inl (SqL.of hD2), _, rfl, p, _, _, _, rfl, rfl, SqT.of hp2, (show atI [V.str (cS true), V.ref b] 1 = some (.ref b) from rfl), b, _, rfl, .inr (SqT.of hb2), rfl, ?_⟩
      have e : decide (V.int (((z.filter fun y => truth y.2.1 (stL kv y.2.2)).map (·.1)).length : Nat) = V.int (xs.length : Nat)) = evL (.node true l) kv := by
        have e3 := filter_all (fun a : At => truth a.1 (stL kv a.2)) l
        show _ = l.all fun a => truth a.1 (stL kv a.2)
        rw [← e3, lf, lx, decide_eq_decide]
        constructor
        · intro h
          have := V.int.inj h
          omega
        · intro h
          rw [h]
      rw [e]
      exact q H2 (s1.trans s2)
    | false =>
      refine ⟨_, rfl, by show 0 ≤ sizeLine; decide, fun em hem => ?_⟩
      have s3 := same_new hem (.lst [])
      refine ⟨D, em, _, rfl, rfl, SqL.of (s3 _ _ hD2), SqL.of upd_same, ?_⟩
      have e : (!((z.filter fun y => truth y.2.1 (stL kv y.2.2)).map (·.1)).isEmpty) = evL (.node false l) kv := by
        have e3 := filter_any (fun a : At => truth a.1 (stL kv a.2)) l
        show _ = l.any fun a => truth a.1 (stL kv a.2)
        rw [← e3, ← e2, List.filter_map, List.isEmpty_map, List.isEmpty_map]
        rfl
      rw [e]
      exact q _ (s1.trans (s2.trans s3))
theorem ok_holds2 {f g : Addr} {fd gd : FuncData} (D : Def K mg "_law_after_holds" 55 ["_law_f", "_law_states"] f fd) (T : Bs mg) (DA : Def K mg "_law_atom_holds" 54 ["_law_word", "_law_state"] g gd) (GA : FnOk P w K mg base CX0 1 g gd ["_law_word", "_law_state"] spAtom) :
    FnOk P w K mg base CX0 3 f fd ["_law_f", "_law_states"] (spHolds 2) :=
  ok_after_holds (n := 1) D T DA GA (ok_after_holds (n := 0) D T DA GA (ok_none fun vs H Q E h => by
    obtain ⟨v, f, fm, _, _, _, _, h, _⟩ := h
    have := depthF_pos fm
    omega))
def spJobs (n : Nat) : Sp := fun vs H Q _ => ∃ v f, vs = [v] ∧ FmAt H v f ∧ FmOk f ∧ depthF f ≤ n ∧ ∀ (r : Addr) (ns : List Int) (H' : Hp), Same H H' → H r = none → H' r = some (.lst (ns.map V.int)) → ns.Pairwise (· < ·) → (∀ m, m ∈ ns ↔ m ∈ f.jobs) → ns.length ≤ 3 → Q (.ref r) H'
abbrev nsAJ : List Str := ["_law_f", "_law_found", "_law_part", "_law_number"]
theorem scAJ : FnScope nsAJ ["_law_f"] (defScope (top 56)) := ⟨rfl, rfl, rfl, by decide +kernel, rfl, by decide +kernel, by decide +kernel⟩
theorem ok_after_jobs {n : Nat} {f : Addr} {fd : FuncData} (D : Def K mg "_law_after_jobs" 56 ["_law_f"] f fd) (T : Bs mg) (GR : FnOk P w K mg base CX0 n f fd ["_law_f"] (spJobs n)) : FnOk P w K mg base CX0 (n + 1) f fd ["_law_f"] (spJobs (n + 1)) := by
  refine D.F.ok scAJ (fun vs H Q E h => ?_) (fun cdv A outer s H vs Q E hr h => ?_)
  · obtain ⟨v, fm, rfl, _⟩ := h
    rfl
  obtain ⟨v, fm, rfl, hf, ok, hdn, q⟩ := h
  refine ⟨_, pss_cons (ps_set (i := 1) scAJ.nd rfl (Or.inr rfl) (pe_lst pa_nil))
    (pss_cons (ps_if (pt_cmpR op_notIn_seq (pe_ix ix_tup (pv 0) pe_int (fun _ _ => rfl)) (pe_tup (pa_cons pe_str (pa_cons pe_str pa_nil))) (by rfl)) (pss_one (ps_ret (pe_lst (pa_cons (pe_ix ix_tup (pv 0) pe_int (fun _ _ => rfl)) pa_nil)))) pss_nil)
    (pss_cons (ps_for PassesOwn.never rfl (pi_tup (pe_ix ix_tup (pv 0) pe_int (fun _ _ => rfl))) (pg_name (i := 2) scAJ.nd rfl (Or.inl rfl))
      (pss_one (ps_expr (pe_bm PySem.F.plainAttrs_list PySem.F.slot_list_extend PySem.F.type_list_extend mt_extend (pv 1) (pa_cons (pe_lc (own := [("_law_number", 3)]) (g := gName 3) rfl scAJ.nd (pi_list (pe_callD D GR hr (pa_cons (pv 2) pa_nil))) (blkOk_by (N := nsAJ) (sc := defScope (top 56)) (by decide +kernel))
        (fun _ _ _ _ _ => pg_name (i := 3) scAJ.nd rfl (Or.inl rfl)) (fun _ _ _ _ _ => pts_one (pt_cmpR (op_notInK K) (pv 3) (pv 1) (by rfl))) (fun _ _ _ _ _ => pv 3)) pa_nil)))))
    (pss_one (ps_ret (pe_callB cr_sorted rfl T.sorted (by decide +kernel) (pa_cons (pv 1) pa_nil)))))), ?_⟩
  refine ⟨by show 0 ≤ sizeLine; decide, fun fo hfo => ?_⟩
  have s0 := same_new hfo (.lst [])
  have hfo1 : (upd H fo (.lst [])) fo = some (.lst []) := upd_same
  cases fm with
  | atom a =>
    obtain ⟨p, rfl, hp⟩ := hf
    have hp0 := s0 _ _ hp
    refine ⟨_, rfl, p, _, _, _, rfl, rfl, SqT.of hp0, (show atI [wV a.1, V.int a.2] 0 = some (wV a.1) from rfl), ?_⟩
    refine ⟨by show 2 ≤ sizeLine; decide, fun t ht => ?_⟩
    have z2 : (if true = true then !inV (wV a.1) [.str "and", .str "or"] else inV (wV a.1) [.str "and", .str "or"]) = true := by cases a.1 <;> decide
    refine ⟨t, _, rfl, .inr (SqT.of upd_same), rfl, by decide, _, congrArg V.bl z2, ?_⟩
    refine iteT ?_
    have s1 := same_new ht (.tup [.str "and", .str "or"])
    refine ⟨_, rfl, p, _, _, _, rfl, rfl, SqT.of (s1 _ _ hp0), (show atI [wV a.1, V.int a.2] 1 = some (.int a.2) from rfl), by show 1 ≤ sizeLine; decide, fun r hr => ?_⟩
    exact q r [a.2] _ (s0.trans (s1.trans (same_new hr _))) (same_none (s0.trans s1) hr) upd_same (List.pairwise_singleton _ _) (fun m => by simp [Fm.jobs, Fm.atoms]) (by show 1 ≤ 3; decide)
  | node c l =>
    obtain ⟨p, b, xs, rfl, hp, hb, hx⟩ := hf
    have hp0 := s0 _ _ hp
    refine ⟨_, rfl, p, _, _, _, rfl, rfl, SqT.of hp0, (show atI [V.str (cS c), V.ref b] 0 = some (.str (cS c)) from rfl), ?_⟩
    refine ⟨by show 2 ≤ sizeLine; decide, fun t ht => ?_⟩
    have z2 : (if true = true then !inV (.str (cS c)) [.str "and", .str "or"] else inV (.str (cS c)) [.str "and", .str "or"]) = false := by cases c <;> decide
    refine ⟨t, _, rfl, .inr (SqT.of upd_same), rfl, by decide, _, congrArg V.bl z2, ?_⟩
    refine iteF ?_
    have s1 := s0.trans (same_new ht (.tup [.str "and", .str "or"]))
    have hp1 := s1 _ _ hp
    have hb1 := s1 _ _ hb
    have hx1 := hx.same s1
    have hfo2 : (upd (upd H fo (.lst [])) t (.tup [.str "and", .str "or"])) fo = some (.lst []) := same_new ht _ _ _ hfo1
    have lx : xs.length = l.length := Paired.length hx
    have l3 : l.length ≤ 3 := ok.2.2
    generalize upd (upd H fo (.lst [])) t (.tup [.str "and", .str "or"]) = H1 at *
    refine ⟨_, rfl, p, _, _, _, rfl, rfl, SqT.of hp1, (show atI [V.str (cS c), V.ref b] 1 = some (.ref b) from rfl), ?_⟩
    have nb : b ≠ fo := ne_of hb1 hfo2 (by intro z; cases z)
    refine ⟨b, rfl, ⟨_, SqT.of hb1⟩, ?_⟩
    refine for_tup (xs := xs) (fun i σ H2 => (∃ o, σ = [some (.ref p), some (.ref fo), o, none]) ∧ Off fo H1 H2 ∧ H2 fo = some (.lst ((keysF ((l.map (·.2)).take i)).map V.int))) ⟨⟨none, rfl⟩, Off.refl _ _, hfo2⟩
      (fun i σ H2 _ h => SqT.of (h.2.1 _ _ nb hb1)) (fun i x σ H2 hxi h => ?_) (fun σ H2 h => ?_)
    · obtain ⟨⟨o, rfl⟩, o2, h2⟩ := h
      obtain ⟨y, hyi, pp, hpp, hy⟩ := paired_get2 hx1 hxi
      have hpne : pp ≠ fo := ne_of hy hfo2 (by intro z; cases z)
      have hy2 := o2 _ _ hpne hy
      have hl : y ∈ l := List.mem_of_getElem? hyi
      refine ⟨_, rfl, .inl ⟨rfl, _, SqL.of h2⟩, ?_⟩
      refine ⟨_, rfl, x, .atom y, rfl, ⟨pp, hpp, hy2⟩, ok.1 _ hl, Nat.le_of_succ_le_succ hdn, fun r ns H3 s3 nr hr3 _ mem _ => ?_⟩
      refine ⟨r, rfl, ⟨_, SqL.of hr3⟩, fun D3 hD3 => ?_⟩
      have hfo3 := s3 _ _ h2
      have lns : ns.length ≤ 3 := by assumption
      refine lc_lstS ns V.int (fun m => !decide (m ∈ keysF ((l.map (·.2)).take i))) V.int hD3 (SqL.of hr3) (small1000 (by omega)) (fun m H4 Qt Qf hm s4 k1 k2 => ?_) fun H4 s4 h4 => ?_
      · refine ⟨rfl, _, rfl, _, rfl, fo, _, rfl, .inl (SqL.of (s4 _ _ hfo3)), rfl, flat_ints _, _, rfl, ?_⟩
        have z : (if true = true then !inV (V.int m) ((keysF ((l.map (·.2)).take i)).map V.int) else inV (V.int m) ((keysF ((l.map (·.2)).take i)).map V.int)) = !decide (m ∈ keysF ((l.map (·.2)).take i)) := by rw [if_pos rfl, inV_ints]
        rw [z]
        cases e : !decide (m ∈ keysF ((l.map (·.2)).take i)) with
        | true => exact ⟨_, rfl, k1 e H4 (same_refl _)⟩
        | false => exact k2 e H4 (same_refl _)
      · have hfo4 := s4 _ _ hfo3
        have en : (ns.filter fun m => !decide (m ∈ keysF ((l.map (·.2)).take i))) = if y.2 ∈ keysF ((l.map (·.2)).take i) then [] else [y.2] := by
          have e1 : ∀ m, m ∈ ns ↔ m = y.2 := fun m => by rw [mem]; simp [Fm.jobs, Fm.atoms]
          have e2 : ns = [y.2] := by
            cases ns with
            | nil => exact absurd ((e1 y.2).mpr rfl) (by simp)
            | cons m r =>
              have em : m = y.2 := (e1 m).mp List.mem_cons_self
              cases r with
              | nil => rw [em]
              | cons m2 r2 =>
                exfalso
                have em2 : m2 = y.2 := (e1 m2).mp (by simp)
                rename_i asc _
                have := (List.pairwise_cons.mp asc).1 m2 (by simp)
                omega
          rw [e2, List.filter_cons]
          by_cases z : y.2 ∈ keysF ((l.map (·.2)).take i)
          · rw [if_pos z, decide_eq_true z]
            rfl
          · rw [if_neg z, decide_eq_false z]
            rfl
        have tk : (l.map (·.2)).take (i + 1) = (l.map (·.2)).take i ++ [y.2] := by
          rw [List.take_succ, List.getElem?_map, hyi]
          rfl
        have lk := keysF_len ((l.map (·.2)).take i)
        rw [List.length_take, List.length_map] at lk
        refine ⟨fo, D3, _, _, rfl, rfl, hfo4, h4, ?_, ⟨_, rfl⟩, (o2.trans (Off.same (s3.trans s4))).trans Off.upd, ?_⟩
        · rw [List.length_map, List.length_map, en]
          refine small ?_
          split <;> simp <;> omega
        · rw [upd_same, tk, keysF_snoc, en, ← List.map_append]
          unfold addK
          split
          · rw [List.append_nil]
          · rfl
    · obtain ⟨⟨o, rfl⟩, o2, h2⟩ := h
      have tk : (l.map (·.2)).take xs.length = (Fm.node c l).jobs := List.take_of_length_le (by rw [List.length_map]; omega)
      rw [tk] at h2
      have lk : (keysF (Fm.node c l).jobs).length ≤ 3 := by
        have h1 := keysF_len (Fm.node c l).jobs
        have h2 : (Fm.node c l).jobs.length = l.length := List.length_map _
        omega
      refine ⟨_, rfl, fo, _, rfl, SqL.of h2, by omega, fun ns' r perm srt hr => ?_⟩
      have off : Same H (upd H2 r (.lst (ns'.map V.int))) := fun b' u e => by
        have nf : b' ≠ fo := ne_of_none e hfo
        have e2 := o2 _ _ nf (s1 _ _ e)
        rw [upd_ne (ne_of_none e2 hr)]
        exact e2
      refine q r ns' _ off ?_ upd_same (asc_of perm srt (keysF_nodup _)) (fun m => ?_) (by rw [perm.length_eq]; exact lk)
      · cases e : H r with
        | none => rfl
        | some u =>
          have nf : r ≠ fo := ne_of_none e hfo
          have := o2 _ _ nf (s1 _ _ e)
          rw [hr] at this
          cases this
      · rw [perm.mem_iff, keysF_mem]
theorem ok_jobs2 {f : Addr} {fd : FuncData} (D : Def K mg "_law_after_jobs" 56 ["_law_f"] f fd) (T : Bs mg) : FnOk P w K mg base CX0 2 f fd ["_law_f"] (spJobs 2) :=
  ok_after_jobs (n := 1) D T (ok_after_jobs (n := 0) D T (ok_none fun vs H Q E h => by
    obtain ⟨v, fm, _, _, _, h, _⟩ := h
    have := depthF_pos fm
    omega))
end
end Ts

set_option Elab.async false
set_option linter.all false
set_option maxRecDepth 100000
set_option maxHeartbeats 4000000
/-! Law defs 3: what is drawn. -/
namespace Ts
open PySem L2
theorem pe_callD0 {X : Cx} {k i : Nat} {x : Str} {f : Addr} {fd : FuncData} {sp : Sp} {p pos : Pos} (D : Def X.K X.mg x i [] f fd) (G : FnOk X.prog X.w X.K X.mg X.base CX0 k f fd [] sp) (hr : Room k X.A) (hg : Gl X x := by rfl) (hdb : (x == ("__debug__" : Str)) = false := by decide) :
    PE X (.Call (.Name x p) [] [] pos) (tCall sp [] E0 tNil) := pe_call0 G hr hg D.m D.F.kp D.b .nil pass0 hdb
theorem tups_of {H H' : Hp} (s : Same H H') : Tups H H' := fun p xs e => s _ _ e
theorem off_tups {d : Addr} {H H' : Hp} (hd : DiceAt H d) (o : Off d H H') : Tups H H' := fun p xs e => by
  obtain ⟨a, b, c, _, h⟩ := hd
  exact o _ _ (ne_of e h (by intro z; cases z)) e
theorem DiceAt.ne {H : Hp} {d r : Addr} (hd : DiceAt H d) (h : H r = none) : r ≠ d := fun z => by
  obtain ⟨a, b, c, _, h'⟩ := hd
  rw [z, h'] at h
  cases h
theorem DiceAt.upd {H : Hp} {d r : Addr} {o : HO} (hd : DiceAt H d) (h : r ≠ d) : DiceAt (upd H r o) d := by
  obtain ⟨a, b, c, h0, h'⟩ := hd
  exact ⟨a, b, c, h0, by rw [upd_ne (Ne.symm h)]; exact h'⟩
theorem Off.new {d : Addr} {H H' : Hp} {r : Addr} {o : HO} (f : Off d H H') (h : H' r = none) : Off d H (L2.upd H' r o) := f.trans (Off.same (same_new h o))
theorem Off.over {d D : Addr} {H H' : Hp} {o : HO} (f : Off d H H') (h : H D = none) : Off d H (L2.upd H' D o) := fun b u hb e => by rw [upd_ne (ne_of_none e h)]; exact f b u hb e
section
variable {P : Program} {w : World} {K : PySem.W.Frag} {mg : Str → Option Value} {base : Heap}
def spAA (K : PySem.W.Frag) : Sp := fun vs H Q _ => ∃ (d a : Addr) (js : List Int), vs = [.ref d, .ref a] ∧ DiceAt H d ∧ SqL K H a (js.map V.int) ∧ a ≠ d ∧ js ≠ [] ∧ js.length ≤ 1000 ∧
  ∀ (r : Addr) (x : At) (H' : Hp), x.2 ∈ js → Off d H H' → DiceAt H' d → H' r = some (.tup [wV x.1, .int x.2]) → Q (.ref r) H'
theorem scAA : FnScope ["_law_dice_here", "_law_jobs"] ["_law_dice_here", "_law_jobs"] (defScope (top 57)) := ⟨rfl, rfl, rfl, by decide +kernel, rfl, by decide +kernel, by decide +kernel⟩
theorem ok_after_atom {f g : Addr} {fd gd : FuncData} (D : Def K mg "_law_after_atom" 57 ["_law_dice_here", "_law_jobs"] f fd) (DP : Def K mg "_law_pick" 51 ["_law_dice_here", "_law_items"] g gd) (GP : FnOk P w K mg base CX0 2 g gd ["_law_dice_here", "_law_items"] (spPick K)) :
    FnOk P w K mg base CX0 3 f fd ["_law_dice_here", "_law_jobs"] (spAA K) := by
  refine D.F.ok scAA (fun vs H Q E h => ?_) (fun cdv A outer s H vs Q E hr h => ?_)
  · obtain ⟨d, a, js, rfl, _⟩ := h
    rfl
  obtain ⟨d, a, js, rfl, hd, ha, ne, hj, hl, q⟩ := h
  refine ⟨_, pss_one (ps_ret (pe_tup (pa_cons (pe_callD DP GP hr (pa_cons (pv 0) (pa_cons (pe_lst (pa_cons pe_str (pa_cons pe_str (pa_cons pe_str (pa_cons pe_str (pa_cons pe_str (pa_cons pe_str pa_nil))))))) pa_nil)))
    (pa_cons (pe_callD DP GP hr (pa_cons (pv 0) (pa_cons (pv 1) pa_nil))) pa_nil)))), ?_⟩
  refine ⟨_, rfl, by show 6 ≤ sizeLine; decide, fun l hl' => ?_⟩
  have nl := hd.ne hl'
  have hd1 : DiceAt (upd H l (.lst (allWd.map wV))) d := hd.upd nl
  refine ⟨d, l, allWd.map wV, rfl, hd1, SqL.of upd_same, nl, by decide, by decide, fun x H2 hx o2 hd2 => ?_⟩
  obtain ⟨wd, _, rfl⟩ := List.mem_map.mp hx
  have o2' : Off d H H2 := (Off.same (same_new hl' _)).trans o2
  refine ⟨_, rfl, _, rfl, d, a, js.map V.int, rfl, hd2, offL o2' ne ha, ne, by simpa using hj, by rw [List.length_map]; exact hl, fun y H3 hy o3 hd3 => ?_⟩
  obtain ⟨j, hjm, rfl⟩ := List.mem_map.mp hy
  refine ⟨by show 2 ≤ sizeLine; decide, fun t ht => ?_⟩
  exact q t (wd, j) _ hjm ((o2'.trans o3).new ht) (hd3.upd (hd3.ne ht)) upd_same
def spDrawn (K : PySem.W.Frag) (n : Nat) : Sp := fun vs H Q _ => ∃ (d a : Addr) (js : List Int) (k : Nat), vs = [.ref d, .ref a, .int k] ∧ k < n ∧ k ≤ 1 ∧ DiceAt H d ∧ SqL K H a (js.map V.int) ∧ a ≠ d ∧ js ≠ [] ∧ js.length ≤ 1000 ∧ (∀ j ∈ js, 1 ≤ j ∧ j ≤ 1000000) ∧
  ∀ (r : Addr) (fm : Fm) (H' : Hp), Off d H H' → DiceAt H' d → FmAt H' (.ref r) fm → FmOk fm → (∀ j ∈ fm.jobs, j ∈ js) → (k = 0 → ∃ x, fm = .atom x) → Q (.ref r) H'
abbrev nsDrawn : List Str := ["_law_dice_here", "_law_jobs", "_law_deep", "_law_parts", "_law_turn"]
theorem scDrawn : FnScope nsDrawn ["_law_dice_here", "_law_jobs", "_law_deep"] (defScope (top 58)) := ⟨rfl, rfl, rfl, by decide +kernel, rfl, by decide +kernel, by decide +kernel⟩
theorem ok_after_drawn {n : Nat} {f g1 g2 g3 : Addr} {fd d1 d2 d3 : FuncData} (D : Def K mg "_law_after_drawn" 58 ["_law_dice_here", "_law_jobs", "_law_deep"] f fd) (T : Bs mg) (DR : Def K mg "_law_roll" 50 ["_law_dice_here", "_law_total"] g1 d1) (GR : FnOk P w K mg base CX0 1 g1 d1 ["_law_dice_here", "_law_total"] spRoll)
    (DP : Def K mg "_law_pick" 51 ["_law_dice_here", "_law_items"] g2 d2) (GP : FnOk P w K mg base CX0 2 g2 d2 ["_law_dice_here", "_law_items"] (spPick K)) (DA : Def K mg "_law_after_atom" 57 ["_law_dice_here", "_law_jobs"] g3 d3) (GA : FnOk P w K mg base CX0 3 g3 d3 ["_law_dice_here", "_law_jobs"] (spAA K))
    (GS : FnOk P w K mg base CX0 (3 + n) f fd ["_law_dice_here", "_law_jobs", "_law_deep"] (spDrawn K n)) : FnOk P w K mg base CX0 (3 + n + 1) f fd ["_law_dice_here", "_law_jobs", "_law_deep"] (spDrawn K (n + 1)) := by
  refine D.F.ok scDrawn (fun vs H Q E h => ?_) (fun cdv A outer s H vs Q E hr h => ?_)
  · obtain ⟨d, a, js, k, rfl, _⟩ := h
    rfl
  obtain ⟨d, a, js, k, rfl, hkn, hk1, hd, ha, ne, hj, hl, rng, q⟩ := h
  refine ⟨_, pss_cons (ps_if (PW.pt (pw_or (pt_cmpR op_le (pv 2) pe_int (nomark _)) (pw_or1 (pt_cmpR op_eq (pe_callD DR GR (hr.mono (by omega)) (pa_cons (pv 0) (pa_cons pe_int pa_nil))) pe_int (nomark _))))) (pss_one (ps_ret (pe_callD DA GA (hr.mono (by omega)) (pa_cons (pv 0) (pa_cons (pv 1) pa_nil))))) pss_nil)
    (pss_cons (ps_setLc (i := 3) (own := [("_law_turn", 4)]) (g := gName 4) rfl scDrawn.nd rfl rfl (sw_true rfl rfl rfl (by decide +kernel)) (pi_range1 rfl T.range (pa_cons (pe_op op_add pe_int (pe_callD DR GR (hr.mono (by omega)) (pa_cons (pv 0) (pa_cons pe_int pa_nil)))) pa_nil)) (blkOk_by (N := nsDrawn) (sc := defScope (top 58)) (by decide +kernel))
      (fun _ _ _ _ _ => pg_name (i := 4) scDrawn.nd rfl (Or.inl rfl)) (fun _ _ _ _ _ => pts_nil) (fun _ _ _ _ _ => pe_callD D GS hr (pa_cons (pv 0) (pa_cons (pv 1) (pa_cons (pe_op op_sub (pv 2) pe_int) pa_nil)))))
    (pss_one (ps_ret (pe_tup (pa_cons (pe_callD DP GP (hr.mono (by omega)) (pa_cons (pv 0) (pa_cons (pe_lst (pa_cons pe_str (pa_cons pe_str (pa_cons pe_str pa_nil)))) pa_nil))) (pa_cons (pe_callTy call_tuple_of rfl T.tuple (by decide +kernel) (pa_cons (pv 3) pa_nil)) pa_nil)))))), ?_⟩
  have atom : ∀ H1, Off d H H1 → DiceAt H1 d → spAA K [.ref d, .ref a] H1 Q E0 := fun H1 o1 hd1 =>
    ⟨d, a, js, rfl, hd1, offL o1 ne ha, ne, hj, hl, fun r x H2 hx o2 hd2 h2 => q r (.atom x) H2 (o1.trans o2) hd2 ⟨r, rfl, h2⟩ (rng _ hx) (fun j hj' => by
      have : j = x.2 := by simpa [Fm.jobs, Fm.atoms] using hj'
      rw [this]
      exact hx) fun _ => ⟨x, rfl⟩⟩
  refine ⟨_, rfl, _, _, rfl, rfl, _, rfl, ?_⟩
  refine ite2 (fun c => ⟨_, rfl, _, rfl, atom H (Off.refl _ _) hd⟩) (fun c => ?_)
  have ek : k = 1 := by
    have c' : ¬ ((k : Int) ≤ 0) := of_decide_eq_false (Bool.eq_false_iff.mpr c)
    omega
  refine ⟨_, rfl, d, 3, rfl, hd, by decide, by decide, fun r H1 _ _ o1 hd1 => ?_⟩
  refine ⟨rfl, _, rfl, ?_⟩
  refine ite2 (fun c => ⟨_, rfl, _, rfl, atom H1 o1 hd1⟩) (fun c => ?_)
  refine ⟨_, rfl, d, 2, rfl, hd1, by decide, by decide, fun r2 H2 h0 h2 o2 hd2 => ?_⟩
  refine ⟨_, _, rfl, rfl, 2 + r2, rfl, by omega, by omega, fun D2 hD2 => ?_⟩
  have o12 := o1.trans o2
  have nD := hd2.ne hD2
  obtain ⟨m, hm⟩ : ∃ m : Nat, (2 + r2).toNat = m ∧ 2 ≤ m ∧ m ≤ 3 := ⟨(2 + r2).toNat, rfl, by omega, by omega⟩
  rw [hm.1]
  refine lc_range (lo := 0) (n := m) (fun i H3 => Off d H2 H3 ∧ DiceAt H3 d ∧ ∃ acc ats, H3 D2 = some (.lst acc) ∧ AtsAt H3 acc ats ∧ ats.length = i ∧ ∀ x ∈ ats, x.2 ∈ js) ⟨Off.same (same_new hD2 _), hd2.upd nD, [], [], upd_same, .nil, rfl, fun x hx => by cases hx⟩ (fun i H3 hi h3 => ?_) (fun H3 h3 => ?_)
  · obtain ⟨o3, hd3, acc, ats, hA, hats, lats, jats⟩ := h3
    have o13 := o12.trans o3
    refine ⟨rfl, _, rfl, _, rfl, _, rfl, _, _, rfl, rfl, d, a, js, 0, ?_, by omega, by decide, hd3, offL o13 ne ha, ne, hj, hl, rng, fun r4 fm H4 o4 hd4 hf4 ok4 j4 at4 => ?_⟩
    · rw [ek]
      rfl
    · obtain ⟨x, rfl⟩ := at4 rfl
      have hA4 := o4 _ _ nD hA
      have t34 := off_tups hd3 o4
      have tu := tups_upd (o := .lst (acc ++ [.ref r4])) hA4
      refine ⟨acc, hA4, ?_, (o3.trans o4).over hD2, hd4.upd nD, acc ++ [.ref r4], ats ++ [x], upd_same, ?_, by rw [List.length_append, lats]; rfl, fun y hy => ?_⟩
      · have := Paired.length hats
        exact small1000 (by omega)
      · exact paired_snoc ((show AtAt H4 (.ref r4) x from hf4).tups tu) ((hats.tups t34).tups tu)
      · rcases List.mem_append.mp hy with hy | hy
        · exact jats y hy
        · rw [List.mem_singleton.mp hy]
          exact j4 x.2 (by simp [Fm.jobs, Fm.atoms])
  · obtain ⟨o3, hd3, acc, ats, hA, hats, lats, jats⟩ := h3
    refine ⟨_, rfl, by show 3 ≤ sizeLine; decide, fun l hl' => ?_⟩
    have nl := hd3.ne hl'
    refine ⟨d, l, [V.str "and", .str "and", .str "or"], rfl, hd3.upd nl, SqL.of upd_same, nl, by decide, by decide, fun x H4 hx o4 hd4 => ?_⟩
    have o34 : Off d H3 H4 := (Off.same (same_new hl' _)).trans o4
    obtain ⟨c, rfl⟩ : ∃ c, x = V.str (cS c) := by
      simp only [List.mem_cons, List.not_mem_nil, or_false] at hx
      rcases hx with rfl | rfl | rfl
      · exact ⟨true, rfl⟩
      · exact ⟨true, rfl⟩
      · exact ⟨false, rfl⟩
    have hA4 := o34 _ _ nD hA
    refine ⟨_, rfl, D2, acc, rfl, .inl ⟨SqL.of hA4, fun b hb => ?_⟩⟩
    have sb := same_new hb (.tup acc)
    refine ⟨by show 2 ≤ sizeLine; decide, fun t ht => ?_⟩
    have st := same_new ht (.tup [.str (cS c), .ref b])
    have s5 := sb.trans st
    have hd5 := hd4.same s5
    refine q t (.node c ats) _ ((o12.trans (o3.trans o34)).trans (Off.same s5)) hd5 ⟨t, b, acc, rfl, upd_same, st _ _ upd_same, (hats.tups (off_tups hd3 o34)).same s5⟩ ⟨fun x hx => rng _ (jats x hx), by omega, by omega⟩ (fun j hj' => ?_) (fun z => by omega)
    obtain ⟨x, hx, rfl⟩ := List.mem_map.mp hj'
    exact jats x hx
theorem ok_drawn2 {f g1 g2 g3 : Addr} {fd d1 d2 d3 : FuncData} (D : Def K mg "_law_after_drawn" 58 ["_law_dice_here", "_law_jobs", "_law_deep"] f fd) (T : Bs mg) (DR : Def K mg "_law_roll" 50 ["_law_dice_here", "_law_total"] g1 d1) (GR : FnOk P w K mg base CX0 1 g1 d1 ["_law_dice_here", "_law_total"] spRoll)
    (DP : Def K mg "_law_pick" 51 ["_law_dice_here", "_law_items"] g2 d2) (GP : FnOk P w K mg base CX0 2 g2 d2 ["_law_dice_here", "_law_items"] (spPick K)) (DA : Def K mg "_law_after_atom" 57 ["_law_dice_here", "_law_jobs"] g3 d3) (GA : FnOk P w K mg base CX0 3 g3 d3 ["_law_dice_here", "_law_jobs"] (spAA K)) :
    FnOk P w K mg base CX0 5 f fd ["_law_dice_here", "_law_jobs", "_law_deep"] (spDrawn K 2) :=
  ok_after_drawn (n := 1) D T DR GR DP GP DA GA (ok_after_drawn (n := 0) D T DR GR DP GP DA GA (ok_none fun vs H Q E h => by
    obtain ⟨d, a, js, k, _, h, _⟩ := h
    omega))
/-- the drawn states of known jobs -/
def spKD (K : PySem.W.Frag) : Sp := fun vs H Q _ => ∃ (d a : Addr) (js : List Int), vs = [.ref d, .ref a] ∧ DiceAt H d ∧ SqL K H a (js.map V.int) ∧ a ≠ d ∧ js.Nodup ∧ js.length ≤ 100 ∧
  ∀ (r : Addr) (kv : List (Int × Sg)) (H' : Hp), Off d H H' → DiceAt H' d → H r = none → r ≠ d → H' r = some (.dK (kvS kv)) → kv.map (·.1) = js → Q (.ref r) H'
abbrev nsKD : List Str := ["_law_dice_here", "_law_jobs", "_law_states", "_law_number"]
theorem scKD : FnScope nsKD ["_law_dice_here", "_law_jobs"] (defScope (top 59)) := ⟨rfl, rfl, rfl, by decide +kernel, rfl, by decide +kernel, by decide +kernel⟩
/-- pairs (job, state), each a tuple -/
abbrev PrAt (H : Hp) (ps : List Addr) (kv : List (Int × Sg)) : Prop := Paired (fun t p => H t = some (.tup [.int p.1, sV p.2])) ps kv
theorem PrAt.tups {H H' : Hp} (s : Tups H H') {ps : List Addr} {kv : List (Int × Sg)} (h : PrAt H ps kv) : PrAt H' ps kv := paired_mono (fun _ _ r => s _ _ r) h
theorem pr_dict {K : PySem.W.Frag} {H : Hp} {ps : List Addr} {kv : List (Int × Sg)} (h : PrAt H ps kv) : Paired (fun p (kv : Key × V) => SqT K H p [kV kv.1, kv.2]) ps (kvS kv) := by
  induction h with
  | nil => exact .nil
  | cons r t ih => exact .cons (SqT.of r) ih
theorem ok_known_drawn {f g1 g2 : Addr} {fd d1 d2 : FuncData} (D : Def K mg "_law_known_drawn" 59 ["_law_dice_here", "_law_jobs"] f fd) (T : Bs mg) (DP : Def K mg "_law_pick" 51 ["_law_dice_here", "_law_items"] g1 d1) (GP : FnOk P w K mg base CX0 2 g1 d1 ["_law_dice_here", "_law_items"] (spPick K))
    (DS : Def K mg "_law_all_states" 52 [] g2 d2) (GS : FnOk P w K mg base CX0 1 g2 d2 [] spStatesL) : FnOk P w K mg base CX0 3 f fd ["_law_dice_here", "_law_jobs"] (spKD K) := by
  refine D.F.ok scKD (fun vs H Q E h => ?_) (fun cdv A outer s H vs Q E hr h => ?_)
  · obtain ⟨d, a, js, rfl, _⟩ := h
    rfl
  obtain ⟨d, a, js, rfl, hd, ha, ne, nd, hl, q⟩ := h
  refine ⟨_, pss_cons (ps_set (i := 2) scKD.nd rfl (Or.inr rfl) (pe_op op_cat (pe_lst (pa_cons pe_str (pa_cons pe_str (pa_cons pe_str pa_nil)))) (pe_callD0 DS GS (hr.mono (by decide)))))
    (pss_one (ps_ret (pe_callTy (call_dictP rfl) rfl T.dict (by decide +kernel) (pa_cons (pe_lc (own := [("_law_number", 3)]) (g := gName 3) rfl scKD.nd (pi_list (pv 1)) (blkOk_by (N := nsKD) (sc := defScope (top 59)) (by decide +kernel))
      (fun _ _ _ _ _ => pg_name (i := 3) scKD.nd rfl (Or.inl rfl)) (fun _ _ _ _ _ => pts_nil) (fun _ _ _ _ _ => pe_tup (pa_cons (pv 3) (pa_cons (pe_callD DP GP hr (pa_cons (pv 0) (pa_cons (pv 2) pa_nil))) pa_nil)))) pa_nil)))), ?_⟩
  refine ⟨by show 3 ≤ sizeLine; decide, fun l1 h1 => ?_⟩
  refine ⟨rfl, fun l2 H2 s2 n2 h2 => ?_⟩
  have h12 : H2 l1 = some (.lst [sV .waiting, sV .waiting, sV .begun]) := s2 _ _ upd_same
  refine ⟨l1, l2, _, _, rfl, rfl, h12, h2, by show 3 + 7 ≤ sizeLine; decide, fun l3 h3 => ?_⟩
  have s3 : Same H (upd H2 l3 (.lst ([sV .waiting, sV .waiting, sV .begun] ++ allSg.map sV))) := (same_new h1 _).trans (s2.trans (same_new h3 _))
  have hl3 : (upd H2 l3 (.lst ([sV .waiting, sV .waiting, sV .begun] ++ allSg.map sV))) l3 = some (.lst ((([Sg.waiting, Sg.waiting, Sg.begun] : List Sg) ++ allSg).map sV)) := upd_same
  have nl3 : l3 ≠ d := (hd.same ((same_new h1 (.lst [sV .waiting, sV .waiting, sV .begun])).trans s2)).ne h3
  generalize upd H2 l3 (.lst ([sV .waiting, sV .waiting, sV .begun] ++ allSg.map sV)) = H3 at *
  have hd3 := hd.same s3
  refine ⟨_, rfl, a, rfl, ⟨_, s3.seq ha⟩, fun D2 hD2 => ?_⟩
  have nD := hd3.ne hD2
  refine lc_list (K := K) (a := a) (xs := js.map V.int) (fun i H4 => Off d H3 H4 ∧ DiceAt H4 d ∧ ∃ ps kv, H4 D2 = some (.lst (ps.map V.ref)) ∧ PrAt H4 ps kv ∧ kv.map (·.1) = js.take i) ⟨Off.same (same_new hD2 _), hd3.upd nD, [], [], upd_same, .nil, rfl⟩
    (fun i H4 _ h4 => offL h4.1 ne (s3.seq ha)) (fun i x H4 hx h4 => ?_) (fun H4 h4 => ?_)
  · obtain ⟨o4, hd4, ps, kv, hA, hp, ek⟩ := h4
    rw [List.getElem?_map] at hx
    obtain ⟨j, hj, rfl⟩ := Option.map_eq_some_iff.mp hx
    refine ⟨rfl, _, rfl, _, rfl, _, rfl, d, l3, _, rfl, hd4, SqL.of (o4 _ _ nl3 hl3), nl3, by decide, by decide, fun x H5 hx5 o5 hd5 => ?_⟩
    obtain ⟨e, _, rfl⟩ := List.mem_map.mp hx5
    refine ⟨by show 2 ≤ sizeLine; decide, fun t ht => ?_⟩
    have st := same_new ht (.tup [.int j, sV e])
    have hA5 := o5 _ _ nD hA
    have hA6 := st _ _ hA5
    have tu := tups_upd (o := .lst (ps.map V.ref ++ [.ref t])) hA6
    have l1' := Paired.length hp
    have l2' := congrArg List.length ek
    rw [List.length_map, List.length_take] at l2'
    refine ⟨ps.map V.ref, hA6, ?_, ((o4.trans o5).trans (Off.same st)).over hD2, (hd5.same st).upd nD, ps ++ [t], kv ++ [(j, e)], ?_, ?_, ?_⟩
    · rw [List.length_map]
      exact small1000 (by omega)
    · rw [upd_same, List.map_append]
      rfl
    · have z := tu t [.int j, sV e] upd_same
      exact paired_snoc (R := fun t2 p => (upd (upd H5 t (.tup [.int j, sV e])) D2 (.lst (ps.map V.ref ++ [.ref t]))) t2 = some (.tup [.int p.1, sV p.2])) (a := t) (b := (j, e)) z (((hp.tups (off_tups hd4 o5)).tups (tups_of st)).tups tu)
    · rw [List.map_append, ek, List.take_succ, hj]
      rfl
  · obtain ⟨o4, hd4, ps, kv, hA, hp, ek⟩ := h4
    rw [List.length_map, List.take_length] at ek
    refine ⟨D2, ps, kvS kv, rfl, SqL.of hA, pr_dict hp, fun r hr => ?_⟩
    have of3 : Off d H H4 := (Off.same s3).trans o4
    have hn : H r = none := by
      cases e : H r with
      | none => rfl
      | some u =>
        by_cases z : r = d
        · obtain ⟨a', b', c', _, h'⟩ := hd4
          rw [z, h'] at hr
          cases hr
        · have := of3 _ _ z e
          rw [hr] at this
          cases this
    have nr := hd4.ne hr
    exact q r kv _ (of3.new hr) (hd4.upd nr) hn nr (by rw [upd_same, mergeK_app (by rw [List.nil_append, kvS_keys, ek]; exact nodup_inl nd)]; rfl) ek
end
end Ts

set_option Elab.async false
set_option linter.all false
set_option maxRecDepth 100000
set_option maxHeartbeats 4000000
/-! Law defs 4: all outcomes. -/
namespace Ts
open PySem L2
theorem imp_PE {X : Cx} {e : Expr} {t t' : TE} (h : PE X e t) (i : ∀ σ H Q, t' σ H Q → t σ H Q) : PE X e t' := ⟨fun pins s σ H Q I q => h.run pins s σ H Q I (i σ H Q q)⟩
theorem call_dictPK {X : Cx} (K : PySem.W.Frag) (hc : X.calm = true := by rfl) (hK : X.K = K := by rfl) : CallR X (.type "dict") (fun xs H Q => ∃ (a : Addr) (ps : List Addr) (kvs : List (Key × V)), xs = [.ref a] ∧ SqL K H a (ps.map V.ref) ∧ Paired (fun p kv => SqT K H p [kV kv.1, kv.2]) ps kvs ∧
    ∀ p, H p = none → Q (.ref p) (upd H p (.dK (mergeK [] kvs)))) := by
  subst hK
  exact call_dictP hc
theorem pr_of {H : Hp} : ∀ {kv : List (Int × Sg)} {ts : List Addr}, Paired (fun (t : Addr) (q : Key × V) => H t = some (.tup [kV q.1, q.2])) ts (kvS kv) → PrAt H ts kv
  | [], _, h => by cases h; exact .nil
  | p :: r, _, h => by
    cases h with
    | cons h1 h2 => exact .cons h1 (pr_of h2)
theorem pr_app {H : Hp} {us : List Addr} {m : List (Int × Sg)} (h2 : PrAt H us m) : ∀ {ts : List Addr} {kv : List (Int × Sg)}, PrAt H ts kv → PrAt H (ts ++ us) (kv ++ m)
  | _, _, .nil => h2
  | _, _, .cons r t => .cons r (pr_app h2 t)
theorem mergeK_snoc (kvs more : List (Key × V)) (p : Key × V) : mergeK kvs (more ++ [p]) = putK (mergeK kvs more) p.1 p.2 := by
  unfold mergeK
  rw [List.foldl_append]
  rfl
theorem kvS_app (a b : List (Int × Sg)) : kvS (a ++ b) = kvS a ++ kvS b := by
  unfold kvS
  rw [List.map_append]
theorem merge_new {kv : List (Int × Sg)} {n : Int} {e : Sg} (h : (kv.map (·.1)).Nodup) (hn : n ∉ kv.map (·.1)) : mergeK [] (kvS (kv ++ [(n, e)])) = kvS (kv ++ [(n, e)]) := by
  refine mergeK_kvS ?_
  rw [List.map_append, List.nodup_append]
  refine ⟨h, by simp, fun a ha b hb z => ?_⟩
  have hb : b = n := by simpa using hb
  rw [z, hb] at ha
  exact hn ha
theorem merge_old {kv : List (Int × Sg)} {n : Int} {e : Sg} (h : (kv.map (·.1)).Nodup) (hn : n ∈ kv.map (·.1)) : mergeK [] (kvS (kv ++ [(n, e)])) = kvS (putS kv n e) := by
  rw [kvS_app]
  show mergeK [] (kvS kv ++ [(Sum.inl n, sV e)]) = _
  rw [mergeK_snoc, mergeK_kvS h]
  show putK (kvS kv) (Sum.inl n) (sV e) = _
  unfold putK
  have ha : ((kvS kv).any fun q => decide (q.1 = (Sum.inl n : Key))) = true := by
    rw [List.any_eq_true]
    obtain ⟨p, hp, rfl⟩ := List.mem_map.mp hn
    exact ⟨(Sum.inl p.1, sV p.2), List.mem_map.mpr ⟨p, hp, rfl⟩, decide_eq_true rfl⟩
  rw [if_pos ha]
  unfold kvS putS
  rw [List.map_map, List.map_map]
  refine List.map_congr_left fun p _ => ?_
  show (if (Sum.inl p.1 : Key) = Sum.inl n then ((Sum.inl p.1 : Key), sV e) else (Sum.inl p.1, sV p.2)) = _
  by_cases z : p.1 = n
  · have z2 : (Sum.inl p.1 : Key) = Sum.inl n := congrArg Sum.inl z
    rw [if_pos z2]
    show _ = ((Sum.inl (if p.1 = n then (n, e) else p).1 : Key), sV (if p.1 = n then (n, e) else p).2)
    rw [if_pos z, z]
  · have z2 : ¬ (Sum.inl p.1 : Key) = Sum.inl n := fun y => z (Sum.inl.inj y)
    rw [if_neg z2]
    show _ = ((Sum.inl (if p.1 = n then (n, e) else p).1 : Key), sV (if p.1 = n then (n, e) else p).2)
    rw [if_neg z]
/-- dicts of states, each at its place -/
abbrev DsAt (H : Hp) (xs : List V) (L : List (List (Int × Sg))) : Prop := Paired (fun v kv => ∃ p, v = V.ref p ∧ H p = some (.dK (kvS kv))) xs L
theorem DsAt.same {H H' : Hp} (s : Same H H') {xs : List V} {L : List (List (Int × Sg))} (h : DsAt H xs L) : DsAt H' xs L := paired_mono (fun _ _ r => let ⟨p, e, h⟩ := r; ⟨p, e, s _ _ h⟩) h
theorem DsAt.off {a : Addr} {ys : List V} {H H' : Hp} (ha : H a = some (.lst ys)) (o : Off a H H') {xs : List V} {L : List (List (Int × Sg))} (h : DsAt H xs L) : DsAt H' xs L :=
  paired_mono (fun _ _ r => let ⟨p, e, h⟩ := r; ⟨p, e, o _ _ (ne_of h ha (by intro z; cases z)) h⟩) h
theorem dsat_updL {H : Hp} {D : Addr} {ys : List V} {o : HO} (hD : H D = some (.lst ys)) {xs : List V} {L : List (List (Int × Sg))} (h : DsAt H xs L) : DsAt (upd H D o) xs L := h.off hD Off.upd
theorem paired_app {α β : Type} {R : α → β → Prop} {us : List α} {m : List β} (h2 : Paired R us m) : ∀ {ts : List α} {kv : List β}, Paired R ts kv → Paired R (ts ++ us) (kv ++ m)
  | _, _, .nil => h2
  | _, _, .cons r t => .cons r (paired_app h2 t)
/-- where the ends of a job come from -/
def tSrc (K : PySem.W.Frag) : TE := fun σ H Q => ∃ (dk a : Addr) (kn : List (Int × Sg)) (hs : List Int) (n : Int) (e : Sg), σ[0]? = some (some (.ref dk)) ∧ σ[1]? = some (some (.ref a)) ∧ σ[3]? = some (some (.int n)) ∧ H dk = some (.dK (kvS kn)) ∧ kn.lookup n = some e ∧ SqT K H a (hs.map V.int) ∧
  ∀ p H2, Same H H2 → H2 p = some (.lst ((posOf (stL kn) hs [] n).map sV)) → Q (.ref p) H2
theorem src_imp {K : PySem.W.Frag} (σ : L2.St) (H : Hp) (Q : VK) (h : tSrc K σ H Q) : tIf (tTest (tOp (rIn K false) (tVar 3) (tVar 1))) (tLst (tCons (tC (.str "waiting")) tNil)) (tCall spEndsL [] E0 (tCons (tDGet (tVar 0) (tVar 3)) tNil)) σ H Q := by
  obtain ⟨dk, a, kn, hs, n, e, h0, h1, h3, hk, hl, ha, q⟩ := h
  refine ⟨_, h3, _, h1, a, _, rfl, .inr ha, rfl, flat_ints hs, _, rfl, ?_⟩
  have z : (if false = true then !inV (V.int n) (hs.map V.int) else inV (V.int n) (hs.map V.int)) = decide (n ∈ hs) := by rw [if_neg (by decide), inV_ints]
  rw [z]
  have st : stL kn n = e := by unfold stL; rw [hl]; rfl
  by_cases hn : n ∈ hs
  · have ep : posOf (stL kn) hs [] n = [Sg.waiting] := by
      show (if n ∈ hs then [Sg.waiting] else ends (stL kn n)) = _
      rw [if_pos hn]
    rw [ep] at q
    rw [decide_eq_true hn]
    exact ⟨by show 1 ≤ sizeLine; decide, fun l hl' => q l _ (same_new hl' _) upd_same⟩
  · have ep : posOf (stL kn) hs [] n = ends e := by
      show (if n ∈ hs then [Sg.waiting] else ends (stL kn n)) = _
      rw [if_neg hn, st]
    rw [ep] at q
    rw [decide_eq_false hn]
    exact ⟨_, h0, _, h3, dk, _, rfl, dget_kvS hk hl, e, rfl, fun r H' s _ h' => q r H' s h'⟩
section
variable {P : Program} {w : World} {K : PySem.W.Frag} {mg : Str → Option Value} {base : Heap}
def spOuts (K : PySem.W.Frag) : Sp := fun vs H Q _ => ∃ (dk a : Addr) (kn : List (Int × Sg)) (hs : List Int), vs = [.ref dk, .ref a] ∧ H dk = some (.dK (kvS kn)) ∧ (kn.map (·.1)).Pairwise (· < ·) ∧ kn.length ≤ 3 ∧ SqT K H a (hs.map V.int) ∧
  ∀ (r : Addr) (xs : List V) (H' : Hp), Same H H' → H' r = some (.lst xs) → DsAt H' xs (outsL (posOf (stL kn) hs []) (kn.map (·.1))) → Q (.ref r) H'
abbrev nsOuts : List Str := ["_law_known", "_law_held", "_law_found", "_law_number", "_law_later", "_law_end", "_law_one"]
theorem scOuts : FnScope nsOuts ["_law_known", "_law_held"] (defScope (top 60)) := ⟨rfl, rfl, rfl, by decide +kernel, rfl, by decide +kernel, by decide +kernel⟩
theorem ok_outcomes {f g : Addr} {fd gd : FuncData} (D : Def K mg "_law_outcomes" 60 ["_law_known", "_law_held"] f fd) (T : Bs mg) (DE : Def K mg "_law_ends_behind" 53 ["_law_state"] g gd) (GE : FnOk P w K mg base CX0 1 g gd ["_law_state"] spEndsL) : FnOk P w K mg base CX0 2 f fd ["_law_known", "_law_held"] (spOuts K) := by
  refine D.F.ok scOuts (fun vs H Q E h => ?_) (fun cdv A outer s H vs Q E hr h => ?_)
  · obtain ⟨dk, a, kn, hs, rfl, _⟩ := h
    rfl
  obtain ⟨dk, a, kn, hs, rfl, hk, asc, l3, ha, q⟩ := h
  have hu := hu_of hr
  refine ⟨_, pss_cons (ps_set (i := 2) scOuts.nd rfl (Or.inl rfl) (pe_lst (pa_cons pe_dnewK pa_nil)))
    (pss_cons (ps_for PassesOwn.never rfl (pi_list (pe_callB (call_sortedDI rfl) rfl T.sorted (by decide +kernel) (pa_cons (pv 0) pa_nil))) (pg_name (i := 3) scOuts.nd rfl (Or.inr rfl))
      (pss_cons (ps_set (i := 4) scOuts.nd rfl (Or.inl rfl) (pe_lst pa_nil))
      (pss_cons (ps_for PassesOwn.never rfl (pi_list (imp_PE (t' := tSrc K) (pe_ifExp (pt_cmpR (op_inK K) (pv 3) (pv 1) (by rfl)) (pe_lst (pa_cons pe_str pa_nil)) (pe_callD DE GE hr (pa_cons (pe_dget hu (pv 0) (pv 3) (fun _ _ => rfl)) pa_nil))) src_imp)) (pg_name (i := 5) scOuts.nd rfl (Or.inr rfl))
        (pss_one (ps_expr (pe_bm PySem.F.plainAttrs_list PySem.F.slot_list_extend PySem.F.type_list_extend mt_extend (pv 4) (pa_cons (pe_lc (own := [("_law_one", 6)]) (g := gName 6) rfl scOuts.nd (pi_list (pv 2)) (blkOk_by (N := nsOuts) (sc := defScope (top 60)) (by decide +kernel))
          (fun _ _ _ _ _ => pg_name (i := 6) scOuts.nd rfl (Or.inl rfl)) (fun _ _ _ _ _ => pts_nil) (fun _ _ _ _ _ => pe_callTy (call_dictPK K) rfl T.dict (by decide +kernel) (pa_cons (pe_op op_cat (LiI.pe_listItems rfl (pv 6) rfl T.list (by decide +kernel)) (pe_lst (pa_cons (pe_tup (pa_cons (pv 3) (pa_cons (pv 5) pa_nil))) pa_nil))) pa_nil))) pa_nil)))))
      (pss_one (ps_set (i := 2) scOuts.nd rfl (Or.inl rfl) (pv 4))))))
    (pss_one (ps_ret (pv 2)))), ?_⟩
  intro p0 hp0
  refine ⟨by show 1 ≤ sizeLine; decide, fun fa hfa => ?_⟩
  have s0 := (same_new hp0 (.dK [])).trans (same_new hfa (.lst [.ref p0]))
  have hfa0 : (upd (upd H p0 (.dK [])) fa (.lst [.ref p0])) fa = some (.lst [.ref p0]) := upd_same
  have hp00 : (upd (upd H p0 (.dK [])) fa (.lst [.ref p0])) p0 = some (.dK (kvS [])) := same_new hfa _ _ _ upd_same
  generalize upd (upd H p0 (.dK [])) fa (.lst [.ref p0]) = H0 at *
  refine ⟨_, rfl, dk, kvS kn, kn.map (·.1), rfl, .of (s0 _ _ hk), kvS_keys kn, by rw [List.length_map]; omega, fun ys sl perm srt hsl => ?_⟩
  have ey : ys = kn.map (·.1) := List.Perm.eq_of_pairwise (fun _ _ _ _ a b => Int.le_antisymm a b) srt (asc.imp fun h => Int.le_of_lt h) perm
  subst ey
  have s1 := s0.trans (same_new hsl (.lst ((kn.map (·.1)).map V.int)))
  have hsl1 : (upd H0 sl (.lst ((kn.map (·.1)).map V.int))) sl = some (.lst ((kn.map (·.1)).map V.int)) := upd_same
  have hfa1 := same_new hsl (.lst ((kn.map (·.1)).map V.int)) _ _ hfa0
  have hp01 := same_new hsl (.lst ((kn.map (·.1)).map V.int)) _ _ hp00
  generalize upd H0 sl (.lst ((kn.map (·.1)).map V.int)) = Hb at *
  have nd : (kn.map (·.1)).Nodup := asc.imp fun h e => by omega
  have look : ∀ n ∈ kn.map (·.1), ∃ e, kn.lookup n = some e := fun n hn => let ⟨e, h, _⟩ := lookup_in hn; ⟨e, h⟩
  have ln : (kn.map (·.1)).length ≤ 3 := by rw [List.length_map]; exact l3
  generalize hns : kn.map (·.1) = ns at *
  have cnt : ∀ i, i ≤ ns.length → (outsL (posOf (stL kn) hs []) (ns.take i)).length ≤ 125 := fun i hi => by
    have h1 := outs_count (pos := posOf (stL kn) hs []) (ns := ns.take i) (acc := [[]]) (fun n _ => pos_len _ _ _)
    rw [List.length_take, Nat.min_eq_left hi] at h1
    have h2 : 5 ^ i ≤ 5 ^ 3 := Nat.pow_le_pow_right (by decide) (by omega)
    simp only [List.length_singleton, Nat.mul_one] at h1
    exact Nat.le_trans h1 h2
  refine ⟨sl, rfl, ⟨_, SqL.of hsl1⟩, ?_⟩
  refine for_list (K := K) (xs := ns.map V.int) (fun i σ H2 => (∃ o3 o4 o5 fa, σ = [some (.ref dk), some (.ref a), some (.ref fa), o3, o4, o5, none] ∧ ∃ xs, H2 fa = some (.lst xs) ∧ DsAt H2 xs (outsL (posOf (stL kn) hs []) (ns.take i))) ∧ Same Hb H2)
    ⟨⟨none, none, none, fa, rfl, _, hfa1, .cons ⟨p0, rfl, hp01⟩ .nil⟩, same_refl _⟩ (fun i σ H2 _ h => SqL.of (h.2 _ _ hsl1)) (fun i x σ H2 hx h => ?_) (fun σ H2 h => ?_)
  · obtain ⟨⟨o3, o4, o5, fa, rfl, xs, hfa2, hds⟩, s2⟩ := h
    rw [List.getElem?_map] at hx
    obtain ⟨n, hn, rfl⟩ := Option.map_eq_some_iff.mp hx
    have hi : i < ns.length := (List.getElem?_eq_some_iff.mp hn).1
    have hnm : n ∈ ns := List.mem_of_getElem? hn
    obtain ⟨e0, he0⟩ := look n hnm
    have tk : ns.take (i + 1) = ns.take i ++ [n] := by
      rw [List.take_succ, hn]
      rfl
    have hnk : n ∉ ns.take i := fun z => by
      have nd2 : (ns.take (i + 1)).Nodup := nd.sublist (List.take_sublist _ _)
      rw [tk, List.nodup_append] at nd2
      exact nd2.2.2 n z n (by simp) rfl
    have cn := cnt i (Nat.le_of_lt hi)
    have hLk : ∀ kv ∈ outsL (posOf (stL kn) hs []) (ns.take i), kv.map (·.1) = ns.take i := fun kv h => (outsL_mem.mp h).1
    have eS : outsL (posOf (stL kn) hs []) (ns.take (i + 1)) = (posOf (stL kn) hs [] n).flatMap fun e => (outsL (posOf (stL kn) hs []) (ns.take i)).map fun kv => kv ++ [(n, e)] := by
      unfold outsL
      rw [tk, List.foldl_append]
      rfl
    have pne := posOf_ne (stL kn) hs [] n
    have pl := pos_len (stL kn) hs n
    rw [eS]
    generalize outsL (posOf (stL kn) hs []) (ns.take i) = L at *
    generalize hes : posOf (stL kn) hs [] n = es at *
    refine ⟨by show 0 ≤ sizeLine; decide, fun la hla => ?_⟩
    have hlaN : Hb la = none := same_none s2 hla
    have s3 := same_new hla (.lst [])
    have hla3 : (upd H2 la (.lst [])) la = some (.lst []) := upd_same
    generalize upd H2 la (.lst []) = H3 at *
    have sH : Same H H3 := s1.trans (s2.trans s3)
    refine ⟨dk, a, kn, hs, n, e0, rfl, rfl, rfl, sH _ _ hk, he0, sameT sH ha, fun p H4 s4 h4 => ?_⟩
    rw [hes] at h4
    have hla4 := s4 _ _ hla3
    have npl : p ≠ la := fun z => by
      rw [z, hla4] at h4
      have h4 : [] = es.map sV := HO.lst.inj (Option.some.inj h4)
      exact pne (List.map_eq_nil_iff.mp h4.symm)
    have hfa4 := s4 _ _ (s3 _ _ hfa2)
    have nfl : fa ≠ la := fun z => by rw [z, hla] at hfa2; cases hfa2
    have hds4 := (hds.same s3).same s4
    refine ⟨p, rfl, ⟨_, SqL.of h4⟩, ?_⟩
    refine for_list (K := K) (xs := es.map sV) (fun j σ H5 => (∃ o5, σ = [some (.ref dk), some (.ref a), some (.ref fa), some (.int n), some (.ref la), o5, none]) ∧ Off la H4 H5 ∧ ∃ acc, H5 la = some (.lst acc) ∧ DsAt H5 acc ((es.take j).flatMap fun e => L.map fun kv => kv ++ [(n, e)]))
      ⟨⟨o5, rfl⟩, Off.refl _ _, [], hla4, .nil⟩ (fun j σ H5 _ h => SqL.of (h.2.1 _ _ npl h4)) (fun j x σ H5 hx h => ?_) (fun σ H5 h => ?_)
    · obtain ⟨⟨o5', rfl⟩, o45, acc, hla5, hacc⟩ := h
      rw [List.getElem?_map] at hx
      obtain ⟨e, hej, rfl⟩ := Option.map_eq_some_iff.mp hx
      have tkj : es.take (j + 1) = es.take j ++ [e] := by
        rw [List.take_succ, hej]
        rfl
      have hfa5 := o45 _ _ nfl hfa4
      have hds5 := hds4.off hla4 o45
      refine ⟨_, rfl, .inl ⟨rfl, _, SqL.of hla5⟩, ?_⟩
      refine ⟨_, rfl, fa, rfl, ⟨_, SqL.of hfa5⟩, fun D6 hD6 => ?_⟩
      have lx : xs.length = L.length := Paired.length hds
      refine lc_list (K := K) (a := fa) (xs := xs) (fun k H6 => Same H5 H6 ∧ ∃ ds, H6 D6 = some (.lst ds) ∧ DsAt H6 ds ((L.take k).map fun kv => kv ++ [(n, e)])) ⟨same_new hD6 _, [], upd_same, .nil⟩ (fun k H6 _ h6 => SqL.of (h6.1 _ _ hfa5)) (fun k x H6 hxk h6 => ?_) (fun H6 h6 => ?_)
      · obtain ⟨s6, ds, hD, hds6⟩ := h6
        obtain ⟨kv, hkv, pk, rfl, hpk⟩ := paired_get2 hds5 hxk
        have hkL : kv ∈ L := List.mem_of_getElem? hkv
        have kk := hLk kv hkL
        have hpk6 := s6 _ _ hpk
        refine ⟨rfl, _, rfl, pk, kvS kv, rfl, hpk6, fun H7 l ts s7 nl nts nlts hl hts => ?_⟩
        refine ⟨_, rfl, _, rfl, by show 2 ≤ sizeLine; decide, fun t ht => ?_⟩
        have st := same_new ht (.tup [.int n, sV e])
        have htt : (upd H7 t (.tup [.int n, sV e])) t = some (.tup [.int n, sV e]) := upd_same
        have hl8 := st _ _ hl
        have pr8 := (pr_of hts).tups (tups_of st)
        generalize hH8 : upd H7 t (.tup [.int n, sV e]) = H8 at *
        refine ⟨by show 1 ≤ sizeLine; decide, fun l2 hl2 => ?_⟩
        have s9 := same_new hl2 (.lst [.ref t])
        have lts : ts.length = kv.length := Paired.length (pr_of hts)
        have lkv : kv.length ≤ 3 := by
          have := congrArg List.length kk
          rw [List.length_map, List.length_take] at this
          omega
        refine ⟨l, l2, _, _, rfl, rfl, s9 _ _ hl8, upd_same, by rw [List.length_map]; exact small (by show ts.length + 1 ≤ 1000; omega), fun l3 hl3 => ?_⟩
        have s10 := same_new hl3 (.lst (ts.map V.ref ++ [.ref t]))
        refine ⟨l3, ts ++ [t], kvS (kv ++ [(n, e)]), rfl, SqL.of (by rw [upd_same, List.map_append]; rfl), ?_, fun pd hpd => ?_⟩
        · exact pr_dict (pr_app (.cons (s10 _ _ (s9 _ _ htt)) .nil) ((pr8.tups (tups_of s9)).tups (tups_of s10)))
        · have mk : mergeK [] (kvS (kv ++ [(n, e)])) = kvS (kv ++ [(n, e)]) := merge_new (by rw [kk]; exact nd.sublist (List.take_sublist _ _)) (by rw [kk]; exact hnk)
          rw [mk]
          have s11 := same_new hpd (.dK (kvS (kv ++ [(n, e)])))
          have s611 : Same H6 (upd (upd (upd H8 l2 (.lst [.ref t])) l3 (.lst (ts.map V.ref ++ [.ref t]))) pd (.dK (kvS (kv ++ [(n, e)])))) := fun b u h => s11 _ _ (s10 _ _ (s9 _ _ (st _ _ (s7 _ _ h))))
          have hpd11 : (upd (upd (upd H8 l2 (.lst [.ref t])) l3 (.lst (ts.map V.ref ++ [.ref t]))) pd (.dK (kvS (kv ++ [(n, e)])))) pd = some (.dK (kvS (kv ++ [(n, e)]))) := upd_same
          generalize upd (upd (upd H8 l2 (.lst [.ref t])) l3 (.lst (ts.map V.ref ++ [.ref t]))) pd (.dK (kvS (kv ++ [(n, e)]))) = H11 at *
          have hD' := s611 _ _ hD
          have ld := Paired.length hds6
          rw [List.length_map, List.length_take] at ld
          refine ⟨ds, hD', small1000 (by omega), same_upd hD6 (s6.trans s611) _, ds ++ [.ref pd], upd_same, ?_⟩
          have tkk : L.take (k + 1) = L.take k ++ [kv] := by
            rw [List.take_succ, hkv]
            rfl
          rw [tkk, List.map_append]
          exact dsat_updL hD' (paired_snoc ⟨pd, rfl, hpd11⟩ (hds6.same s611))
      · obtain ⟨s6, ds, hD, hds6⟩ := h6
        rw [lx, List.take_length] at hds6
        have hla6 := s6 _ _ hla5
        have ld := Paired.length hds6
        have lacc := Paired.length hacc
        have lfl : ((es.take j).flatMap fun e => L.map fun kv => kv ++ [(n, e)]).length ≤ 5 * 125 := by
          have : ∀ es : List Sg, (es.flatMap fun e => L.map fun kv => kv ++ [(n, e)]).length = es.length * L.length := fun es => by
            induction es with
            | nil => simp
            | cons e r ih => rw [List.flatMap_cons, List.length_append, ih, List.length_map, List.length_cons, Nat.succ_mul, Nat.add_comm]
          rw [this, List.length_take]
          exact Nat.mul_le_mul (by omega) cn
        rw [List.length_map] at ld
        refine ⟨la, D6, acc, ds, rfl, rfl, hla6, hD, small (by omega), ⟨_, rfl⟩, (o45.trans (Off.same s6)).trans Off.upd, acc ++ ds, upd_same, ?_⟩
        rw [tkj, List.flatMap_append]
        have hrec : DsAt H6 (acc ++ ds) ((es.take j).flatMap (fun e => L.map fun kv => kv ++ [(n, e)]) ++ L.map fun kv => kv ++ [(n, e)]) := paired_app hds6 (hacc.same s6)
        have hrec2 := hrec.off hla6 (Off.upd (o := .lst (acc ++ ds)))
        simpa using hrec2
    · obtain ⟨⟨o5', rfl⟩, o45, acc, hla5, hacc⟩ := h
      rw [List.length_map, List.take_length] at hacc
      refine ⟨_, rfl, ⟨_, _, _, la, rfl, acc, hla5, hacc⟩, fun b u h => ?_⟩
      exact o45 _ _ (ne_of_none h hlaN) (s4 _ _ (s3 _ _ (s2 _ _ h)))
  · obtain ⟨⟨o3, o4, o5, fa, rfl, xs, hfa2, hds⟩, s2⟩ := h
    rw [List.length_map, List.take_length] at hds
    exact ⟨_, rfl, q fa xs H2 (s1.trans s2) hfa2 hds⟩
end
end Ts

set_option Elab.async false
set_option linter.all false
set_option maxRecDepth 100000
set_option maxHeartbeats 4000000
/-! Law defs 5: whether it comes, whether a set is stuck. -/
namespace Ts
open PySem L2
section
variable {g : TG} {te : TE} {vs : List Nat} {σ : L2.St} {H1 : Hp} {D : Addr} {Qd : Hp → Prop} {J : It} {α : Type}
/-- a list of pairs -/
theorem lc_prs (as : List α) (pr : α → Int × Sg) (hD : H1 D = none) (hn : as.length ≤ 1000) (hgo : ∀ i a H, as[i]? = some a → Same H1 H → J.go i H) (hst : ∀ H, Same H1 H → J.stop as.length H)
    (hs : ∀ (i : Nat) a H x H' (Qt : V → Hp → Prop), as[i]? = some a → Same H1 H → J.yld i H x H' → (∀ t H2, Same H H2 → H2 t = some (.tup [.int (pr a).1, sV (pr a).2]) → Qt (.ref t) H2) →
      g x (wipe σ vs) H' fun σ2 H2 => wipe σ2 vs = wipe σ vs ∧ te σ2 H2 Qt)
    (hd : ∀ H ps, Same H1 H → H D = some (.lst (ps.map V.ref)) → PrAt H ps (as.map pr) → Qd H) :
    ∃ W : Nat → Nat → Hp → Prop, (∃ m, W 0 m (upd H1 D (.lst []))) ∧ ∀ i m H, W i m H →
      (J.stop i H ∧ Qd H) ∨ (J.go i H ∧ ∃ Nx : Hp → Prop, (∀ H', Nx H' → ∃ m', m' < m ∧ W (i + 1) m' H') ∧ ∀ x H', J.yld i H x H' → g x (wipe σ vs) H' fun σ2 H2 => wipe σ2 vs = wipe σ vs ∧ tYes σ2 H2 fun b H3 =>
        if b = true then te σ2 H3 fun y H4 => ∃ acc, H4 D = some (.lst acc) ∧ acc.length < sizeLine ∧ Nx (upd H4 D (.lst (acc ++ [y]))) else Nx H3) := by
  refine ⟨fun i m H => m = as.length - i ∧ i ≤ as.length ∧ Same H1 H ∧ ∃ ps, H D = some (.lst (ps.map V.ref)) ∧ PrAt H ps ((as.take i).map pr), ⟨as.length, by simp, Nat.zero_le _, same_new hD _, [], upd_same, .nil⟩, ?_⟩
  rintro i m H ⟨rfl, hi, s1, ps, hA, hp⟩
  by_cases hlt : i < as.length
  · have ha : as[i]? = some as[i] := List.getElem?_eq_getElem hlt
    have tk : as.take (i + 1) = as.take i ++ [as[i]] := List.take_succ_eq_append_getElem hlt
    refine .inr ⟨hgo i _ H ha s1, fun H' => i + 1 ≤ as.length ∧ Same H1 H' ∧ ∃ ps, H' D = some (.lst (ps.map V.ref)) ∧ PrAt H' ps ((as.take (i + 1)).map pr), fun H' h' => ⟨as.length - (i + 1), by omega, rfl, h'⟩, fun x H' y => ?_⟩
    refine hs i _ H x H' (fun y H4 => ∃ acc, H4 D = some (.lst acc) ∧ acc.length < sizeLine ∧ (i + 1 ≤ as.length ∧ Same H1 (upd H4 D (.lst (acc ++ [y]))) ∧ ∃ ps, (upd H4 D (.lst (acc ++ [y]))) D = some (.lst (ps.map V.ref)) ∧ PrAt (upd H4 D (.lst (acc ++ [y]))) ps ((as.take (i + 1)).map pr))) ha s1 y fun t H2 s2 ht => ?_
    have hA2 := s2 _ _ hA
    have tu := tups_upd (o := .lst (ps.map V.ref ++ [.ref t])) hA2
    have l1 := Paired.length hp
    rw [List.length_map, List.length_take] at l1
    refine ⟨_, hA2, ?_, hlt, same_upd hD (s1.trans s2) _, ps ++ [t], ?_, ?_⟩
    · rw [List.length_map]
      exact small1000 (by omega)
    · rw [upd_same, List.map_append]
      rfl
    · rw [tk, List.map_append]
      exact pr_app (.cons (tu _ _ ht) .nil) ((hp.tups (tups_of s2)).tups tu)
  · have e : i = as.length := by omega
    subst e
    rw [List.take_length] at hp
    exact .inl ⟨hst H s1, hd H ps s1 hA hp⟩
end
section
variable {P : Program} {w : World} {K : PySem.W.Frag} {mg : Str → Option Value} {base : Heap}
def spComes (K : PySem.W.Frag) : Sp := fun vs H Q _ => ∃ (v : V) (dk a : Addr) (fm : Fm) (kn : List (Int × Sg)) (hs : List Int), vs = [v, .ref dk, .ref a] ∧ FmAt H v fm ∧ FmOk fm ∧ H dk = some (.dK (kvS kn)) ∧ (kn.map (·.1)).Pairwise (· < ·) ∧ kn.length ≤ 3 ∧ (∀ n, n ∈ kn.map (·.1) ↔ n ∈ fm.jobs) ∧ SqT K H a (hs.map V.int) ∧
  ∀ H', Same H H' → Q (.bl (canB fm (posOf (stL kn) hs []))) H'
abbrev nsComes : List Str := ["_law_f", "_law_known", "_law_held", "_law_one"]
theorem scComes : FnScope nsComes ["_law_f", "_law_known", "_law_held"] (defScope (top 61)) := ⟨rfl, rfl, rfl, by decide +kernel, rfl, by decide +kernel, by decide +kernel⟩
theorem ok_comes {f g1 g2 : Addr} {fd d1 d2 : FuncData} (D : Def K mg "_law_comes" 61 ["_law_f", "_law_known", "_law_held"] f fd) (DO : Def K mg "_law_outcomes" 60 ["_law_known", "_law_held"] g1 d1) (GO : FnOk P w K mg base CX0 2 g1 d1 ["_law_known", "_law_held"] (spOuts K))
    (DH : Def K mg "_law_after_holds" 55 ["_law_f", "_law_states"] g2 d2) (GH : FnOk P w K mg base CX0 3 g2 d2 ["_law_f", "_law_states"] (spHolds 2)) : FnOk P w K mg base CX0 4 f fd ["_law_f", "_law_known", "_law_held"] (spComes K) := by
  refine D.F.ok scComes (fun vs H Q E h => ?_) (fun cdv A outer s H vs Q E hr h => ?_)
  · obtain ⟨v, dk, a, fm, kn, hs, rfl, _⟩ := h
    rfl
  obtain ⟨v, dk, a, fm, kn, hs, rfl, hf, ok, hk, asc, l3, mem, ha, q⟩ := h
  refine ⟨_, pss_one (ps_ret (pe_cmpR (op_neNil hr.units) (pe_lc (own := [("_law_one", 3)]) (g := gName 3) rfl scComes.nd (pi_list (pe_callD DO GO (hr.mono (by decide)) (pa_cons (pv 1) (pa_cons (pv 2) pa_nil)))) (blkOk_by (N := nsComes) (sc := defScope (top 61)) (by decide +kernel))
    (fun _ _ _ _ _ => pg_name (i := 3) scComes.nd rfl (Or.inl rfl)) (fun _ _ _ _ _ => pts_one (pt_val (pe_callD DH GH hr (pa_cons (pv 0) (pa_cons (pv 3) pa_nil))))) (fun _ _ _ _ _ => pv 3)) (pe_lst pa_nil) (nomark _))), ?_⟩
  refine ⟨_, rfl, _, rfl, dk, a, kn, hs, rfl, hk, asc, l3, ha, fun r xs H1 s1 hr1 hds => ?_⟩
  obtain ⟨z, ez1, ez2, hz⟩ := paired_zip hds
  have hT : SqL K H1 r (z.map (·.1)) := by rw [ez1]; exact SqL.of hr1
  have cnt : z.length ≤ 125 := by
    have h1 := outs_count (pos := posOf (stL kn) hs []) (ns := kn.map (·.1)) (acc := [[]]) (fun n _ => pos_len _ _ _)
    have h2 : 5 ^ (kn.map (·.1)).length ≤ 5 ^ 3 := Nat.pow_le_pow_right (by decide) (by rw [List.length_map]; exact l3)
    have h3 : z.length = (outsL (posOf (stL kn) hs []) (kn.map (·.1))).length := by rw [← ez2, List.length_map]
    simp only [List.length_singleton, Nat.mul_one] at h1
    rw [h3]
    exact Nat.le_trans h1 h2
  refine ⟨r, rfl, ⟨_, hT⟩, fun D2 hD2 => ?_⟩
  refine lc_lstS z (·.1) (fun y => evL fm y.2) (·.1) hD2 hT (small1000 (by omega)) (fun y H2 Qt Qf hy s2 k1 k2 => ?_) fun H2 s2 h2 => ?_
  · obtain ⟨p, hp1, hp2⟩ := hz y hy
    have hm : y.2 ∈ outsL (posOf (stL kn) hs []) (kn.map (·.1)) := by rw [← ez2]; exact List.mem_map.mpr ⟨y, hy, rfl⟩
    have ek := (outsL_mem.mp hm).1
    refine ⟨rfl, _, rfl, _, rfl, v, p, fm, y.2, congrArg (fun u => [v, u]) hp1, hf.same (s1.trans s2), ok, depthF_le2 fm, s2 _ _ hp2, fun j hj => by rw [ek]; exact (mem j).mpr hj, fun H3 s3 => ?_⟩
    cases e : evL fm y.2 with
    | true => exact ⟨_, rfl, _, rfl, k1 e H3 s3⟩
    | false => exact ⟨_, rfl, k2 e H3 s3⟩
  · refine ⟨by show 0 ≤ sizeLine; decide, fun em hem => ?_⟩
    have s3 := same_new hem (.lst [])
    refine ⟨D2, em, _, rfl, rfl, SqL.of (s3 _ _ h2), SqL.of upd_same, ?_⟩
    have e : (!((z.filter fun y => evL fm y.2).map (·.1)).isEmpty) = canB fm (posOf (stL kn) hs []) := by
      rw [← comes_eq mem, ← filter_any, ← ez2, List.filter_map, List.isEmpty_map, List.isEmpty_map]
      rfl
    rw [e]
    exact q _ (s1.trans (s2.trans s3))
def spStk (K : PySem.W.Frag) : Sp := fun vs H Q _ => ∃ (dw dk a : Addr) (kvs : List (Key × V)) (ws : Ws) (kn : List (Int × Sg)) (S : List Int), vs = [.ref dw, .ref dk, .ref a] ∧ dk ≠ dw ∧ H dw = some (.dK kvs) ∧ WsAt H kvs ws ∧ WsOk ws ∧ H dk = some (.dK (kvS kn)) ∧ KnOk kn ws ∧
  SqT K H a (S.map V.int) ∧ (∀ n ∈ S, n ∈ ws.map (·.1)) ∧ S.length ≤ 10 ∧ ∀ H', Same H H' → Q (.bl (stuckB ws (stL (stOf kn ws)) S)) H'
abbrev nsStk : List Str := ["_law_wishes", "_law_known", "_law_some", "_law_number", "_law_states", "_law_named", "_law_one"]
theorem scStk : FnScope nsStk ["_law_wishes", "_law_known", "_law_some"] (defScope (top 62)) := ⟨rfl, rfl, rfl, by decide +kernel, rfl, by decide +kernel, by decide +kernel⟩
theorem ok_law_is_stuck {f g1 g2 : Addr} {fd d1 d2 : FuncData} (D : Def K mg "_law_is_stuck" 62 ["_law_wishes", "_law_known", "_law_some"] f fd) (T : Bs mg) (DJ : Def K mg "_law_after_jobs" 56 ["_law_f"] g1 d1) (GJ : FnOk P w K mg base CX0 2 g1 d1 ["_law_f"] (spJobs 2))
    (DC : Def K mg "_law_comes" 61 ["_law_f", "_law_known", "_law_held"] g2 d2) (GC : FnOk P w K mg base CX0 4 g2 d2 ["_law_f", "_law_known", "_law_held"] (spComes K)) : FnOk P w K mg base CX0 5 f fd ["_law_wishes", "_law_known", "_law_some"] (spStk K) := by
  refine D.F.ok scStk (fun vs H Q E h => ?_) (fun cdv A outer s H vs Q E hr h => ?_)
  · obtain ⟨dw, dk, a, kvs, ws, kn, S, rfl, _⟩ := h
    rfl
  obtain ⟨dw, dk, a, kvs, ws, kn, S, rfl, dne, hd, hw, ok, hk, kok, ha, hS, lS, q⟩ := h
  have hu := hu_of hr
  have lw : kvs.length = ws.length := Paired.length hw
  have l10 := ok.len
  have l10k := kok.len
  refine ⟨_, pss_cons (ps_set (i := 4) scStk.nd rfl (Or.inr rfl) (pe_callTy (call_dictPK K) rfl T.dict (by decide +kernel) (pa_cons (pe_op op_cat (LiI.pe_listItems rfl (pv 1) rfl T.list (by decide +kernel)) (pe_lock (pe_lc (own := [("_law_number", 3)]) (g := gName 3) rfl scStk.nd (pi_keys (pv 0)) (blkOk_by (N := nsStk) (sc := defScope (top 62)) (by decide +kernel))
      (fun _ _ _ _ _ => pg_name (i := 3) scStk.nd rfl (Or.inl rfl)) (fun _ _ _ _ _ => pts_nil) (fun _ _ _ _ _ => pe_tup (pa_cons (pv 3) (pa_cons pe_str pa_nil)))))) pa_nil)))
    (pss_cons (ps_for PassesOwn.never rfl (pi_tup (pv 2)) (pg_name (i := 3) scStk.nd rfl (Or.inl rfl))
      (pss_cons (ps_if (pt_cmpR op_isN (pe_dget hu (pv 0) (pv 3) (fun _ _ => rfl)) pe_non (nomark _)) (pss_one (ps_ret pe_bl)) pss_nil)
      (pss_cons (ps_set (i := 5) scStk.nd rfl (Or.inl rfl) (pe_callTy (call_dictPK K) rfl T.dict (by decide +kernel) (pa_cons (pe_lc (own := [("_law_one", 6)]) (g := gName 6) rfl scStk.nd (pi_list (pe_callD DJ GJ (hr.mono (by decide)) (pa_cons (pe_dget hu (pv 0) (pv 3) (fun _ _ => rfl)) pa_nil))) (blkOk_by (N := nsStk) (sc := defScope (top 62)) (by decide +kernel))
        (fun _ _ _ _ _ => pg_name (i := 6) scStk.nd rfl (Or.inl rfl)) (fun _ _ _ _ _ => pts_nil) (fun _ _ _ _ _ => pe_tup (pa_cons (pv 6) (pa_cons (pe_dget hu (pv 4) (pv 6) (fun _ _ => rfl)) pa_nil)))) pa_nil)))
      (pss_one (ps_if (pt_val (pe_callD DC GC hr (pa_cons (pe_dget hu (pv 0) (pv 3) (fun _ _ => rfl)) (pa_cons (pv 5) (pa_cons (pv 2) pa_nil))))) (pss_one (ps_ret pe_bl)) pss_nil)))))
    (pss_one (ps_ret pe_bl))), ?_⟩
  refine ⟨_, rfl, dk, kvS kn, rfl, hk, fun H1 l ts s1 nl nts nlts hl hts => ?_⟩
  have hd1 := s1 _ _ hd
  have pr1 := pr_of hts
  refine ⟨dw, _, hd1, trivial, fun od => ?_⟩
  refine ⟨_, rfl, dw, od, rfl, .inl ⟨kvs, upd_same, fun D2 hD2 => ?_⟩⟩
  have atL : upd H1 dw (.frz od (.dK kvs)) dw = some (.frz od (.dK kvs)) := upd_same
  have back : ∀ {H3 : Hp}, Same (upd H1 dw (.frz od (.dK kvs))) H3 → Same H1 (upd H3 dw (.dK kvs)) := fun s3 => lock_same hd1 s3
  have nD2 : D2 ≠ dw := fun z => by rw [z, atL] at hD2; cases hD2
  have ek := ws_keys hw
  have kq : ∀ {i : Nat} {k : Key} {v : V}, kvs[i]? = some (k, v) → ∃ q, ws[i]? = some q ∧ k = Sum.inl q.1 := fun {i k v} e => by
    have e2 : (kvs.map (·.1))[i]? = some k := by rw [List.getElem?_map, e]; rfl
    rw [ek, List.getElem?_map, List.getElem?_map] at e2
    cases e3 : ws[i]? with
    | none => rw [e3] at e2; cases e2
    | some q => rw [e3] at e2; exact ⟨q, rfl, (Option.some.inj e2).symm⟩
  generalize upd H1 dw (.frz od (.dK kvs)) = HL at *
  refine lc_prs (J := Itk dw od kvs) ws (fun q => (q.1, Sg.waiting)) hD2 (by omega) (fun i x H e s => ⟨s _ _ atL, by rw [lw]; exact (List.getElem?_eq_some_iff.mp e).1⟩) (fun H s => ⟨s _ _ atL, Nat.le_of_eq lw⟩) (fun i x H y H' Qt e s yl k => ?_) (fun H3 us s3 h3 hu3 => ?_)
  · obtain ⟨rfl, k', v, e1, rfl⟩ := yl
    obtain ⟨q', e2, rfl⟩ := kq e1
    rw [e] at e2
    cases e2
    exact ⟨rfl, _, rfl, by show 2 ≤ sizeLine; decide, fun t ht => k t _ (same_new ht _) upd_same⟩
  have at3 := s3 _ _ atL
  have h3' : (upd H3 dw (.dK kvs)) D2 = some (.lst (us.map V.ref)) := by rw [upd_ne nD2]; exact h3
  have s4 := back s3
  have hu4 : PrAt (upd H3 dw (.dK kvs)) us (ws.map fun q => (q.1, Sg.waiting)) := hu3.tups (fun p xs e => by
    rw [upd_ne (fun z => by rw [z, at3] at e; cases e)]
    exact e)
  have hl4 := s4 _ _ hl
  have pr4 := pr1.tups (tups_of s4)
  have lts : ts.length = kn.length := Paired.length pr1
  have lus : us.length = ws.length := by have := Paired.length hu3; rw [List.length_map] at this; exact this
  refine ⟨at3, ?_⟩
  generalize upd H3 dw (.dK kvs) = H4 at *
  refine ⟨l, D2, _, _, rfl, rfl, hl4, h3', small (by rw [List.length_map, List.length_map]; omega), fun l3 hl3 => ?_⟩
  have s5 := same_new hl3 (.lst (ts.map V.ref ++ us.map V.ref))
  refine ⟨l3, ts ++ us, kvS (kn ++ ws.map fun q => (q.1, Sg.waiting)), rfl, SqL.of (by rw [upd_same, List.map_append]), pr_dict (pr_app (hu4.tups (tups_of s5)) (pr4.tups (tups_of s5))), fun ds hds => ?_⟩
  have mk : mergeK [] (kvS (kn ++ ws.map fun q => (q.1, Sg.waiting))) = kvS (stOf kn ws) := mergeK_kvS (kok.all ok)
  rw [mk]
  have S6 : Same H (upd (upd H4 l3 (.lst (ts.map V.ref ++ us.map V.ref))) ds (.dK (kvS (stOf kn ws)))) := Same.trans s1 (s4.trans (s5.trans (same_new hds _)))
  have hds6 : (upd (upd H4 l3 (.lst (ts.map V.ref ++ us.map V.ref))) ds (.dK (kvS (stOf kn ws)))) ds = some (.dK (kvS (stOf kn ws))) := upd_same
  generalize upd (upd H4 l3 (.lst (ts.map V.ref ++ us.map V.ref))) ds (.dK (kvS (stOf kn ws))) = H6 at *
  generalize hsv : stOf kn ws = sv at *
  have ha6 := sameT S6 ha
  refine ⟨_, rfl, a, rfl, ⟨_, ha6⟩, ?_⟩
  refine for_tup (K := K) (xs := S.map V.int) (fun i σ H7 => (∃ o3 o5, σ = [some (.ref dw), some (.ref dk), some (.ref a), o3, some (.ref ds), o5, none]) ∧ Same H6 H7 ∧ ∀ n ∈ S.take i, lostB ws (stL sv) S n = true) ⟨⟨none, none, rfl⟩, same_refl _, fun n hn => by cases hn⟩
    (fun i σ H7 _ h => sameT h.2.1 ha6) (fun i x σ H7 hx h => ?_) (fun σ H7 h => ?_)
  · obtain ⟨⟨o3, o5, rfl⟩, s7, hlost⟩ := h
    rw [List.getElem?_map] at hx
    obtain ⟨n, hn, rfl⟩ := Option.map_eq_some_iff.mp hx
    have hnS : n ∈ S := List.mem_of_getElem? hn
    have tk : S.take (i + 1) = S.take i ++ [n] := by
      rw [List.take_succ, hn]
      rfl
    have S7 := S6.trans s7
    have hd7 := S7 _ _ hd
    have hw7 := hw.tups (tups_same S7)
    obtain ⟨v, hv1, hv2⟩ := ws_fw hw7 (hS n hnS)
    have g : ∀ H8, Same H7 H8 → DGet H8 dw (.int n) (some v) := fun H8 s8 => by
      have g := DGet.k (k := Sum.inl n) (s8 _ _ hd7)
      rw [hv1] at g
      exact g
    have no : lostB ws (stL sv) S n = false → stuckB ws (stL sv) S = false := fun h => by
      unfold stuckB
      rw [List.all_eq_false]
      exact ⟨n, hnS, by rw [h]; exact Bool.false_ne_true⟩
    refine ⟨_, rfl, _, rfl, dw, v, rfl, g H7 (same_refl _), rfl, _, rfl, ?_⟩
    cases ef : fw ws n with
    | none =>
      rw [ef] at hv2
      have hv2 : v = .non := hv2
      rw [decide_eq_true hv2]
      refine iteT ?_
      have q7 := q H7 S7
      rw [no (by unfold lostB; rw [ef])] at q7
      exact q7
    | some fm =>
      rw [ef] at hv2
      have hv2 : FmAt H7 v fm := hv2
      have nn : v ≠ .non := fun z => by
        rw [z] at hv2
        cases fm with
        | atom a => obtain ⟨p, e, _⟩ := hv2; cases e
        | node c l => obtain ⟨p, b, xs, e, _⟩ := hv2; cases e
      rw [decide_eq_false nn]
      refine iteF ?_
      have mem := fw_mem ef
      have okf := ok.fm _ mem fm rfl
      have jobs : ∀ j ∈ fm.jobs, j ∈ sv.map (·.1) := fun j hj => by rw [← hsv]; exact kok.jobs _ mem fm rfl j hj
      refine ⟨_, rfl, _, rfl, dw, v, rfl, g H7 (same_refl _), v, fm, rfl, hv2, okf, depthF_le2 fm, fun r ns H8 s8 nr hr8 asc mem8 l3 => ?_⟩
      refine ⟨r, rfl, ⟨_, SqL.of hr8⟩, fun D9 hD9 => ?_⟩
      have hds8 := s8 _ _ (s7 _ _ hds6)
      refine lc_prs (J := Itl K r) ns (fun j => (j, stL sv j)) hD9 (by omega) (fun i x H e s => ⟨_, .int x, SqL.of (s _ _ hr8), by rw [List.getElem?_map, e]; rfl⟩) (fun H s => ⟨_, SqL.of (s _ _ hr8), by rw [List.length_map]; exact Nat.le_refl _⟩) (fun i j H y H' Qt e s yl k => ?_) (fun H9 ps s9 h9 hp9 => ?_)
      · obtain ⟨rfl, f⟩ := yl
        have ey := f _ (SqL.of (s _ _ hr8))
        rw [List.getElem?_map, e] at ey
        cases ey
        have hj : j ∈ fm.jobs := (mem8 j).mp (List.mem_of_getElem? e)
        obtain ⟨ej, hej, _⟩ := lookup_in (jobs j hj)
        have st : stL sv j = ej := by unfold stL; rw [hej]; rfl
        refine ⟨rfl, _, rfl, _, rfl, _, rfl, ds, _, rfl, dget_kvS (s _ _ hds8) hej, by show 2 ≤ sizeLine; decide, fun t ht => k t _ (same_new ht _) ?_⟩
        rw [upd_same, st]
      · refine ⟨D9, ps, kvS (ns.map fun j => (j, stL sv j)), rfl, SqL.of h9, pr_dict hp9, fun pn hpn => ?_⟩
        have kk : (ns.map fun j => (j, stL sv j)).map (·.1) = ns := by
          rw [List.map_map]
          exact List.map_id' ns
        have ndn : ns.Nodup := asc.imp fun h e => by omega
        rw [mergeK_kvS (by rw [kk]; exact ndn)]
        have s10 : Same H7 (upd H9 pn (.dK (kvS (ns.map fun j => (j, stL sv j))))) := s8.trans (s9.trans (same_new hpn _))
        refine ⟨_, rfl, _, rfl, dw, v, rfl, g _ s10, _, rfl, _, rfl, v, pn, a, fm, ns.map fun j => (j, stL sv j), S, rfl, hv2.same s10, okf, upd_same, by rw [kk]; exact asc, by rw [List.length_map]; exact l3, fun m => by rw [kk]; exact mem8 m, sameT (s7.trans s10) ha6, fun H11 s11 => ⟨_, rfl, ?_⟩⟩
        have ec : canB fm (posOf (stL (ns.map fun j => (j, stL sv j))) S []) = canB fm (posOf (stL sv) S []) := canB_congr fun m hm => by
          have : stL (ns.map fun j => (j, stL sv j)) m = stL sv m := by
            show (List.lookup m _).getD _ = _
            rw [lookup_map (f := stL sv) ((mem8 m).mpr hm)]
            rfl
          show (if m ∈ S then [Sg.waiting] else ends (stL _ m)) = (if m ∈ S then [Sg.waiting] else ends (stL sv m))
          rw [this]
        rw [ec]
        have S11 := S7.trans (s10.trans s11)
        cases ecb : canB fm (posOf (stL sv) S []) with
        | true =>
          refine iteT ?_
          have q11 := q H11 S11
          rw [no (by unfold lostB; rw [ef]; show (!canB fm (posOf (stL sv) S [])) = false; rw [ecb]; rfl)] at q11
          exact q11
        | false =>
          refine iteF ?_
          refine ⟨⟨_, _, rfl⟩, s7.trans (s10.trans s11), fun m hm => ?_⟩
          rw [tk] at hm
          rcases List.mem_append.mp hm with hm | hm
          · exact hlost m hm
          · rw [List.mem_singleton.mp hm]
            unfold lostB
            rw [ef]
            show (!canB fm (posOf (stL sv) S [])) = true
            rw [ecb]
            rfl
  · obtain ⟨⟨o3, o5, rfl⟩, s7, hlost⟩ := h
    rw [List.length_map, List.take_length] at hlost
    have q7 := q H7 (S6.trans s7)
    have e : stuckB ws (stL sv) S = true := by
      unfold stuckB
      rw [List.all_eq_true]
      exact hlost
    rw [e] at q7
    exact q7
end
end Ts

set_option Elab.async false
set_option linter.all false
set_option maxRecDepth 100000
set_option maxHeartbeats 4000000
/-! Law defs 6: the steps from a state. -/
namespace Ts
open PySem L2
/-- the list at fa holds the pairs cur -/
def StepSt (fa : Addr) (Hb : Hp) (cur : List (Int × Sg)) (H : Hp) : Prop := Off fa Hb H ∧ ∃ ps, H fa = some (.lst (ps.map V.ref)) ∧ PrAt H ps cur
theorem StepSt.same {fa : Addr} {Hb H H' : Hp} {cur : List (Int × Sg)} (h : StepSt fa Hb cur H) (s : Same H H') : StepSt fa Hb cur H' := let ⟨o, ps, h1, h2⟩ := h; ⟨o.trans (Off.same s), ps, s _ _ h1, h2.tups (tups_of s)⟩
section
variable {P : Program} {w : World} {K : PySem.W.Frag} {mg : Str → Option Value} {base : Heap}
def spSteps (K : PySem.W.Frag) : Sp := fun vs H Q _ => ∃ (dw ds a : Addr) (kvs : List (Key × V)) (ws : Ws) (kv : List (Int × Sg)) (S : List Int), vs = [.ref dw, .ref ds, .ref a] ∧ H dw = some (.dK kvs) ∧ WsAt H kvs ws ∧ WsOk ws ∧ H ds = some (.dK (kvS kv)) ∧ (kv.map (·.1)).Pairwise (· < ·) ∧ kv.length ≤ 20 ∧
  (∀ q ∈ ws, ∀ f, q.2 = some f → ∀ j ∈ f.jobs, j ∈ kv.map (·.1)) ∧ SqT K H a (S.map V.int) ∧
  ∀ (r : Addr) (ps : List Addr) (H' : Hp), Same H H' → H r = none → H' r = some (.lst (ps.map V.ref)) → PrAt H' ps ((kv.map (·.1)).flatMap (stepsOf ws S kv)) → Q (.ref r) H'
abbrev nsSteps : List Str := ["_law_wishes", "_law_states", "_law_barred", "_law_found", "_law_number", "_law_wish", "_law_end"]
theorem scSteps : FnScope nsSteps ["_law_wishes", "_law_states", "_law_barred"] (defScope (top 63)) := ⟨rfl, rfl, rfl, by decide +kernel, rfl, by decide +kernel, by decide +kernel⟩
theorem stepsOf_len (ws : Ws) (S : List Int) (kv : List (Int × Sg)) (n : Int) : (stepsOf ws S kv n).length ≤ 6 := by
  unfold stepsOf
  rw [List.length_append, List.length_append]
  have h1 : (if stL kv n = .waiting ∧ n ∉ S then [(n, Sg.left)] else []).length ≤ 1 := by split <;> simp
  have h2 : (if stL kv n = .waiting ∧ mayB ws kv n = true then [(n, Sg.begun)] else []).length ≤ 1 := by split <;> simp
  have h3 : (if stL kv n = .begun then endsMore.map fun e => (n, e) else []).length ≤ 4 := by split <;> simp [endsMore]
  omega
theorem steps_len (ws : Ws) (S : List Int) (kv : List (Int × Sg)) : ∀ ns : List Int, (ns.flatMap (stepsOf ws S kv)).length ≤ 6 * ns.length
  | [] => by simp
  | n :: r => by
    have h1 := stepsOf_len ws S kv n
    have h2 := steps_len ws S kv r
    rw [List.flatMap_cons, List.length_append, List.length_cons]
    omega
theorem ok_steps {f g : Addr} {fd gd : FuncData} (D : Def K mg "_law_steps" 63 ["_law_wishes", "_law_states", "_law_barred"] f fd) (T : Bs mg) (DH : Def K mg "_law_after_holds" 55 ["_law_f", "_law_states"] g gd) (GH : FnOk P w K mg base CX0 3 g gd ["_law_f", "_law_states"] (spHolds 2)) :
    FnOk P w K mg base CX0 4 f fd ["_law_wishes", "_law_states", "_law_barred"] (spSteps K) := by
  refine D.F.ok scSteps (fun vs H Q E h => ?_) (fun cdv A outer s H vs Q E hr h => ?_)
  · obtain ⟨dw, ds, a, kvs, ws, kv, S, rfl, _⟩ := h
    rfl
  obtain ⟨dw, ds, a, kvs, ws, kv, S, rfl, hd, hw, ok, hds, asc, l20, hj, ha, q⟩ := h
  have hu := hu_of hr
  refine ⟨_, pss_cons (ps_set (i := 3) scSteps.nd rfl (Or.inl rfl) (pe_lst pa_nil))
    (pss_cons (ps_for PassesOwn.never rfl (pi_list (pe_callB (call_sortedDI rfl) rfl T.sorted (by decide +kernel) (pa_cons (pv 1) pa_nil))) (pg_name (i := 4) scSteps.nd rfl (Or.inr rfl))
      (pss_cons (ps_if (PW.pt (pw_and (pt_cmpR op_eq (pe_dget hu (pv 1) (pv 4) (fun _ _ => rfl)) pe_str (nomark _)) (pw_and1 (pt_cmpR op_notIn_seq (pv 4) (pv 2) (by rfl))))) (pss_one (ps_expr (pe_bm PySem.F.plainAttrs_list PySem.F.slot_list_append PySem.F.type_list_append mt_append (pv 3) (pa_cons (pe_tup (pa_cons (pv 4) (pa_cons pe_str pa_nil))) pa_nil)))) pss_nil)
      (pss_cons (ps_if (pt_cmpR op_eq (pe_dget hu (pv 1) (pv 4) (fun _ _ => rfl)) pe_str (nomark _))
        (pss_cons (ps_set (i := 5) scSteps.nd rfl (Or.inl rfl) (pe_dget2 hu (pv 0) (pv 4) pe_non ⟨rfl, rfl, rfl, rfl⟩))
        (pss_one (ps_if (PW.pt (pw_or (pt_cmpR op_isN (pv 5) pe_non (nomark _)) (pw_or1 (pt_val (pe_callD DH GH hr (pa_cons (pv 5) (pa_cons (pv 1) pa_nil))))))) (pss_one (ps_expr (pe_bm PySem.F.plainAttrs_list PySem.F.slot_list_append PySem.F.type_list_append mt_append (pv 3) (pa_cons (pe_tup (pa_cons (pv 4) (pa_cons pe_str pa_nil))) pa_nil)))) pss_nil))) pss_nil)
      (pss_one (ps_if (pt_cmpR op_eq (pe_dget hu (pv 1) (pv 4) (fun _ _ => rfl)) pe_str (nomark _)) (pss_one (ps_expr (pe_bm PySem.F.plainAttrs_list PySem.F.slot_list_extend PySem.F.type_list_extend mt_extend (pv 3) (pa_cons (pe_lc (own := [("_law_end", 6)]) (g := gName 6) rfl scSteps.nd (pi_tup (pe_tup (pa_cons pe_str (pa_cons pe_str (pa_cons pe_str (pa_cons pe_str pa_nil)))))) (blkOk_by (N := nsSteps) (sc := defScope (top 63)) (by decide +kernel))
        (fun _ _ _ _ _ => pg_name (i := 6) scSteps.nd rfl (Or.inl rfl)) (fun _ _ _ _ _ => pts_nil) (fun _ _ _ _ _ => pe_tup (pa_cons (pv 4) (pa_cons (pv 6) pa_nil)))) pa_nil)))) pss_nil)))))
    (pss_one (ps_ret (pv 3)))), ?_⟩
  refine ⟨by show 0 ≤ sizeLine; decide, fun fa hfa => ?_⟩
  have s0 := same_new hfa (.lst [])
  have hfa0 : (upd H fa (.lst [])) fa = some (.lst []) := upd_same
  generalize upd H fa (.lst []) = H0 at *
  refine ⟨_, rfl, ds, kvS kv, kv.map (·.1), rfl, .of (s0 _ _ hds), kvS_keys kv, by rw [List.length_map]; omega, fun ys sl perm srt hsl => ?_⟩
  have ey : ys = kv.map (·.1) := List.Perm.eq_of_pairwise (fun _ _ _ _ a b => Int.le_antisymm a b) srt (asc.imp fun h => Int.le_of_lt h) perm
  subst ey
  have s1 := s0.trans (same_new hsl (.lst ((kv.map (·.1)).map V.int)))
  have hsl1 : (upd H0 sl (.lst ((kv.map (·.1)).map V.int))) sl = some (.lst ((kv.map (·.1)).map V.int)) := upd_same
  have hfa1 := same_new hsl (.lst ((kv.map (·.1)).map V.int)) _ _ hfa0
  have nsl : sl ≠ fa := fun z => by rw [z, hfa0] at hsl; cases hsl
  generalize upd H0 sl (.lst ((kv.map (·.1)).map V.int)) = Hb at *
  have ln : (kv.map (·.1)).length ≤ 20 := by rw [List.length_map]; exact l20
  refine ⟨sl, rfl, ⟨_, SqL.of hsl1⟩, ?_⟩
  refine for_list (K := K) (xs := (kv.map (·.1)).map V.int) (fun i σ H2 => (∃ o4 o5, σ = [some (.ref dw), some (.ref ds), some (.ref a), some (.ref fa), o4, o5, none]) ∧ StepSt fa Hb (((kv.map (·.1)).take i).flatMap (stepsOf ws S kv)) H2)
    ⟨⟨none, none, rfl⟩, Off.refl _ _, [], hfa1, .nil⟩ (fun i σ H2 _ h => SqL.of (h.2.1 _ _ nsl hsl1)) (fun i x σ H2x hx h => ?_) (fun σ H2 h => ?_)
  · obtain ⟨⟨o4, o5, rfl⟩, hS⟩ := h
    rw [List.getElem?_map] at hx
    obtain ⟨n, hn, rfl⟩ := Option.map_eq_some_iff.mp hx
    have hi : i < (kv.map (·.1)).length := (List.getElem?_eq_some_iff.mp hn).1
    have hnm : n ∈ kv.map (·.1) := List.mem_of_getElem? hn
    have tk : (kv.map (·.1)).take (i + 1) = (kv.map (·.1)).take i ++ [n] := by
      rw [List.take_succ, hn]
      rfl
    have eS : ((kv.map (·.1)).take (i + 1)).flatMap (stepsOf ws S kv) = ((kv.map (·.1)).take i).flatMap (stepsOf ws S kv) ++ stepsOf ws S kv n := by
      rw [tk, List.flatMap_append]
      simp
    have lcur := steps_len ws S kv ((kv.map (·.1)).take i)
    rw [List.length_take] at lcur
    rw [eS]
    generalize ((kv.map (·.1)).take i).flatMap (stepsOf ws S kv) = cur at *
    have lc : cur.length ≤ 120 := by omega
    clear lcur eS tk
    obtain ⟨e0, he0, _⟩ := lookup_in hnm
    have st : stL kv n = e0 := by unfold stL; rw [he0]; rfl
    have fr : ∀ {b u}, H b = some u → b ≠ fa := fun h => ne_of_none h hfa
    have g : ∀ {H9 cur}, StepSt fa Hb cur H9 → DGet H9 ds (.int n) (some (sV e0)) := fun hS => dget_kvS (hS.1 _ _ (fr hds) (s1 _ _ hds)) he0
    have grow : ∀ {H9 cur} (e : Sg), StepSt fa Hb cur H9 → cur.length ≤ 300 → ∀ t, H9 t = none → ∃ xs, (upd H9 t (.tup [.int n, sV e])) fa = some (.lst xs) ∧ xs.length < sizeLine ∧ StepSt fa Hb (cur ++ [(n, e)]) (upd (upd H9 t (.tup [.int n, sV e])) fa (.lst (xs ++ [.ref t]))) := fun {H9 cur} e hS hl t ht => by
      obtain ⟨o, ps, h1, h2⟩ := hS.same (same_new ht (.tup [.int n, sV e]))
      have l2 := Paired.length h2
      have tu := tups_upd (o := .lst (ps.map V.ref ++ [.ref t])) h1
      refine ⟨_, h1, by rw [List.length_map]; exact small1000 (by omega), o.trans Off.upd, ps ++ [t], by rw [upd_same, List.map_append]; rfl, pr_app (.cons (tu _ _ upd_same) .nil) (h2.tups tu)⟩
    have hw9 : ∀ {H9 cur}, StepSt fa Hb cur H9 → WsAt H9 kvs ws := fun hS => hw.tups fun p xs e => hS.1 _ _ (fr e) (s1 _ _ e)
    refine ⟨_, rfl, _, rfl, ds, _, rfl, g hS, rfl, ?_⟩
    have done : ∀ {H9 o5}, StepSt fa Hb (cur ++ stepsOf ws S kv n) H9 → ((∃ o4 o5', [some (V.ref dw), some (.ref ds), some (.ref a), some (.ref fa), some (.int n), o5, none] = [some (V.ref dw), some (.ref ds), some (.ref a), some (.ref fa), o4, o5', none]) ∧ StepSt fa Hb (cur ++ stepsOf ws S kv n) H9) := fun h => ⟨⟨_, _, rfl⟩, h⟩
    have other : e0 ≠ .waiting → e0 ≠ .begun → stepsOf ws S kv n = [] := fun h1 h2 => by
      unfold stepsOf
      rw [st, if_neg (fun z => h1 z.1), if_neg (fun z => h1 z.1), if_neg h2]
      rfl
    have hS0 : stepsOf ws S kv n = [] → StepSt fa Hb (cur ++ stepsOf ws S kv n) H2x := fun h => by
      rw [h, List.append_nil]
      exact hS
    cases e0 with
    | left => exact ⟨_, rfl, _, rfl, _, rfl, ds, _, rfl, g hS, rfl, _, rfl, _, rfl, _, rfl, ds, _, rfl, g hS, rfl, _, rfl, done (hS0 (other (by decide) (by decide)))⟩
    | well => exact ⟨_, rfl, _, rfl, _, rfl, ds, _, rfl, g hS, rfl, _, rfl, _, rfl, _, rfl, ds, _, rfl, g hS, rfl, _, rfl, done (hS0 (other (by decide) (by decide)))⟩
    | ill => exact ⟨_, rfl, _, rfl, _, rfl, ds, _, rfl, g hS, rfl, _, rfl, _, rfl, _, rfl, ds, _, rfl, g hS, rfl, _, rfl, done (hS0 (other (by decide) (by decide)))⟩
    | late => exact ⟨_, rfl, _, rfl, _, rfl, ds, _, rfl, g hS, rfl, _, rfl, _, rfl, _, rfl, ds, _, rfl, g hS, rfl, _, rfl, done (hS0 (other (by decide) (by decide)))⟩
    | gone => exact ⟨_, rfl, _, rfl, _, rfl, ds, _, rfl, g hS, rfl, _, rfl, _, rfl, _, rfl, ds, _, rfl, g hS, rfl, _, rfl, done (hS0 (other (by decide) (by decide)))⟩
    | begun =>
      refine ⟨_, rfl, _, rfl, _, rfl, ds, _, rfl, g hS, rfl, _, rfl, _, rfl, _, rfl, ds, _, rfl, g hS, rfl, _, rfl, ?_⟩
      obtain ⟨o, ps, h1, h2⟩ := id hS
      refine ⟨_, rfl, .inl ⟨rfl, _, SqL.of h1⟩, ?_⟩
      refine ⟨by show 4 ≤ sizeLine; decide, fun t ht => ?_⟩
      have st4 := same_new ht (.tup [V.str "well", .str "ill", .str "late", .str "gone"])
      have ht4 : (upd H2x t (.tup [V.str "well", .str "ill", .str "late", .str "gone"])) t = some (.tup (endsMore.map sV)) := upd_same
      refine ⟨t, rfl, ⟨_, SqT.of ht4⟩, fun D9 hD9 => ?_⟩
      refine lc_prs (J := Itt K t) endsMore (fun e => (n, e)) hD9 (by decide) (fun i x H e s => ⟨_, sV x, SqT.of (s _ _ ht4), by rw [List.getElem?_map, e]; rfl⟩) (fun H s => ⟨_, SqT.of (s _ _ ht4), by rw [List.length_map]; exact Nat.le_refl _⟩) (fun i j H y H' Qt e s yl k => ?_) (fun H9 us s9 h9 hu9 => ?_)
      · obtain ⟨rfl, f⟩ := yl
        have ey := f _ (SqT.of (s _ _ ht4))
        rw [List.getElem?_map, e] at ey
        cases ey
        exact ⟨rfl, _, rfl, _, rfl, by show 2 ≤ sizeLine; decide, fun t2 ht2 => k t2 _ (same_new ht2 _) upd_same⟩
      · have s10 := st4.trans s9
        obtain ⟨o', ps', h1', h2'⟩ := hS.same s10
        have l2 := Paired.length h2'
        have lu := Paired.length hu9
        refine ⟨fa, D9, _, _, rfl, rfl, h1', h9, small (by rw [List.length_map, List.length_map, lu, l2]; show cur.length + 4 ≤ 1000; omega), done ⟨o'.trans Off.upd, ps' ++ us, by rw [upd_same, List.map_append], ?_⟩⟩
        have tu := tups_upd (o := .lst (ps'.map V.ref ++ us.map V.ref)) h1'
        have e : stepsOf ws S kv n = endsMore.map fun e => (n, e) := by
          unfold stepsOf
          rw [st]
          rfl
        rw [e]
        exact pr_app (hu9.tups tu) (h2'.tups tu)
    | waiting =>
      have inS : ∀ {H9 cur}, StepSt fa Hb cur H9 → SqT K H9 a (S.map V.int) := fun hS => by
        rcases ha with (h | ⟨u, h⟩) | h
        · exact .inl (.inl (hS.1 _ _ (fr h) (s1 _ _ h)))
        · exact .inl (.inr ⟨u, hS.1 _ _ (fr h) (s1 _ _ h)⟩)
        · exact .inr h
      refine ⟨true, rfl, ?_⟩
      refine iteT ?_
      refine ⟨_, rfl, _, rfl, a, _, rfl, .inr (inS hS), rfl, flat_ints S, _, rfl, ?_⟩
      have z : (if true = true then !inV (V.int n) (S.map V.int) else inV (V.int n) (S.map V.int)) = !(decide (n ∈ S)) := by
        rw [if_pos rfl, inV_ints]
      rw [z]
      have hwait : ∀ {L : List (Int × Sg)}, StepSt fa Hb (L ++ (if stL kv n = .waiting ∧ n ∉ S then [(n, Sg.left)] else [])) H2x → True := fun _ => trivial
      rcases Decidable.em (n ∈ S) with hnS | hnS
      case' inl =>
        have hS1 : StepSt fa Hb (cur ++ (if stL kv n = .waiting ∧ n ∉ S then [(n, Sg.left)] else [])) H2x := by
          rw [if_neg (fun z => z.2 hnS), List.append_nil]
          exact hS
        rw [decide_eq_true hnS]
        refine iteF ?_
        clear hwait hS hS0
        generalize H2x = H9 at hS1 ⊢
        clear hnS
      case' inr =>
        rw [decide_eq_false hnS]
        refine iteT ?_
        obtain ⟨o, ps, h1, h2⟩ := id hS
        refine ⟨_, rfl, .inl ⟨rfl, _, SqL.of h1⟩, _, rfl, by show 2 ≤ sizeLine; decide, fun t ht => ?_⟩
        obtain ⟨xs, hx1, hx2, hx3⟩ := grow .left hS (by omega) t ht
        refine ⟨fa, xs, _, rfl, rfl, hx1, hx2, ?_⟩
        have hS1 : StepSt fa Hb (cur ++ (if stL kv n = .waiting ∧ n ∉ S then [(n, Sg.left)] else [])) (upd (upd H2x t (.tup [V.int n, V.str "left"])) fa (.lst (xs ++ [V.ref t]))) := by
          rw [if_pos ⟨st, hnS⟩]
          exact hx3
        clear hwait hS hS0
        show _
        generalize (upd (upd H2x t (.tup [V.int n, V.str "left"])) fa (.lst (xs ++ [V.ref t]))) = H9 at hS1 ⊢
        clear hx3 hx2 hx1 ht h2 h1 o hnS
      all_goals
        have l1 : (cur ++ (if stL kv n = .waiting ∧ n ∉ S then [(n, Sg.left)] else [])).length ≤ 121 := by
          rw [List.length_append]
          split
          · show cur.length + 1 ≤ 121; omega
          · show cur.length + 0 ≤ 121; omega
        have eQ : stepsOf ws S kv n = (if stL kv n = .waiting ∧ n ∉ S then [(n, Sg.left)] else []) ++ (if mayB ws kv n = true then [(n, Sg.begun)] else []) := by
          unfold stepsOf
          rw [st]
          simp
        have eA : cur ++ stepsOf ws S kv n = (cur ++ (if stL kv n = .waiting ∧ n ∉ S then [(n, Sg.left)] else [])) ++ (if mayB ws kv n = true then [(n, Sg.begun)] else []) := by
          rw [eQ, List.append_assoc]
        generalize cur ++ (if stL kv n = .waiting ∧ n ∉ S then [(n, Sg.left)] else []) = cur1 at hS1 l1 eA
        have hd9 : H9 dw = some (.dK kvs) := hS1.1 _ _ (fr hd) (s1 _ _ hd)
        refine ⟨_, rfl, _, rfl, ds, _, rfl, g hS1, rfl, true, rfl, ?_⟩
        refine iteT ?_
        refine ⟨_, rfl, dw, rfl, .inl ⟨kvs, .of hd9⟩, _, rfl, _, DGet.k (k := Sum.inl n) hd9, ?_⟩
        have ge := ws_get (hw9 hS1) (n := n)
        have gd9 := gen_get (hw9 hS1) n
        refine ⟨_, rfl, rfl, _, congrArg V.bl gd9, ?_⟩
        unfold mayB at eA
        cases ef : fw ws n with
        | none =>
          rw [ef] at eA
          refine iteT ?_
          obtain ⟨o, ps, h1, h2⟩ := id hS1
          refine ⟨_, rfl, .inl ⟨rfl, _, SqL.of h1⟩, _, rfl, by show 2 ≤ sizeLine; decide, fun t ht => ?_⟩
          obtain ⟨xs, hx1, hx2, hx3⟩ := grow .begun hS1 (by omega) t ht
          have hF : StepSt fa Hb (cur ++ stepsOf ws S kv n) (upd (upd H9 t (.tup [.int n, sV .begun])) fa (.lst (xs ++ [.ref t]))) := by
            rw [eA]
            exact hx3
          exact ⟨fa, xs, _, rfl, rfl, hx1, hx2, _, rfl, _, rfl, ds, _, rfl, g hF, rfl, false, rfl, done hF⟩
        | some fm =>
          rw [ef] at eA
          refine iteF ?_
          have mem := fw_mem ef
          obtain ⟨v, hv1, hv2⟩ := ws_fw (hw9 hS1) (fw_key ef)
          rw [ef] at hv2
          have hv2 : FmAt H9 v fm := hv2
          rw [hv1]
          refine ⟨_, rfl, _, rfl, v, ds, fm, kv, rfl, hv2, ok.fm _ mem fm rfl, depthF_le2 fm, hS1.1 _ _ (fr hds) (s1 _ _ hds), hj _ mem fm rfl, fun H10 s10 => ?_⟩
          have hS2 := hS1.same s10
          cases ev : evL fm kv with
          | true =>
            have eA : cur ++ stepsOf ws S kv n = cur1 ++ (if evL fm kv = true then [(n, Sg.begun)] else []) := eA
            rw [ev] at eA
            refine ⟨_, rfl, ?_⟩
            obtain ⟨o, ps, h1, h2⟩ := id hS2
            refine ⟨_, rfl, .inl ⟨rfl, _, SqL.of h1⟩, _, rfl, by show 2 ≤ sizeLine; decide, fun t ht => ?_⟩
            obtain ⟨xs, hx1, hx2, hx3⟩ := grow .begun hS2 (by omega) t ht
            have hF : StepSt fa Hb (cur ++ stepsOf ws S kv n) (upd (upd H10 t (.tup [.int n, sV .begun])) fa (.lst (xs ++ [.ref t]))) := by
              rw [eA]
              exact hx3
            exact ⟨fa, xs, _, rfl, rfl, hx1, hx2, _, rfl, _, rfl, ds, _, rfl, g hF, rfl, false, rfl, done hF⟩
          | false =>
            have eA : cur ++ stepsOf ws S kv n = cur1 ++ (if evL fm kv = true then [(n, Sg.begun)] else []) := eA
            rw [ev] at eA
            have hF : StepSt fa Hb (cur ++ stepsOf ws S kv n) H10 := by
              rw [eA]
              show StepSt fa Hb (cur1 ++ []) H10
              rw [List.append_nil]
              exact hS2
            exact ⟨_, rfl, _, rfl, _, rfl, ds, _, rfl, g hF, rfl, false, rfl, done hF⟩
  · obtain ⟨⟨o4, o5, rfl⟩, hS⟩ := h
    rw [List.length_map, List.take_length] at hS
    obtain ⟨o, ps, h1, h2⟩ := hS
    exact ⟨_, rfl, q fa ps H2 (fun b u h => o _ _ (ne_of_none h hfa) (s1 _ _ h)) hfa h1 h2⟩
end
end Ts

set_option Elab.async false
set_option linter.all false
set_option maxRecDepth 100000
set_option maxHeartbeats 4000000
/-! Promises where no repr runs yet; how long the text of some states is. -/
namespace Ts
open PySem PySem.Spec PyProof.Rows L2
structure FnOkG (P : Program) (w : World) (K : PySem.W.Frag) (mg : Str → Option Value) (base : Heap) (k : Nat) (f : Addr) (fd : FuncData) (ps : List Str) (sp : Sp) : Prop where
  len : ∀ vs H Q E, sp vs H Q E → vs.length = ps.length
  run : ∀ (A : Around) (outer : List Env) (s : Shared) (H : Hp) (args : Args) (us : List Value) (vs : List V) (Q : VK) (E : XK), Room k A → A.guards = some [] → Env0 P w K mg base A outer s H → BindsTo s fd args (ps.zip us) → Vals vs us → sp vs H Q E →
    codeAny (model P w) A (.call (.ref f) args) (CR CX0 outer P w H s Q E) s
section
variable {P : Program} {w : World} {K : PySem.W.Frag} {mg : Str → Option Value} {base : Heap}
theorem okG {x qual : Str} {st : Stmt} {f : Addr} {fd : FuncData} {N ps : List Str} {k : Nat} {sp : Sp} (F : Fun K x qual st f fd) (S : FnScope N ps (defScope st)) (len : ∀ vs H Q E, sp vs H Q E → vs.length = ps.length)
    (hbody : ∀ (cdv : Value) (A : Around) (outer : List Env) (s : Shared) (H : Hp) (vs : List V) (Q : VK) (E : XK), Room k (A.deeper (envOfC qual (defScope st) s.heap.objs.size f cdv)) → (A.deeper (envOfC qual (defScope st) s.heap.objs.size f cdv)).guards = some [] → sp vs H Q E →
      ∃ t, PSs (cxOf CX0 P w K mg base N qual (defScope st) f cdv A outer s H E).nox (defBody st) t ∧ t { nx := fun _ H' => Q .non H', rt := Q } (start N vs) H) : FnOkG P w K mg base (k + 1) f fd ps sp := by
  obtain ⟨oc, od, kV, doc, pm, an, cdv, ct, osl, rfl, lk, hcd⟩ := F.ex
  refine ⟨len, fun A outer s H args us vs Q E hr hg e0 hb r h => ?_⟩
  refine LamX.run_ofS lk hcd S hr e0 hb r (len _ _ _ _ h) fun hr' => ?_
  obtain ⟨t, ht, hq⟩ := hbody cdv A outer s H vs Q E hr' hg h
  exact ⟨t, ht.nox, hq⟩
theorem pe_callG {X : Cx} {k i : Nat} {x : Str} {ps : List Str} {f : Addr} {fd : FuncData} {sp : Sp} {e : Expr} {es : List Expr} {t : TA} {p pos : Pos} (D : Def X.K X.mg x i ps f fd) (F : FnOkG X.prog X.w X.K X.mg X.base k f fd ps sp) (hr : Room k X.A) (hG : X.A.guards = some []) (ha : PA X (e :: es) t)
    (hg : Gl X x := by rfl) (hdb : (x == ("__debug__" : Str)) = false := by decide) (he : starEach (e :: es) X.env = (false, eval e X.env) :: starEach es X.env := by rfl) (hpl : (backTo pos (starEach es X.env)).any (·.1) = false := by rfl) :
    PE X (.Call (.Name x p) (e :: es) [] pos) (tCall sp [] E0 t) := by
  refine ⟨fun pins s σ H Q I h => ?_⟩
  refine wpAny_Call_Name_kw (ld_glob I hg D.m ?_ hdb)
  refine PySem.W.callWith_K (h₀ := X.base) I.ok.mod.kin D.F.kp (thn (ha.run pos pins s σ H _ I h) fun us s1 ⟨vs, H1, I1, r, q⟩ => ⟨I1.kIn, ?_⟩) he hpl
  have q : sp (vs ++ []) H1 Q E0 := q
  rw [List.append_nil] at q
  have hl : us.length = ps.length := by rw [← r.length]; exact F.len _ _ _ _ q
  have hb := D.b s1 us I1.kIn (by rw [List.append_nil]; exact hl)
  rw [List.append_nil] at hb
  refine wpAny_call (codeAny_mono (F.run X.A X.stack s1 H1 ⟨us, []⟩ us vs Q E0 hr hG I1.env0 hb r q) fun r s' hq => ?_)
  cases r with
  | error e => exact (show False from hq).elim
  | ok fl =>
    cases fl with
    | ret u => exact I1.after hq
    | next => exact False.elim hq
    | brk => exact False.elim hq
    | cont => exact False.elim hq
end
/-! ### texts -/
def strP (kv : List (Int × Sg)) : List (Int × Str) := kv.map fun p => (p.1, p.2.s)
theorem strP_kv (kv : List (Int × Sg)) : (strP kv).map kvP = kvS kv := by
  unfold strP kvS
  rw [List.map_map]
  rfl
def textOf (kv : List (Int × Sg)) : Str := itemsText (strP kv)
theorem pair_text : ∀ n ∈ ([1, 2, 3, 4] : List Int), ∀ e ∈ allSg, (pyP (n, e.s)).shown.length ≤ 40 ∧ (pyP (n, e.s)).showable = true := by decide +kernel
theorem textFrom_le : ∀ (ts : List Str) (k : Nat) (acc : Str), (∀ t ∈ ts, t.length ≤ 40) → (textFrom k acc ts).length ≤ acc.length + 42 * ts.length
  | [], k, acc, _ => Nat.le_refl _
  | t :: r, k, acc, h => by
    have ih := textFrom_le r (k + 1) (acc ++ (if k > 0 then ", " else "" : String) ++ t) fun t ht => h t (List.mem_cons_of_mem _ ht)
    have h1 := h t List.mem_cons_self
    have e : (acc ++ (if k > 0 then ", " else "" : String) ++ t).length ≤ acc.length + 2 + t.length := by
      rw [strLen_append, strLen_append]
      by_cases z : k > 0
      · rw [if_pos z]
        exact Nat.le_refl _
      · rw [if_neg z]
        show acc.length + 0 + t.length ≤ _
        omega
    show (textFrom (k + 1) (acc ++ (if k > 0 then ", " else "" : String) ++ t) r).length ≤ _
    rw [List.length_cons]
    omega
theorem shownAll_mem : ∀ (ds : List PyData) (t : Str), t ∈ PyData.shownAll ds → ∃ d ∈ ds, t = d.shown
  | [], t, h => by cases h
  | d :: r, t, h => by
    have h : t ∈ d.shown :: PyData.shownAll r := h
    rcases List.mem_cons.mp h with rfl | h
    · exact ⟨d, List.mem_cons_self, rfl⟩
    · obtain ⟨d', h', e⟩ := shownAll_mem r t h
      exact ⟨d', List.mem_cons_of_mem _ h', e⟩
theorem shownAll_len : ∀ ds : List PyData, (PyData.shownAll ds).length = ds.length
  | [] => rfl
  | d :: r => congrArg (· + 1) (shownAll_len r)
theorem showableAll_of : ∀ ds : List PyData, (∀ d ∈ ds, d.showable = true) → PyData.showableAll ds = true
  | [], _ => rfl
  | d :: r, h => by
    show (d.showable && PyData.showableAll r) = true
    rw [h d List.mem_cons_self, showableAll_of r fun d hd => h d (List.mem_cons_of_mem _ hd)]
    rfl
theorem sorted_in {kv : List (Int × Sg)} {d : PyData} (h : d ∈ (sortedP (strP kv)).map pyP) : ∃ p ∈ kv, d = pyP (p.1, p.2.s) := by
  obtain ⟨q, hq, rfl⟩ := List.mem_map.mp h
  have hq : q ∈ strP kv := (List.mergeSort_perm _ _).mem_iff.mp hq
  obtain ⟨p, hp, rfl⟩ := List.mem_map.mp hq
  exact ⟨p, hp, rfl⟩
theorem text_ok {kv : List (Int × Sg)} (h : ∀ n ∈ kv.map (·.1), n ∈ ([1, 2, 3, 4] : List Int)) (hl : kv.length ≤ 10) : (PyData.list ((sortedP (strP kv)).map pyP)).showable = true ∧ (textOf kv).length ≤ 1000 := by
  have key : ∀ d ∈ (sortedP (strP kv)).map pyP, d.shown.length ≤ 40 ∧ d.showable = true := fun d hd => by
    obtain ⟨p, hp, rfl⟩ := sorted_in hd
    exact pair_text p.1 (h _ (List.mem_map.mpr ⟨p, hp, rfl⟩)) p.2 (mem_allSg _)
  refine ⟨showableAll_of _ fun d hd => (key d hd).2, ?_⟩
  show (listText (PyData.shownAll _)).length ≤ 1000
  unfold listText
  rw [strLen_append]
  have h1 := textFrom_le (PyData.shownAll ((sortedP (strP kv)).map pyP)) 0 "[" fun t ht => by
    obtain ⟨d, hd, rfl⟩ := shownAll_mem _ t ht
    exact (key d hd).1
  rw [shownAll_len, List.length_map] at h1
  have h2 : (sortedP (strP kv)).length = kv.length := by
    unfold sortedP strP
    rw [List.length_mergeSort, List.length_map]
  have h3 : ((("[" : String) : Str)).length = 1 := rfl
  have h4 : ((("]" : String) : Str)).length = 1 := rfl
  omega
end Ts

set_option Elab.async false
set_option linter.all false
set_option maxRecDepth 100000
set_option maxHeartbeats 4000000
/-! Law defs 7: no job of the stuck set ever begins. -/
namespace Ts
open PySem PySem.Spec PyProof.Rows L2
def kvT (ts : List Str) : List (Key × V) := ts.map fun t => (Sum.inr t, V.bl true)
theorem valV_kvT (ts : List Str) (t : Str) : (valV (kvT ts) (Sum.inr t)).isSome = decide (t ∈ ts) := by
  unfold valV kvT
  rw [Option.isSome_map, Bool.eq_iff_iff, List.find?_isSome, decide_eq_true_iff]
  constructor
  · rintro ⟨p, hp, e⟩
    obtain ⟨u, hu, rfl⟩ := List.mem_map.mp hp
    have e := of_decide_eq_true e
    injection e with e
    rw [← e]
    exact hu
  · exact fun h => ⟨_, List.mem_map.mpr ⟨t, h, rfl⟩, decide_eq_true rfl⟩
theorem putK_kvT {ts : List Str} {t : Str} (h : t ∉ ts) : putK (kvT ts) (Sum.inr t) (.bl true) = kvT (ts ++ [t]) := by
  have hn : valV (kvT ts) (Sum.inr t) = none := by
    have := valV_kvT ts t
    rw [decide_eq_false h] at this
    exact Option.isSome_eq_false_iff.mp this |> Option.isNone_iff_eq_none.mp
  rw [putK_new _ hn]
  unfold kvT
  rw [List.map_append]
  rfl
theorem kvT_ne {H : Hp} {p ad : Addr} {kv : List (Int × Sg)} {ts : List Str} (h1 : H p = some (.dK (kvS kv))) (h2 : H ad = some (.dK (kvT ts))) (hn : ts ≠ []) : p ≠ ad := fun z => by
  rw [z, h2] at h1
  have e : kvT ts = kvS kv := HO.dK.inj (Option.some.inj h1)
  cases ts with
  | nil => exact hn rfl
  | cons t r =>
    cases kv with
    | nil => cases e
    | cons q r2 =>
      have e2 : ((Sum.inr t : Key), V.bl true) = (Sum.inl q.1, sV q.2) := (List.cons.inj e).1
      cases (Prod.mk.inj e2).1
theorem paired_take {α β : Type} {R : α → β → Prop} : ∀ (n : Nat) {l : List α} {m : List β}, Paired R l m → Paired R (l.take n) (m.take n)
  | 0, _, _, _ => .nil
  | _ + 1, _, _, .nil => .nil
  | n + 1, _, _, .cons r t => .cons r (paired_take n t)
/-- all but ad, aw stand -/
def Off2 (ad aw : Addr) (H H' : Hp) : Prop := ∀ b u, b ≠ ad → b ≠ aw → H b = some u → H' b = some u
theorem Off2.same {ad aw : Addr} {H H1 H2 : Hp} (o : Off2 ad aw H H1) (s : Same H1 H2) : Off2 ad aw H H2 := fun b u h1 h2 h => s _ _ (o b u h1 h2 h)
/-- what is seen, what waits -/
structure Nv (ad aw : Addr) (H0 : Hp) (keys : List Int) (st0 : Int → Sg) (S : List Int) (m : Nat) (H : Hp) : Prop where
  off : Off2 ad aw H0 H
  ne : ad ≠ aw
  ex : ∃ ts L xs, H ad = some (.dK (kvT ts)) ∧ ts ≠ [] ∧ ts.Nodup ∧ (∀ t ∈ ts, t ∈ (allSt keys).map textOf) ∧ H aw = some (.lst xs) ∧ DsAt H xs L ∧ (∀ kv ∈ L, Good keys st0 S kv) ∧ xs.length ≤ ts.length ∧ 2 * (7 ^ keys.length - ts.length) + xs.length ≤ m
theorem Nv.same {ad aw : Addr} {H0 H H' : Hp} {keys : List Int} {st0 : Int → Sg} {S : List Int} {m : Nat} (h : Nv ad aw H0 keys st0 S m H) (s : Same H H') : Nv ad aw H0 keys st0 S m H' := by
  obtain ⟨o, ne, ts, L, xs, h1, h2, h3, h4, h5, h6, h7, h8, h9⟩ := h
  exact ⟨o.same s, ne, ts, L, xs, s _ _ h1, h2, h3, h4, s _ _ h5, h6.same s, h7, h8, h9⟩
theorem seen_le {keys : List Int} {ts : List Str} (nd : ts.Nodup) (h : ∀ t ∈ ts, t ∈ (allSt keys).map textOf) : ts.length ≤ 7 ^ keys.length := by
  have := nodup_len nd h
  rw [List.length_map, allSt_len] at this
  exact this
section
variable {P : Program} {w : World} {K : PySem.W.Frag} {mg : Str → Option Value} {base : Heap}
def spNever (K : PySem.W.Frag) : Sp := fun vs H Q _ => ∃ (dw dk a : Addr) (kvs : List (Key × V)) (ws : Ws) (kn : List (Int × Sg)) (S : List Int), vs = [.ref dw, .ref dk, .ref a] ∧ dk ≠ dw ∧ H dw = some (.dK kvs) ∧ WsAt H kvs ws ∧ WsOk ws ∧ H dk = some (.dK (kvS kn)) ∧ KnOk kn ws ∧
  ((stOf kn ws).map (·.1)).Pairwise (· < ·) ∧ (∀ n ∈ (stOf kn ws).map (·.1), n ∈ ([1, 2, 3, 4] : List Int)) ∧ (stOf kn ws).length ≤ 4 ∧ SqT K H a (S.map V.int) ∧ (∀ n ∈ S, n ∈ ws.map (·.1)) ∧ stuckB ws (stL (stOf kn ws)) S = true ∧ ∀ H', Same H H' → Q (.bl true) H'
abbrev nsNever : List Str := ["_law_wishes", "_law_known", "_law_some", "_law_number", "_law_start", "_law_seen", "_law_waiting", "_law_states", "_law_state", "_law_later"]
theorem scNever : FnScope nsNever ["_law_wishes", "_law_known", "_law_some"] (defScope (top 64)) := ⟨rfl, rfl, rfl, by decide +kernel, rfl, by decide +kernel, by decide +kernel⟩
theorem ok_never {f g : Addr} {fd gd : FuncData} (D : Def K mg "_law_never_begins" 64 ["_law_wishes", "_law_known", "_law_some"] f fd) (T : Bs mg) (DS : Def K mg "_law_steps" 63 ["_law_wishes", "_law_states", "_law_barred"] g gd) (GS : FnOk P w K mg base CX0 4 g gd ["_law_wishes", "_law_states", "_law_barred"] (spSteps K)) :
    FnOkG P w K mg base 6 f fd ["_law_wishes", "_law_known", "_law_some"] (spNever K) := by
  refine okG D.F scNever (fun vs H Q E h => ?_) (fun cdv A outer s H vs Q E hr hG h => ?_)
  · obtain ⟨dw, dk, a, kvs, ws, kn, S, rfl, _⟩ := h
    rfl
  obtain ⟨dw, dk, a, kvs, ws, kn, S, rfl, dne, hd, hw, ok, hk, kok, asc, k4, l4, ha, hS, hst, q⟩ := h
  have hu := hu_of hr
  have hu2 := hr.un
  have lw : kvs.length = ws.length := Paired.length hw
  have l10 := ok.len
  have l10k := kok.len
  have hu100 : (A.deeper (envOfC "_law_never_begins" (defScope (top 64)) s.heap.objs.size f cdv)).units + 100 < cLine := by omega
  refine ⟨_, pss_cons (ps_set (i := 4) scNever.nd rfl (Or.inl rfl) (pe_callTy (call_dictPK K) rfl T.dict (by decide +kernel) (pa_cons (pe_op op_cat (LiI.pe_listItems rfl (pv 1) rfl T.list (by decide +kernel)) (pe_lock (pe_lc (own := [("_law_number", 3)]) (g := gName 3) rfl scNever.nd (pi_keys (pv 0)) (blkOk_by (N := nsNever) (sc := defScope (top 64)) (by decide +kernel))
      (fun _ _ _ _ _ => pg_name (i := 3) scNever.nd rfl (Or.inl rfl)) (fun _ _ _ _ _ => pts_nil) (fun _ _ _ _ _ => pe_tup (pa_cons (pv 3) (pa_cons pe_str pa_nil)))))) pa_nil)))
    (pss_cons (ps_par (i := 5) (j := 6) (by rfl) scNever.nd rfl rfl (by decide) rfl rfl (pa_cons (pe_disp (pps_cons (pe_reprItems hG hu100 rfl (pv 4) rfl T.repr rfl T.sorted (by decide +kernel) (by decide +kernel)) pe_bl pps_nil) (by rfl) (by rfl) (fun z => by cases z) (by decide)) (pa_cons (pe_lst (pa_cons (pv 4) pa_nil)) pa_nil)) (by rfl))
    (pss_cons (ps_while PassesOwn.never (pt_cmpR (op_neNil hr.units) (pv 6) (pe_lst pa_nil) (nomark _))
      (pss_cons (ps_set (i := 7) scNever.nd rfl (Or.inl rfl) (pe_bm0 PySem.F.plainAttrs_list PySem.F.slot_list_pop PySem.F.type_list_pop mt_pop (pv 6)))
      (pss_one (ps_for PassesOwn.never rfl (pi_list (pe_callD DS GS (hr.mono (by decide)) (pa_cons (pv 0) (pa_cons (pv 7) (pa_cons (pv 2) pa_nil))))) (pg_tup rfl (pgs_cons (pg_name (i := 3) scNever.nd rfl (Or.inl rfl)) (pgs_cons (pg_name (i := 8) scNever.nd rfl (Or.inl rfl)) pgs_nil)))
        (pss_cons (ps_if (PW.pt (pw_and (pt_cmpR op_in_seq (pv 3) (pv 2) (by rfl)) (pw_and1 (pt_cmpR op_eq (pv 8) pe_str (nomark _))))) (pss_one (ps_ret pe_bl)) pss_nil)
        (pss_cons (ps_set (i := 9) scNever.nd rfl (Or.inl rfl) (pe_callTy (call_dictPK K) rfl T.dict (by decide +kernel) (pa_cons (pe_op op_cat (LiI.pe_listItems rfl (pv 7) rfl T.list (by decide +kernel)) (pe_lst (pa_cons (pe_tup (pa_cons (pv 3) (pa_cons (pv 8) pa_nil))) pa_nil))) pa_nil)))
        (pss_one (ps_if (pt_cmp (pc_dnotin hu (pe_reprItems hG hu100 rfl (pv 9) rfl T.repr rfl T.sorted (by decide +kernel) (by decide +kernel)) (pv 5)))
          (pss_cons (ps_dput hu (pv 5) (pe_reprItems hG hu100 rfl (pv 9) rfl T.repr rfl T.sorted (by decide +kernel) (by decide +kernel)) pe_bl rfl)
          (pss_one (ps_expr (pe_bm PySem.F.plainAttrs_list PySem.F.slot_list_append PySem.F.type_list_append mt_append (pv 6) (pa_cons (pv 9) pa_nil))))) pss_nil))))))))
    (pss_one (ps_ret pe_bl)))), ?_⟩
  -- start
  refine ⟨_, rfl, dk, kvS kn, rfl, hk, fun H1 l ts s1 nl nts nlts hl hts => ?_⟩
  have hd1 := s1 _ _ hd
  have pr1 := pr_of hts
  refine ⟨dw, _, hd1, trivial, fun od => ?_⟩
  refine ⟨_, rfl, dw, od, rfl, .inl ⟨kvs, upd_same, fun D2 hD2 => ?_⟩⟩
  have atL : upd H1 dw (.frz od (.dK kvs)) dw = some (.frz od (.dK kvs)) := upd_same
  have back : ∀ {H3 : Hp}, Same (upd H1 dw (.frz od (.dK kvs))) H3 → Same H1 (upd H3 dw (.dK kvs)) := fun s3 => lock_same hd1 s3
  have nD2 : D2 ≠ dw := fun z => by rw [z, atL] at hD2; cases hD2
  have ek := ws_keys hw
  have kq : ∀ {i : Nat} {k : Key} {v : V}, kvs[i]? = some (k, v) → ∃ q, ws[i]? = some q ∧ k = Sum.inl q.1 := fun {i k v} e => by
    have e2 : (kvs.map (·.1))[i]? = some k := by rw [List.getElem?_map, e]; rfl
    rw [ek, List.getElem?_map, List.getElem?_map] at e2
    cases e3 : ws[i]? with
    | none => rw [e3] at e2; cases e2
    | some q => rw [e3] at e2; exact ⟨q, rfl, (Option.some.inj e2).symm⟩
  generalize upd H1 dw (.frz od (.dK kvs)) = HL at *
  refine lc_prs (J := Itk dw od kvs) ws (fun q => (q.1, Sg.waiting)) hD2 (by omega) (fun i x H e s => ⟨s _ _ atL, by rw [lw]; exact (List.getElem?_eq_some_iff.mp e).1⟩) (fun H s => ⟨s _ _ atL, Nat.le_of_eq lw⟩) (fun i x H y H' Qt e s yl k => ?_) (fun H3 us s3 h3 hu3 => ?_)
  · obtain ⟨rfl, k', v, e1, rfl⟩ := yl
    obtain ⟨q', e2, rfl⟩ := kq e1
    rw [e] at e2
    cases e2
    exact ⟨rfl, _, rfl, by show 2 ≤ sizeLine; decide, fun t ht => k t _ (same_new ht _) upd_same⟩
  have at3 := s3 _ _ atL
  have h3' : (upd H3 dw (.dK kvs)) D2 = some (.lst (us.map V.ref)) := by rw [upd_ne nD2]; exact h3
  have s4 := back s3
  have hu4 : PrAt (upd H3 dw (.dK kvs)) us (ws.map fun q => (q.1, Sg.waiting)) := hu3.tups (fun p xs e => by
    rw [upd_ne (fun z => by rw [z, at3] at e; cases e)]
    exact e)
  have hl4 := s4 _ _ hl
  have pr4 := pr1.tups (tups_of s4)
  have lts : ts.length = kn.length := Paired.length pr1
  have lus : us.length = ws.length := by have := Paired.length hu3; rw [List.length_map] at this; exact this
  refine ⟨at3, ?_⟩
  generalize upd H3 dw (.dK kvs) = H4 at *
  refine ⟨l, D2, _, _, rfl, rfl, hl4, h3', small (by rw [List.length_map, List.length_map]; omega), fun l3 hl3 => ?_⟩
  have s5 := same_new hl3 (.lst (ts.map V.ref ++ us.map V.ref))
  refine ⟨l3, ts ++ us, kvS (kn ++ ws.map fun q => (q.1, Sg.waiting)), rfl, SqL.of (by rw [upd_same, List.map_append]), pr_dict (pr_app (hu4.tups (tups_of s5)) (pr4.tups (tups_of s5))), fun ds hds => ?_⟩
  have mk : mergeK [] (kvS (kn ++ ws.map fun q => (q.1, Sg.waiting))) = kvS (stOf kn ws) := mergeK_kvS (kok.all ok)
  rw [mk]
  have S6 : Same H (upd (upd H4 l3 (.lst (ts.map V.ref ++ us.map V.ref))) ds (.dK (kvS (stOf kn ws)))) := Same.trans s1 (s4.trans (s5.trans (same_new hds _)))
  have hds6 : (upd (upd H4 l3 (.lst (ts.map V.ref ++ us.map V.ref))) ds (.dK (kvS (stOf kn ws)))) ds = some (.dK (kvS (stOf kn ws))) := upd_same
  generalize upd (upd H4 l3 (.lst (ts.map V.ref ++ us.map V.ref))) ds (.dK (kvS (stOf kn ws))) = H6 at *
  have jobs : ∀ q ∈ ws, ∀ f, q.2 = some f → ∀ j ∈ f.jobs, j ∈ (stOf kn ws).map (·.1) := kok.jobs
  have nds := kok.all ok
  have hs : ∀ x ∈ S, ∃ f, fw ws x = some f ∧ canB f (posOf (stL (stOf kn ws)) S []) = false := stuck_wish hst
  have start : Good ((stOf kn ws).map (·.1)) (stL (stOf kn ws)) S (stOf kn ws) := by
    refine ⟨rfl, fun n hn => ?_, fun n e he => he⟩
    have hnw := hS n hn
    unfold stL stOf
    rw [List.lookup_append, lookup_out (kok.dis n hnw)]
    obtain ⟨q, hq, rfl⟩ := List.mem_map.mp hnw
    have : (ws.map fun q => (q.1, Sg.waiting)).lookup q.1 = some Sg.waiting := by
      obtain ⟨e, he, hm⟩ := lookup_in (kv := ws.map fun q => (q.1, Sg.waiting)) (n := q.1) (by rw [List.map_map]; exact hnw)
      obtain ⟨q2, _, e2⟩ := List.mem_map.mp hm
      rw [he, ← (Prod.mk.inj e2).2]
    rw [this]
    rfl
  have lk : ((stOf kn ws).map (·.1)).length ≤ 4 := by rw [List.length_map]; exact l4
  generalize stOf kn ws = sv at *
  generalize hkeys : sv.map (·.1) = keys at *
  have txt : ∀ {kv : List (Int × Sg)}, kv.map (·.1) = keys → (PyData.list ((sortedP (strP kv)).map pyP)).showable = true ∧ (textOf kv).length ≤ 1000 ∧ (strP kv).length ≤ 63 := fun {kv} e => by
    have ll : kv.length ≤ 4 := by
      have := congrArg List.length e
      rw [List.length_map] at this
      omega
    have := text_ok (kv := kv) (by rw [e]; exact k4) (by omega)
    exact ⟨this.1, this.2, by unfold strP; rw [List.length_map]; omega⟩
  have big := sizeLine_eq
  -- seen, waiting
  obtain ⟨x1, x2, x3⟩ := txt hkeys
  intro ad had
  have sA := same_new had (.dK [])
  refine ⟨_, rfl, ds, strP sv, rfl, by rw [strP_kv]; exact sA _ _ hds6, x3, x1, by show (textOf sv).length ≤ _; omega, upd_same, [(Sum.inr (textOf sv), V.bl true)], rfl, by show 1 ≤ 15; decide, ?_⟩
  have eu : mergeK [] [((Sum.inr (textOf sv) : Key), V.bl true)] = kvT [textOf sv] := rfl
  rw [eu]
  have sB : Same H6 (upd (upd H6 ad (.dK [])) ad (.dK (kvT [textOf sv]))) := fun b u h => by
    rw [upd_ne (ne_of_none h had)]
    exact sA _ _ h
  have had7 : (upd (upd H6 ad (.dK [])) ad (.dK (kvT [textOf sv]))) ad = some (.dK (kvT [textOf sv])) := upd_same
  generalize upd (upd H6 ad (.dK [])) ad (.dK (kvT [textOf sv])) = H7 at *
  refine ⟨_, rfl, by show 1 ≤ sizeLine; decide, fun aw haw => ?_⟩
  have s8 := same_new haw (.lst [.ref ds])
  refine ⟨_, _, rfl, ?_⟩
  have ne8 : ad ≠ aw := ne_of_none had7 haw
  have nv8 : Nv ad aw H6 keys (stL sv) S (2 * (7 ^ keys.length - 1) + 1) (upd H7 aw (.lst [.ref ds])) := by
    refine ⟨fun b u h1 h2 h => s8 _ _ (sB _ _ h), ne8, [textOf sv], [sv], [.ref ds], s8 _ _ had7, by simp, by simp, fun t ht => ?_, upd_same, .cons ⟨ds, rfl, s8 _ _ (sB _ _ hds6)⟩ .nil, fun kv hkv => ?_, Nat.le_refl _, Nat.le_refl _⟩
    · rw [List.mem_singleton.mp ht]
      exact List.mem_map.mpr ⟨sv, allSt_mem hkeys, rfl⟩
    · rw [List.mem_singleton.mp hkv]
      exact start
  generalize upd H7 aw (.lst [.ref ds]) = H8 at *
  have hadN : H6 ad = none := had
  have hawN : H6 aw = none := same_none sB haw
  have old : ∀ {m : Nat} {H9 : Hp} {b : Addr} {u : HO}, Nv ad aw H6 keys (stL sv) S m H9 → H b = some u → H9 b = some u := fun nv h => nv.off _ _ (ne_of_none (S6 _ _ h) hadN) (ne_of_none (S6 _ _ h) hawN) (S6 _ _ h)
  -- the loop
  refine ⟨fun m σ H9 => (∃ o3 o7 o8 o9, σ = [some (.ref dw), some (.ref dk), some (.ref a), o3, some (.ref ds), some (.ref ad), some (.ref aw), o7, o8, o9]) ∧ Nv ad aw H6 keys (stL sv) S m H9, ⟨_, ⟨none, none, none, none, rfl⟩, nv8⟩, ?_⟩
  rintro m σ H9 ⟨⟨o3, o7, o8, o9, rfl⟩, nv⟩
  obtain ⟨ts9, L, xs, a1, a2, a3, a4, a5, a6, a7, a8, a9⟩ := id nv.ex
  refine ⟨_, rfl, by show 0 ≤ sizeLine; decide, fun em hem => ?_⟩
  have se := same_new hem (.lst [])
  refine ⟨aw, em, xs, rfl, rfl, SqL.of (se _ _ a5), SqL.of upd_same, _, rfl, ?_⟩
  have nve := nv.same se
  have b1 := se _ _ a1
  have b5 := se _ _ a5
  have b6 := a6.same se
  generalize upd H9 em (.lst []) = H10 at *
  have leC := seen_le a3 a4
  cases xs with
  | nil => exact q H10 (fun b u h => old nve h)
  | cons x0 xr =>
    generalize hxs : x0 :: xr = xs at *
    have xl : 1 ≤ xs.length := by rw [← hxs]; simp
    have em' : (!xs.isEmpty) = true := by rw [← hxs]; rfl
    rw [em']
    refine iteT ?_
    refine ⟨fun σ' H' => ∃ m', m' < m ∧ (∃ o3 o7 o8 o9, σ' = [some (.ref dw), some (.ref dk), some (.ref a), o3, some (.ref ds), some (.ref ad), some (.ref aw), o7, o8, o9]) ∧ Nv ad aw H6 keys (stL sv) S m' H', fun σ' H' h => h, ?_⟩
    obtain ⟨y, hy⟩ : ∃ y, xs[xs.length - 1]? = some y := ⟨xs[xs.length - 1]'(by omega), List.getElem?_eq_getElem (by omega)⟩
    obtain ⟨kvp, hkvp, pk, rfl, hpk⟩ := paired_get2 b6 hy
    have gp := a7 kvp (List.mem_of_getElem? hkvp)
    refine ⟨_, rfl, .inl ⟨rfl, _, SqL.of b5⟩, aw, xs, _, rfl, rfl, b5, hy, ?_⟩
    have lxL : xs.length = L.length := Paired.length b6
    have npa : pk ≠ aw := ne_of hpk b5 (by intro z; cases z)
    have nv11 : Nv ad aw H6 keys (stL sv) S (m - 1) (upd H10 aw (.lst xs.dropLast)) := by
      refine ⟨fun b u h1 h2 h => by rw [upd_ne h2]; exact nve.off b u h1 h2 h, ne8, ts9, L.take (xs.length - 1), xs.dropLast, by rw [upd_ne ne8]; exact b1, a2, a3, a4, upd_same, ?_, fun kv hkv => a7 kv (List.mem_of_mem_take hkv), ?_, ?_⟩
      · rw [List.dropLast_eq_take]
        exact (dsat_updL (o := .lst (xs.take (xs.length - 1))) b5 (paired_take (xs.length - 1) b6))
      · rw [List.length_dropLast]
        omega
      · rw [List.length_dropLast]
        omega
    have hpk11 : (upd H10 aw (.lst xs.dropLast)) pk = some (.dK (kvS kvp)) := by rw [upd_ne npa]; exact hpk
    generalize upd H10 aw (.lst xs.dropLast) = H11 at *
    have tup6 : ∀ {m9 : Nat} {H9 : Hp}, Nv ad aw H6 keys (stL sv) S m9 H9 → Tups H H9 := fun nv p xs e => old nv e
    have sqa : ∀ {m9 : Nat} {H9 : Hp}, Nv ad aw H6 keys (stL sv) S m9 H9 → SqT K H9 a (S.map V.int) := fun nv => by
      rcases ha with (h | ⟨u, h⟩) | h
      · exact .inl (.inl (old nv h))
      · exact .inl (.inr ⟨u, old nv h⟩)
      · exact .inr h
    have lkv : kvp.length ≤ 4 := by
      have := congrArg List.length gp.keys
      rw [List.length_map] at this
      omega
    refine ⟨_, rfl, _, rfl, _, rfl, dw, pk, a, kvs, ws, kvp, S, rfl, old nv11 hd, hw.tups (tup6 nv11), ok, hpk11, by rw [gp.keys]; exact asc, by omega, fun q hq f hf j hj => by rw [gp.keys]; exact jobs q hq f hf j hj, sqa nv11, fun r ps H12 s12 nr hr12 pr12 => ?_⟩
    rw [gp.keys] at pr12
    have nv12 := nv11.same s12
    have hpk12 := s12 _ _ hpk11
    have nraw : r ≠ aw := fun z => by
      obtain ⟨_, _, _, _, _, _, _, h, _⟩ := nv11.ex
      rw [z, h] at nr
      cases nr
    have nrad : r ≠ ad := fun z => by
      obtain ⟨_, _, _, h, _⟩ := nv11.ex
      rw [z, h] at nr
      cases nr
    refine ⟨r, rfl, ⟨_, SqL.of hr12⟩, ?_⟩
    refine for_list (K := K) (xs := ps.map V.ref) (fun i σ H13 => (∃ o3 o8 o9, σ = [some (.ref dw), some (.ref dk), some (.ref a), o3, some (.ref ds), some (.ref ad), some (.ref aw), some (.ref pk), o8, o9]) ∧ Nv ad aw H6 keys (stL sv) S (m - 1) H13 ∧ H13 pk = some (.dK (kvS kvp)) ∧ H13 r = some (.lst (ps.map V.ref)) ∧ PrAt H13 ps (keys.flatMap (stepsOf ws S kvp)))
      ⟨⟨_, _, _, rfl⟩, nv12, hpk12, hr12, pr12⟩ (fun i σ H13 _ h => SqL.of h.2.2.2.1) (fun i x σ H13 hx h => ?_) (fun σ H13 h => ?_)
    · obtain ⟨⟨o3, o8, o9, rfl⟩, nv13, hpk13, hr13, pr13⟩ := h
      rw [List.getElem?_map] at hx
      obtain ⟨t, ht, rfl⟩ := Option.map_eq_some_iff.mp hx
      obtain ⟨⟨n', e⟩, hne, htt⟩ := paired_get2 pr13 ht
      have hm : (n', e) ∈ keys.flatMap (stepsOf ws S kvp) := List.mem_of_getElem? hne
      obtain ⟨n, hnk, hns⟩ := List.mem_flatMap.mp hm
      obtain ⟨en, nb, g2⟩ := good_step gp hs hnk hns
      subst en
      refine ⟨t, _, rfl, SqT.of htt, rfl, _, _, rfl, _, _, rfl, rfl, ?_⟩
      have zz : (if false = true then !inV (V.int n') (S.map V.int) else inV (V.int n') (S.map V.int)) = decide (n' ∈ S) := by rw [if_neg (by decide), inV_ints]
      refine ⟨_, rfl, _, rfl, a, _, rfl, .inr (sqa nv13), rfl, flat_ints S, _, congrArg V.bl zz, ?_⟩
      rcases Decidable.em (n' ∈ S) with hnS | hnS
      case' inl =>
        rw [decide_eq_true hnS]
        refine iteT ?_
        have eb : decide (sV e = V.str "begun") = false := by
          have := nb hnS
          cases e <;> first | rfl | exact absurd rfl this
        refine ⟨_, rfl, rfl, false, congrArg V.bl eb, ?_⟩
        refine iteF ?_
      case' inr =>
        rw [decide_eq_false hnS]
        refine iteF ?_
      all_goals
        refine ⟨_, rfl, pk, kvS kvp, rfl, hpk13, fun H14 l ts s14 nl nts nlts hl hts => ?_⟩
        refine ⟨_, rfl, _, rfl, by show 2 ≤ sizeLine; decide, fun t2 ht2 => ?_⟩
        have st := same_new ht2 (.tup [.int n', sV e])
        have htt2 : (upd H14 t2 (.tup [.int n', sV e])) t2 = some (.tup [.int n', sV e]) := upd_same
        have hl15 := st _ _ hl
        have pr15 := (pr_of hts).tups (tups_of st)
        have s15 := Same.trans s14 st
        generalize hH15 : upd H14 t2 (.tup [.int n', sV e]) = H15 at *
        refine ⟨by show 1 ≤ sizeLine; decide, fun l2 hl2 => ?_⟩
        have s16 := same_new hl2 (.lst [.ref t2])
        have lts' : ts.length = kvp.length := Paired.length (pr_of hts)
        refine ⟨l, l2, _, _, rfl, rfl, s16 _ _ hl15, upd_same, by rw [List.length_map]; exact small (by show ts.length + 1 ≤ 1000; omega), fun l3 hl3 => ?_⟩
        have s17 := same_new hl3 (.lst (ts.map V.ref ++ [.ref t2]))
        refine ⟨l3, ts ++ [t2], kvS (kvp ++ [(n', e)]), rfl, SqL.of (by rw [upd_same, List.map_append]; rfl), pr_dict (pr_app (.cons (s17 _ _ (s16 _ _ htt2)) .nil) ((pr15.tups (tups_of s16)).tups (tups_of s17))), fun pd hpd => ?_⟩
        have mk2 : mergeK [] (kvS (kvp ++ [(n', e)])) = kvS (putS kvp n' e) := merge_old (by rw [gp.keys]; exact nds) (by rw [gp.keys]; exact hnk)
        rw [mk2]
        have s18 : Same H13 (upd (upd (upd H15 l2 (.lst [.ref t2])) l3 (.lst (ts.map V.ref ++ [.ref t2]))) pd (.dK (kvS (putS kvp n' e)))) := s15.trans (s16.trans (s17.trans (same_new hpd _)))
        have hpd18 : (upd (upd (upd H15 l2 (.lst [.ref t2])) l3 (.lst (ts.map V.ref ++ [.ref t2]))) pd (.dK (kvS (putS kvp n' e)))) pd = some (.dK (kvS (putS kvp n' e))) := upd_same
        generalize upd (upd (upd H15 l2 (.lst [.ref t2])) l3 (.lst (ts.map V.ref ++ [.ref t2]))) pd (.dK (kvS (putS kvp n' e))) = H18 at *
        have nv18 := nv13.same s18
        have hpk18 := s18 _ _ hpk13
        have hr18 := s18 _ _ hr13
        have pr18 := pr13.tups (tups_of s18)
        obtain ⟨y1, y2, y3⟩ := txt g2.keys
        have ysz : (textOf (putS kvp n' e)).length ≤ sizeLine := by omega
        obtain ⟨off18, _, ts18, L18, xs18, c1, c2, c3, c4, c5, c6, c7, c8, c9⟩ := id nv18
        refine ⟨_, rfl, pd, strP (putS kvp n' e), rfl, by rw [strP_kv]; exact hpd18, y3, y1, ysz, _, rfl, ad, _, rfl, DGet.k (k := Sum.inr (textOf (putS kvp n' e))) c1, _, rfl, ?_⟩
        rw [valV_kvT]
        by_cases hin : textOf (putS kvp n' e) ∈ ts18
        · rw [decide_eq_true hin]
          refine iteF ?_
          exact ⟨⟨_, _, _, rfl⟩, nv18, hpk18, hr18, pr18⟩
        · rw [decide_eq_false hin]
          refine iteT ?_
          have lC := seen_le c3 c4
          have nd2 : (ts18 ++ [textOf (putS kvp n' e)]).Nodup := by
            rw [List.nodup_append]
            exact ⟨c3, by simp, fun x hx y hy z => hin (by rw [← List.mem_singleton.mp hy, ← z]; exact hx)⟩
          have in2 : ∀ t ∈ ts18 ++ [textOf (putS kvp n' e)], t ∈ (allSt keys).map textOf := fun t ht => by
            rcases List.mem_append.mp ht with ht | ht
            · exact c4 t ht
            · rw [List.mem_singleton.mp ht]
              exact List.mem_map.mpr ⟨_, allSt_mem g2.keys, rfl⟩
          have lC2 := seen_le nd2 in2
          rw [List.length_append] at lC2
          have lC2 : ts18.length + 1 ≤ 7 ^ keys.length := lC2
          have c7k : 7 ^ keys.length ≤ 7 ^ 4 := Nat.pow_le_pow_right (by decide) lk
          have c7v : 7 ^ 4 = 2401 := by decide
          have lsz : (kvT ts18).length < sizeLine := by
            unfold kvT
            rw [List.length_map]
            omega
          refine ⟨_, rfl, _, rfl, pd, strP (putS kvp n' e), rfl, by rw [strP_kv]; exact hpd18, y3, y1, ysz, ad, _, rfl, DPut.k (k := Sum.inr (textOf (putS kvp n' e))) c1 lsz, ?_⟩
          rw [putK_kvT hin]
          have haw19 : (upd H18 ad (.dK (kvT (ts18 ++ [textOf (putS kvp n' e)])))) aw = some (.lst xs18) := by rw [upd_ne (Ne.symm ne8)]; exact c5
          refine ⟨_, rfl, .inl ⟨rfl, _, SqL.of haw19⟩, _, rfl, aw, xs18, _, rfl, rfl, haw19, by omega, ?_⟩
          have ds18 : DsAt (upd H18 ad (.dK (kvT (ts18 ++ [textOf (putS kvp n' e)])))) (xs18 ++ [.ref pd]) (L18 ++ [putS kvp n' e]) := by
            refine paired_snoc ⟨pd, rfl, by rw [upd_ne (kvT_ne hpd18 c1 c2)]; exact hpd18⟩ (paired_mono (fun v kv r => ?_) c6)
            obtain ⟨p, ev, hp⟩ := r
            exact ⟨p, ev, by rw [upd_ne (kvT_ne hp c1 c2)]; exact hp⟩
          have npd : pk ≠ ad := kvT_ne hpk18 c1 c2
          have npw : pk ≠ aw := ne_of hpk18 c5 (by intro z; cases z)
          refine ⟨⟨_, _, _, rfl⟩, ⟨fun b u h1 h2 h => by rw [upd_ne h2, upd_ne h1]; exact off18 b u h1 h2 h, ne8, ts18 ++ [textOf (putS kvp n' e)], L18 ++ [putS kvp n' e], xs18 ++ [.ref pd], by rw [upd_ne ne8]; exact upd_same, by simp, nd2, in2, upd_same, dsat_updL haw19 ds18, fun kv hkv => ?_, ?_, ?_⟩, by rw [upd_ne npw, upd_ne npd]; exact hpk18, by rw [upd_ne nraw, upd_ne nrad]; exact hr18, (pr18.tups (dk_ne_tups c1)).tups (tups_upd haw19)⟩
          · rcases List.mem_append.mp hkv with hkv | hkv
            · exact c7 kv hkv
            · rw [List.mem_singleton.mp hkv]
              exact g2
          · rw [List.length_append, List.length_append]
            exact Nat.succ_le_succ c8
          · rw [List.length_append, List.length_append]
            show 2 * (7 ^ keys.length - (ts18.length + 1)) + (xs18.length + 1) ≤ m - 1
            omega
    · obtain ⟨⟨o3, o8, o9, rfl⟩, nv13, _, _, _⟩ := h
      exact ⟨m - 1, by omega, ⟨_, _, _, _, rfl⟩, nv13⟩
end
end Ts

set_option Elab.async false
set_option linter.all false
set_option maxRecDepth 100000
set_option maxHeartbeats 4000000
/-! Law defs 8: what is right of one drawn table. -/
namespace Ts
open PySem PySem.Spec PyProof.Rows L2 LamX NdefX
theorem op_catAK {X : Cx} (K : PySem.W.Frag) (hK : X.K = K := by rfl) : OpR X (binaryOp .Add) (rCatA K) := by
  subst hK
  exact op_catA
theorem op_neNilK {X : Cx} (K : PySem.W.Frag) (hu : X.A.units + 64 < cLine) (hK : X.K = K := by rfl) : OpR X (compareOp .NotEq) (fun x y H Q => ∃ a b xs, x = .ref a ∧ y = .ref b ∧ SqL K H a xs ∧ SqL K H b [] ∧ Q (.bl (!xs.isEmpty)) H) := by
  subst hK
  exact op_neNil hu
abbrev nsRight : List Str := ["_law_dice_here", "_law_many", "_law_jobs", "_law_known", "_law_wishes", "_law_number", "_law_near", "_law_sets", "_law_stuck", "_law_told", "_law_beyond", "_law_odd", "_law_some", "_law_one"]
theorem scRight : FnScope nsRight ["_law_dice_here", "_law_many"] (defScope (top 65)) := ⟨rfl, rfl, rfl, by decide +kernel, rfl, by decide +kernel, by decide +kernel⟩
/-- all but the dice and the tables stand; the dice and the table are in order -/
structure Rt (d Pt : Addr) (H H' : Hp) : Prop where
  off : ∀ b u, b ≠ d → H b = some u → (∀ ps, u ≠ .tbl ps) → H' b = some u
  dice : DiceAt H' d
  tab : TabS H' Pt lamQ
theorem js_facts {many : Nat} (h2 : 2 ≤ many) (h4 : many ≤ 4) : ∃ js : List Int, cutV [V.int 3, V.int 4, V.int 5, V.int 60] none (some (many : Int)) = js.map V.int ∧ js.Pairwise (· < ·) ∧ (∀ n ∈ js, n ∈ ([3, 4, 5, 60] : List Int)) ∧ js ≠ [] ∧ js.length ≤ 4 ∧ (many ≤ 2 → js = [3, 4]) := by
  have h : many = 2 ∨ many = 3 ∨ many = 4 := by omega
  rcases h with rfl | rfl | rfl
  · exact ⟨[3, 4], rfl, by decide, by decide, by decide, by decide, fun _ => rfl⟩
  · exact ⟨[3, 4, 5], rfl, by decide, by decide, by decide, by decide, fun h => absurd h (by decide)⟩
  · exact ⟨[3, 4, 5, 60], rfl, by decide, by decide, by decide, by decide, fun h => absurd h (by decide)⟩
theorem ks_facts {r : Int} (h0 : 0 ≤ r) (h2 : r < 2) : ∃ ks : List Int, cutV [V.int 1, V.int 2] none (some (1 + r)) = ks.map V.int ∧ (ks = [1] ∨ ks = [1, 2]) := by
  have h : r = 0 ∨ r = 1 := by omega
  rcases h with rfl | rfl
  · exact ⟨[1], rfl, .inl rfl⟩
  · exact ⟨[1, 2], rfl, .inr rfl⟩
theorem Rt.refl {d Pt : Addr} {H : Hp} (hd : DiceAt H d) (tab : TabS H Pt lamQ) : Rt d Pt H H := ⟨fun _ _ _ h _ => h, hd, tab⟩
theorem Rt.same {d Pt : Addr} {H H1 H2 : Hp} (r : Rt d Pt H H1) (s : Same H1 H2) : Rt d Pt H H2 := ⟨fun b u hb h n => s _ _ (r.off b u hb h n), r.dice.same s, tab_same r.tab s⟩
theorem Rt.new {d Pt : Addr} {H H1 : Hp} (r : Rt d Pt H H1) {p : Addr} (h : H1 p = none) (o : HO) : Rt d Pt H (upd H1 p o) := r.same (same_new h o)
theorem tab_off {d Pt : Addr} {H H' : Hp} {q : Str} (t : TabS H Pt q) (hd : DiceAt H d) (o : Off d H H') : TabS H' Pt q := by
  obtain ⟨x, y, z, _, hd⟩ := hd
  obtain ⟨ps, h1, h2, h3⟩ := t
  refine ⟨ps, o _ _ (fun e => by rw [e, hd] at h1; cases h1) h1, h2, fun pos cv hc => ?_⟩
  obtain ⟨c, e1, e2⟩ := h3 pos cv hc
  exact ⟨c, e1, o _ _ (fun e => by rw [e, hd] at e2; cases e2) e2⟩
theorem Rt.at {d Pt : Addr} {H H1 H2 : Hp} (r : Rt d Pt H H1) (o : Off d H1 H2) (hd : DiceAt H2 d) : Rt d Pt H H2 := ⟨fun b u hb h n => o _ _ hb (r.off b u hb h n), hd, tab_off r.tab r.dice o⟩
theorem Rt.ext {d Pt : Addr} {H H1 H2 : Hp} (r : Rt d Pt H H1) (e : ExtN H1 H2) (t : TabS H2 Pt lamQ) : Rt d Pt H H2 := by
  obtain ⟨x, y, z, h0, hd⟩ := r.dice
  exact ⟨fun b u hb h n => e _ _ (r.off b u hb h n) n, ⟨x, y, z, h0, e _ _ hd (fun _ z => by cases z)⟩, t⟩
theorem Rt.over {d Pt D : Addr} {H H1 : Hp} {kvs : List (Key × V)} {o : HO} (r : Rt d Pt H H1) (hn : ∀ u, H D = some u → (∀ ps, u ≠ .tbl ps) → False) (h : H1 D = some (.dK kvs)) : Rt d Pt H (upd H1 D o) := by
  obtain ⟨x, y, z, h0, hd⟩ := r.dice
  have ne : d ≠ D := ne_of hd h (by intro z; cases z)
  exact ⟨fun b u hb q n => by rw [upd_ne (fun z => hn u (by rw [← z]; exact q) n)]; exact r.off b u hb q n, ⟨x, y, z, h0, by rw [upd_ne ne]; exact hd⟩, tab_upd r.tab h (fun _ z => by cases z) (fun _ z => by cases z)⟩
theorem Rt.keep {d Pt : Addr} {H H1 : Hp} (r : Rt d Pt H H1) {b : Addr} {u : HO} (hb : b ≠ d) (h : H b = some u) (n : ∀ ps, u ≠ .tbl ps) : H1 b = some u := r.off b u hb h n
abbrev NuAt (H : Hp) (ps : List Addr) (L : List (List Int)) : Prop := Paired (fun t S => H t = some (.tup (S.map V.int))) ps L
theorem NuAt.tups {H H' : Hp} (s : Tups H H') {ps : List Addr} {L : List (List Int)} (h : NuAt H ps L) : NuAt H' ps L := paired_mono (fun _ _ r => s _ _ r) h
theorem NuAt.ts {H : Hp} {ps : List Addr} {L : List (List Int)} (h : NuAt H ps L) : TsAt H (ps.map V.ref) L := by
  induction h with
  | nil => exact .nil
  | cons r t ih => exact .cons ⟨_, rfl, r⟩ ih
theorem nu_app {H : Hp} {ps qs : List Addr} {L M : List (List Int)} (h : NuAt H ps L) (h2 : NuAt H qs M) : NuAt H (ps ++ qs) (L ++ M) := by
  induction h with
  | nil => exact h2
  | cons r t ih => exact .cons r ih
section
variable {g : TG} {te : TE} {vs : List Nat} {σ : L2.St} {H1 : Hp} {D : Addr} {Qd : Hp → Prop} {J : It} {α : Type}
theorem lc_nums (as : List α) (pr : α → List Int) (hD : H1 D = none) (hn : as.length ≤ 1000) (hgo : ∀ i a H, as[i]? = some a → Same H1 H → J.go i H) (hst : ∀ H, Same H1 H → J.stop as.length H)
    (hs : ∀ (i : Nat) a H x H' (Qt : V → Hp → Prop), as[i]? = some a → Same H1 H → J.yld i H x H' → (∀ t H2, Same H H2 → H2 t = some (.tup ((pr a).map V.int)) → Qt (.ref t) H2) →
      g x (wipe σ vs) H' fun σ2 H2 => wipe σ2 vs = wipe σ vs ∧ te σ2 H2 Qt)
    (hd : ∀ H ps, Same H1 H → H D = some (.lst (ps.map V.ref)) → NuAt H ps (as.map pr) → Qd H) :
    ∃ W : Nat → Nat → Hp → Prop, (∃ m, W 0 m (upd H1 D (.lst []))) ∧ ∀ i m H, W i m H →
      (J.stop i H ∧ Qd H) ∨ (J.go i H ∧ ∃ Nx : Hp → Prop, (∀ H', Nx H' → ∃ m', m' < m ∧ W (i + 1) m' H') ∧ ∀ x H', J.yld i H x H' → g x (wipe σ vs) H' fun σ2 H2 => wipe σ2 vs = wipe σ vs ∧ tYes σ2 H2 fun b H3 =>
        if b = true then te σ2 H3 fun y H4 => ∃ acc, H4 D = some (.lst acc) ∧ acc.length < sizeLine ∧ Nx (upd H4 D (.lst (acc ++ [y]))) else Nx H3) := by
  refine ⟨fun i m H => m = as.length - i ∧ i ≤ as.length ∧ Same H1 H ∧ ∃ ps, H D = some (.lst (ps.map V.ref)) ∧ NuAt H ps ((as.take i).map pr), ⟨as.length, by simp, Nat.zero_le _, same_new hD _, [], upd_same, .nil⟩, ?_⟩
  rintro i m H ⟨rfl, hi, s1, ps, hA, hp⟩
  by_cases hlt : i < as.length
  · have ha : as[i]? = some as[i] := List.getElem?_eq_getElem hlt
    have tk : as.take (i + 1) = as.take i ++ [as[i]] := List.take_succ_eq_append_getElem hlt
    refine .inr ⟨hgo i _ H ha s1, fun H' => i + 1 ≤ as.length ∧ Same H1 H' ∧ ∃ ps, H' D = some (.lst (ps.map V.ref)) ∧ NuAt H' ps ((as.take (i + 1)).map pr), fun H' h' => ⟨as.length - (i + 1), by omega, rfl, h'⟩, fun x H' y => ?_⟩
    refine hs i _ H x H' (fun y H4 => ∃ acc, H4 D = some (.lst acc) ∧ acc.length < sizeLine ∧ (i + 1 ≤ as.length ∧ Same H1 (upd H4 D (.lst (acc ++ [y]))) ∧ ∃ ps, (upd H4 D (.lst (acc ++ [y]))) D = some (.lst (ps.map V.ref)) ∧ NuAt (upd H4 D (.lst (acc ++ [y]))) ps ((as.take (i + 1)).map pr))) ha s1 y fun t H2 s2 ht => ?_
    have hA2 := s2 _ _ hA
    have tu := tups_upd (o := .lst (ps.map V.ref ++ [.ref t])) hA2
    have l1 := Paired.length hp
    rw [List.length_map, List.length_take] at l1
    refine ⟨_, hA2, ?_, hlt, same_upd hD (s1.trans s2) _, ps ++ [t], ?_, ?_⟩
    · rw [List.length_map]
      exact small1000 (by omega)
    · rw [upd_same, List.map_append]
      rfl
    · rw [tk, List.map_append]
      exact nu_app ((hp.tups (tups_of s2)).tups tu) (.cons (tu _ _ ht) .nil)
  · have e : i = as.length := by omega
    subst e
    rw [List.take_length] at hp
    exact .inl ⟨hst H s1, hd H ps s1 hA hp⟩
end
theorem sets_len (js : List Int) : (setsOf js).length = 2 ^ js.length := by
  unfold setsOf
  have : ∀ (js : List Int) (acc : List (List Int)), (js.foldl setsStep acc).length = acc.length * 2 ^ js.length := by
    intro js
    induction js with
    | nil => intro acc; simp
    | cons n r ih =>
      intro acc
      rw [List.foldl_cons, ih]
      unfold setsStep
      rw [List.length_append, List.length_map, List.length_cons, Nat.pow_succ, ← Nat.two_mul, Nat.mul_comm 2 acc.length, Nat.mul_assoc, Nat.mul_comm 2]
  rw [this]
  simp
theorem sets_take {js : List Int} {i : Nat} {n : Int} (h : js[i]? = some n) : setsOf (js.take (i + 1)) = setsOf (js.take i) ++ (setsOf (js.take i)).map (· ++ [n]) := by
  obtain ⟨hl, e⟩ := List.getElem?_eq_some_iff.mp h
  have tk : js.take (i + 1) = js.take i ++ [n] := by rw [← e]; exact List.take_succ_eq_append_getElem hl
  unfold setsOf
  rw [tk, List.foldl_append]
  rfl
theorem ascB_of : ∀ {S : List Int}, S.Pairwise (· < ·) → ascB S = true
  | [], _ => rfl
  | [_], _ => rfl
  | a :: b :: r, h => by
    have ih := ascB_of (S := b :: r) (List.pairwise_cons.mp h).2
    have hab := (List.pairwise_cons.mp h).1 b List.mem_cons_self
    unfold ascB at ih ⊢
    show (decide (a < b) && (((b :: r).zip ((b :: r).drop 1)).all fun p => decide (p.1 < p.2))) = true
    rw [ih, decide_eq_true hab]
    rfl
theorem asc_end {x : Int} : ∀ {S : List Int}, S ≠ [] → (∀ n ∈ S, x ≤ n) → ascB (S ++ [x]) = false
  | [], h, _ => absurd rfl h
  | [a], _, h => by
    have : ¬ a < x := by have := h a List.mem_cons_self; omega
    show (decide (a < x) && true) = false
    rw [decide_eq_false this]
    rfl
  | a :: b :: r, _, h => by
    have ih := asc_end (S := b :: r) (by simp) fun n hn => h n (List.mem_cons_of_mem _ hn)
    unfold ascB at ih ⊢
    show (decide (a < b) && (((b :: r ++ [x]).zip ((b :: r ++ [x]).drop 1)).all fun p => decide (p.1 < p.2))) = false
    rw [ih, Bool.and_false]
theorem isSt_stuck {ws : Ws} {st : Int → Sg} {S : List Int} (h1 : S.Pairwise (· < ·)) (h2 : ∀ n ∈ S, 1 ≤ n ∧ n ≤ 1000000) : isStB ws st S = stuckB ws st S := by
  unfold isStB
  rw [ascB_of h1, show (S.all fun n => decide (1 ≤ n ∧ n ≤ 1000000)) = true from List.all_eq_true.mpr fun n hn => decide_eq_true (h2 n hn), Bool.true_and, Bool.true_and]
  cases c : stuckB ws st S with
  | true =>
    rw [decide_eq_true (still_iff.mpr c), Bool.and_true]
    refine List.all_eq_true.mpr fun n hn => ?_
    obtain ⟨f, e, _⟩ := stuck_wish c n hn
    rw [e]
    rfl
  | false =>
    rw [decide_eq_false (fun e => by rw [still_iff.mp e] at c; cases c), Bool.and_false]
theorem isSt_asc {ws : Ws} {st : Int → Sg} {S : List Int} (h : ascB S = false) : isStB ws st S = false := by
  unfold isStB
  rw [h, Bool.false_and, Bool.and_false]
theorem isSt_none {ws : Ws} {st : Int → Sg} {n : Int} (h : fw ws n = none) : isStB ws st [n] = false := by
  unfold isStB
  rw [List.all_cons (f := fun n => (fw ws n).isSome), h]
  simp
/-- the told set and one job more, or two jobs in the wrong order -/
def oddS (T : List Int) : List Int := if T = [] then [4, 3] else T ++ [3]
def tOdd (K : PySem.W.Frag) : TE := fun σ H Q => ∃ (tp : Addr) (T : List Int), σ[9]? = some (some (.ref tp)) ∧ H tp = some (.tup (T.map V.int)) ∧ T.length ≤ 100 ∧ ∀ o H2, Same H H2 → H2 o = some (.tup ((oddS T).map V.int)) → Q (.ref o) H2
theorem odd_imp {K : PySem.W.Frag} (σ : L2.St) (H : Hp) (Q : VK) (h : tOdd K σ H Q) : tIf (tTest (tOp (rNeD K) (tVar 9) (tTup tNil))) (tOp (rCatA K) (tVar 9) (tTup (tCons (tC (.int 3)) tNil))) (tTup (tCons (tC (.int 4)) (tCons (tC (.int 3)) tNil))) σ H Q := by
  obtain ⟨tp, T, h9, hT, hl, q⟩ := h
  refine ⟨_, h9, by show 0 ≤ sizeLine; decide, fun e he => ?_⟩
  have s1 := same_new he (.tup [])
  have he1 : (upd H e (.tup [])) e = some (.tup (([] : List Int).map V.int)) := upd_same
  generalize upd H e (.tup []) = H1 at *
  refine ⟨dI T, dI [], dp_I (SqT.of (s1 _ _ hT)), dp_I (SqT.of he1), shaped_I T, shaped_I [], _, rfl, ?_⟩
  rw [eqv_I]
  by_cases c : T = []
  · rw [decide_eq_true c]
    refine iteF ⟨by show 2 ≤ sizeLine; decide, fun o ho => q o _ (s1.trans (same_new ho _)) ?_⟩
    unfold oddS
    rw [upd_same, if_pos c]
    rfl
  · rw [decide_eq_false c]
    refine iteT ⟨_, h9, by show 1 ≤ sizeLine; decide, fun t ht => ?_⟩
    have s2 := same_new ht (.tup [.int 3])
    have ht2 : (upd H1 t (.tup [.int 3])) t = some (.tup [.int 3]) := upd_same
    generalize upd H1 t (.tup [.int 3]) = H2 at *
    refine ⟨tp, t, T.map V.int, [V.int 3], rfl, rfl, SqT.of (s2 _ _ (s1 _ _ hT)), SqT.of ht2, small (by rw [List.length_map]; show T.length + 1 ≤ 1000; omega), fun z => absurd (List.map_eq_nil_iff.mp z) c, fun _ z => (by cases z), fun _ _ p hp => q p _ (s1.trans (s2.trans (same_new hp _))) ?_⟩
    unfold oddS
    rw [upd_same, if_neg c, List.map_append]
    rfl
def spRight (Pt : Addr) : Sp := fun vs H Q _ => ∃ (d : Addr) (many : Nat), vs = [.ref d, .int many] ∧ 2 ≤ many ∧ many ≤ 4 ∧ DiceAt H d ∧ TabS H Pt lamQ ∧ ∀ H', Rt d Pt H H' → Q (.bl true) H'
def asgE : Stmt → Expr
  | .Assign _ e _ => e
  | _ => .Constant .none 0 ⟨0, 0, 0, 0⟩
def sbRight (i : Nat) : Stmt := (defBody (top 65)).getD i (.Pass ⟨0, 0, 0, 0⟩)
section
variable {P : Program} {w : World} {K : PySem.W.Frag} {mg : Str → Option Value} {base : Heap}
structure RG (P : Program) (w : World) (K : PySem.W.Frag) (mg : Str → Option Value) (base : Heap) (Pt : Addr) : Prop where
  roll : ∃ f fd, Def K mg "_law_roll" 50 ["_law_dice_here", "_law_total"] f fd ∧ FnOk P w K mg base CX0 1 f fd ["_law_dice_here", "_law_total"] spRoll
  pick : ∃ f fd, Def K mg "_law_pick" 51 ["_law_dice_here", "_law_items"] f fd ∧ FnOk P w K mg base CX0 2 f fd ["_law_dice_here", "_law_items"] (spPick K)
  drawn : ∃ f fd, Def K mg "_law_after_drawn" 58 ["_law_dice_here", "_law_jobs", "_law_deep"] f fd ∧ FnOk P w K mg base CX0 5 f fd ["_law_dice_here", "_law_jobs", "_law_deep"] (spDrawn K 2)
  known : ∃ f fd, Def K mg "_law_known_drawn" 59 ["_law_dice_here", "_law_jobs"] f fd ∧ FnOk P w K mg base CX0 3 f fd ["_law_dice_here", "_law_jobs"] (spKD K)
  stuck : ∃ f fd, Def K mg "_law_is_stuck" 62 ["_law_wishes", "_law_known", "_law_some"] f fd ∧ FnOk P w K mg base CX0 5 f fd ["_law_wishes", "_law_known", "_law_some"] (spStk K)
  never : ∃ f fd, Def K mg "_law_never_begins" 64 ["_law_wishes", "_law_known", "_law_some"] f fd ∧ FnOkG P w K mg base 6 f fd ["_law_wishes", "_law_known", "_law_some"] (spNever K)
  told : ∃ f fd, Def K mg "stuck_set" 46 ["wishes", "known"] f fd ∧ FnOk P w K mg base CX0 12 f fd ["wishes", "known"] (spStuck Pt)
  isst : ∃ f fd, Def K mg "is_stuck_set" 47 ["wishes", "known", "value"] f fd ∧ FnOk P w K mg base CX0 12 f fd ["wishes", "known", "value"] (spIsSt Pt)
theorem ok_right {f Pt : Addr} {fd : FuncData} (D : Def K mg "_law_right" 65 ["_law_dice_here", "_law_many"] f fd) (T : Bs mg) (G : RG P w K mg base Pt) : FnOkG P w K mg base 13 f fd ["_law_dice_here", "_law_many"] (spRight Pt) := by
  obtain ⟨fr, dr, DR, GR⟩ := G.roll
  obtain ⟨fp, dp, DP, GP⟩ := G.pick
  obtain ⟨fw', dfw, DW, GW⟩ := G.drawn
  obtain ⟨fk, dk', DK, GK⟩ := G.known
  obtain ⟨fs, dfs, DS, GS⟩ := G.stuck
  obtain ⟨fn, dn, DN, GN⟩ := G.never
  obtain ⟨ft, dt', DT, GT⟩ := G.told
  obtain ⟨fi, di, DI, GI⟩ := G.isst
  refine okG D.F scRight (fun vs H Q E h => ?_) (fun cdv A outer s H vs Q E hr hG h => ?_)
  · obtain ⟨d, many, rfl, _⟩ := h
    rfl
  obtain ⟨d, many, rfl, hm2, hm4, hd, tab, q⟩ := h
  have hu := hu_of hr
  have hu2 := hr.un
  have hu65 : (A.deeper (envOfC "_law_right" (defScope (top 65)) s.heap.objs.size f cdv)).units + 65 < cLine := by omega
  refine ⟨_, pss_cons (ps_set (i := 2) scRight.nd rfl (Or.inl rfl) (pe_slice sl_list (pe_lst (pa_cons pe_int (pa_cons pe_int (pa_cons pe_int (pa_cons pe_int pa_nil))))) po_none (po_some (pv 1))))
    (pss_cons (ps_set (i := 3) scRight.nd rfl (Or.inr rfl) (pe_callD DK GK (hr.mono (by decide)) (pa_cons (pv 0) (pa_cons (pe_slice sl_list (pe_lst (pa_cons pe_int (pa_cons pe_int pa_nil))) po_none (po_some (pe_op op_add pe_int (pe_callD DR GR (hr.mono (by decide)) (pa_cons (pv 0) (pa_cons pe_int pa_nil)))))) pa_nil))))
    (pss_cons (ps_set (i := 4) scRight.nd rfl (Or.inr rfl) pe_dnewK)
    (pss_cons (ps_for PassesOwn.never rfl (pi_list (pv 2)) (pg_name (i := 5) scRight.nd rfl (Or.inr rfl))
      (pss_cons (ps_set (i := 6) scRight.nd rfl (Or.inl rfl) (pe_callD DP GP (hr.mono (by decide)) (pa_cons (pv 0) (pa_cons (pe_lst (pa_cons (pv 2) (pa_cons (pv 2) (pa_cons (pe_op op_cat (pv 2) (pe_callB (call_sortedDI rfl) rfl T.sorted (by decide +kernel) (pa_cons (pv 3) pa_nil))) pa_nil)))) pa_nil))))
      (pss_one (ps_dput hu (pv 4) (pv 5) (pe_ifExp (pt_cmpR op_eq (pe_callD DR GR (hr.mono (by decide)) (pa_cons (pv 0) (pa_cons pe_int pa_nil))) pe_int (nomark _)) pe_non (pe_callD DW GW (hr.mono (by decide)) (pa_cons (pv 0) (pa_cons (pv 6) (pa_cons pe_int pa_nil))))) rfl))))
    (pss_cons (ps_set (i := 7) scRight.nd rfl (Or.inl rfl) (pe_lst (pa_cons (pe_tup pa_nil) pa_nil)))
    (pss_cons (ps_for PassesOwn.never rfl (pi_list (pv 2)) (pg_name (i := 5) scRight.nd rfl (Or.inr rfl))
      (pss_one (ps_set (i := 7) scRight.nd rfl (Or.inl rfl) (pe_op op_cat (pv 7) (pe_lc (own := [("_law_some", 12)]) (g := gName 12) rfl scRight.nd (pi_list (pv 7)) (blkOk_by (N := nsRight) (sc := defScope (top 65)) (by decide +kernel))
        (fun _ _ _ _ _ => pg_name (i := 12) scRight.nd rfl (Or.inl rfl)) (fun _ _ _ _ _ => pts_nil) (fun _ _ _ _ _ => pe_op (op_catAK K) (pv 12) (pe_tup (pa_cons (pv 5) pa_nil))))))))
    (pss_cons (ps_set (i := 8) scRight.nd rfl (Or.inr rfl) (pe_lc (own := [("_law_some", 12)]) (g := gName 12) rfl scRight.nd (pi_list (pv 7)) (blkOk_by (N := nsRight) (sc := defScope (top 65)) (by decide +kernel))
        (fun _ _ _ _ _ => pg_name (i := 12) scRight.nd rfl (Or.inl rfl)) (fun _ _ _ _ _ => pts_one (pt_val (pe_callD DS GS (hr.mono (by decide)) (pa_cons (pv 4) (pa_cons (pv 3) (pa_cons (pv 12) pa_nil)))))) (fun _ _ _ _ _ => pv 12)))
    (pss_cons (ps_set (i := 9) scRight.nd rfl (Or.inr rfl) (pe_callD DT GT hr (pa_cons (pv 4) (pa_cons (pv 3) pa_nil))))
    (pss_cons (ps_setLc (i := 10) (own := [("_law_some", 12)]) (g := gName 12) rfl scRight.nd rfl rfl (sw_true rfl rfl rfl (by decide +kernel)) (pi_list (pv 8)) (blkOk_by (N := nsRight) (sc := defScope (top 65)) (by decide +kernel))
        (fun _ _ _ _ _ => pg_name (i := 12) scRight.nd rfl (Or.inl rfl)) (fun _ _ _ _ _ => pts_one (pt_cmpR (op_neNilK K hr.units) (pe_lc (own := [("_law_one", 13)]) (g := gName 13) rfl scRight.nd (pi_tupK K (pv 12)) (blkOk_by (N := nsRight) (sc := relS (lcScope (asgE (sbRight 8))) (defScope (top 65))) (by decide +kernel))
          (fun _ _ _ _ _ => pg_name (i := 13) scRight.nd rfl (Or.inl rfl)) (fun _ _ _ _ _ => pts_one (pt_cmpR (op_notInK K) (pv 13) (pv 9) (by rfl))) (fun _ _ _ _ _ => pv 13)) (pe_lst pa_nil) (nomark _))) (fun _ _ _ _ _ => pv 12))
    (pss_cons (ps_if (PW.pt (pw_or (pt_cmpR (op_notInD hu65) (pv 9) (pv 8) (by rfl)) (pw_or1 (pt_cmpR (op_neNil hr.units) (pv 10) (pe_lst pa_nil) (nomark _))))) (pss_one (ps_ret pe_bl)) pss_nil)
    (pss_cons (ps_if (pt_cmpR (op_neNil hr.units) (pe_lc (own := [("_law_some", 12)]) (g := gName 12) rfl scRight.nd (pi_list (pv 7)) (blkOk_by (N := nsRight) (sc := defScope (top 65)) (by decide +kernel))
        (fun _ _ _ _ _ => pg_name (i := 12) scRight.nd rfl (Or.inl rfl)) (fun _ _ _ _ _ => pts_one (pt_cmpR op_ne (pe_callB cr_reprB rfl T.repr (by decide +kernel) (pa_cons (pe_callD DI GI hr (pa_cons (pv 4) (pa_cons (pv 3) (pa_cons (pv 12) pa_nil)))) pa_nil)) (pe_callB cr_reprB rfl T.repr (by decide +kernel) (pa_cons (pe_cmpR (op_inDK K hu65) (pv 12) (pv 8) (by rfl)) pa_nil)) (nomark _))) (fun _ _ _ _ _ => pv 12)) (pe_lst pa_nil) (nomark _)) (pss_one (ps_ret pe_bl)) pss_nil)
    (pss_cons (ps_set (i := 11) scRight.nd rfl (Or.inl rfl) (pe_callD DP GP (hr.mono (by decide)) (pa_cons (pv 0) (pa_cons (pe_lst (pa_cons pe_non (pa_cons (pe_callTy call_list_of rfl T.list (by decide +kernel) (pa_cons (pv 9) pa_nil)) (pa_cons (pe_tup (pa_cons pe_int pa_nil))
        (pa_cons (imp_PE (t' := tOdd K) (pe_ifExp (pt_cmpR (op_neDK K hr.units) (pv 9) (pe_tup pa_nil) (nomark _)) (pe_op (op_catAK K) (pv 9) (pe_tup (pa_cons pe_int pa_nil))) (pe_tup (pa_cons pe_int (pa_cons pe_int pa_nil)))) odd_imp) (pa_cons pe_str (pa_cons (pe_tup (pa_cons pe_bl pa_nil)) (pa_cons (pe_tup (pa_cons (pe_tup (pa_cons pe_int pa_nil)) pa_nil)) (pa_cons pe_dnewK pa_nil))))))))) pa_nil))))
    (pss_one (ps_ret (pe_and (pe_cmpR op_is_bl (pe_callD DI GI hr (pa_cons (pv 4) (pa_cons (pv 3) (pa_cons (pv 11) pa_nil)))) pe_bl (nomark _)) (pe_one (pe_or (pe_cmpR op_gt (pv 1) pe_int (nomark _)) (pe_one (pe_callG DN GN (hr.mono (by decide)) hG (pa_cons (pv 4) (pa_cons (pv 3) (pa_cons (pv 9) pa_nil))))))))))))))))))))), ?_⟩
  obtain ⟨js, hjs, jasc, jin, jne, jl, j2⟩ := js_facts hm2 hm4
  refine ⟨by show 4 ≤ sizeLine; decide, fun j0 hj0 => ?_⟩
  have r0 := (Rt.refl hd tab).new hj0 (.lst [.int 3, .int 4, .int 5, .int 60])
  have hj0' : (upd H j0 (.lst [.int 3, .int 4, .int 5, .int 60])) j0 = some (.lst [.int 3, .int 4, .int 5, .int 60]) := upd_same
  generalize upd H j0 (.lst [.int 3, .int 4, .int 5, .int 60]) = H1 at *
  refine ⟨_, rfl, _, rfl, _, _, rfl, SqL.of hj0', fun aj haj => ?_⟩
  rw [hjs]
  have r1 := r0.new haj (.lst (js.map V.int))
  have haj1 : (upd H1 aj (.lst (js.map V.int))) aj = some (.lst (js.map V.int)) := upd_same
  have naj : aj ≠ d := r0.dice.ne haj
  generalize upd H1 aj (.lst (js.map V.int)) = H2 at *
  -- known
  refine ⟨_, rfl, by show 2 ≤ sizeLine; decide, fun k0 hk0 => ?_⟩
  have r2 := r1.new hk0 (.lst [.int 1, .int 2])
  have nk0 : k0 ≠ d := r1.dice.ne hk0
  have hk0' : (upd H2 k0 (.lst [.int 1, .int 2])) k0 = some (.lst [.int 1, .int 2]) := upd_same
  have haj2 := same_new hk0 (.lst [.int 1, .int 2]) _ _ haj1
  generalize upd H2 k0 (.lst [.int 1, .int 2]) = H3 at *
  refine ⟨_, rfl, d, 2, rfl, r2.dice, by decide, by decide, fun r H4 hr0 hr2 o4 hd4 => ?_⟩
  have r3 := r2.at o4 hd4
  have haj4 := o4 _ _ naj haj2
  have hk04 := o4 _ _ nk0 hk0'
  obtain ⟨ks, hks, ks2⟩ := ks_facts hr0 hr2
  refine ⟨_, _, rfl, rfl, _, rfl, _, _, rfl, SqL.of hk04, fun ak hak => ?_⟩
  rw [hks]
  have r4 := r3.new hak (.lst (ks.map V.int))
  have nak : ak ≠ d := r3.dice.ne hak
  have haj5 := same_new hak (.lst (ks.map V.int)) _ _ haj4
  have hak5 : (upd H4 ak (.lst (ks.map V.int))) ak = some (.lst (ks.map V.int)) := upd_same
  generalize upd H4 ak (.lst (ks.map V.int)) = H5 at *
  have knd : ks.Nodup := by rcases ks2 with rfl | rfl <;> decide
  have kl : ks.length ≤ 2 := by rcases ks2 with rfl | rfl <;> decide
  refine ⟨d, ak, ks, rfl, r4.dice, SqL.of hak5, nak, knd, by omega, fun dk kn H6 o6 hd6 hdkn ndk hdk ekn => ?_⟩
  have r5 := r4.at o6 hd6
  have haj6 := o6 _ _ naj haj5
  -- wishes
  intro dw hdw
  have r6 := r5.new hdw (.dK [])
  have hdw7 : (upd H6 dw (.dK [])) dw = some (.dK []) := upd_same
  have haj7 := same_new hdw (.dK []) _ _ haj6
  have hdk7 := same_new hdw (.dK []) _ _ hdk
  have hdwN : ∀ u, H dw = some u → (∀ ps, u ≠ .tbl ps) → False := fun u hu n => by
    have := r5.off dw u (r5.dice.ne hdw) hu n
    rw [hdw] at this
    cases this
  have ndw : dk ≠ dw := ne_of_none hdk hdw
  generalize upd H6 dw (.dK []) = H7 at *
  refine ⟨_, rfl, aj, rfl, ⟨_, SqL.of haj7⟩, ?_⟩
  refine for_list (K := K) (xs := js.map V.int) (fun i σ Hx => ∃ kvs ws o5 o6, σ = [some (.ref d), some (.int many), some (.ref aj), some (.ref dk), some (.ref dw), o5, o6, none, none, none, none, none, none, none] ∧ Rt d Pt H Hx ∧ Hx aj = some (.lst (js.map V.int)) ∧ Hx dk = some (.dK (kvS kn)) ∧ Hx dw = some (.dK kvs) ∧ WsAt Hx kvs ws ∧ ws.map (·.1) = js.take i ∧ ∀ q ∈ ws, ∀ f, q.2 = some f → FmOk f ∧ ∀ j ∈ f.jobs, j ∈ js ++ ks)
    ⟨[], [], none, none, rfl, r6, haj7, hdk7, hdw7, .nil, rfl, fun q hq => by cases hq⟩ (fun i σ Hx _ h => by obtain ⟨_, _, _, _, _, _, h, _⟩ := h; exact SqL.of h) (fun i x σ Hx hx h => ?_) (fun σ Hx h => ?_)
  · obtain ⟨kvs, ws, o5, o6, rfl, rx, haj, hdk, hdw, hw, ek, hf⟩ := h
    rw [List.getElem?_map] at hx
    obtain ⟨n, hn, rfl⟩ := Option.map_eq_some_iff.mp hx
    have ndd : ∀ {Hy : Hp} {b : Addr} {kv : List (Key × V)}, DiceAt Hy d → Hy b = some (.dK kv) → b ≠ d := fun hd h => by
      obtain ⟨_, _, _, _, hd⟩ := hd
      exact ne_of h hd (by intro z; cases z)
    have nkd := ndd rx.dice hdk
    have nwd := ndd rx.dice hdw
    refine ⟨_, rfl, _, rfl, _, rfl, _, rfl, _, rfl, dk, kvS kn, ks, rfl, .inl hdk, by rw [kvS_keys, ekn], by omega, fun ys p perm asc hp => ?_⟩
    have ra := rx.new hp (.lst (ys.map V.int))
    have hp1 : (upd Hx p (.lst (ys.map V.int))) p = some (.lst (ys.map V.int)) := upd_same
    have sa := same_new hp (.lst (ys.map V.int))
    generalize upd Hx p (.lst (ys.map V.int)) = Ha at *
    refine ⟨aj, p, _, _, rfl, rfl, sa _ _ haj, hp1, small (by rw [List.length_map, List.length_map, perm.length_eq]; omega), fun lc hlc => ?_⟩
    have rb := ra.new hlc (.lst (js.map V.int ++ ys.map V.int))
    have sb := same_new hlc (.lst (js.map V.int ++ ys.map V.int))
    have hlc1 : (upd Ha lc (.lst (js.map V.int ++ ys.map V.int))) lc = some (.lst ((js ++ ys).map V.int)) := by rw [upd_same, List.map_append]
    generalize upd Ha lc (.lst (js.map V.int ++ ys.map V.int)) = Hb at *
    refine ⟨by show 3 ≤ sizeLine; decide, fun ln hln => ?_⟩
    have rc := rb.new hln (.lst [.ref aj, .ref aj, .ref lc])
    have sc := same_new hln (.lst [.ref aj, .ref aj, .ref lc])
    have hln1 : (upd Hb ln (.lst [.ref aj, .ref aj, .ref lc])) ln = some (.lst [.ref aj, .ref aj, .ref lc]) := upd_same
    have nln := rb.dice.ne hln
    have nlc := ra.dice.ne hlc
    have S3 := sa.trans (sb.trans sc)
    have hlc2 := sc _ _ hlc1
    generalize upd Hb ln (.lst [.ref aj, .ref aj, .ref lc]) = Hc at *
    refine ⟨d, ln, _, rfl, rc.dice, SqL.of hln1, nln, by simp, by show 3 ≤ 1000; decide, fun x Hd hx oD hdD => ?_⟩
    obtain ⟨nr, L, rfl, nnr, hnr, lL, hL, neL, rL⟩ : ∃ nr L, x = V.ref nr ∧ nr ≠ d ∧ Hc nr = some (.lst (L.map V.int)) ∧ L.length ≤ 6 ∧ (∀ j ∈ L, j ∈ js ++ ks) ∧ L ≠ [] ∧ ∀ j ∈ L, 1 ≤ j ∧ j ≤ 1000000 := by
      have rj : ∀ j ∈ js, 1 ≤ j ∧ j ≤ (1000000 : Int) := fun j hj => by
        have := jin j hj
        simp only [List.mem_cons, List.not_mem_nil, or_false] at this
        omega
      have rk : ∀ j ∈ ks, 1 ≤ j ∧ j ≤ (1000000 : Int) := fun j hj => by
        rcases ks2 with rfl | rfl <;> simp only [List.mem_cons, List.not_mem_nil, or_false] at hj <;> omega
      have c1 : x = V.ref aj ∨ x = V.ref lc := by
        simp only [List.mem_cons, List.not_mem_nil, or_false] at hx
        rcases hx with rfl | rfl | rfl
        · exact .inl rfl
        · exact .inl rfl
        · exact .inr rfl
      rcases c1 with rfl | rfl
      · exact ⟨aj, js, rfl, naj, S3 _ _ haj, by omega, fun j hj => List.mem_append.mpr (.inl hj), jne, rj⟩
      · refine ⟨lc, js ++ ys, rfl, nlc, hlc2, by rw [List.length_append, perm.length_eq]; omega, fun j hj => ?_, by simp [jne], fun j hj => ?_⟩
        · rcases List.mem_append.mp hj with hj | hj
          · exact List.mem_append.mpr (.inl hj)
          · exact List.mem_append.mpr (.inr (perm.mem_iff.mp hj))
        · rcases List.mem_append.mp hj with hj | hj
          · exact rj j hj
          · exact rk j (perm.mem_iff.mp hj)
    have rd := rc.at oD hdD
    refine ⟨_, rfl, d, 6, rfl, rd.dice, by decide, by decide, fun r He _ _ oE hdE => ?_⟩
    have re := rd.at oE hdE
    have oDE := oD.trans oE
    have hnr3 := oDE _ _ nnr hnr
    have haj3 := oDE _ _ naj (S3 _ _ haj)
    have hdk3 := oDE _ _ nkd (S3 _ _ hdk)
    have hdw3 := oDE _ _ nwd (S3 _ _ hdw)
    have hw3 := (hw.tups (tups_of S3)).tups (off_tups rc.dice oDE)
    have nin : n ∉ ws.map (·.1) := fun z => by
      rw [ek] at z
      obtain ⟨hl, e⟩ := List.getElem?_eq_some_iff.mp hn
      have : js.Nodup := jasc.imp (fun h e => by omega)
      rw [← List.take_append_drop i js, List.nodup_append] at this
      exact this.2.2 n z n (by rw [List.drop_eq_getElem_cons hl, e]; exact List.mem_cons_self) rfl
    have lw : kvs.length = ws.length := Paired.length hw
    have l4 : ws.length ≤ 4 := by
      have := congrArg List.length ek
      rw [List.length_map, List.length_take] at this
      omega
    have hv : valV kvs (Sum.inl n) = none := by
      have := ws_get hw (n := n)
      have e : ws.lookup n = none := by
        rw [List.lookup_eq_none_iff]
        intro q hq
        rw [bne_iff_ne]
        exact fun z => nin (z ▸ List.mem_map.mpr ⟨q, hq, rfl⟩)
      rw [e] at this
      exact this
    have stp : ∀ (v : V) (o : Option Fm) (Hf : Hp), Rt d Pt H Hf → Hf aj = some (.lst (js.map V.int)) → Hf dk = some (.dK (kvS kn)) → Hf dw = some (.dK kvs) → WsAt Hf kvs ws → OpAt Hf v o → (∀ f, o = some f → FmOk f ∧ ∀ j ∈ f.jobs, j ∈ js ++ ks) →
        ∃ kvs' ws' o5 o6, [some (V.ref d), some (.int many), some (.ref aj), some (.ref dk), some (.ref dw), some (.int n), some (.ref nr), none, none, none, none, none, none, none] = [some (V.ref d), some (.int many), some (.ref aj), some (.ref dk), some (.ref dw), o5, o6, none, none, none, none, none, none, none] ∧ Rt d Pt H (upd Hf dw (.dK (putK kvs (Sum.inl n) v))) ∧
          (upd Hf dw (.dK (putK kvs (Sum.inl n) v))) aj = some (.lst (js.map V.int)) ∧ (upd Hf dw (.dK (putK kvs (Sum.inl n) v))) dk = some (.dK (kvS kn)) ∧ (upd Hf dw (.dK (putK kvs (Sum.inl n) v))) dw = some (.dK kvs') ∧ WsAt (upd Hf dw (.dK (putK kvs (Sum.inl n) v))) kvs' ws' ∧ ws'.map (·.1) = js.take (i + 1) ∧ ∀ q ∈ ws', ∀ f, q.2 = some f → FmOk f ∧ ∀ j ∈ f.jobs, j ∈ js ++ ks := by
      intro v o Hf rf h1 h2 h3 h4 h5 h6
      have tu : Tups Hf (upd Hf dw (.dK (putK kvs (Sum.inl n) v))) := dk_ne_tups h3
      refine ⟨kvs ++ [(Sum.inl n, v)], ws ++ [(n, o)], _, _, rfl, rf.over hdwN h3, by rw [upd_ne (ne_of h1 h3 (by intro z; cases z))]; exact h1, by rw [upd_ne ndw]; exact h2, by rw [upd_same, putK_new _ hv], ?_, ?_, fun q hq f e => ?_⟩
      · exact paired_snoc ⟨rfl, h5.tups tu⟩ (h4.tups tu)
      · rw [List.map_append, ek]
        obtain ⟨hl, e⟩ := List.getElem?_eq_some_iff.mp hn
        rw [List.take_succ_eq_append_getElem hl, e]
        rfl
      · rcases List.mem_append.mp hq with hq | hq
        · exact hf q hq f e
        · rw [List.mem_singleton.mp hq] at e
          exact h6 f e
    refine ⟨rfl, _, rfl, ?_⟩
    refine ite2 (fun c => ?_) (fun c => ?_)
    · exact ⟨_, rfl, _, rfl, dw, _, rfl, DPut.k (k := Sum.inl n) hdw3 (small1000 (by omega)), stp .non none He re haj3 hdk3 hdw3 hw3 rfl (fun f z => by cases z)⟩
    · refine ⟨_, rfl, _, rfl, d, nr, L, 1, rfl, by decide, by decide, re.dice, SqL.of hnr3, nnr, neL, by omega, rL, fun fr fm Hf oF hdF hfm okf jf _ => ?_⟩
      exact ⟨_, rfl, _, rfl, dw, _, rfl, DPut.k (k := Sum.inl n) (oF _ _ nwd hdw3) (small1000 (by omega)), stp (.ref fr) (some fm) Hf (re.at oF hdF) (oF _ _ naj haj3) (oF _ _ nkd hdk3) (oF _ _ nwd hdw3) (hw3.tups (off_tups re.dice oF)) hfm (fun f z => by
        cases z
        exact ⟨okf, fun j hj => hL j (jf j hj)⟩)⟩
  · obtain ⟨kvs, ws, o5, o6, rfl, rx, haj, hdk, hdw, hw, ek, hf⟩ := h
    rw [List.length_map, List.take_length] at ek
    have lws : ws.length ≤ 4 := by
      have := congrArg List.length ek
      rw [List.length_map] at this
      omega
    have inj : ∀ {n : Int}, n ∈ js → 3 ≤ n ∧ n ≤ 60 := fun {n} hn => by
      have := jin n hn
      simp only [List.mem_cons, List.not_mem_nil, or_false] at this
      omega
    have ink : ∀ {n : Int}, n ∈ ks → 1 ≤ n ∧ n ≤ 2 := fun {n} hn => by
      rcases ks2 with rfl | rfl <;> simp only [List.mem_cons, List.not_mem_nil, or_false] at hn <;> omega
    have wjs : ∀ {n : Int}, n ∈ ws.map (·.1) → n ∈ js := fun {n} h => by rw [ek] at h; exact h
    have ok : WsOk ws := ⟨by rw [ek]; exact jasc, fun q hq => by
      have := inj (wjs (List.mem_map.mpr ⟨q, hq, rfl⟩))
      omega, fun q hq f e => (hf q hq f e).1, by omega⟩
    have kok : KnOk kn ws := by
      refine ⟨by rw [ekn]; exact knd, fun p hp => ?_, ?_, fun n hn z => ?_, fun q hq f e j hj => ?_⟩
      · have := ink (by rw [← ekn]; exact List.mem_map.mpr ⟨p, hp, rfl⟩)
        omega
      · have := congrArg List.length ekn
        rw [List.length_map] at this
        omega
      · rw [ekn] at z
        have := ink z
        have := inj (wjs hn)
        omega
      · rw [stOf_keys, ekn, ek]
        rcases List.mem_append.mp ((hf q hq f e).2 j hj) with h | h
        · exact List.mem_append.mpr (.inr h)
        · exact List.mem_append.mpr (.inl h)
    -- sets
    refine ⟨by show 0 ≤ sizeLine; decide, fun e0 he0 => ⟨by show 1 ≤ sizeLine; decide, fun a0 ha0 => ?_⟩⟩
    have sx := same_new he0 (.tup [])
    have he1 : (upd Hx e0 (.tup [])) e0 = some (.tup []) := upd_same
    generalize upd Hx e0 (.tup []) = Hx1 at *
    have sx2 := sx.trans (same_new ha0 (.lst [.ref e0]))
    have he2 := same_new ha0 (.lst [.ref e0]) _ _ he1
    have ha1 : (upd Hx1 a0 (.lst [.ref e0])) a0 = some (.lst [.ref e0]) := upd_same
    generalize upd Hx1 a0 (.lst [.ref e0]) = Hx2 at *
    refine ⟨_, rfl, aj, rfl, ⟨_, SqL.of (sx2 _ _ haj)⟩, ?_⟩
    refine for_list (K := K) (xs := js.map V.int) (fun i σ Hy => ∃ a ps o5, σ = [some (.ref d), some (.int many), some (.ref aj), some (.ref dk), some (.ref dw), o5, o6, some (.ref a), none, none, none, none, none, none] ∧ Same Hx Hy ∧ Hy a = some (.lst (ps.map V.ref)) ∧ NuAt Hy ps (setsOf (js.take i)))
      ⟨a0, [e0], o5, rfl, sx2, ha1, .cons he2 .nil⟩ (fun i σ Hy _ h => by obtain ⟨_, _, _, _, s, _⟩ := h; exact SqL.of (s _ _ haj)) (fun i x σ Hy hx h => ?_) (fun σ Hy h => ?_)
    · obtain ⟨a, ps, o5, rfl, sy, ha, nu⟩ := h
      rw [List.getElem?_map] at hx
      obtain ⟨n, hn, rfl⟩ := Option.map_eq_some_iff.mp hx
      have lL : (setsOf (js.take i)).length ≤ 16 := by
        rw [sets_len, List.length_take]
        exact Nat.le_trans (Nat.pow_le_pow_right (by decide) (show min i js.length ≤ 4 by omega)) (by decide)
      rw [sets_take hn]
      have sub : ∀ S ∈ setsOf (js.take i), S.length ≤ 4 := fun S hS => Nat.le_trans (sets_mem.mp hS).length_le (by rw [List.length_take]; omega)
      generalize setsOf (js.take i) = L at *
      obtain ⟨zs, e1, e2, hz⟩ := paired_zip nu
      refine ⟨_, rfl, _, rfl, a, rfl, ⟨_, SqL.of ha⟩, fun D2 hD2 => ?_⟩
      have lz : zs.length ≤ 16 := by rw [← e2, List.length_map] at lL; exact lL
      have haz : ∀ {H3 : Hp}, Same Hy H3 → H3 a = some (.lst (zs.map fun z => V.ref z.1)) := fun s => by
        rw [s _ _ ha, ← e1, List.map_map]
        rfl
      refine lc_nums zs (fun z => z.2 ++ [n]) hD2 (by omega) (fun i z H3 e s => ⟨_, V.ref z.1, SqL.of (haz s), by rw [List.getElem?_map, e]; rfl⟩) (fun H3 s => ⟨_, SqL.of (haz s), by rw [List.length_map]; exact Nat.le_refl _⟩) (fun i z H3 y H4 Qt e s yl k => ?_) (fun H3 qs s3 h3 nq => ?_)
      · obtain ⟨rfl, f⟩ := yl
        have ey := f _ (SqL.of (haz s))
        rw [List.getElem?_map, e] at ey
        cases ey
        have hzt := s _ _ (hz z (List.mem_of_getElem? e))
        have lS := sub z.2 (by rw [← e2]; exact List.mem_map.mpr ⟨z, List.mem_of_getElem? e, rfl⟩)
        refine ⟨rfl, _, rfl, _, rfl, by show 1 ≤ sizeLine; decide, fun t1 ht1 => ?_⟩
        have st := same_new ht1 (.tup [.int n])
        have ht2 : (upd H4 t1 (.tup [.int n])) t1 = some (.tup [.int n]) := upd_same
        generalize upd H4 t1 (.tup [.int n]) = H5 at *
        refine ⟨z.1, t1, z.2.map V.int, [V.int n], rfl, rfl, SqT.of (st _ _ hzt), SqT.of ht2, small (by rw [List.length_map]; show z.2.length + 1 ≤ 1000; omega), fun ez => ?_, fun _ z => (by cases z), fun _ _ p hp => ?_⟩
        · have : z.2 = [] := List.map_eq_nil_iff.mp ez
          exact k t1 _ st (by rw [this]; exact ht2)
        · exact k p _ (st.trans (same_new hp _)) (by rw [upd_same, List.map_append]; rfl)
      · have hq2 : (zs.map fun z => z.2 ++ [n]) = L.map (· ++ [n]) := by rw [← e2, List.map_map]; rfl
        rw [hq2] at nq
        have lq : qs.length = L.length := by have := Paired.length nq; rw [List.length_map] at this; exact this
        have lp : ps.length = L.length := Paired.length nu
        refine ⟨a, D2, _, _, rfl, rfl, s3 _ _ ha, h3, small (by rw [List.length_map, List.length_map]; omega), fun l3 hl3 => ?_⟩
        have s4 := same_new hl3 (.lst (ps.map V.ref ++ qs.map V.ref))
        exact ⟨l3, ps ++ qs, _, rfl, sy.trans (s3.trans s4), by rw [upd_same, List.map_append], nu_app (nu.tups (tups_of (s3.trans s4))) (nq.tups (tups_of s4))⟩
    · obtain ⟨a, ps, o5, rfl, sy, ha, nu⟩ := h
      rw [List.length_map, List.take_length] at nu
      have lL : (setsOf js).length ≤ 16 := by
        rw [sets_len]
        exact Nat.le_trans (Nat.pow_le_pow_right (by decide) jl) (by decide)
      have smem : ∀ {S : List Int}, S ∈ setsOf js ↔ S.Sublist js := sets_mem
      generalize hL : setsOf js = L at *
      obtain ⟨zs, e1, e2, hz⟩ := paired_zip nu
      have lz : zs.length ≤ 16 := by rw [← e2, List.length_map] at lL; exact lL
      have ry := rx.same sy
      have haz : Hy a = some (.lst (zs.map fun z => V.ref z.1)) := by
        rw [ha, ← e1, List.map_map]
        rfl
      have zsub : ∀ z ∈ zs, z.2.Sublist js := fun z hz => smem.mp (by rw [← e2]; exact List.mem_map.mpr ⟨z, hz, rfl⟩)
      have hdw1 := sy _ _ hdw
      have hdk1 := sy _ _ hdk
      have hw1 := hw.tups (tups_of sy)
      -- stuck
      refine ⟨_, rfl, a, rfl, ⟨_, SqL.of haz⟩, fun D2 hD2 => ?_⟩
      refine lc_lstS zs (fun z => V.ref z.1) (fun z => stuckB ws (stL (stOf kn ws)) z.2) (fun z => V.ref z.1) hD2 (SqL.of haz) (small1000 (by omega)) (fun z H3 Qt Qf hzm s k1 k2 => ?_) (fun H3 s3 h3 => ?_)
      · have sz := zsub z hzm
        refine ⟨rfl, _, rfl, _, rfl, _, rfl, dw, dk, z.1, kvs, ws, kn, z.2, rfl, ndw, s _ _ hdw1, hw1.tups (tups_of s), ok, s _ _ hdk1, kok, SqT.of (s _ _ (hz z hzm)), fun n hn => by rw [ek]; exact sz.subset hn, by have := sz.length_le; omega, fun H4 s4 => ?_⟩
        refine ⟨_, rfl, ?_⟩
        cases c : stuckB ws (stL (stOf kn ws)) z.2 with
        | true => exact iteT ⟨_, rfl, k1 c H4 s4⟩
        | false => exact iteF (k2 c H4 s4)
      · have hz3 : ∀ z ∈ zs, H3 z.1 = some (.tup (z.2.map V.int)) := fun z h => s3 _ _ (hz z h)
        have haz3 := s3 _ _ haz
        have hdw3 := s3 _ _ hdw1
        have hdk3 := s3 _ _ hdk1
        have hw3 := hw1.tups (tups_of s3)
        have r3 := ry.same s3
        have hTsub : (toldL ws (stL (stOf kn ws))).Sublist js := by
          have := told_sub ws (stL (stOf kn ws))
          rw [ek] at this
          exact this
        have hTst : stuckB ws (stL (stOf kn ws)) (toldL ws (stL (stOf kn ws))) = true := gfix_stuck _ _ _
        have hTin : ∀ S : List Int, stuckB ws (stL (stOf kn ws)) S = true → ∀ n ∈ S, n ∈ toldL ws (stL (stOf kn ws)) := fun S h => stuck_told h
        -- told
        refine ⟨_, rfl, _, rfl, dw, dk, kvs, ws, kn, rfl, ndw, r3.tab, hdw3, hw3, ok, hdk3, kok, fun tp H4 e4 tab4 htp => ?_⟩
        have r4 := r3.ext e4 tab4
        generalize toldL ws (stL (stOf kn ws)) = T at *
        have hz4 : ∀ z ∈ zs, H4 z.1 = some (.tup (z.2.map V.int)) := fun z h => e4 _ _ (hz3 z h) (fun _ z => by cases z)
        have haz4 := e4 _ _ haz3 (fun _ z => by cases z)
        have hdw4 := e4 _ _ hdw3 (fun _ z => by cases z)
        have hdk4 := e4 _ _ hdk3 (fun _ z => by cases z)
        have hst4 := e4 _ _ h3 (fun _ z => by cases z)
        have hw4 := hw3.tups (tups_ext e4)
        have lzf : (zs.filter fun z => stuckB ws (stL (stOf kn ws)) z.2).length ≤ 16 := Nat.le_trans (List.length_filter_le _ _) lz
        have Lmem : ∀ S : List Int, S ∈ (zs.filter fun z => stuckB ws (stL (stOf kn ws)) z.2).map (·.2) ↔ S.Sublist js ∧ stuckB ws (stL (stOf kn ws)) S = true := by
          intro S
          rw [List.mem_map]
          constructor
          · rintro ⟨z, hz, rfl⟩
            obtain ⟨h1, h2⟩ := List.mem_filter.mp hz
            exact ⟨zsub z h1, h2⟩
          · rintro ⟨h1, h2⟩
            have := smem.mpr h1
            rw [← e2] at this
            obtain ⟨z, hz, rfl⟩ := List.mem_map.mp this
            exact ⟨z, List.mem_filter.mpr ⟨hz, h2⟩, rfl⟩
        have zsts : ∀ {Hz : Hp} (l : List (Addr × List Int)), (∀ z ∈ l, Hz z.1 = some (.tup (z.2.map V.int))) → TsAt Hz (l.map fun z => V.ref z.1) (l.map (·.2)) := by
          intro Hz l
          induction l with
          | nil => exact fun _ => .nil
          | cons z r ih => exact fun h => .cons ⟨_, rfl, h z List.mem_cons_self⟩ (ih fun y hy => h y (List.mem_cons_of_mem _ hy))
        have hzf : ∀ z ∈ (zs.filter fun z => stuckB ws (stL (stOf kn ws)) z.2), z ∈ zs ∧ stuckB ws (stL (stOf kn ws)) z.2 = true := fun z hz => List.mem_filter.mp hz
        generalize (zs.filter fun z => stuckB ws (stL (stOf kn ws)) z.2) = zf at *
        -- beyond
        refine ⟨_, rfl, D2, rfl, ⟨_, SqL.of hst4⟩, fun D3 hD3 => ?_⟩
        refine lc_lstS zf (fun z => V.ref z.1) (fun _ => false) (fun z => V.ref z.1) hD3 (SqL.of hst4) (small1000 (by omega)) (fun z H5 Qt Qf hzm s k1 k2 => ?_) (fun H5 s5 h5 => ?_)
        · obtain ⟨hzm, hk⟩ := hzf z hzm
          have inT := hTin _ hk
          have hz5 := s _ _ (hz4 z hzm)
          have htp5 := s _ _ htp
          have ls := (zsub z hzm).length_le
          refine ⟨rfl, _, rfl, z.1, rfl, ⟨_, SqT.of hz5⟩, fun D4 hD4 => ?_⟩
          refine lc_tupS z.2 V.int (fun _ => false) V.int hD4 (SqT.of hz5) (small1000 (by omega)) (fun n H6 Qt Qf hn s6 k1 k2 => ?_) (fun H6 s6 h6 => ?_)
          · have zz : (if true = true then !inV (V.int n) (T.map V.int) else inV (V.int n) (T.map V.int)) = false := by rw [if_pos rfl, inV_ints, decide_eq_true (inT n hn)]; rfl
            exact ⟨rfl, _, rfl, _, rfl, tp, _, rfl, .inr (SqT.of (s6 _ _ htp5)), rfl, flat_ints T, false, congrArg V.bl zz, iteF (k2 rfl H6 (same_refl H6))⟩
          · have e0 : (z.2.filter fun _ => false) = [] := by simp
            rw [e0] at h6
            refine ⟨by show 0 ≤ sizeLine; decide, fun em hem => ?_⟩
            have s7 := same_new hem (.lst [])
            exact ⟨D4, em, [], rfl, rfl, SqL.of (s7 _ _ h6), SqL.of upd_same, false, rfl, iteF (k2 rfl _ (s6.trans s7))⟩
        have e0 : (zf.filter fun _ => false) = [] := by simp
        rw [e0] at h5
        have hz5 : ∀ z ∈ zs, H5 z.1 = some (.tup (z.2.map V.int)) := fun z h => s5 _ _ (hz4 z h)
        have haz5 := s5 _ _ haz4
        have hst5 := s5 _ _ hst4
        have hdw5 := s5 _ _ hdw4
        have hdk5 := s5 _ _ hdk4
        have htp5 := s5 _ _ htp
        have hw5 := hw4.tups (tups_of s5)
        have r5 := r4.same s5
        have lT := hTsub.length_le
        -- told is stuck, none beyond
        refine ⟨_, rfl, _, rfl, dI T, (zf.map (·.2)).map dI, dp_I (SqT.of htp5), .lst (SqL.of hst5) (dp_L (a := D2) (zsts zf fun z hz => hz5 z (hzf z hz).1)), shaped_I T, shaped_L _, _, rfl, ?_⟩
        rw [any_I, decide_eq_true ((Lmem T).mpr ⟨hTsub, hTst⟩)]
        refine iteF ?_
        refine ⟨_, rfl, by show 0 ≤ sizeLine; decide, fun em hem => ?_⟩
        have s6 := same_new hem (.lst [])
        have hem6 : (upd H5 em (.lst [])) em = some (.lst []) := upd_same
        generalize upd H5 em (.lst []) = H6 at *
        refine ⟨D3, em, [], rfl, rfl, SqL.of (s6 _ _ h5), SqL.of hem6, false, rfl, iteF ?_⟩
        have L5 : TsAt H6 (zf.map fun z => V.ref z.1) (zf.map (·.2)) := zsts zf fun z hz => s6 _ _ (hz5 z (hzf z hz).1)
        have hz6 : ∀ z ∈ zs, H6 z.1 = some (.tup (z.2.map V.int)) := fun z h => s6 _ _ (hz5 z h)
        have haz6 := s6 _ _ haz5
        have hst6 := s6 _ _ hst5
        have hdw6 := s6 _ _ hdw5
        have hdk6 := s6 _ _ hdk5
        have htp6 := s6 _ _ htp5
        have hw6 := hw5.tups (tups_of s6)
        have r6 := r5.same s6
        -- is_stuck_set agrees
        refine ⟨_, rfl, a, rfl, ⟨_, SqL.of haz6⟩, fun D5 hD5 => ?_⟩
        refine lc_lstN zs (fun z => V.ref z.1) (fun _ => false) (fun z => V.ref z.1) hD5 r6.tab (SqL.of haz6) (small1000 (by omega)) (fun z H7 Qt Qf hzm e t7 k1 k2 => ?_) (fun H7 e7 t7 h7 => ?_)
        · have sz := zsub z hzm
          have ls := sz.length_le
          have hz7 := e _ _ (hz6 z hzm) (fun _ z => by cases z)
          have es : isStB ws (stL (stOf kn ws)) z.2 = stuckB ws (stL (stOf kn ws)) z.2 := isSt_stuck (jasc.sublist sz) fun n hn => by
            have := inj (sz.subset hn)
            omega
          refine ⟨rfl, _, rfl, _, rfl, _, rfl, dw, dk, .ref z.1, _, kvs, ws, kn, rfl, ndw, t7, e _ _ hdw6 (fun _ z => by cases z), hw6.tups (tups_ext e), ok, e _ _ hdk6 (fun _ z => by cases z), kok, .nums hz7 (by omega), fun H8 e8 t8 => ⟨_, rfl, ?_⟩⟩
          have e68 := e.trans e8
          refine ⟨_, rfl, _, rfl, dI z.2, (zf.map (·.2)).map dI, dp_I (SqT.of (e8 _ _ hz7 (fun _ z => by cases z))), .lst (SqL.of (e68 _ _ hst6 (fun _ z => by cases z))) (dp_L (a := D2) (zsts zf fun z hz => e68 _ _ (hz6 z (hzf z hz).1) (fun _ z => by cases z))), shaped_I _, shaped_L _, ⟨_, rfl, ?_⟩⟩
          rw [any_I, es]
          have eb : decide (z.2 ∈ zf.map (·.2)) = stuckB ws (stL (stOf kn ws)) z.2 := by
            rw [Bool.eq_iff_iff, decide_eq_true_iff, Lmem]
            exact ⟨fun h => h.2, fun h => ⟨sz, h⟩⟩
          rw [eb]
          refine ⟨rfl, false, ?_, iteF (k2 rfl H8 e8 t8)⟩
          rw [decide_eq_true rfl]
          rfl
        have e0 : (zs.filter fun _ => false) = [] := by simp
        rw [e0] at h7
        have r7 := r6.ext e7 t7
        refine ⟨by show 0 ≤ sizeLine; decide, fun em2 hem2 => ?_⟩
        have s8 := same_new hem2 (.lst [])
        have hem8 : (upd H7 em2 (.lst [])) em2 = some (.lst []) := upd_same
        generalize upd H7 em2 (.lst []) = H8 at *
        refine ⟨D5, em2, [], rfl, rfl, SqL.of (s8 _ _ h7), SqL.of hem8, false, rfl, iteF ?_⟩
        have k8 : ∀ {b : Addr} {u : HO}, H6 b = some u → (∀ ps, u ≠ .tbl ps) → H8 b = some u := fun h n => s8 _ _ (e7 _ _ h n)
        have hdw8 := k8 hdw6 (fun _ z => by cases z)
        have hdk8 := k8 hdk6 (fun _ z => by cases z)
        have htp8 := k8 htp6 (fun _ z => by cases z)
        have hw8 := (hw6.tups (tups_ext e7)).tups (tups_of s8)
        have r8 := r7.same s8
        -- odd
        refine ⟨_, rfl, _, rfl, tp, _, rfl, .inr (SqT.of htp8), fun l1 hl1 => ?_⟩
        have s9 := same_new hl1 (.lst (T.map V.int))
        have hl1' : (upd H8 l1 (.lst (T.map V.int))) l1 = some (.lst (T.map V.int)) := upd_same
        generalize upd H8 l1 (.lst (T.map V.int)) = H9 at *
        refine ⟨by show 1 ≤ sizeLine; decide, fun t1 ht1 => ?_⟩
        have s10 := same_new ht1 (.tup [.int 1])
        have ht1' : (upd H9 t1 (.tup [.int 1])) t1 = some (.tup [.int 1]) := upd_same
        generalize upd H9 t1 (.tup [.int 1]) = H10 at *
        refine ⟨tp, T, rfl, s10 _ _ (s9 _ _ htp8), by omega, fun o H11 s11 ho => ?_⟩
        refine ⟨by show 1 ≤ sizeLine; decide, fun t2 ht2 => ?_⟩
        have s12 := same_new ht2 (.tup [.bl true])
        have ht2' : (upd H11 t2 (.tup [.bl true])) t2 = some (.tup [.bl true]) := upd_same
        generalize upd H11 t2 (.tup [.bl true]) = H12 at *
        refine ⟨by show 1 ≤ sizeLine; decide, fun t3 ht3 => ⟨by show 1 ≤ sizeLine; decide, fun t4 ht4 => ?_⟩⟩
        have s13 := same_new ht3 (.tup [.int 3])
        have ht3' : (upd H12 t3 (.tup [.int 3])) t3 = some (.tup [.int 3]) := upd_same
        generalize upd H12 t3 (.tup [.int 3]) = H13 at *
        have s14 := same_new ht4 (.tup [.ref t3])
        have ht4' : (upd H13 t4 (.tup [.ref t3])) t4 = some (.tup [.ref t3]) := upd_same
        generalize upd H13 t4 (.tup [.ref t3]) = H14 at *
        intro dd hdd
        have s15 := same_new hdd (.dK [])
        have hdd' : (upd H14 dd (.dK [])) dd = some (.dK []) := upd_same
        generalize upd H14 dd (.dK []) = H15 at *
        refine ⟨by show 8 ≤ sizeLine; decide, fun ll hll => ?_⟩
        have s16 := same_new hll (.lst [.non, .ref l1, .ref t1, .ref o, .str "3", .ref t2, .ref t4, .ref dd])
        have hll' : (upd H15 ll (.lst [.non, .ref l1, .ref t1, .ref o, .str "3", .ref t2, .ref t4, .ref dd])) ll = some (.lst [.non, .ref l1, .ref t1, .ref o, .str "3", .ref t2, .ref t4, .ref dd]) := upd_same
        have s8f : Same H8 (upd H15 ll (.lst [.non, .ref l1, .ref t1, .ref o, .str "3", .ref t2, .ref t4, .ref dd])) := s9.trans (s10.trans (s11.trans (s12.trans (s13.trans (s14.trans (s15.trans s16))))))
        have r16 := r8.same s8f
        have f1 := s16 _ _ (s15 _ _ (s14 _ _ (s13 _ _ (s12 _ _ (s11 _ _ (s10 _ _ hl1'))))))
        have f2 := s16 _ _ (s15 _ _ (s14 _ _ (s13 _ _ (s12 _ _ (s11 _ _ ht1')))))
        have f3 := s16 _ _ (s15 _ _ (s14 _ _ (s13 _ _ (s12 _ _ ho))))
        have f4 := s16 _ _ (s15 _ _ (s14 _ _ (s13 _ _ ht2')))
        have f5 := s16 _ _ (s15 _ _ (s14 _ _ ht3'))
        have f6 := s16 _ _ (s15 _ _ ht4')
        have f7 := s16 _ _ hdd'
        generalize upd H15 ll (.lst [.non, .ref l1, .ref t1, .ref o, .str "3", .ref t2, .ref t4, .ref dd]) = H16 at *
        have nll : ll ≠ d := by
          obtain ⟨_, _, _, h0, hd⟩ := r16.dice
          exact (fun z => by rw [z, hd] at hll'; cases hll')
        refine ⟨d, ll, _, rfl, r16.dice, SqL.of hll', nll, by simp, by show 8 ≤ 1000; decide, fun x H17 hx o17 hd17 => ?_⟩
        have r17 := r16.at o17 hd17
        have nr : ∀ {b : Addr} {u : HO}, H16 b = some u → (∀ xs, u ≠ .lst xs) → H17 b = some u := fun {b u} h n => by
          obtain ⟨_, _, _, h0, hd⟩ := r16.dice
          exact o17 _ _ (fun z => by rw [z, hd] at h; exact n _ (Option.some.inj h).symm) h
        have hdw17 := nr (s8f _ _ hdw8) (fun _ z => by cases z)
        have hdk17 := nr (s8f _ _ hdk8) (fun _ z => by cases z)
        have htp17 := nr (s8f _ _ htp8) (fun _ z => by cases z)
        have hw17 := (hw8.tups (tups_of s8f)).tups (off_tups r16.dice o17)
        have hv : ValAt H17 ws (stL (stOf kn ws)) x false := by
          simp only [List.mem_cons, List.not_mem_nil, or_false] at hx
          rcases hx with rfl | rfl | rfl | rfl | rfl | rfl | rfl | rfl
          · exact .non
          · by_cases e : l1 = d
            · obtain ⟨_, _, _, _, hd⟩ := hd17
              exact .lst (by rw [e]; exact hd)
            · exact .lst (o17 _ _ e f1)
          · have n1 : fw ws 1 = none := by
              cases c : fw ws 1 with
              | none => rfl
              | some f =>
                have := inj (wjs (fw_key c))
                omega
            have := ValAt.nums (st := stL (stOf kn ws)) (ws := ws) (ns := [1]) (nr f2 (fun _ z => by cases z)) (by decide)
            rw [isSt_none n1] at this
            exact this
          · have lo : (oddS T).length ≤ 10 := by
              unfold oddS
              by_cases c : T = []
              · rw [if_pos c]
                decide
              · rw [if_neg c, List.length_append]
                show T.length + 1 ≤ 10
                omega
            have := ValAt.nums (st := stL (stOf kn ws)) (ws := ws) (ns := oddS T) (nr f3 (fun _ z => by cases z)) lo
            have ea : ascB (oddS T) = false := by
              unfold oddS
              by_cases c : T = []
              · rw [if_pos c]
                decide
              · rw [if_neg c]
                exact asc_end c fun n hn => (inj (hTsub.subset hn)).1
            rw [isSt_asc ea] at this
            exact this
          · exact .str _
          · exact .bad (nr f4 (fun _ z => by cases z)) (.cons (.bl true) .nil) rfl (by decide)
          · exact .bad (nr f6 (fun _ z => by cases z)) (.cons (.tup (nr f5 (fun _ z => by cases z))) .nil) rfl (by show 1 ≤ 10; decide)
          · exact .dK (nr f7 (fun _ z => by cases z))
        refine ⟨_, rfl, _, rfl, _, rfl, dw, dk, x, false, kvs, ws, kn, rfl, ndw, r17.tab, hdw17, hw17, ok, hdk17, kok, hv, fun H18 e18 t18 => ?_⟩
        have r18 := r17.ext e18 t18
        refine ⟨false, false, rfl, rfl, true, rfl, iteT ?_⟩
        refine ⟨_, rfl, _, _, rfl, rfl, _, rfl, ite2 (fun c => ?_) (fun c => ?_)⟩
        · exact q H18 r18
        · have em : many ≤ 2 := by
            have := of_decide_eq_false (Bool.eq_false_iff.mpr c)
            omega
          have ejs := j2 em
          have keys : (stOf kn ws).map (·.1) = ks ++ js := by rw [stOf_keys, ekn, ek]
          refine ⟨_, rfl, _, rfl, _, rfl, dw, dk, tp, kvs, ws, kn, T, rfl, ndw, e18 _ _ hdw17 (fun _ z => by cases z), hw17.tups (tups_ext e18), ok, e18 _ _ hdk17 (fun _ z => by cases z), kok, ?_, ?_, ?_, SqT.of (e18 _ _ htp17 (fun _ z => by cases z)), fun n hn => by rw [ek]; exact hTsub.subset hn, hTst, fun H19 s19 => q H19 (r18.same s19)⟩
          · rw [keys, ejs]
            rcases ks2 with rfl | rfl <;> decide
          · rw [keys, ejs]
            rcases ks2 with rfl | rfl <;> decide
          · have := congrArg List.length keys
            rw [List.length_map, List.length_append, ejs] at this
            have e2 : ([3, 4] : List Int).length = 2 := rfl
            omega
end
end Ts

set_option Elab.async false
set_option linter.all false
set_option maxRecDepth 100000
set_option maxHeartbeats 4000000
/-! Law defs 9: the law. -/
namespace Ts
open PySem PySem.Spec PyProof.Rows L2 LamX NdefX
def ws1 : Ws := [(3, some (.atom (.over, 4))), (4, some (.node false [(.over, 3), (.well, 5)])), (5, none), (6, some (.atom (.left, 6)))]
def ws2 : Ws := [(3, some (.atom (.over, 4))), (4, some (.atom (.begun, 3)))]
def ws4 : Ws := [(3, some (.atom (.left, 1)))]
theorem told1 : toldL ws1 (stL (stOf [] ws1)) = [6] := by decide +kernel
theorem told2 : toldL ws2 (stL (stOf [] ws2)) = [3, 4] := by decide +kernel
theorem told3 : toldL [] (stL (stOf [] [])) = [] := by decide +kernel
theorem told4 : toldL ws4 (stL (stOf [(1, .begun)] ws4)) = [3] := by decide +kernel
def toldAll : List (List Int) := [[6], [3, 4], [], [3]]
theorem eqv_all : PyData.eqv (.list (toldAll.map dI)) (.list (toldAll.map dI)) = true := by decide +kernel
theorem ok1 : WsOk ws1 := ⟨by decide, by decide, fun q hq f e => by
  simp only [ws1, List.mem_cons, List.not_mem_nil, or_false] at hq
  rcases hq with rfl | rfl | rfl | rfl <;> cases e
  · exact ⟨by decide, by decide⟩
  · exact ⟨by decide, by decide, by decide⟩
  · exact ⟨by decide, by decide⟩, by decide⟩
theorem ok2 : WsOk ws2 := ⟨by decide, by decide, fun q hq f e => by
  simp only [ws2, List.mem_cons, List.not_mem_nil, or_false] at hq
  rcases hq with rfl | rfl <;> cases e
  · exact ⟨by decide, by decide⟩
  · exact ⟨by decide, by decide⟩, by decide⟩
theorem ok4 : WsOk ws4 := ⟨by decide, by decide, fun q hq f e => by
  simp only [ws4, List.mem_cons, List.not_mem_nil, or_false] at hq
  subst hq
  cases e
  exact ⟨by decide, by decide⟩, by decide⟩
theorem ok3 : WsOk [] := ⟨by decide, by decide, fun q hq => (by cases hq), by decide⟩
theorem kok1 : KnOk [] ws1 := ⟨by decide, by decide, by decide, by decide, fun q hq f e => by
  simp only [ws1, List.mem_cons, List.not_mem_nil, or_false] at hq
  rcases hq with rfl | rfl | rfl | rfl <;> cases e <;> decide⟩
theorem kok2 : KnOk [] ws2 := ⟨by decide, by decide, by decide, by decide, fun q hq f e => by
  simp only [ws2, List.mem_cons, List.not_mem_nil, or_false] at hq
  rcases hq with rfl | rfl <;> cases e <;> decide⟩
theorem kok3 : KnOk [] [] := ⟨by decide, by decide, by decide, by decide, fun q hq => (by cases hq)⟩
theorem kok4 : KnOk [(1, .begun)] ws4 := ⟨by decide, by decide, by decide, by decide, fun q hq f e => by
  simp only [ws4, List.mem_cons, List.not_mem_nil, or_false] at hq
  subst hq
  cases e
  decide⟩
def spLaw (K : PySem.W.Frag) (Pt : Addr) : Sp := fun vs H Q _ => ∃ (a : Addr) (ns : List Int), vs = [.ref a] ∧ SqL K H a (ns.map V.int) ∧ ns.length ≤ 63 ∧ TabS H Pt lamQ ∧ ∀ H', Q (.bl true) H'
abbrev nsLaw : List Str := ["_law_script", "_law_spot", "_law_dice_here", "_law_one", "_law_two", "_law_told"]
theorem scLaw : FnScope nsLaw ["_law_script"] (defScope (top 66)) := ⟨rfl, rfl, rfl, by decide +kernel, rfl, by decide +kernel, by decide +kernel⟩
section
variable {P : Program} {w : World} {K : PySem.W.Frag} {mg : Str → Option Value} {base : Heap}
theorem ok_law {f g1 g2 g3 g4 Pt : Addr} {fd d1 d2 d3 d4 : FuncData} (D : Def K mg "law" 66 ["_law_script"] f fd) (T : Bs mg) (DD : Def K mg "_law_dice" 49 ["_law_script", "_law_spot"] g1 d1) (GD : FnOk P w K mg base CX0 1 g1 d1 ["_law_script", "_law_spot"] (spDice K))
    (DR : Def K mg "_law_roll" 50 ["_law_dice_here", "_law_total"] g2 d2) (GR : FnOk P w K mg base CX0 1 g2 d2 ["_law_dice_here", "_law_total"] spRoll) (DT : Def K mg "_law_right" 65 ["_law_dice_here", "_law_many"] g3 d3) (GT : FnOkG P w K mg base 13 g3 d3 ["_law_dice_here", "_law_many"] (spRight Pt))
    (DS : Def K mg "stuck_set" 46 ["wishes", "known"] g4 d4) (GS : FnOk P w K mg base CX0 12 g4 d4 ["wishes", "known"] (spStuck Pt)) : FnOkG P w K mg base 14 f fd ["_law_script"] (spLaw K Pt) := by
  refine okG D.F scLaw (fun vs H Q E h => ?_) (fun cdv A outer s H vs Q E hr hG h => ?_)
  · obtain ⟨a, ns, rfl, _⟩ := h
    rfl
  obtain ⟨a, ns, rfl, ha, hl, tab, q⟩ := h
  have hu := hu_of hr
  refine ⟨_, pss_cons (ps_for PassesOwn.never rfl (pi_range1 rfl T.range (pa_cons (pe_callB (call_max2 rfl) rfl T.max (by decide +kernel) (pa_cons pe_int (pa_cons (pe_callB (call_min2 rfl) rfl T.min (by decide +kernel) (pa_cons pe_int (pa_cons (pe_lenK K T.len (pv 0)) pa_nil))) pa_nil))) pa_nil)) (pg_name (i := 1) scLaw.nd rfl (Or.inl rfl))
      (pss_cons (ps_set (i := 2) scLaw.nd rfl (Or.inl rfl) (pe_callD DD GD (hr.mono (by decide)) (pa_cons (pv 0) (pa_cons (pv 1) pa_nil))))
      (pss_one (ps_if (PW.pt (pw_or (pt_not (pt_val (pe_callG DT GT hr hG (pa_cons (pv 2) (pa_cons (pe_op op_add pe_int (pe_callD DR GR (hr.mono (by decide)) (pa_cons (pv 2) (pa_cons pe_int pa_nil)))) pa_nil))))) (pw_or1 (pt_not (pt_val (pe_callG DT GT hr hG (pa_cons (pv 2) (pa_cons pe_int pa_nil))))))))
        (pss_one (ps_ret pe_bl)) pss_nil))))
    (pss_cons (ps_set (i := 3) scLaw.nd rfl (Or.inl rfl) (pe_disp (pps_cons pe_int (pe_tup (pa_cons pe_str (pa_cons pe_int pa_nil))) (pps_cons pe_int (pe_tup (pa_cons pe_str (pa_cons (pe_tup (pa_cons (pe_tup (pa_cons pe_str (pa_cons pe_int pa_nil))) (pa_cons (pe_tup (pa_cons pe_str (pa_cons pe_int pa_nil))) pa_nil))) pa_nil)))
        (pps_cons pe_int pe_non (pps_cons pe_int (pe_tup (pa_cons pe_str (pa_cons pe_int pa_nil))) pps_nil)))) (by rfl) (by rfl) (fun z => by cases z) (by decide)))
    (pss_cons (ps_set (i := 4) scLaw.nd rfl (Or.inl rfl) (pe_disp (pps_cons pe_int (pe_tup (pa_cons pe_str (pa_cons pe_int pa_nil))) (pps_cons pe_int (pe_tup (pa_cons pe_str (pa_cons pe_int pa_nil))) pps_nil)) (by rfl) (by rfl) (fun z => by cases z) (by decide)))
    (pss_cons (ps_set (i := 5) scLaw.nd rfl (Or.inl rfl) (pe_lst (pa_cons (pe_callD DS GS (hr.mono (by decide)) (pa_cons (pv 3) (pa_cons pe_dnewK pa_nil))) (pa_cons (pe_callD DS GS (hr.mono (by decide)) (pa_cons (pv 4) (pa_cons pe_dnewK pa_nil)))
        (pa_cons (pe_callD DS GS (hr.mono (by decide)) (pa_cons pe_dnewK (pa_cons pe_dnewK pa_nil))) (pa_cons (pe_callD DS GS (hr.mono (by decide)) (pa_cons (pe_disp (pps_cons pe_int (pe_tup (pa_cons pe_str (pa_cons pe_int pa_nil))) pps_nil) (by rfl) (by rfl) (fun z => by cases z) (by decide))
          (pa_cons (pe_disp (pps_cons pe_int pe_str pps_nil) (by rfl) (by rfl) (fun z => by cases z) (by decide)) pa_nil))) pa_nil))))))
    (pss_one (ps_ret (pe_cmpR (op_eqD hr.units) (pv 5) (pe_lst (pa_cons (pe_tup (pa_cons pe_int pa_nil)) (pa_cons (pe_tup (pa_cons pe_int (pa_cons pe_int pa_nil))) (pa_cons (pe_tup pa_nil) (pa_cons (pe_tup (pa_cons pe_int pa_nil)) pa_nil))))) (nomark _))))))), ?_⟩
  have hlen : ∀ n : Nat, ∃ m : Nat, m ≤ 3 ∧ (Int.toNat (if (if ((n : Int)) < 3 then (n : Int) else 3) > 1 then (if ((n : Int)) < 3 then (n : Int) else 3) else 1)) = m ∧ -(2 ^ 62) ≤ (if (if ((n : Int)) < 3 then (n : Int) else 3) > 1 then (if ((n : Int)) < 3 then (n : Int) else 3) else 1) ∧ (if (if ((n : Int)) < 3 then (n : Int) else 3) > 1 then (if ((n : Int)) < 3 then (n : Int) else 3) else 1) < 2 ^ 62 := by
    intro n
    refine ⟨_, ?_, rfl, ?_, ?_⟩ <;> (repeat' split) <;> omega
  obtain ⟨m, hm3, hme, hlo, hhi⟩ := hlen (ns.map V.int).length
  refine ⟨_, rfl, a, _, rfl, .inl ha, _, _, rfl, _, _, rfl, _, rfl, hlo, hhi, ?_⟩
  rw [hme]
  refine for_range (lo := 0) (n := m) (fun i σ Hx => ∃ o1 o2, σ = [some (.ref a), o1, o2, none, none, none] ∧ ExtN H Hx ∧ TabS Hx Pt lamQ) ⟨none, none, rfl, ExtN.refl H, tab⟩ (fun i σ Hx hi h => ?_) (fun σ Hx h => ?_)
  · obtain ⟨o1, o2, rfl, ex, tx⟩ := h
    have hax := extL ex ha
    have ei : (0 + (i : Int)) = (i : Int) := by omega
    rw [ei]
    refine ⟨_, rfl, _, rfl, a, ns, i, rfl, hax, by omega, fun d H1 s1 nd hd => ?_⟩
    have t1 := tab_same tx s1
    have x1 := ext_same s1
    refine ⟨_, rfl, _, rfl, d, 2, rfl, hd, by decide, by decide, fun r H2 r0 r2 o2 hd2 => ?_⟩
    have r2' := (Rt.refl hd t1).at o2 hd2
    obtain ⟨many, em, m3, m4⟩ : ∃ many : Nat, 3 + r = (many : Int) ∧ 3 ≤ many ∧ many ≤ 4 := ⟨(3 + r).toNat, by omega, by omega, by omega⟩
    have ext_of : ∀ {H3 : Hp}, Rt d Pt H1 H3 → ExtN H H3 := fun {H3} r b u h n => by
      have h1 := x1 _ _ (ex _ _ h n) n
      refine r.off b u (fun z => ?_) h1 n
      have := x1 b u (ex _ _ h n) n
      have h0 := ex _ _ h n
      rw [z, nd] at h0
      cases h0
    refine ⟨_, _, rfl, rfl, d, many, by (rw [← em]; rfl), by omega, m4, hd2, r2'.tab, fun H3 r3 => ?_⟩
    have r13 : Rt d Pt H1 H3 := ⟨fun b u hb h n => r3.off b u hb (r2'.off b u hb h n) n, r3.dice, r3.tab⟩
    refine ⟨true, rfl, iteF ?_⟩
    refine ⟨_, rfl, d, 2, rfl, by decide, by decide, r3.dice, r3.tab, fun H4 r4 => ⟨true, rfl, iteF ?_⟩⟩
    have r14 : Rt d Pt H1 H4 := ⟨fun b u hb h n => r4.off b u hb (r13.off b u hb h n) n, r4.dice, r4.tab⟩
    exact ⟨_, _, rfl, ext_of r14, r14.tab⟩
  · obtain ⟨o1, o2, rfl, ex, tx⟩ := h
    -- the first table
    intro p1 hp1n
    have s1 := same_new hp1n (.dK [])
    have hp1 : (upd Hx p1 (.dK [])) p1 = some (.dK []) := upd_same
    have hS1 : Same Hx (upd Hx p1 (.dK [])) := s1
    generalize upd Hx p1 (.dK []) = Hc1 at *
    have hp1N : Hx p1 = none := hp1n
    refine ⟨by show 2 ≤ sizeLine; decide, fun t1 ht1n => ?_⟩
    have s2 := same_new ht1n (.tup [.str "over", .int 4])
    have hp1_2 := s2 _ _ hp1
    have ht1 : (upd Hc1 t1 (.tup [.str "over", .int 4])) t1 = some (.tup [.str "over", .int 4]) := upd_same
    have hS2 : Same Hx (upd Hc1 t1 (.tup [.str "over", .int 4])) := hS1.trans s2
    generalize upd Hc1 t1 (.tup [.str "over", .int 4]) = Hc2 at *
    refine ⟨by show 2 ≤ sizeLine; decide, fun t2 ht2n => ?_⟩
    have s3 := same_new ht2n (.tup [.str "over", .int 3])
    have hp1_3 := s3 _ _ hp1_2
    have ht1_3 := s3 _ _ ht1
    have ht2 : (upd Hc2 t2 (.tup [.str "over", .int 3])) t2 = some (.tup [.str "over", .int 3]) := upd_same
    have hS3 : Same Hx (upd Hc2 t2 (.tup [.str "over", .int 3])) := hS2.trans s3
    generalize upd Hc2 t2 (.tup [.str "over", .int 3]) = Hc3 at *
    refine ⟨by show 2 ≤ sizeLine; decide, fun t3 ht3n => ?_⟩
    have s4 := same_new ht3n (.tup [.str "well", .int 5])
    have hp1_4 := s4 _ _ hp1_3
    have ht1_4 := s4 _ _ ht1_3
    have ht2_4 := s4 _ _ ht2
    have ht3 : (upd Hc3 t3 (.tup [.str "well", .int 5])) t3 = some (.tup [.str "well", .int 5]) := upd_same
    have hS4 : Same Hx (upd Hc3 t3 (.tup [.str "well", .int 5])) := hS3.trans s4
    generalize upd Hc3 t3 (.tup [.str "well", .int 5]) = Hc4 at *
    refine ⟨by show 2 ≤ sizeLine; decide, fun t4 ht4n => ?_⟩
    have s5 := same_new ht4n (.tup [.ref t2, .ref t3])
    have hp1_5 := s5 _ _ hp1_4
    have ht1_5 := s5 _ _ ht1_4
    have ht2_5 := s5 _ _ ht2_4
    have ht3_5 := s5 _ _ ht3
    have ht4 : (upd Hc4 t4 (.tup [.ref t2, .ref t3])) t4 = some (.tup [.ref t2, .ref t3]) := upd_same
    have hS5 : Same Hx (upd Hc4 t4 (.tup [.ref t2, .ref t3])) := hS4.trans s5
    generalize upd Hc4 t4 (.tup [.ref t2, .ref t3]) = Hc5 at *
    refine ⟨by show 2 ≤ sizeLine; decide, fun t5 ht5n => ?_⟩
    have s6 := same_new ht5n (.tup [.str "or", .ref t4])
    have hp1_6 := s6 _ _ hp1_5
    have ht1_6 := s6 _ _ ht1_5
    have ht2_6 := s6 _ _ ht2_5
    have ht3_6 := s6 _ _ ht3_5
    have ht4_6 := s6 _ _ ht4
    have ht5 : (upd Hc5 t5 (.tup [.str "or", .ref t4])) t5 = some (.tup [.str "or", .ref t4]) := upd_same
    have hS6 : Same Hx (upd Hc5 t5 (.tup [.str "or", .ref t4])) := hS5.trans s6
    generalize upd Hc5 t5 (.tup [.str "or", .ref t4]) = Hc6 at *
    refine ⟨by show 2 ≤ sizeLine; decide, fun t6 ht6n => ?_⟩
    have s7 := same_new ht6n (.tup [.str "left", .int 6])
    have hp1_7 := s7 _ _ hp1_6
    have ht1_7 := s7 _ _ ht1_6
    have ht2_7 := s7 _ _ ht2_6
    have ht3_7 := s7 _ _ ht3_6
    have ht4_7 := s7 _ _ ht4_6
    have ht5_7 := s7 _ _ ht5
    have ht6 : (upd Hc6 t6 (.tup [.str "left", .int 6])) t6 = some (.tup [.str "left", .int 6]) := upd_same
    have hS7 : Same Hx (upd Hc6 t6 (.tup [.str "left", .int 6])) := hS6.trans s7
    generalize upd Hc6 t6 (.tup [.str "left", .int 6]) = Hc7 at *
    refine ⟨hp1_7, [(Sum.inl 3, V.ref t1), (Sum.inl 4, V.ref t5), (Sum.inl 5, V.non), (Sum.inl 6, V.ref t6)], rfl, by show 4 ≤ 15; decide, ?_⟩
    have em8 : mergeK [] ([(Sum.inl 3, V.ref t1), (Sum.inl 4, V.ref t5), (Sum.inl 5, V.non), (Sum.inl 6, V.ref t6)] : List (Key × V)) = [(Sum.inl 3, V.ref t1), (Sum.inl 4, V.ref t5), (Sum.inl 5, V.non), (Sum.inl 6, V.ref t6)] := rfl
    rw [em8]
    have ht1_8 := (show (upd Hc7 p1 (.dK [(Sum.inl 3, V.ref t1), (Sum.inl 4, V.ref t5), (Sum.inl 5, V.non), (Sum.inl 6, V.ref t6)])) t1 = Hc7 t1 from upd_ne (ne_of ht1_7 hp1_7 (by intro z; cases z))).trans ht1_7
    have ht2_8 := (show (upd Hc7 p1 (.dK [(Sum.inl 3, V.ref t1), (Sum.inl 4, V.ref t5), (Sum.inl 5, V.non), (Sum.inl 6, V.ref t6)])) t2 = Hc7 t2 from upd_ne (ne_of ht2_7 hp1_7 (by intro z; cases z))).trans ht2_7
    have ht3_8 := (show (upd Hc7 p1 (.dK [(Sum.inl 3, V.ref t1), (Sum.inl 4, V.ref t5), (Sum.inl 5, V.non), (Sum.inl 6, V.ref t6)])) t3 = Hc7 t3 from upd_ne (ne_of ht3_7 hp1_7 (by intro z; cases z))).trans ht3_7
    have ht4_8 := (show (upd Hc7 p1 (.dK [(Sum.inl 3, V.ref t1), (Sum.inl 4, V.ref t5), (Sum.inl 5, V.non), (Sum.inl 6, V.ref t6)])) t4 = Hc7 t4 from upd_ne (ne_of ht4_7 hp1_7 (by intro z; cases z))).trans ht4_7
    have ht5_8 := (show (upd Hc7 p1 (.dK [(Sum.inl 3, V.ref t1), (Sum.inl 4, V.ref t5), (Sum.inl 5, V.non), (Sum.inl 6, V.ref t6)])) t5 = Hc7 t5 from upd_ne (ne_of ht5_7 hp1_7 (by intro z; cases z))).trans ht5_7
    have ht6_8 := (show (upd Hc7 p1 (.dK [(Sum.inl 3, V.ref t1), (Sum.inl 4, V.ref t5), (Sum.inl 5, V.non), (Sum.inl 6, V.ref t6)])) t6 = Hc7 t6 from upd_ne (ne_of ht6 hp1_7 (by intro z; cases z))).trans ht6
    have hp1_8 : (upd Hc7 p1 (.dK [(Sum.inl 3, V.ref t1), (Sum.inl 4, V.ref t5), (Sum.inl 5, V.non), (Sum.inl 6, V.ref t6)])) p1 = some (.dK [(Sum.inl 3, V.ref t1), (Sum.inl 4, V.ref t5), (Sum.inl 5, V.non), (Sum.inl 6, V.ref t6)]) := upd_same
    have hS8 : Same Hx (upd Hc7 p1 (.dK [(Sum.inl 3, V.ref t1), (Sum.inl 4, V.ref t5), (Sum.inl 5, V.non), (Sum.inl 6, V.ref t6)])) := same_upd hp1N hS7 _
    generalize upd Hc7 p1 (.dK [(Sum.inl 3, V.ref t1), (Sum.inl 4, V.ref t5), (Sum.inl 5, V.non), (Sum.inl 6, V.ref t6)]) = Hc8 at *
    intro p2 hp2n
    have s9 := same_new hp2n (.dK [])
    have hp1_9 := s9 _ _ hp1_8
    have ht1_9 := s9 _ _ ht1_8
    have ht2_9 := s9 _ _ ht2_8
    have ht3_9 := s9 _ _ ht3_8
    have ht4_9 := s9 _ _ ht4_8
    have ht5_9 := s9 _ _ ht5_8
    have ht6_9 := s9 _ _ ht6_8
    have hp2 : (upd Hc8 p2 (.dK [])) p2 = some (.dK []) := upd_same
    have hS9 : Same Hx (upd Hc8 p2 (.dK [])) := hS8.trans s9
    generalize upd Hc8 p2 (.dK []) = Hc9 at *
    have hp2N : Hx p2 = none := same_none hS8 hp2n
    refine ⟨by show 2 ≤ sizeLine; decide, fun u1 hu1n => ?_⟩
    have s10 := same_new hu1n (.tup [.str "over", .int 4])
    have hp1_10 := s10 _ _ hp1_9
    have ht1_10 := s10 _ _ ht1_9
    have ht2_10 := s10 _ _ ht2_9
    have ht3_10 := s10 _ _ ht3_9
    have ht4_10 := s10 _ _ ht4_9
    have ht5_10 := s10 _ _ ht5_9
    have ht6_10 := s10 _ _ ht6_9
    have hp2_10 := s10 _ _ hp2
    have hu1 : (upd Hc9 u1 (.tup [.str "over", .int 4])) u1 = some (.tup [.str "over", .int 4]) := upd_same
    have hS10 : Same Hx (upd Hc9 u1 (.tup [.str "over", .int 4])) := hS9.trans s10
    generalize upd Hc9 u1 (.tup [.str "over", .int 4]) = Hc10 at *
    refine ⟨by show 2 ≤ sizeLine; decide, fun u2 hu2n => ?_⟩
    have s11 := same_new hu2n (.tup [.str "begun", .int 3])
    have hp1_11 := s11 _ _ hp1_10
    have ht1_11 := s11 _ _ ht1_10
    have ht2_11 := s11 _ _ ht2_10
    have ht3_11 := s11 _ _ ht3_10
    have ht4_11 := s11 _ _ ht4_10
    have ht5_11 := s11 _ _ ht5_10
    have ht6_11 := s11 _ _ ht6_10
    have hp2_11 := s11 _ _ hp2_10
    have hu1_11 := s11 _ _ hu1
    have hu2 : (upd Hc10 u2 (.tup [.str "begun", .int 3])) u2 = some (.tup [.str "begun", .int 3]) := upd_same
    have hS11 : Same Hx (upd Hc10 u2 (.tup [.str "begun", .int 3])) := hS10.trans s11
    generalize upd Hc10 u2 (.tup [.str "begun", .int 3]) = Hc11 at *
    refine ⟨hp2_11, [(Sum.inl 3, V.ref u1), (Sum.inl 4, V.ref u2)], rfl, by show 2 ≤ 15; decide, ?_⟩
    have em12 : mergeK [] ([(Sum.inl 3, V.ref u1), (Sum.inl 4, V.ref u2)] : List (Key × V)) = [(Sum.inl 3, V.ref u1), (Sum.inl 4, V.ref u2)] := rfl
    rw [em12]
    have hp1_12 := (show (upd Hc11 p2 (.dK [(Sum.inl 3, V.ref u1), (Sum.inl 4, V.ref u2)])) p1 = Hc11 p1 from upd_ne (ne_of hp1_11 hp2_11 (by intro z; cases z))).trans hp1_11
    have ht1_12 := (show (upd Hc11 p2 (.dK [(Sum.inl 3, V.ref u1), (Sum.inl 4, V.ref u2)])) t1 = Hc11 t1 from upd_ne (ne_of ht1_11 hp2_11 (by intro z; cases z))).trans ht1_11
    have ht2_12 := (show (upd Hc11 p2 (.dK [(Sum.inl 3, V.ref u1), (Sum.inl 4, V.ref u2)])) t2 = Hc11 t2 from upd_ne (ne_of ht2_11 hp2_11 (by intro z; cases z))).trans ht2_11
    have ht3_12 := (show (upd Hc11 p2 (.dK [(Sum.inl 3, V.ref u1), (Sum.inl 4, V.ref u2)])) t3 = Hc11 t3 from upd_ne (ne_of ht3_11 hp2_11 (by intro z; cases z))).trans ht3_11
    have ht4_12 := (show (upd Hc11 p2 (.dK [(Sum.inl 3, V.ref u1), (Sum.inl 4, V.ref u2)])) t4 = Hc11 t4 from upd_ne (ne_of ht4_11 hp2_11 (by intro z; cases z))).trans ht4_11
    have ht5_12 := (show (upd Hc11 p2 (.dK [(Sum.inl 3, V.ref u1), (Sum.inl 4, V.ref u2)])) t5 = Hc11 t5 from upd_ne (ne_of ht5_11 hp2_11 (by intro z; cases z))).trans ht5_11
    have ht6_12 := (show (upd Hc11 p2 (.dK [(Sum.inl 3, V.ref u1), (Sum.inl 4, V.ref u2)])) t6 = Hc11 t6 from upd_ne (ne_of ht6_11 hp2_11 (by intro z; cases z))).trans ht6_11
    have hu1_12 := (show (upd Hc11 p2 (.dK [(Sum.inl 3, V.ref u1), (Sum.inl 4, V.ref u2)])) u1 = Hc11 u1 from upd_ne (ne_of hu1_11 hp2_11 (by intro z; cases z))).trans hu1_11
    have hu2_12 := (show (upd Hc11 p2 (.dK [(Sum.inl 3, V.ref u1), (Sum.inl 4, V.ref u2)])) u2 = Hc11 u2 from upd_ne (ne_of hu2 hp2_11 (by intro z; cases z))).trans hu2
    have hp2_12 : (upd Hc11 p2 (.dK [(Sum.inl 3, V.ref u1), (Sum.inl 4, V.ref u2)])) p2 = some (.dK [(Sum.inl 3, V.ref u1), (Sum.inl 4, V.ref u2)]) := upd_same
    have hS12 : Same Hx (upd Hc11 p2 (.dK [(Sum.inl 3, V.ref u1), (Sum.inl 4, V.ref u2)])) := same_upd hp2N hS11 _
    generalize upd Hc11 p2 (.dK [(Sum.inl 3, V.ref u1), (Sum.inl 4, V.ref u2)]) = Hc12 at *
    have W1 : WsAt Hc12 [(Sum.inl 3, V.ref t1), (Sum.inl 4, V.ref t5), (Sum.inl 5, V.non), (Sum.inl 6, V.ref t6)] ws1 := .cons ⟨rfl, t1, rfl, ht1_12⟩ (.cons ⟨rfl, t5, t4, [V.ref t2, V.ref t3], rfl, ht5_12, ht4_12, .cons ⟨t2, rfl, ht2_12⟩ (.cons ⟨t3, rfl, ht3_12⟩ .nil)⟩ (.cons ⟨rfl, rfl⟩ (.cons ⟨rfl, t6, rfl, ht6_12⟩ .nil)))
    have W2 : WsAt Hc12 [(Sum.inl 3, V.ref u1), (Sum.inl 4, V.ref u2)] ws2 := .cons ⟨rfl, u1, rfl, hu1_12⟩ (.cons ⟨rfl, u2, rfl, hu2_12⟩ .nil)
    have P1 := hp1_12
    have P2 := hp2_12
    have tx2 := tab_same tx hS12
    -- the four answers
    refine ⟨_, rfl, fun y1 hy1 => ?_⟩
    have a1 := same_new hy1 (.dK [])
    have hy1' : (upd Hc12 y1 (.dK [])) y1 = some (.dK []) := upd_same
    have n1 : y1 ≠ p1 := Ne.symm (ne_of_none P1 hy1)
    have P1' := a1 _ _ P1
    have P2' := a1 _ _ P2
    have W1' := W1.tups (tups_of a1)
    have W2' := W2.tups (tups_of a1)
    have tb1 := tab_same tx2 a1
    generalize upd Hc12 y1 (.dK []) = Ha at *
    refine ⟨p1, y1, _, ws1, [], rfl, n1, tb1, P1', W1', ok1, hy1', kok1, fun r1 Hb e1 tb2 hr1 => ?_⟩
    rw [told1] at hr1
    have P2b := e1 _ _ P2' (fun _ z => by cases z)
    have W2b := W2'.tups (tups_ext e1)
    refine ⟨_, rfl, fun y2 hy2 => ?_⟩
    have a2 := same_new hy2 (.dK [])
    have hy2' : (upd Hb y2 (.dK [])) y2 = some (.dK []) := upd_same
    have n2 : y2 ≠ p2 := Ne.symm (ne_of_none P2b hy2)
    have P2c := a2 _ _ P2b
    have W2c := W2b.tups (tups_of a2)
    have hr1c := a2 _ _ hr1
    have tb3 := tab_same tb2 a2
    generalize upd Hb y2 (.dK []) = Hc at *
    refine ⟨p2, y2, _, ws2, [], rfl, n2, tb3, P2c, W2c, ok2, hy2', kok2, fun r2 Hd e2 tb4 hr2 => ?_⟩
    rw [told2] at hr2
    have hr1d := e2 _ _ hr1c (fun _ z => by cases z)
    intro y3 hy3
    have a3 := same_new hy3 (.dK [])
    have hy3' : (upd Hd y3 (.dK [])) y3 = some (.dK []) := upd_same
    have hr1e := a3 _ _ hr1d
    have hr2e := a3 _ _ hr2
    have tb5 := tab_same tb4 a3
    generalize upd Hd y3 (.dK []) = He at *
    intro y4 hy4
    have a4 := same_new hy4 (.dK [])
    have n3 : y4 ≠ y3 := Ne.symm (ne_of_none hy3' hy4)
    have hy4' : (upd He y4 (.dK [])) y4 = some (.dK []) := upd_same
    have hy3f := a4 _ _ hy3'
    have hr1f := a4 _ _ hr1e
    have hr2f := a4 _ _ hr2e
    have tb6 := tab_same tb5 a4
    generalize upd He y4 (.dK []) = Hf at *
    refine ⟨y3, y4, _, [], [], rfl, n3, tb6, hy3f, .nil, ok3, hy4', kok3, fun r3 Hg e3 tb7 hr3 => ?_⟩
    rw [told3] at hr3
    have hr1g := e3 _ _ hr1f (fun _ z => by cases z)
    have hr2g := e3 _ _ hr2f (fun _ z => by cases z)
    intro y5 hy5
    have a5 := same_new hy5 (.dK [])
    have hy5' : (upd Hg y5 (.dK [])) y5 = some (.dK []) := upd_same
    have hr1h := a5 _ _ hr1g
    have hr2h := a5 _ _ hr2g
    have hr3h := a5 _ _ hr3
    have tb8 := tab_same tb7 a5
    generalize upd Hg y5 (.dK []) = Hh at *
    refine ⟨by show 2 ≤ sizeLine; decide, fun v1 hv1 => ?_⟩
    have a6 := same_new hv1 (.tup [.str "left", .int 1])
    have hv1' : (upd Hh v1 (.tup [.str "left", .int 1])) v1 = some (.tup [.str "left", .int 1]) := upd_same
    have hy5i := a6 _ _ hy5'
    have hr1i := a6 _ _ hr1h
    have hr2i := a6 _ _ hr2h
    have hr3i := a6 _ _ hr3h
    have tb9 := tab_same tb8 a6
    generalize upd Hh v1 (.tup [.str "left", .int 1]) = Hi at *
    refine ⟨hy5i, [(Sum.inl 3, V.ref v1)], rfl, by show 1 ≤ 15; decide, ?_⟩
    have em4 : mergeK [] ([(Sum.inl 3, V.ref v1)] : List (Key × V)) = [(Sum.inl 3, V.ref v1)] := rfl
    rw [em4]
    have tu := dk_ne_tups (o := .dK [(Sum.inl 3, V.ref v1)]) hy5i
    have hv1j := tu _ _ hv1'
    have hr1j := tu _ _ hr1i
    have hr2j := tu _ _ hr2i
    have hr3j := tu _ _ hr3i
    have hy5j : (upd Hi y5 (.dK [(Sum.inl 3, V.ref v1)])) y5 = some (.dK [(Sum.inl 3, V.ref v1)]) := upd_same
    have tb10 : TabS (upd Hi y5 (.dK [(Sum.inl 3, V.ref v1)])) Pt lamQ := tab_upd tb9 hy5i (fun _ z => by cases z) (fun _ z => by cases z)
    generalize upd Hi y5 (.dK [(Sum.inl 3, V.ref v1)]) = Hj at *
    intro y6 hy6
    have a7 := same_new hy6 (.dK [])
    have n4 : y6 ≠ y5 := Ne.symm (ne_of_none hy5j hy6)
    have hy6' : (upd Hj y6 (.dK [])) y6 = some (.dK []) := upd_same
    have hy5k := a7 _ _ hy5j
    have hv1k := a7 _ _ hv1j
    have hr1k := a7 _ _ hr1j
    have hr2k := a7 _ _ hr2j
    have hr3k := a7 _ _ hr3j
    have tb11 := tab_same tb10 a7
    generalize upd Hj y6 (.dK []) = Hk at *
    refine ⟨hy6', [(Sum.inl 1, V.str "begun")], rfl, by show 1 ≤ 15; decide, ?_⟩
    have em5 : mergeK [] ([(Sum.inl 1, V.str "begun")] : List (Key × V)) = kvS [(1, .begun)] := rfl
    rw [em5]
    have tu2 := dk_ne_tups (o := .dK (kvS [(1, .begun)])) hy6'
    have hv1l := tu2 _ _ hv1k
    have hr1l := tu2 _ _ hr1k
    have hr2l := tu2 _ _ hr2k
    have hr3l := tu2 _ _ hr3k
    have hy5l := (show (upd Hk y6 (.dK (kvS [(1, .begun)]))) y5 = Hk y5 from upd_ne (Ne.symm n4)).trans hy5k
    have hy6l : (upd Hk y6 (.dK (kvS [(1, .begun)]))) y6 = some (.dK (kvS [(1, .begun)])) := upd_same
    have tb12 : TabS (upd Hk y6 (.dK (kvS [(1, .begun)]))) Pt lamQ := tab_upd tb11 hy6' (fun _ z => by cases z) (fun _ z => by cases z)
    generalize upd Hk y6 (.dK (kvS [(1, .begun)])) = Hl at *
    refine ⟨y5, y6, _, ws4, [(1, .begun)], rfl, n4, tb12, hy5l, .cons ⟨rfl, v1, rfl, hv1l⟩ .nil, ok4, hy6l, kok4, fun r4 Hm e4 tb13 hr4 => ?_⟩
    rw [told4] at hr4
    have hr1m := e4 _ _ hr1l (fun _ z => by cases z)
    have hr2m := e4 _ _ hr2l (fun _ z => by cases z)
    have hr3m := e4 _ _ hr3l (fun _ z => by cases z)
    refine ⟨by show 4 ≤ sizeLine; decide, fun l1 hl1 => ?_⟩
    have b1 := same_new hl1 (.lst [.ref r1, .ref r2, .ref r3, .ref r4])
    have hl1' : (upd Hm l1 (.lst [.ref r1, .ref r2, .ref r3, .ref r4])) l1 = some (.lst [.ref r1, .ref r2, .ref r3, .ref r4]) := upd_same
    have R1 : TsAt (upd Hm l1 (.lst [.ref r1, .ref r2, .ref r3, .ref r4])) [.ref r1, .ref r2, .ref r3, .ref r4] toldAll := .cons ⟨r1, rfl, b1 _ _ hr1m⟩ (.cons ⟨r2, rfl, b1 _ _ hr2m⟩ (.cons ⟨r3, rfl, b1 _ _ hr3m⟩ (.cons ⟨r4, rfl, b1 _ _ hr4⟩ .nil)))
    generalize upd Hm l1 (.lst [.ref r1, .ref r2, .ref r3, .ref r4]) = Hn at *
    refine ⟨_, rfl, by show 1 ≤ sizeLine; decide, fun w1 hw1 => ?_⟩
    have b2 := same_new hw1 (.tup [.int 6])
    have hw1' : (upd Hn w1 (.tup [.int 6])) w1 = some (.tup [.int 6]) := upd_same
    generalize upd Hn w1 (.tup [.int 6]) = Ho at *
    refine ⟨by show 2 ≤ sizeLine; decide, fun w2 hw2 => ?_⟩
    have b3 := same_new hw2 (.tup [.int 3, .int 4])
    have hw2' : (upd Ho w2 (.tup [.int 3, .int 4])) w2 = some (.tup [.int 3, .int 4]) := upd_same
    generalize upd Ho w2 (.tup [.int 3, .int 4]) = Hp1 at *
    refine ⟨by show 0 ≤ sizeLine; decide, fun w3 hw3 => ?_⟩
    have b4 := same_new hw3 (.tup [])
    have hw3' : (upd Hp1 w3 (.tup [])) w3 = some (.tup []) := upd_same
    generalize upd Hp1 w3 (.tup []) = Hq at *
    refine ⟨by show 1 ≤ sizeLine; decide, fun w4 hw4 => ?_⟩
    have b5 := same_new hw4 (.tup [.int 3])
    have hw4' : (upd Hq w4 (.tup [.int 3])) w4 = some (.tup [.int 3]) := upd_same
    generalize upd Hq w4 (.tup [.int 3]) = Hr at *
    refine ⟨by show 4 ≤ sizeLine; decide, fun l2 hl2 => ?_⟩
    have b6 := same_new hl2 (.lst [.ref w1, .ref w2, .ref w3, .ref w4])
    have hl2' : (upd Hr l2 (.lst [.ref w1, .ref w2, .ref w3, .ref w4])) l2 = some (.lst [.ref w1, .ref w2, .ref w3, .ref w4]) := upd_same
    have bb := b2.trans (b3.trans (b4.trans (b5.trans b6)))
    have R2 : TsAt (upd Hr l2 (.lst [.ref w1, .ref w2, .ref w3, .ref w4])) [.ref w1, .ref w2, .ref w3, .ref w4] toldAll := .cons ⟨w1, rfl, b6 _ _ (b5 _ _ (b4 _ _ (b3 _ _ hw1')))⟩ (.cons ⟨w2, rfl, b6 _ _ (b5 _ _ (b4 _ _ hw2'))⟩ (.cons ⟨w3, rfl, b6 _ _ (b5 _ _ hw3')⟩ (.cons ⟨w4, rfl, b6 _ _ hw4'⟩ .nil)))
    have R1' : TsAt (upd Hr l2 (.lst [.ref w1, .ref w2, .ref w3, .ref w4])) [.ref r1, .ref r2, .ref r3, .ref r4] toldAll := paired_mono (fun _ _ r => by
      obtain ⟨p, e, h⟩ := r
      exact ⟨p, e, bb _ _ h⟩) R1
    have hl1z := bb _ _ hl1'
    generalize upd Hr l2 (.lst [.ref w1, .ref w2, .ref w3, .ref w4]) = Hz at *
    refine ⟨.list (toldAll.map dI), .list (toldAll.map dI), .lst (SqL.of hl1z) (dp_L (a := l1) R1'), .lst (SqL.of hl2') (dp_L (a := l2) R2), shaped_L _, shaped_L _, ?_⟩
    rw [eqv_all]
    exact q Hz
end
end Ts

set_option Elab.async false
set_option linter.all false
set_option maxRecDepth 100000
set_option maxHeartbeats 0
/-! The head: what is looked at when the top has run, and the run. -/
namespace Ts
open PySem PySem.Spec PyProof.Rows L2
def dOf (x : Str) (i : Nat) : He.DefD := ⟨(x, none), x, x, defArgs (top i), defBody (top i), defScope (top i), [], []⟩
def fnL0 : List He.DefD := [dOf "is_integer" 2, dOf "is_from" 3, dOf "are_ascending" 4, dOf "is_state" 17, dOf "ends_behind" 18, dOf "is_atom_true" 19, dOf "is_job_number" 28, dOf "after_nodes" 29, dOf "atoms_in" 30, dOf "named_in" 31, dOf "is_after_formula" 32, dOf "is_known" 33, dOf "is_read" 34, dOf "could_be" 35, dOf "is_hopeful" 36, dOf "open_jobs" 37, dOf "is_beaten" 38, dOf "best_ends" 39, dOf "has_outcome" 40, dOf "are_wishes" 43]
def fnL1 : List He.DefD := [dOf "states_with" 44, dOf "still_stuck" 45, dOf "stuck_set" 46, dOf "is_stuck_set" 47, dOf "_law_dice" 49, dOf "_law_roll" 50, dOf "_law_pick" 51, dOf "_law_all_states" 52, dOf "_law_ends_behind" 53, dOf "_law_atom_holds" 54, dOf "_law_after_holds" 55, dOf "_law_after_jobs" 56, dOf "_law_after_atom" 57, dOf "_law_after_drawn" 58, dOf "_law_known_drawn" 59, dOf "_law_outcomes" 60, dOf "_law_comes" 61, dOf "_law_is_stuck" 62, dOf "_law_steps" 63, dOf "_law_never_begins" 64]
def fnL2 : List He.DefD := [dOf "_law_right" 65, dOf "law" 66]
def fnL : List He.DefD := fnL0 ++ fnL1 ++ fnL2
def faL0 : List He.Fa := [.glo "is_integer", .glo "is_from", .glo "are_ascending", .glo "is_state", .glo "ends_behind", .glo "is_atom_true", .glo "is_job_number", .glo "after_nodes", .glo "atoms_in", .glo "named_in", .glo "is_after_formula", .glo "is_known", .glo "is_read", .glo "could_be", .glo "is_hopeful", .glo "open_jobs", .glo "is_beaten", .glo "best_ends", .glo "has_outcome", .glo "are_wishes"]
def faL1 : List He.Fa := [.glo "states_with", .glo "still_stuck", .glo "stuck_set", .glo "is_stuck_set", .glo "_law_dice", .glo "_law_roll", .glo "_law_pick", .glo "_law_all_states", .glo "_law_ends_behind", .glo "_law_atom_holds", .glo "_law_after_holds", .glo "_law_after_jobs", .glo "_law_after_atom", .glo "_law_after_drawn", .glo "_law_known_drawn", .glo "_law_outcomes", .glo "_law_comes", .glo "_law_is_stuck", .glo "_law_steps", .glo "_law_never_begins"]
def faL2 : List He.Fa := [.glo "_law_right", .glo "law", .int "GREATEST" (10 ^ 60), .int "MAX_NAMED" 6, .int "MAX_AFTER_NODES" 60, .int "MAX_DEEP" 8, .int "MAX_MEMBERS" 20, .int "MAX_JOB_NUMBER" 1000000, .int "MAX_WAITING" 60, .str "WAITING" "waiting", .str "BEGUN" "begun", .str "LEFT" "left", .str "OVER" "over", .str "BOTH" "and", .str "EITHER" "or", .glo "ENDS", .glo "STATES", .glo "ATOM_WORDS", .free "isinstance", .free "int"]
def faL3 : List He.Fa := [.free "bool", .free "str", .free "tuple", .free "dict", .free "list", .free "all", .free "any", .free "sum", .free "zip", .free "sorted", .free "len", .free "range", .free "repr", .free "max", .free "min", .free "abs"]
def faL : List He.Fa := faL0 ++ faL1 ++ faL2 ++ faL3
def cOf (K : PySem.W.Frag) : Addr := match K.lookup (He.ga K "is_hopeful") with
  | some ⟨_, _, .func fd, _⟩ => (match fd.code with
    | .ref c => c
    | _ => 0)
  | _ => 0
def pOf (K : PySem.W.Frag) : Addr := match K.lookup (cOf K) with
  | some ⟨_, _, .fields vs, _⟩ => (match (vs[11]? : Option Value) with
    | some (.ref p) => p
    | _ => 0)
  | _ => 0
def isTab (o : Option Obj) : Bool := match o with
  | some ⟨.none, none, .fields vs, sl⟩ => vs.isEmpty && sl.isEmpty
  | _ => false
theorem isTab_ok {o : Option Obj} (h : isTab o = true) : o = some { cls := .none, data := .fields #[] } := by
  unfold isTab at h
  split at h
  · rename_i vs sl
    obtain ⟨h1, h2⟩ := He.ba h
    rw [Array.isEmpty_iff.mp h1, Array.isEmpty_iff.mp h2]
  · cases h
def codeOf (K : PySem.W.Frag) : Value := match K.lookup (He.ga K "is_hopeful") with
  | some ⟨_, _, .func fd, _⟩ => fd.code
  | _ => .none
def tups3 (K : PySem.W.Frag) : Bool := He.tupB K "ENDS" (endsAll.map fun e => .str e.s) && (He.tupB K "STATES" (allSg.map fun e => .str e.s) && He.tupB K "ATOM_WORDS" (allWd.map fun e => .str e.s))
def moreB (K : PySem.W.Frag) (o : Option Obj) : Bool := tups3 K && (PySem.W.codeHdIn K (cOf K) (pOf K) && ((K.lookup (pOf K)).isNone && isTab o))
abbrev AlL : Type := Bool × He.AlD
def obsL (g : Addr → Option Obj) : AlL := (moreB (He.frG g (He.asD g 2)) (g (pOf (He.frG g (He.asD g 2)))), He.obsDG 2 faL fnL g)
def hkL : PySem.W.Hook where
  α := AlL
  obs := fun s => obsL s.heap.get?
  val := fun _ => (true, He.valD fnL)
  says := fun _ h => ∃ K : PySem.W.Frag, K.In h ∧ He.SaysD faL fnL K ∧ moreB K (h.get? (pOf K)) = true
  of := fun _ s e => ⟨He.frG s.heap.get? (He.asD s.heap.get? 2), He.frG_in, congrArg (fun z : AlL => z.2) e, congrArg (fun z : AlL => z.1) e⟩
  keeps := fun _ h h' ⟨K, hK, c, m⟩ k => ⟨K, PySem.W.Frag.In.keeps hK k, c, by
    have e : isTab (h.get? (pOf K)) = true := (He.ba (He.ba (He.ba m).2).2).2
    rw [k _ _ (isTab_ok e), ← isTab_ok e]
    exact m⟩
def obL (s : PySem.W.SharedT) : AlL := obsL (HandSHeadRun.getT s)
theorem obL_eq (s : PySem.W.SharedT) : obL s = hkL.obs s.abs := by
  have e : HandSHeadRun.getT s = s.abs.heap.get? := funext (HandSHeadRun.getT_eq s)
  show obsL (HandSHeadRun.getT s) = obsL s.abs.heap.get?
  rw [e]
abbrev RL : PySem.W.OpenRow := PySem.W.OpenLaw.row PySem.Challenge.rw_toldstarts_k34_whole_stuck_sets
def namesA : List PySem.Str := ["GREATEST", "is_integer", "is_from", "are_ascending", "HouseError", "InvalidJob", "UnknownName", "WAITING", "BEGUN", "LEFT", "ENDS", "STATES", "OVER", "ATOM_WORDS", "is_state", "ends_behind", "is_atom_true", "MAX_NAMED", "MAX_AFTER_NODES", "MAX_DEEP", "MAX_MEMBERS", "MAX_JOB_NUMBER", "BOTH", "EITHER", "is_job_number", "after_nodes", "atoms_in", "named_in", "is_after_formula", "is_known"]
def namesB : List PySem.Str := ["is_read", "could_be", "is_hopeful", "open_jobs", "is_beaten", "best_ends", "has_outcome", "MAX_WAITING", "are_wishes", "states_with", "still_stuck", "stuck_set", "is_stuck_set", "_law_dice", "_law_roll", "_law_pick", "_law_all_states", "_law_ends_behind", "_law_atom_holds", "_law_after_holds", "_law_after_jobs", "_law_after_atom", "_law_after_drawn", "_law_known_drawn", "_law_outcomes", "_law_comes", "_law_is_stuck", "_law_steps", "_law_never_begins", "_law_right"]
def namesL : List PySem.Str := namesA ++ namesB
theorem runL (w : World) : HandSHeadRun.RunEq RL (PySem.W.view RL.prog [66]) hkL obL 4000 namesL w := by
  intro os
  kernel_rfl
end Ts

set_option Elab.async false
set_option linter.all false
set_option maxRecDepth 100000
set_option maxHeartbeats 4000000
/-! The end of the row for a promise that needs the caller's empty guards: one code object with its table. -/
namespace Ts
open PySem PySem.Spec PyProof.Rows L2 LamX
abbrev tabO : Obj := { cls := .none, data := .fields #[] }
abbrev lisO (vs : List Value) : Obj := { cls := .type "list", data := .seq vs.toArray }
/-- what is tracked as the law starts: the empty table, and the script unless the top wrote it -/
def startH (K : PySem.W.Frag) (a p : Addr) (vs : List Value) (ns : List Int) : Hp := fun b =>
  if b = p then some (.tbl #[]) else if b = a ∧ K.lookup a = none then some (.frz (lisO vs) (.lst (ns.map V.int))) else none
section
variable {P : Program} {w : World} {K : PySem.W.Frag} {mg mb : Str → Option Value} {k : Nat} {fa a c p : Addr} {fd : FuncData} {x : Str} {sp : Sp} {s₁ : Shared} {vs : List Value} {ns : List Int}
theorem start_p : startH K a p vs ns p = some (.tbl #[]) := if_pos rfl
theorem start_in {b : Addr} {u : HO} (h : startH K a p vs ns b = some u) : (b = p ∧ u = .tbl #[]) ∨ (b = a ∧ K.lookup a = none ∧ u = .frz (lisO vs) (.lst (ns.map V.int))) := by
  unfold startH at h
  by_cases e : b = p
  · rw [if_pos e] at h
    exact .inl ⟨e, (Option.some.inj h).symm⟩
  · rw [if_neg e] at h
    by_cases e2 : b = a ∧ K.lookup a = none
    · rw [if_pos e2] at h
      exact .inr ⟨e2.1, e2.2, (Option.some.inj h).symm⟩
    · rw [if_neg e2] at h
      cases h
theorem start_none (hT : s₁.heap.get? p = some tabO) (ha : s₁.heap.get? a = some (lisO vs)) {b : Addr} {o : Obj} (e : s₁.heap.get? b = some o) (h1 : o ≠ tabO) (h2 : o ≠ lisO vs) : startH K a p vs ns b = none := by
  cases q : startH K a p vs ns b with
  | none => rfl
  | some u =>
    rcases start_in q with ⟨z, _⟩ | ⟨z, _, _⟩
    · rw [z, hT] at e
      exact absurd (Option.some.inj e).symm h1
    · rw [z, ha] at e
      exact absurd (Option.some.inj e).symm h2
theorem call_endG (KX : K.In s₁.heap) (hns : s₁.heap.Ns mainGlobals mg) (hb : s₁.heap.Ns builtinsNs mb) (hbb : ∀ x : Str, x ≠ "__name__" → mb x = bootBuiltins x) (hlim : s₁.heap.NoLimit) (hg : s₁.gens = #[])
    (hT : s₁.heap.get? p = some tabO) (nT : K.lookup p = none) (C : PySem.W.CodeHd s₁.heap c p)
    (hbm : ∃ (bm : Addr) (ob : Obj), mg "__builtins__" = some (.ref bm) ∧ bm ≠ builtinsNs ∧ s₁.heap.get? bm = some ob ∧ ob.cls = .type "module" ∧ ob.dict = some builtinsNs ∧ ob.data = .plain)
    (ha : s₁.heap.get? a = some (lisO vs)) (hi : IntsAre vs ns) (hl : ns.length ≤ sizeLine) (hr : Room k callerA)
    (F : ∀ base : Heap, K.In base → base.Ns mainGlobals mg → TabB base mg c p → FnOkG P w K mg base k fa fd [x] sp) (hbind : ∀ (s : Shared) (u : Value), BindsTo s fd ⟨[u], []⟩ [(x, u)])
    (hsp : ∀ H : Hp, H p = some (.tbl #[]) → SqL K H a (ns.map V.int) → sp [.ref a] H (fun v _ => v = .bl true) E0) :
    codeAny (model P w) callerA (.call (.ref fa) ⟨[.ref a], []⟩) (fun r s' => r = .ok (.ret (.bool true)) ∧ OldK s₁.heap s'.heap ∧ s'.os = s₁.os ∧ AllBare s'.gens) s₁ := by
  have rv := vals_ints hi
  have lenV := hi.length
  have hok : HOk P w (startH K a p vs ns) s₁.heap := fun b u z => by
    rcases start_in z with ⟨rfl, rfl⟩ | ⟨rfl, _, rfl⟩
    · exact hT
    · exact ⟨ha, by rw [List.length_map]; exact hl, vs, _, rv, ha⟩
  have hS : SqL K (startH K a p vs ns) a (ns.map V.int) := by
    cases hk : K.lookup a with
    | some o =>
      have e := KX a o hk
      rw [ha] at e
      cases e
      exact .inr ⟨_, vs.toArray, _, hk, rfl, rfl, rfl, by rw [List.size_toArray, lenV]; exact hl, by simpa using rv⟩
    | none =>
      have ne : a ≠ p := fun z => by
        rw [z, hT] at ha
        cases ha
      refine .inl (.inr ⟨lisO vs, ?_⟩)
      show (if a = p then _ else if a = a ∧ K.lookup a = none then _ else _) = _
      rw [if_neg ne, if_pos ⟨rfl, hk⟩]
  generalize hH0 : startH K a p vs ns = H at *
  have hp : H p = some (.tbl #[]) := by rw [← hH0]; exact start_p
  have hin : ∀ {b : Addr} {u : HO}, H b = some u → (b = p ∧ u = .tbl #[]) ∨ (b = a ∧ K.lookup a = none ∧ u = .frz (lisO vs) (.lst (ns.map V.int))) := fun h => by
    rw [← hH0] at h
    exact start_in h
  have seen : ∀ {b : Addr} {o : Obj}, s₁.heap.get? b = some o → o ≠ tabO → o ≠ lisO vs → (hidT s₁.heap H).get? b = some o := fun e h1 h2 => hidT_get e (by rw [← hH0]; exact start_none hT ha e h1 h2)
  have nsK : ∀ {b : Addr} {m : Str → Option Value}, s₁.heap.Ns b m → (hidT s₁.heap H).Ns b m := fun ⟨o, es, ep, e, d, r⟩ => ⟨o, es, ep, seen e (fun z => by rw [z] at d; cases d) (fun z => by rw [z] at d; cases d), d, r⟩
  have hKb : K.In (hidT s₁.heap H) := fun b o e => hidT_get (KX b o e) (by
    cases q : H b with
    | none => rfl
    | some u =>
      rcases hin q with ⟨z, _⟩ | ⟨z, z2, _⟩
      · rw [z, nT] at e
        cases e
      · rw [z, z2] at e
        cases e)
  have TB : TabB (hidT s₁.heap H) mg c p := by
    refine ⟨?_, ?_, fun z => ?_⟩
    · obtain ⟨o, us, file, tf, flags, tg, inF, text, tt, e1, r1, r2, r3, r⟩ := C
      refine ⟨o, us, file, tf, flags, tg, inF, text, tt, seen e1 (fun z => ?_) (fun z => ?_), r1, r2, r3, r⟩
      · rw [z] at r1
        cases r1
      · rw [z] at r2
        cases r2
    · obtain ⟨bm, ob, b1, b2, b3, b4, b5, b6⟩ := hbm
      have nG : bm ≠ mainGlobals := fun q => by
        obtain ⟨o, es, ep, e, hd, _⟩ := hns
        rw [q, e] at b3
        cases b3
        rw [hd] at b6
        cases b6
      have nP : bm ≠ p := fun q => by
        rw [q, hT] at b3
        cases b3
        cases b6
      refine ⟨bm, ob, b1, b2, nG, nP, seen b3 (fun z => ?_) (fun z => ?_), b4, b5, b6⟩
      · rw [z] at b6
        cases b6
      · rw [z] at b6
        cases b6
    · obtain ⟨o, es, ep, e, hd, _⟩ := hns
      rw [z, hT] at e
      cases e
      cases hd
  have e0 : Env0 P w K mg (hidT s₁.heap H) callerA [] s₁ H := ⟨rfl, ⟨hKb, nsK hns, ⟨mb, nsK hb, hbb⟩, let ⟨mc, h1, h2⟩ := hlim; ⟨mc, nsK h1, h2⟩⟩, fun b o e => of_hidT e, Nat.le_of_eq (hidT_size _ _), trivial, fun b hb => absurd (show b ∈ ([] : List Addr) from hb) (by simp), hok, .of_eq hg⟩
  refine codeAny_mono ((F _ hKb (nsK hns) TB).run callerA [] s₁ H ⟨[.ref a], []⟩ [.ref a] [.ref a] _ _ hr rfl e0 (hbind s₁ (.ref a)) (.cons rfl .nil) (hsp H hp hS)) fun r s' h => ?_
  cases r with
  | error e => exact (show False from h).elim
  | ok fl =>
    cases fl with
    | next => exact False.elim h
    | brk => exact False.elim h
    | cont => exact False.elim h
    | ret u =>
      obtain ⟨v, H', os, bare, un, hok', r', q⟩ := h
      have q' : v = .bl true := q
      subst q'
      obtain rfl : u = Value.bool true := r'
      obtain ⟨more, hm⟩ : ∃ more : Array Value, s'.heap.get? p = some { cls := .none, data := .fields more } := by
        obtain ⟨more, z⟩ := un.tbls p #[] hp
        exact ⟨_, hok' p _ z⟩
      have kept : ∀ b o, b ≠ p → s₁.heap.get? b = some o → s'.heap.get? b = some o := fun b o nb e => by
        cases q : H b with
        | none => exact un.keep b o e q (by intro z; exact absurd (show b ∈ ([] : List Addr) from z) (by simp)) (by simp)
        | some u =>
          rcases hin q with ⟨z, _⟩ | ⟨_, _, z⟩
          · exact absurd z nb
          · rw [z] at q
            obtain ⟨e1, _⟩ := hok b _ q
            obtain ⟨e2, _⟩ := hok' b _ (un.frzs b _ _ q)
            rw [e] at e1
            cases e1
            exact e2
      refine ⟨rfl, ⟨fun b o e => ?_, fun b o e => ?_⟩, os, bare⟩
      · by_cases nb : b = p
        · rw [nb] at e ⊢
          rw [hT] at e
          cases e
          exact .inr (.inl ⟨(C.tab hT).isCodeTable, rfl, #[], more, rfl, by rw [Array.empty_append]; exact hm⟩)
        · exact .inl (kept b o nb e)
      · by_cases nb : b = p
        · rw [nb]
          exact ⟨_, hm⟩
        · exact ⟨o, kept b o nb e⟩
end
end Ts

set_option Elab.async false
set_option linter.all false
set_option maxRecDepth 100000
set_option maxHeartbeats 4000000
/-! The facts of the head, the chain of promises, the end. -/
namespace Ts
open PySem PySem.Spec PyProof.Rows L2 LamX
section
variable {K : PySem.W.Frag} {h : Heap} {mg : Str → Option Value}
theorem fun_of {x : Str} {i : Nat} {f : Addr} {fd : FuncData} (F : FunD K x x (defArgs (top i)) (defBody (top i)) (defScope (top i)) [] [] f fd) : Fun K x x (top i) f fd := by
  obtain ⟨oc, od, dV, kV, doc, pm, an, cdv, ct, osl, e, lk, hcd, hd, _⟩ := F.ex
  rcases hd with ⟨_, rfl⟩ | ⟨ne, _⟩
  · exact ⟨⟨oc, od, kV, doc, pm, an, cdv, ct, osl, e, lk, hcd⟩, F.kp⟩
  · exact absurd rfl ne
theorem def_of (X : K.In h) (G : h.Ns mainGlobals mg) (c : He.SaysD faL fnL K) (i j : Nat) {x : Str} {ps : List Str} (hd : fnL[j]? = some (dOf x i)) (hf : faL[j]? = some (.glo x))
    (hb : ∀ (kV doc pm : Value) (an : Option Addr) (cdv ct : Value) (us : List Value), us.length = ps.length → bindArgs (PySem.W.fnOf x x (defArgs (top i)) (defBody (top i)) (defScope (top i)) .none kV doc pm an cdv ct) ⟨us, []⟩ = pure (ps.zip us)) :
    ∃ fd, Def K mg x i ps (He.ga K x) fd := by
  obtain ⟨fd, F⟩ := c.def_ j hd
  have F2 : Fun K x x (top i) (He.ga K x) fd := fun_of F
  exact ⟨fd, F2, F2.binds hb, He.glo_ok X G (c.fact j hf)⟩
theorem ktup_of {x : Str} {vs : List He.Dv} (h : He.tupB K x vs = true) : KTup K (He.ga K x) (vs.map (He.Dv.v K)) := by
  rcases He.tupB_ok h (fun _ => none) with (z | ⟨o, z⟩) | z
  · cases z
  · cases z
  · exact z
theorem gs_of (X : K.In h) (G : h.Ns mainGlobals mg) (c : He.SaysD faL fnL K) (t : tups3 K = true) : Gs K mg := by
  obtain ⟨t1, t2⟩ := He.ba t
  obtain ⟨t2, t3⟩ := He.ba t2
  exact ⟨He.int_ok X G (c.fact 42 rfl),
    He.str_ok X G (c.fact 49 rfl),
    He.str_ok X G (c.fact 50 rfl),
    He.str_ok X G (c.fact 51 rfl),
    He.str_ok X G (c.fact 52 rfl),
    ⟨He.ga K "ENDS", He.glo_ok X G (c.fact 55 rfl), by have := ktup_of t1; rw [List.map_map] at this; exact this⟩,
    ⟨He.ga K "STATES", He.glo_ok X G (c.fact 56 rfl), by have := ktup_of t2; rw [List.map_map] at this; exact this⟩,
    ⟨He.ga K "ATOM_WORDS", He.glo_ok X G (c.fact 57 rfl), by have := ktup_of t3; rw [List.map_map] at this; exact this⟩,
    He.int_ok X G (c.fact 43 rfl),
    He.int_ok X G (c.fact 44 rfl),
    He.int_ok X G (c.fact 45 rfl),
    He.int_ok X G (c.fact 46 rfl),
    He.int_ok X G (c.fact 47 rfl),
    He.str_ok X G (c.fact 53 rfl),
    He.str_ok X G (c.fact 54 rfl),
    He.int_ok X G (c.fact 48 rfl)⟩
theorem bs_of (X : K.In h) (G : h.Ns mainGlobals mg) (c : He.SaysD faL fnL K) : Bs mg :=
  ⟨He.free_ok X G (c.fact 58 rfl), He.free_ok X G (c.fact 59 rfl), He.free_ok X G (c.fact 60 rfl), He.free_ok X G (c.fact 61 rfl), He.free_ok X G (c.fact 62 rfl), He.free_ok X G (c.fact 63 rfl), He.free_ok X G (c.fact 64 rfl), He.free_ok X G (c.fact 65 rfl), He.free_ok X G (c.fact 66 rfl), He.free_ok X G (c.fact 67 rfl), He.free_ok X G (c.fact 68 rfl), He.free_ok X G (c.fact 69 rfl), He.free_ok X G (c.fact 70 rfl), He.free_ok X G (c.fact 71 rfl), He.free_ok X G (c.fact 72 rfl), He.free_ok X G (c.fact 73 rfl), He.free_ok X G (c.fact 74 rfl), He.free_ok X G (c.fact 75 rfl)⟩
theorem def2 (X : K.In h) (G : h.Ns mainGlobals mg) (c : He.SaysD faL fnL K) : ∃ fd, Def K mg "is_integer" 2 ["value"] (He.ga K "is_integer") fd :=
  def_of X G c 2 0 rfl rfl fun _ _ _ _ _ _ us hl => match us, hl with | [_], _ => rfl
theorem def3 (X : K.In h) (G : h.Ns mainGlobals mg) (c : He.SaysD faL fnL K) : ∃ fd, Def K mg "is_from" 3 ["value", "least", "most"] (He.ga K "is_from") fd :=
  def_of X G c 3 1 rfl rfl fun _ _ _ _ _ _ us hl => match us, hl with | [_, _, _], _ => rfl
theorem def4 (X : K.In h) (G : h.Ns mainGlobals mg) (c : He.SaysD faL fnL K) : ∃ fd, Def K mg "are_ascending" 4 ["items"] (He.ga K "are_ascending") fd :=
  def_of X G c 4 2 rfl rfl fun _ _ _ _ _ _ us hl => match us, hl with | [_], _ => rfl
theorem def17 (X : K.In h) (G : h.Ns mainGlobals mg) (c : He.SaysD faL fnL K) : ∃ fd, Def K mg "is_state" 17 ["value"] (He.ga K "is_state") fd :=
  def_of X G c 17 3 rfl rfl fun _ _ _ _ _ _ us hl => match us, hl with | [_], _ => rfl
theorem def18 (X : K.In h) (G : h.Ns mainGlobals mg) (c : He.SaysD faL fnL K) : ∃ fd, Def K mg "ends_behind" 18 ["state"] (He.ga K "ends_behind") fd :=
  def_of X G c 18 4 rfl rfl fun _ _ _ _ _ _ us hl => match us, hl with | [_], _ => rfl
theorem def19 (X : K.In h) (G : h.Ns mainGlobals mg) (c : He.SaysD faL fnL K) : ∃ fd, Def K mg "is_atom_true" 19 ["word", "state"] (He.ga K "is_atom_true") fd :=
  def_of X G c 19 5 rfl rfl fun _ _ _ _ _ _ us hl => match us, hl with | [_, _], _ => rfl
theorem def28 (X : K.In h) (G : h.Ns mainGlobals mg) (c : He.SaysD faL fnL K) : ∃ fd, Def K mg "is_job_number" 28 ["value"] (He.ga K "is_job_number") fd :=
  def_of X G c 28 6 rfl rfl fun _ _ _ _ _ _ us hl => match us, hl with | [_], _ => rfl
theorem def29 (X : K.In h) (G : h.Ns mainGlobals mg) (c : He.SaysD faL fnL K) : ∃ fd, Def K mg "after_nodes" 29 ["value", "depth"] (He.ga K "after_nodes") fd :=
  def_of X G c 29 7 rfl rfl fun _ _ _ _ _ _ us hl => match us, hl with | [_, _], _ => rfl
theorem def30 (X : K.In h) (G : h.Ns mainGlobals mg) (c : He.SaysD faL fnL K) : ∃ fd, Def K mg "atoms_in" 30 ["formula"] (He.ga K "atoms_in") fd :=
  def_of X G c 30 8 rfl rfl fun _ _ _ _ _ _ us hl => match us, hl with | [_], _ => rfl
theorem def31 (X : K.In h) (G : h.Ns mainGlobals mg) (c : He.SaysD faL fnL K) : ∃ fd, Def K mg "named_in" 31 ["formula"] (He.ga K "named_in") fd :=
  def_of X G c 31 9 rfl rfl fun _ _ _ _ _ _ us hl => match us, hl with | [_], _ => rfl
theorem def32 (X : K.In h) (G : h.Ns mainGlobals mg) (c : He.SaysD faL fnL K) : ∃ fd, Def K mg "is_after_formula" 32 ["value"] (He.ga K "is_after_formula") fd :=
  def_of X G c 32 10 rfl rfl fun _ _ _ _ _ _ us hl => match us, hl with | [_], _ => rfl
theorem def33 (X : K.In h) (G : h.Ns mainGlobals mg) (c : He.SaysD faL fnL K) : ∃ fd, Def K mg "is_known" 33 ["value"] (He.ga K "is_known") fd :=
  def_of X G c 33 11 rfl rfl fun _ _ _ _ _ _ us hl => match us, hl with | [_], _ => rfl
theorem def34 (X : K.In h) (G : h.Ns mainGlobals mg) (c : He.SaysD faL fnL K) : ∃ fd, Def K mg "is_read" 34 ["formula", "reading"] (He.ga K "is_read") fd :=
  def_of X G c 34 12 rfl rfl fun _ _ _ _ _ _ us hl => match us, hl with | [_, _], _ => rfl
theorem def35 (X : K.In h) (G : h.Ns mainGlobals mg) (c : He.SaysD faL fnL K) : ∃ fd, Def K mg "could_be" 35 ["word", "number", "known", "held", "chosen"] (He.ga K "could_be") fd :=
  def_of X G c 35 13 rfl rfl fun _ _ _ _ _ _ us hl => match us, hl with | [_, _, _, _, _], _ => rfl
theorem def36 (X : K.In h) (G : h.Ns mainGlobals mg) (c : He.SaysD faL fnL K) : ∃ fd, Def K mg "is_hopeful" 36 ["formula", "known", "held", "chosen"] (He.ga K "is_hopeful") fd :=
  def_of X G c 36 14 rfl rfl fun _ _ _ _ _ _ us hl => match us, hl with | [_, _, _, _], _ => rfl
theorem def37 (X : K.In h) (G : h.Ns mainGlobals mg) (c : He.SaysD faL fnL K) : ∃ fd, Def K mg "open_jobs" 37 ["formula", "known", "held", "chosen"] (He.ga K "open_jobs") fd :=
  def_of X G c 37 15 rfl rfl fun _ _ _ _ _ _ us hl => match us, hl with | [_, _, _, _], _ => rfl
theorem def38 (X : K.In h) (G : h.Ns mainGlobals mg) (c : He.SaysD faL fnL K) : ∃ fd, Def K mg "is_beaten" 38 ["row", "other"] (He.ga K "is_beaten") fd :=
  def_of X G c 38 16 rfl rfl fun _ _ _ _ _ _ us hl => match us, hl with | [_, _], _ => rfl
theorem def39 (X : K.In h) (G : h.Ns mainGlobals mg) (c : He.SaysD faL fnL K) : ∃ fd, Def K mg "best_ends" 39 ["formula", "number", "known"] (He.ga K "best_ends") fd :=
  def_of X G c 39 17 rfl rfl fun _ _ _ _ _ _ us hl => match us, hl with | [_, _, _], _ => rfl
theorem def40 (X : K.In h) (G : h.Ns mainGlobals mg) (c : He.SaysD faL fnL K) : ∃ fd, Def K mg "has_outcome" 40 ["formula", "known", "held", "chosen"] (He.ga K "has_outcome") fd :=
  def_of X G c 40 18 rfl rfl fun _ _ _ _ _ _ us hl => match us, hl with | [_, _, _, _], _ => rfl
theorem def43 (X : K.In h) (G : h.Ns mainGlobals mg) (c : He.SaysD faL fnL K) : ∃ fd, Def K mg "are_wishes" 43 ["value"] (He.ga K "are_wishes") fd :=
  def_of X G c 43 19 rfl rfl fun _ _ _ _ _ _ us hl => match us, hl with | [_], _ => rfl
theorem def44 (X : K.In h) (G : h.Ns mainGlobals mg) (c : He.SaysD faL fnL K) : ∃ fd, Def K mg "states_with" 44 ["wishes", "known"] (He.ga K "states_with") fd :=
  def_of X G c 44 20 rfl rfl fun _ _ _ _ _ _ us hl => match us, hl with | [_, _], _ => rfl
theorem def45 (X : K.In h) (G : h.Ns mainGlobals mg) (c : He.SaysD faL fnL K) : ∃ fd, Def K mg "still_stuck" 45 ["wishes", "states", "held"] (He.ga K "still_stuck") fd :=
  def_of X G c 45 21 rfl rfl fun _ _ _ _ _ _ us hl => match us, hl with | [_, _, _], _ => rfl
theorem def46 (X : K.In h) (G : h.Ns mainGlobals mg) (c : He.SaysD faL fnL K) : ∃ fd, Def K mg "stuck_set" 46 ["wishes", "known"] (He.ga K "stuck_set") fd :=
  def_of X G c 46 22 rfl rfl fun _ _ _ _ _ _ us hl => match us, hl with | [_, _], _ => rfl
theorem def47 (X : K.In h) (G : h.Ns mainGlobals mg) (c : He.SaysD faL fnL K) : ∃ fd, Def K mg "is_stuck_set" 47 ["wishes", "known", "value"] (He.ga K "is_stuck_set") fd :=
  def_of X G c 47 23 rfl rfl fun _ _ _ _ _ _ us hl => match us, hl with | [_, _, _], _ => rfl
theorem def49 (X : K.In h) (G : h.Ns mainGlobals mg) (c : He.SaysD faL fnL K) : ∃ fd, Def K mg "_law_dice" 49 ["_law_script", "_law_spot"] (He.ga K "_law_dice") fd :=
  def_of X G c 49 24 rfl rfl fun _ _ _ _ _ _ us hl => match us, hl with | [_, _], _ => rfl
theorem def50 (X : K.In h) (G : h.Ns mainGlobals mg) (c : He.SaysD faL fnL K) : ∃ fd, Def K mg "_law_roll" 50 ["_law_dice_here", "_law_total"] (He.ga K "_law_roll") fd :=
  def_of X G c 50 25 rfl rfl fun _ _ _ _ _ _ us hl => match us, hl with | [_, _], _ => rfl
theorem def51 (X : K.In h) (G : h.Ns mainGlobals mg) (c : He.SaysD faL fnL K) : ∃ fd, Def K mg "_law_pick" 51 ["_law_dice_here", "_law_items"] (He.ga K "_law_pick") fd :=
  def_of X G c 51 26 rfl rfl fun _ _ _ _ _ _ us hl => match us, hl with | [_, _], _ => rfl
theorem def52 (X : K.In h) (G : h.Ns mainGlobals mg) (c : He.SaysD faL fnL K) : ∃ fd, Def K mg "_law_all_states" 52 [] (He.ga K "_law_all_states") fd :=
  def_of X G c 52 27 rfl rfl fun _ _ _ _ _ _ us hl => match us, hl with | [], _ => rfl
theorem def53 (X : K.In h) (G : h.Ns mainGlobals mg) (c : He.SaysD faL fnL K) : ∃ fd, Def K mg "_law_ends_behind" 53 ["_law_state"] (He.ga K "_law_ends_behind") fd :=
  def_of X G c 53 28 rfl rfl fun _ _ _ _ _ _ us hl => match us, hl with | [_], _ => rfl
theorem def54 (X : K.In h) (G : h.Ns mainGlobals mg) (c : He.SaysD faL fnL K) : ∃ fd, Def K mg "_law_atom_holds" 54 ["_law_word", "_law_state"] (He.ga K "_law_atom_holds") fd :=
  def_of X G c 54 29 rfl rfl fun _ _ _ _ _ _ us hl => match us, hl with | [_, _], _ => rfl
theorem def55 (X : K.In h) (G : h.Ns mainGlobals mg) (c : He.SaysD faL fnL K) : ∃ fd, Def K mg "_law_after_holds" 55 ["_law_f", "_law_states"] (He.ga K "_law_after_holds") fd :=
  def_of X G c 55 30 rfl rfl fun _ _ _ _ _ _ us hl => match us, hl with | [_, _], _ => rfl
theorem def56 (X : K.In h) (G : h.Ns mainGlobals mg) (c : He.SaysD faL fnL K) : ∃ fd, Def K mg "_law_after_jobs" 56 ["_law_f"] (He.ga K "_law_after_jobs") fd :=
  def_of X G c 56 31 rfl rfl fun _ _ _ _ _ _ us hl => match us, hl with | [_], _ => rfl
theorem def57 (X : K.In h) (G : h.Ns mainGlobals mg) (c : He.SaysD faL fnL K) : ∃ fd, Def K mg "_law_after_atom" 57 ["_law_dice_here", "_law_jobs"] (He.ga K "_law_after_atom") fd :=
  def_of X G c 57 32 rfl rfl fun _ _ _ _ _ _ us hl => match us, hl with | [_, _], _ => rfl
theorem def58 (X : K.In h) (G : h.Ns mainGlobals mg) (c : He.SaysD faL fnL K) : ∃ fd, Def K mg "_law_after_drawn" 58 ["_law_dice_here", "_law_jobs", "_law_deep"] (He.ga K "_law_after_drawn") fd :=
  def_of X G c 58 33 rfl rfl fun _ _ _ _ _ _ us hl => match us, hl with | [_, _, _], _ => rfl
theorem def59 (X : K.In h) (G : h.Ns mainGlobals mg) (c : He.SaysD faL fnL K) : ∃ fd, Def K mg "_law_known_drawn" 59 ["_law_dice_here", "_law_jobs"] (He.ga K "_law_known_drawn") fd :=
  def_of X G c 59 34 rfl rfl fun _ _ _ _ _ _ us hl => match us, hl with | [_, _], _ => rfl
theorem def60 (X : K.In h) (G : h.Ns mainGlobals mg) (c : He.SaysD faL fnL K) : ∃ fd, Def K mg "_law_outcomes" 60 ["_law_known", "_law_held"] (He.ga K "_law_outcomes") fd :=
  def_of X G c 60 35 rfl rfl fun _ _ _ _ _ _ us hl => match us, hl with | [_, _], _ => rfl
theorem def61 (X : K.In h) (G : h.Ns mainGlobals mg) (c : He.SaysD faL fnL K) : ∃ fd, Def K mg "_law_comes" 61 ["_law_f", "_law_known", "_law_held"] (He.ga K "_law_comes") fd :=
  def_of X G c 61 36 rfl rfl fun _ _ _ _ _ _ us hl => match us, hl with | [_, _, _], _ => rfl
theorem def62 (X : K.In h) (G : h.Ns mainGlobals mg) (c : He.SaysD faL fnL K) : ∃ fd, Def K mg "_law_is_stuck" 62 ["_law_wishes", "_law_known", "_law_some"] (He.ga K "_law_is_stuck") fd :=
  def_of X G c 62 37 rfl rfl fun _ _ _ _ _ _ us hl => match us, hl with | [_, _, _], _ => rfl
theorem def63 (X : K.In h) (G : h.Ns mainGlobals mg) (c : He.SaysD faL fnL K) : ∃ fd, Def K mg "_law_steps" 63 ["_law_wishes", "_law_states", "_law_barred"] (He.ga K "_law_steps") fd :=
  def_of X G c 63 38 rfl rfl fun _ _ _ _ _ _ us hl => match us, hl with | [_, _, _], _ => rfl
theorem def64 (X : K.In h) (G : h.Ns mainGlobals mg) (c : He.SaysD faL fnL K) : ∃ fd, Def K mg "_law_never_begins" 64 ["_law_wishes", "_law_known", "_law_some"] (He.ga K "_law_never_begins") fd :=
  def_of X G c 64 39 rfl rfl fun _ _ _ _ _ _ us hl => match us, hl with | [_, _, _], _ => rfl
theorem def65 (X : K.In h) (G : h.Ns mainGlobals mg) (c : He.SaysD faL fnL K) : ∃ fd, Def K mg "_law_right" 65 ["_law_dice_here", "_law_many"] (He.ga K "_law_right") fd :=
  def_of X G c 65 40 rfl rfl fun _ _ _ _ _ _ us hl => match us, hl with | [_, _], _ => rfl
theorem def66 (X : K.In h) (G : h.Ns mainGlobals mg) (c : He.SaysD faL fnL K) : ∃ fd, Def K mg "law" 66 ["_law_script"] (He.ga K "law") fd :=
  def_of X G c 66 41 rfl rfl fun _ _ _ _ _ _ us hl => match us, hl with | [_], _ => rfl
end
section
variable {K : PySem.W.Frag} {mg : Str → Option Value}
/-- all defs of the top -/
structure Ds (K : PySem.W.Frag) (mg : Str → Option Value) : Prop where
  d2 : ∃ fd, Def K mg "is_integer" 2 ["value"] (He.ga K "is_integer") fd
  d3 : ∃ fd, Def K mg "is_from" 3 ["value", "least", "most"] (He.ga K "is_from") fd
  d4 : ∃ fd, Def K mg "are_ascending" 4 ["items"] (He.ga K "are_ascending") fd
  d17 : ∃ fd, Def K mg "is_state" 17 ["value"] (He.ga K "is_state") fd
  d18 : ∃ fd, Def K mg "ends_behind" 18 ["state"] (He.ga K "ends_behind") fd
  d19 : ∃ fd, Def K mg "is_atom_true" 19 ["word", "state"] (He.ga K "is_atom_true") fd
  d28 : ∃ fd, Def K mg "is_job_number" 28 ["value"] (He.ga K "is_job_number") fd
  d29 : ∃ fd, Def K mg "after_nodes" 29 ["value", "depth"] (He.ga K "after_nodes") fd
  d30 : ∃ fd, Def K mg "atoms_in" 30 ["formula"] (He.ga K "atoms_in") fd
  d31 : ∃ fd, Def K mg "named_in" 31 ["formula"] (He.ga K "named_in") fd
  d32 : ∃ fd, Def K mg "is_after_formula" 32 ["value"] (He.ga K "is_after_formula") fd
  d33 : ∃ fd, Def K mg "is_known" 33 ["value"] (He.ga K "is_known") fd
  d34 : ∃ fd, Def K mg "is_read" 34 ["formula", "reading"] (He.ga K "is_read") fd
  d35 : ∃ fd, Def K mg "could_be" 35 ["word", "number", "known", "held", "chosen"] (He.ga K "could_be") fd
  d36 : ∃ fd, Def K mg "is_hopeful" 36 ["formula", "known", "held", "chosen"] (He.ga K "is_hopeful") fd
  d37 : ∃ fd, Def K mg "open_jobs" 37 ["formula", "known", "held", "chosen"] (He.ga K "open_jobs") fd
  d38 : ∃ fd, Def K mg "is_beaten" 38 ["row", "other"] (He.ga K "is_beaten") fd
  d39 : ∃ fd, Def K mg "best_ends" 39 ["formula", "number", "known"] (He.ga K "best_ends") fd
  d40 : ∃ fd, Def K mg "has_outcome" 40 ["formula", "known", "held", "chosen"] (He.ga K "has_outcome") fd
  d43 : ∃ fd, Def K mg "are_wishes" 43 ["value"] (He.ga K "are_wishes") fd
  d44 : ∃ fd, Def K mg "states_with" 44 ["wishes", "known"] (He.ga K "states_with") fd
  d45 : ∃ fd, Def K mg "still_stuck" 45 ["wishes", "states", "held"] (He.ga K "still_stuck") fd
  d46 : ∃ fd, Def K mg "stuck_set" 46 ["wishes", "known"] (He.ga K "stuck_set") fd
  d47 : ∃ fd, Def K mg "is_stuck_set" 47 ["wishes", "known", "value"] (He.ga K "is_stuck_set") fd
  d49 : ∃ fd, Def K mg "_law_dice" 49 ["_law_script", "_law_spot"] (He.ga K "_law_dice") fd
  d50 : ∃ fd, Def K mg "_law_roll" 50 ["_law_dice_here", "_law_total"] (He.ga K "_law_roll") fd
  d51 : ∃ fd, Def K mg "_law_pick" 51 ["_law_dice_here", "_law_items"] (He.ga K "_law_pick") fd
  d52 : ∃ fd, Def K mg "_law_all_states" 52 [] (He.ga K "_law_all_states") fd
  d53 : ∃ fd, Def K mg "_law_ends_behind" 53 ["_law_state"] (He.ga K "_law_ends_behind") fd
  d54 : ∃ fd, Def K mg "_law_atom_holds" 54 ["_law_word", "_law_state"] (He.ga K "_law_atom_holds") fd
  d55 : ∃ fd, Def K mg "_law_after_holds" 55 ["_law_f", "_law_states"] (He.ga K "_law_after_holds") fd
  d56 : ∃ fd, Def K mg "_law_after_jobs" 56 ["_law_f"] (He.ga K "_law_after_jobs") fd
  d57 : ∃ fd, Def K mg "_law_after_atom" 57 ["_law_dice_here", "_law_jobs"] (He.ga K "_law_after_atom") fd
  d58 : ∃ fd, Def K mg "_law_after_drawn" 58 ["_law_dice_here", "_law_jobs", "_law_deep"] (He.ga K "_law_after_drawn") fd
  d59 : ∃ fd, Def K mg "_law_known_drawn" 59 ["_law_dice_here", "_law_jobs"] (He.ga K "_law_known_drawn") fd
  d60 : ∃ fd, Def K mg "_law_outcomes" 60 ["_law_known", "_law_held"] (He.ga K "_law_outcomes") fd
  d61 : ∃ fd, Def K mg "_law_comes" 61 ["_law_f", "_law_known", "_law_held"] (He.ga K "_law_comes") fd
  d62 : ∃ fd, Def K mg "_law_is_stuck" 62 ["_law_wishes", "_law_known", "_law_some"] (He.ga K "_law_is_stuck") fd
  d63 : ∃ fd, Def K mg "_law_steps" 63 ["_law_wishes", "_law_states", "_law_barred"] (He.ga K "_law_steps") fd
  d64 : ∃ fd, Def K mg "_law_never_begins" 64 ["_law_wishes", "_law_known", "_law_some"] (He.ga K "_law_never_begins") fd
  d65 : ∃ fd, Def K mg "_law_right" 65 ["_law_dice_here", "_law_many"] (He.ga K "_law_right") fd
  d66 : ∃ fd, Def K mg "law" 66 ["_law_script"] (He.ga K "law") fd
theorem ds_of {h : Heap} (X : K.In h) (G : h.Ns mainGlobals mg) (c : He.SaysD faL fnL K) : Ds K mg :=
  ⟨def2 X G c, def3 X G c, def4 X G c, def17 X G c, def18 X G c, def19 X G c, def28 X G c, def29 X G c, def30 X G c, def31 X G c, def32 X G c, def33 X G c, def34 X G c, def35 X G c, def36 X G c, def37 X G c, def38 X G c, def39 X G c, def40 X G c, def43 X G c, def44 X G c, def45 X G c, def46 X G c, def47 X G c, def49 X G c, def50 X G c, def51 X G c, def52 X G c, def53 X G c, def54 X G c, def55 X G c, def56 X G c, def57 X G c, def58 X G c, def59 X G c, def60 X G c, def61 X G c, def62 X G c, def63 X G c, def64 X G c, def65 X G c, def66 X G c⟩
theorem code_of {fd : FuncData} (D : Def K mg "is_hopeful" 36 ["formula", "known", "held", "chosen"] (He.ga K "is_hopeful") fd) : fd.code = .ref (cOf K) := by
  obtain ⟨oc, od, kV, doc, pm, an, cdv, ct, osl, e, lk, hcd⟩ := D.F.ex
  have hc : fd.code = cdv := by rw [e]
  unfold cOf
  rw [lk]
  show fd.code = .ref (match fd.code with | .ref c => c | _ => 0)
  rw [hc]
  cases cdv with
  | ref c => rfl
  | _ => cases hcd
end
theorem law_ok {P : Program} {w : World} {K : PySem.W.Frag} {mg : Str → Option Value} {base : Heap} (S : Ds K mg) (G : Gs K mg) (T : Bs mg) (TB : TabB base mg (cOf K) (pOf K)) :
    ∃ fd, Def K mg "law" 66 ["_law_script"] (He.ga K "law") fd ∧ FnOkG P w K mg base 14 (He.ga K "law") fd ["_law_script"] (spLaw K (pOf K)) := by
  obtain ⟨f2, D2⟩ := S.d2
  obtain ⟨f3, D3⟩ := S.d3
  obtain ⟨f4, D4⟩ := S.d4
  obtain ⟨f17, D17⟩ := S.d17
  obtain ⟨f18, D18⟩ := S.d18
  obtain ⟨f19, D19⟩ := S.d19
  obtain ⟨f28, D28⟩ := S.d28
  obtain ⟨f29, D29⟩ := S.d29
  obtain ⟨f30, D30⟩ := S.d30
  obtain ⟨f31, D31⟩ := S.d31
  obtain ⟨f32, D32⟩ := S.d32
  obtain ⟨f33, D33⟩ := S.d33
  obtain ⟨f34, D34⟩ := S.d34
  obtain ⟨f35, D35⟩ := S.d35
  obtain ⟨f36, D36⟩ := S.d36
  obtain ⟨f37, D37⟩ := S.d37
  obtain ⟨f38, D38⟩ := S.d38
  obtain ⟨f39, D39⟩ := S.d39
  obtain ⟨f40, D40⟩ := S.d40
  obtain ⟨f43, D43⟩ := S.d43
  obtain ⟨f44, D44⟩ := S.d44
  obtain ⟨f45, D45⟩ := S.d45
  obtain ⟨f46, D46⟩ := S.d46
  obtain ⟨f47, D47⟩ := S.d47
  obtain ⟨f49, D49⟩ := S.d49
  obtain ⟨f50, D50⟩ := S.d50
  obtain ⟨f51, D51⟩ := S.d51
  obtain ⟨f52, D52⟩ := S.d52
  obtain ⟨f53, D53⟩ := S.d53
  obtain ⟨f54, D54⟩ := S.d54
  obtain ⟨f55, D55⟩ := S.d55
  obtain ⟨f56, D56⟩ := S.d56
  obtain ⟨f57, D57⟩ := S.d57
  obtain ⟨f58, D58⟩ := S.d58
  obtain ⟨f59, D59⟩ := S.d59
  obtain ⟨f60, D60⟩ := S.d60
  obtain ⟨f61, D61⟩ := S.d61
  obtain ⟨f62, D62⟩ := S.d62
  obtain ⟨f63, D63⟩ := S.d63
  obtain ⟨f64, D64⟩ := S.d64
  obtain ⟨f65, D65⟩ := S.d65
  obtain ⟨f66, D66⟩ := S.d66
  have O2 := (ok_is_integer D2 G T : FnOk P w K mg base CX0 _ _ _ _ _)
  have O3 := (ok_is_from D3 D2 O2 : FnOk P w K mg base CX0 _ _ _ _ _)
  have O28 := (ok_is_job_number D28 G D3 O3 : FnOk P w K mg base CX0 _ _ _ _ _)
  have O17 := (ok_is_state D17 G T : FnOk P w K mg base CX0 _ _ _ _ _)
  have O18 := (ok_ends_behind D18 G : FnOk P w K mg base CX0 _ _ _ _ _)
  have O19 := (ok_is_atom_true D19 G : FnOk P w K mg base CX0 _ _ _ _ _)
  have O4 := (ok_are_ascending D4 T : FnOk P w K mg base CX0 _ _ _ _ _)
  have O29 := (ok_nodes2 D29 G T D28 O28 : FnOk P w K mg base CX0 _ _ _ _ _)
  have O30 := (ok_atoms_in (n := 1) D30 G (ok_atoms_in (n := 0) D30 G (ok_none fun vs H Q E h => by
    obtain ⟨v, f, _, _, _, h, _⟩ := h
    have := depthF_pos f
    omega)) : FnOk P w K mg base CX0 _ _ _ _ _)
  have O31 := (ok_named_in D31 T D30 O30 : FnOk P w K mg base CX0 _ _ _ _ _)
  have O32 := (ok_is_after_formula D32 G T D29 O29 D31 O31 : FnOk P w K mg base CX0 _ _ _ _ _)
  have O33 := (ok_is_known D33 T D28 O28 D17 O17 : FnOk P w K mg base CX0 _ _ _ _ _)
  have O35 := (ok_could_be D35 T D19 O19 D18 O18 : FnOk P w K mg base CX0 _ _ _ _ _)
  have O38 := (ok_is_beaten D38 T : FnOk P w K mg base CX0 _ _ _ _ _)
  have O37 := (ok_open_jobs D37 T D31 O31 D18 O18 : FnOk P w K mg base CX0 _ _ _ _ _)
  have O39 := (ok_best_ends D39 T D30 O30 D18 O18 D19 O19 D38 O38 : FnOk P w K mg base CX0 _ _ _ _ _)
  have O34 := (ok_read2 D34 G T D35 O35 : FnOk P w K mg base CX0 _ _ _ _ _)
  have O36 := (ok_is_hopeful D36 (code_of D36) TB D34 O34 : FnOk P w K mg base CX0 _ _ _ _ _)
  have O40 := (ok_has_outcome (n := 3) D40 T D36 O36 D37 O37 D39 O39 (ok_has_outcome (n := 2) D40 T D36 O36 D37 O37 D39 O39 (ok_has_outcome (n := 1) D40 T D36 O36 D37 O37 D39 O39 (ok_has_outcome (n := 0) D40 T D36 O36 D37 O37 D39 O39 (ok_none fun vs H Q E h => by
    obtain ⟨_, _, _, _, _, _, _, _, _, _, _, _, _, _, _, _, _, h, _⟩ := h
    omega)))) : FnOk P w K mg base CX0 _ _ _ _ _)
  have O43 := (ok_are_wishes D43 G T D28 O28 D32 O32 : FnOk P w K mg base CX0 _ _ _ _ _)
  have O44 := (ok_states_with D44 G T D43 O43 D33 O33 D31 O31 : FnOk P w K mg base CX0 _ _ _ _ _)
  have O45 := (ok_still_stuck D45 T D40 O40 : FnOk P w K mg base CX0 _ _ _ _ _)
  have O46 := (ok_stuck_set D46 T D44 O44 D45 O45 : FnOk P w K mg base CX0 _ _ _ _ _)
  have O47 := (ok_is_stuck_set D47 T D44 O44 D45 O45 D28 O28 D4 O4 : FnOk P w K mg base CX0 _ _ _ _ _)
  have O49 := (ok_dice D49 T : FnOk P w K mg base CX0 _ _ _ _ _)
  have O50 := (ok_roll D50 T : FnOk P w K mg base CX0 _ _ _ _ _)
  have O51 := (ok_pick D51 T D50 O50 : FnOk P w K mg base CX0 _ _ _ _ _)
  have O52 := (ok_all_states D52 : FnOk P w K mg base CX0 _ _ _ _ _)
  have O53 := (ok_law_ends D53 : FnOk P w K mg base CX0 _ _ _ _ _)
  have O54 := (ok_atom_holds D54 : FnOk P w K mg base CX0 _ _ _ _ _)
  have O55 := (ok_holds2 D55 T D54 O54 : FnOk P w K mg base CX0 _ _ _ _ _)
  have O56 := (ok_jobs2 D56 T : FnOk P w K mg base CX0 _ _ _ _ _)
  have O57 := (ok_after_atom D57 D51 O51 : FnOk P w K mg base CX0 _ _ _ _ _)
  have O58 := (ok_drawn2 D58 T D50 O50 D51 O51 D57 O57 : FnOk P w K mg base CX0 _ _ _ _ _)
  have O59 := (ok_known_drawn D59 T D51 O51 D52 O52 : FnOk P w K mg base CX0 _ _ _ _ _)
  have O60 := (ok_outcomes D60 T D53 O53 : FnOk P w K mg base CX0 _ _ _ _ _)
  have O61 := (ok_comes D61 D60 O60 D55 O55 : FnOk P w K mg base CX0 _ _ _ _ _)
  have O62 := (ok_law_is_stuck D62 T D56 O56 D61 O61 : FnOk P w K mg base CX0 _ _ _ _ _)
  have O63 := (ok_steps D63 T D55 O55 : FnOk P w K mg base CX0 _ _ _ _ _)
  have O64 := (ok_never D64 T D63 O63 : FnOkG P w K mg base _ _ _ _ _)
  have O65 := (ok_right D65 T ⟨⟨_, _, D50, O50⟩, ⟨_, _, D51, O51⟩, ⟨_, _, D58, O58⟩, ⟨_, _, D59, O59⟩, ⟨_, _, D62, O62⟩, ⟨_, _, D64, O64⟩, ⟨_, _, D46, O46⟩, ⟨_, _, D47, O47⟩⟩ : FnOkG P w K mg base _ _ _ _ _)
  exact ⟨f66, D66, ok_law D66 T D49 O49 D50 O50 D65 O65 D46 O46⟩
abbrev lawL : PySem.W.OpenLaw := PySem.Challenge.rw_toldstarts_k34_whole_stuck_sets
theorem walkL {q : Program} {loose : List Str} {XP : (Str → Option Value) → Heap → Prop} {d : PySem.DefRec} (hdf : d.params.defaults = []) (hname : d.name = "law") :
    PySem.W.WalkO q loose XP hkL.says lawL.row.toRowW d [] (fun f vs => PySem.call f vs) := by
  refine Att.attach_callB (n := 63) rfl hdf fun w s₀ s₁ mg mb fa o pm cd doc a vs ns G Y ho hd hcd hmg hobj hints hlen hbits hg => ?_
  obtain ⟨K, KX, c, m⟩ := Y
  obtain ⟨m1, m2⟩ := He.ba m
  obtain ⟨m2, m3⟩ := He.ba m2
  obtain ⟨m3, m4⟩ := He.ba m3
  have S := ds_of KX G.T.g c
  rw [hname] at hmg
  have ef : fa = He.ga K "law" := by
    obtain ⟨_, D⟩ := S.d66
    have := hmg.symm.trans D.m
    cases this
    rfl
  subst ef
  have GG := gs_of KX G.T.g c m1
  have TT := bs_of KX G.T.g c
  obtain ⟨fd, D⟩ := S.d66
  refine call_endG (x := "_law_script") (c := cOf K) (p := pOf K) (k := 14) (fd := fd) (sp := spLaw K (pOf K)) KX G.T.g G.T.b G.T.builtins G.T.nolimit hg (isTab_ok m4) (Option.isNone_iff_eq_none.mp m3) (PySem.W.codeHd_of_K KX m2) G.T.bmain hobj hints (Nat.le_trans hlen (by decide)) ⟨rfl, by decide, by decide⟩ (fun base Kb Nb TB => ?_) (fun s u => ?_) (fun H hp hS => ?_)
  · obtain ⟨fd2, D2, O⟩ := law_ok (P := lawL.prog) (w := w) (base := base) S GG TT TB
    have e : fd2 = fd := by
      obtain ⟨oc, od, kV, doc, pm, an, cdv, ct, osl, e, lk, hcd⟩ := D.F.ex
      obtain ⟨oc2, od2, kV2, doc2, pm2, an2, cdv2, ct2, osl2, e2, lk2, hcd2⟩ := D2.F.ex
      rw [lk] at lk2
      cases lk2
      rfl
    rw [← e]
    exact O
  · obtain ⟨oc, od, kV, doc, pm, an, cdv, ct, osl, rfl, lk, hcd⟩ := D.F.ex
    exact .of_eq rfl
  · exact ⟨a, ns, rfl, hS, hlen, TabS.nil hp, fun _ => rfl⟩
end Ts

set_option Elab.async false
set_option linter.all false
set_option maxRecDepth 100000
set_option maxHeartbeats 0
open PySem PySem.W PySem.Calls PyProof.Rows
theorem PySem.Challenge.cw_toldstarts_k34_whole_stuck_sets_holds : PySem.Challenge.rw_toldstarts_k34_whole_stuck_sets.Holds := by
  w_on; o_law
  refine HandSHeadRun.head_any (r := OpenLaw.row PySem.Challenge.rw_toldstarts_k34_whole_stuck_sets) (q := view (OpenLaw.row PySem.Challenge.rw_toldstarts_k34_whole_stuck_sets).prog [66]) (H := Ts.hkL) (ob := Ts.obL) (M := 4000) (loose := Ts.namesL) (d := HandSHeadRun.topDef (OpenLaw.row PySem.Challenge.rw_toldstarts_k34_whole_stuck_sets).prog 66) (kwd := []) Ts.obL_eq
    (by kernel_rfl) (fun s => by kernel_rfl) Ts.runL (by kernel_rfl) (by kernel_rfl) (by kernel_rfl) (by rfl) (by first | assumption | decide +kernel) (by decide +kernel) ⟨rfl, rfl, rfl, rfl, rfl, by decide +kernel⟩ ?hw ?hc
  case hw => w_witness2
  case hc => exact Ts.walkL (by kernel_rfl) (by kernel_rfl)

