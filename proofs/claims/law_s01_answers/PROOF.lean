import PyProof.Rows.All
import Wide.All
import OpenK.AllK
import Wide.FinOn
import Open.SpecLaws
import KE.OsGo
import HandS.ForSpec
import HandS.Comp
import PySem.Challenge.RW_halfclock_s01_answers
set_option Elab.async false
set_option maxRecDepth 100000
set_option maxHeartbeats 4000000
/-! The mathematics: the calls as a list, the mirror of the program over the specification's own record, and that both answer alike. -/
namespace Clk
open Kmt2 (Clock Call)

/-- a call as it is handed over -/
def rowOf : Call → List Int
  | .start h e => [0, (h : Int), (e : Int)]
  | .kick => [1]
  | .tick n => [2, (n : Int)]
  | .halt_ w => [3, (w : Int)]
  | .whistle => [4]
  | .left => [5]
  | .minute => [6]
/-- how many numbers stand behind a call's own -/
def moreOf : Call → Nat
  | .start _ _ => 2
  | .tick _ => 1
  | .halt_ _ => 1
  | _ => 0
def placeOf : Call → Nat
  | .start _ _ => 0
  | .kick => 1
  | .tick _ => 2
  | .halt_ _ => 3
  | .whistle => 4
  | .left => 5
  | .minute => 6
theorem row_len (c : Call) : (rowOf c).length = 1 + moreOf c := by cases c <;> rfl

/-! what a call but start does to the program's own record, and its answer -/
def dKick (m : Clock) : Clock × List Int := if m.runs = true then (m, [-16]) else if Kmt2.most m ≤ m.played then (m, [-11]) else
  ({ m with runs := true, gone := 0, stood := 0, stands := false }, [(m.played : Int) + 1])
def dTick (m : Clock) (n : Nat) : Clock × List Int := if n < 1 ∨ 3600 < n then (m, [-22]) else if m.runs = false then (m, [0]) else if 1000000 < m.gone + n then (m, [-28]) else
  ({ m with gone := m.gone + n, stood := if m.stands = true then m.stood + n else m.stood }, [((m.gone + n : Nat) : Int)])
def dStop (m : Clock) (w : Nat) : Clock × List Int := if 1 < w then (m, [-22]) else if m.runs = false then (m, [-11]) else if m.stands = (w == 1) then (m, [-16]) else
  ({ m with stands := w == 1 }, [0])
def dWhistle (m : Clock) : Clock × List Int := if m.runs = false then (m, [-11]) else if m.gone < Kmt2.length m m.played + m.stood then (m, [-35]) else
  ({ m with runs := false, played := m.played + 1 }, [((m.played + 1 : Nat) : Int)])
def dLeft (m : Clock) : Clock × List Int := if m.runs = false then (m, [-11]) else
  (m, [if Kmt2.length m m.played + m.stood ≤ m.gone then 1 else 0, ((Kmt2.length m m.played + m.stood : Nat) : Int) - (m.gone : Int)])
def dMinute (m : Clock) : Clock × List Int := if m.runs = false then (m, [-11]) else (m, [0, ((Kmt2.minute m).1 : Int), ((Kmt2.minute m).2 : Int)])
def deed (m : Clock) : Call → Clock × List Int
  | .start _ _ => (m, [])
  | .kick => dKick m
  | .tick n => dTick m n
  | .halt_ w => dStop m w
  | .whistle => dWhistle m
  | .left => dLeft m
  | .minute => dMinute m
/-- one turn of the program's loop -/
def turn (s : Option Clock) : Call → Option Clock × List Int
  | .start h e => if Kmt2.okTimes h e = true then (some (Kmt2.begun h e), [0]) else (s, [-22])
  | c => match s with
    | none => (none, [])
    | some m => (some (deed m c).1, (deed m c).2)
def go : Option Clock → List Call → List Int
  | _, [] => []
  | s, c :: r => (((turn s c).2.length : Nat) : Int) :: ((turn s c).2 ++ go (turn s c).1 r)
def okRun : Option Clock → List Call → Prop
  | _, [] => True
  | s, c :: r => (turn s c).2 ≠ [] ∧ okRun (turn s c).1 r

/-- the program keeps the last numbers of a period that is over; the specification forgets them -/
def norm (m : Clock) : Clock := if m.runs = true then m else { m with gone := 0, stood := 0, stands := false }
theorem norm_on {m : Clock} (h : m.runs = true) : norm m = m := if_pos h
theorem norm_off {m : Clock} (h : m.runs = false) : norm m = { m with gone := 0, stood := 0, stands := false } := if_neg (by rw [h]; decide)
theorem norm_begun (h e : Nat) : norm (Kmt2.begun h e) = Kmt2.begun h e := rfl

theorem acts_deed (m : Clock) (c : Call) (hc : moreOf c ≠ 2) : ∃ a, Kmt2.acts (some (norm m)) c = some (some (norm (deed m c).1), a) ∧ a.value :: a.out = (deed m c).2 := by
  obtain ⟨half, extra, played, runs, gone, stood, stands⟩ := m
  cases c with
  | start h e => exact absurd rfl hc
  | kick =>
    cases runs with
    | true => exact ⟨_, rfl, rfl⟩
    | false =>
      simp only [Kmt2.acts, deed, dKick, norm, Option.map_some, Bool.false_eq_true, if_false]
      by_cases q : Kmt2.most ⟨half, extra, played, false, gone, stood, stands⟩ ≤ played
      · have q' : Kmt2.most ⟨half, extra, played, false, 0, 0, false⟩ ≤ played := q
        rw [if_pos q, if_pos q']
        exact ⟨_, rfl, rfl⟩
      · have q' : ¬ Kmt2.most ⟨half, extra, played, false, 0, 0, false⟩ ≤ played := q
        rw [if_neg q, if_neg q']
        exact ⟨_, rfl, rfl⟩
  | tick n =>
    simp only [Kmt2.acts, deed, dTick, Option.map_some]
    by_cases h : n < 1 ∨ 3600 < n
    · rw [if_pos h, if_pos h]; exact ⟨_, rfl, rfl⟩
    · rw [if_neg h, if_neg h]
      cases runs with
      | false => exact ⟨_, rfl, rfl⟩
      | true =>
        simp only [norm, if_true, Bool.true_eq_false, if_false]
        split
        · exact ⟨_, rfl, rfl⟩
        · exact ⟨_, rfl, rfl⟩
  | halt_ w =>
    simp only [Kmt2.acts, deed, dStop, Option.map_some]
    by_cases h : 1 < w
    · rw [if_pos h, if_pos h]; exact ⟨_, rfl, rfl⟩
    · rw [if_neg h, if_neg h]
      cases runs with
      | false => exact ⟨_, rfl, rfl⟩
      | true =>
        simp only [norm, if_true, Bool.true_eq_false, if_false]
        split
        · exact ⟨_, rfl, rfl⟩
        · exact ⟨_, rfl, rfl⟩
  | whistle =>
    cases runs with
    | false => exact ⟨_, rfl, rfl⟩
    | true =>
      simp only [Kmt2.acts, deed, dWhistle, Option.map_some, norm, if_true, Bool.true_eq_false, if_false, Kmt2.mayEnd, decide_eq_false_iff_not, Nat.not_le]
      split
      · exact ⟨_, rfl, rfl⟩
      · exact ⟨_, rfl, rfl⟩
  | left =>
    cases runs with
    | false => exact ⟨_, rfl, rfl⟩
    | true =>
      simp only [Kmt2.acts, deed, dLeft, Option.map_some, norm, if_true, Bool.true_eq_false, if_false, Kmt2.mayEnd, decide_eq_true_eq]
      exact ⟨_, rfl, rfl⟩
  | minute =>
    cases runs with
    | false => exact ⟨_, rfl, rfl⟩
    | true => exact ⟨_, rfl, rfl⟩

theorem callOf_row (c : Call) : Kmt2Neutral.callOf [rowOf c] = some c := by
  cases c <;> simp [rowOf, Kmt2Neutral.callOf]
theorem step_turn (s : Option Clock) (c : Call) : Kmt2Neutral.step (s.map norm) [rowOf c] = ((turn s c).1.map norm, (turn s c).2) := by
  unfold Kmt2Neutral.step
  rw [callOf_row]
  show (match Kmt2.acts (s.map norm) c with | none => (s.map norm, []) | some (t, a) => (t, a.value :: a.out)) = _
  cases c with
  | start h e =>
    simp only [Kmt2.acts, turn]
    by_cases q : Kmt2.okTimes h e = true
    · rw [if_pos q, if_pos q]; rfl
    · rw [if_neg q, if_neg q]; rfl
  | kick =>
    cases s with
    | none => rfl
    | some m =>
      obtain ⟨a, e1, e2⟩ := acts_deed m .kick (by decide)
      show (match Kmt2.acts (some (norm m)) .kick with | none => (some (norm m), []) | some (t, a) => (t, a.value :: a.out)) = (some (norm (deed m .kick).1), (deed m .kick).2)
      rw [e1, ← e2]
  | tick n =>
    cases s with
    | none => rfl
    | some m =>
      obtain ⟨a, e1, e2⟩ := acts_deed m (.tick n) (show (1 : Nat) ≠ 2 by decide)
      show (match Kmt2.acts (some (norm m)) (.tick n) with | none => (some (norm m), []) | some (t, a) => (t, a.value :: a.out)) = (some (norm (deed m (.tick n)).1), (deed m (.tick n)).2)
      rw [e1, ← e2]
  | halt_ w =>
    cases s with
    | none => rfl
    | some m =>
      obtain ⟨a, e1, e2⟩ := acts_deed m (.halt_ w) (show (1 : Nat) ≠ 2 by decide)
      show (match Kmt2.acts (some (norm m)) (.halt_ w) with | none => (some (norm m), []) | some (t, a) => (t, a.value :: a.out)) = (some (norm (deed m (.halt_ w)).1), (deed m (.halt_ w)).2)
      rw [e1, ← e2]
  | whistle =>
    cases s with
    | none => rfl
    | some m =>
      obtain ⟨a, e1, e2⟩ := acts_deed m .whistle (by decide)
      show (match Kmt2.acts (some (norm m)) .whistle with | none => (some (norm m), []) | some (t, a) => (t, a.value :: a.out)) = (some (norm (deed m .whistle).1), (deed m .whistle).2)
      rw [e1, ← e2]
  | left =>
    cases s with
    | none => rfl
    | some m =>
      obtain ⟨a, e1, e2⟩ := acts_deed m .left (by decide)
      show (match Kmt2.acts (some (norm m)) .left with | none => (some (norm m), []) | some (t, a) => (t, a.value :: a.out)) = (some (norm (deed m .left).1), (deed m .left).2)
      rw [e1, ← e2]
  | minute =>
    cases s with
    | none => rfl
    | some m =>
      obtain ⟨a, e1, e2⟩ := acts_deed m .minute (by decide)
      show (match Kmt2.acts (some (norm m)) .minute with | none => (some (norm m), []) | some (t, a) => (t, a.value :: a.out)) = (some (norm (deed m .minute).1), (deed m .minute).2)
      rw [e1, ← e2]
theorem told_go : ∀ (cs : List Call) (s : Option Clock), PyFlat.told (PyFlat.played Kmt2Neutral.step (s.map norm) (cs.map fun c => [rowOf c])) = go s cs
  | [], _ => rfl
  | c :: r, s => by
    have ih := told_go r (turn s c).1
    rw [List.map_cons, PyFlat.played, step_turn]
    show PyFlat.told ((turn s c).2 :: PyFlat.played Kmt2Neutral.step ((turn s c).1.map norm) (r.map fun c => [rowOf c])) = _
    unfold PyFlat.told at ih ⊢
    rw [List.flatMap_cons, ih]
    rfl
theorem may_ok : ∀ (cs : List Call) (s : Option Clock), Kmt2Neutral.may (s.map norm) (cs.map fun c => [rowOf c]) = true → okRun s cs
  | [], _, _ => trivial
  | c :: r, s, h => by
    rw [List.map_cons, Kmt2Neutral.may, step_turn, Bool.and_eq_true] at h
    refine ⟨fun e => ?_, may_ok r _ h.2⟩
    have h1 := h.1
    simp only [e] at h1
    exact absurd h1 (by decide)
theorem whole_row (c : Call) : PyKmt2.whole [rowOf c] = [rowOf c] := by
  cases c <;> rfl

/-! ## the flat list is read as calls -/
theorem one_call {p : Int} {r : List Int} (hn : ∀ x ∈ p :: r, (0 : Int) ≤ x) {c : List (List Int)} {t : List Int} (h : PyFlat.call PyKmt2.shape (p :: r) = some (c, t)) :
    ∃ d : Call, c = [rowOf d] ∧ p :: r = rowOf d ++ t := by
  have nn : ∀ x ∈ r, ((x.toNat : Nat) : Int) = x := fun x hx => Int.toNat_of_nonneg (hn x (List.mem_cons_of_mem _ hx))
  unfold PyFlat.call PyKmt2.shape at h
  by_cases h0 : p = 0
  · subst h0
    simp only [if_true] at h
    match r, h, nn with
    | [], h, _ => simp at h
    | [_], h, _ => simp at h
    | x :: y :: r, h, nn =>
      simp only [List.length_cons, List.drop, List.take, PyFlat.rows, show ¬ (r.length + 1 + 1 < 2) by omega, if_false, Option.some.injEq, Prod.mk.injEq] at h
      refine ⟨.start x.toNat y.toNat, ?_, ?_⟩
      · rw [← h.1]; simp only [rowOf, nn x (by simp), nn y (by simp)]
      · rw [← h.2]; simp only [rowOf, nn x (by simp), nn y (by simp)]; rfl
  simp only [if_neg h0] at h
  by_cases h1 : p = 1
  · subst h1
    simp only [if_true, List.drop, List.take, PyFlat.rows, Nat.not_lt_zero, if_false, Option.some.injEq, Prod.mk.injEq] at h
    exact ⟨.kick, h.1.symm, by rw [← h.2]; rfl⟩
  simp only [if_neg h1] at h
  by_cases h2 : p = 2
  · subst h2
    simp only [if_true] at h
    match r, h, nn with
    | [], h, _ => simp at h
    | x :: r, h, nn =>
      simp only [List.length_cons, List.drop, List.take, PyFlat.rows, show ¬ (r.length + 1 < 1) by omega, if_false, Option.some.injEq, Prod.mk.injEq] at h
      refine ⟨.tick x.toNat, ?_, ?_⟩
      · rw [← h.1]; simp only [rowOf, nn x (by simp)]
      · rw [← h.2]; simp only [rowOf, nn x (by simp)]; rfl
  simp only [if_neg h2] at h
  by_cases h3 : p = 3
  · subst h3
    simp only [if_true] at h
    match r, h, nn with
    | [], h, _ => simp at h
    | x :: r, h, nn =>
      simp only [List.length_cons, List.drop, List.take, PyFlat.rows, show ¬ (r.length + 1 < 1) by omega, if_false, Option.some.injEq, Prod.mk.injEq] at h
      refine ⟨.halt_ x.toNat, ?_, ?_⟩
      · rw [← h.1]; simp only [rowOf, nn x (by simp)]
      · rw [← h.2]; simp only [rowOf, nn x (by simp)]; rfl
  simp only [if_neg h3] at h
  by_cases h4 : p = 4
  · subst h4
    simp only [if_true, List.drop, List.take, PyFlat.rows, Nat.not_lt_zero, if_false, Option.some.injEq, Prod.mk.injEq] at h
    exact ⟨.whistle, h.1.symm, by rw [← h.2]; rfl⟩
  simp only [if_neg h4] at h
  by_cases h5 : p = 5
  · subst h5
    simp only [if_true, List.drop, List.take, PyFlat.rows, Nat.not_lt_zero, if_false, Option.some.injEq, Prod.mk.injEq] at h
    exact ⟨.left, h.1.symm, by rw [← h.2]; rfl⟩
  simp only [if_neg h5] at h
  by_cases h6 : p = 6
  · subst h6
    simp only [if_true, List.drop, List.take, PyFlat.rows, Nat.not_lt_zero, if_false, Option.some.injEq, Prod.mk.injEq] at h
    exact ⟨.minute, h.1.symm, by rw [← h.2]; rfl⟩
  simp only [if_neg h6] at h
  exact absurd h (by simp)
theorem read_calls : ∀ (f : Nat) (l : List Int) (raw : List (List (List Int))), (∀ x ∈ l, (0 : Int) ≤ x) → PyFlat.calls PyKmt2.shape f l = some raw →
    ∃ cs : List Call, l = cs.flatMap rowOf ∧ raw = cs.map fun c => [rowOf c]
  | f, [], raw, _, h => by
    have e : raw = [] := by
      cases f <;> simpa [PyFlat.calls] using h.symm
    exact ⟨[], rfl, e⟩
  | 0, _ :: _, raw, _, h => by simp [PyFlat.calls] at h
  | f + 1, p :: r, raw, hn, h => by
    rw [PyFlat.calls] at h
    cases q : PyFlat.call PyKmt2.shape (p :: r) with
    | none => rw [q] at h; simp at h
    | some ct =>
      obtain ⟨c, t⟩ := ct
      obtain ⟨d, e1, e2⟩ := one_call hn q
      rw [q] at h
      simp only at h
      cases q2 : PyFlat.calls PyKmt2.shape f t with
      | none => rw [q2] at h; simp at h
      | some cs =>
        rw [q2] at h
        have e3 : c :: cs = raw := Option.some.inj h
        obtain ⟨ds, e4, e5⟩ := read_calls f t cs (fun x hx => hn x (by rw [e2]; exact List.mem_append_right _ hx)) q2
        refine ⟨d :: ds, ?_, ?_⟩
        · rw [e2, e4, List.flatMap_cons]
        · rw [← e3, e1, e5, List.map_cons]
/-- what is asked and what is due, in the mirror's words -/
theorem asked_is {l : List Int} (hn : ∀ x ∈ l, (0 : Int) ≤ x) (h : PyKmt2.answers_asked l = true) :
    ∃ cs : List Call, l = cs.flatMap rowOf ∧ okRun none cs ∧ PyKmt2.answers l = go none cs ∧ (go none cs).length ≤ 10000000 := by
  unfold PyKmt2.answers_asked at h
  cases q : PyFlat.calls PyKmt2.shape l.length l with
  | none => rw [q] at h; cases h
  | some raw =>
    rw [q] at h
    simp only [Bool.and_eq_true] at h
    obtain ⟨⟨_, hm⟩, hs⟩ := h
    obtain ⟨cs, e1, e2⟩ := read_calls _ l raw hn q
    have ew : raw.map PyKmt2.whole = cs.map fun c => [rowOf c] := by
      rw [e2, List.map_map]
      exact List.map_congr_left fun c _ => whole_row c
    have ea : PyKmt2.answers l = go none cs := by
      unfold PyKmt2.answers PyKmt2.calls
      rw [q]
      show PyFlat.told (PyFlat.played Kmt2Neutral.step Kmt2Neutral.start (raw.map PyKmt2.whole)) = _
      rw [ew]
      exact told_go cs none
    refine ⟨cs, e1, ?_, ea, ?_⟩
    · unfold Kmt2Neutral.asked at hm
      rw [ew] at hm
      simp only [Bool.and_eq_true] at hm
      exact may_ok cs none hm.2
    · rw [← ea]
      exact of_decide_eq_true hs

/-! ## what holds of the record between two calls -/
structure Ok (m : Clock) : Prop where
  most : m.played ≤ 4
  on : m.runs = true → m.played < 4
theorem ok_begun (h e : Nat) : Ok (Kmt2.begun h e) := ⟨Nat.zero_le _, fun q => by cases q⟩
theorem most_le (m : Clock) : Kmt2.most m ≤ 4 := by
  unfold Kmt2.most
  split <;> omega
theorem ok_kick {m : Clock} (o : Ok m) : Ok (dKick m).1 := by
  have hm := most_le m
  unfold dKick
  split
  · exact o
  · split
    · exact o
    · exact ⟨o.most, fun _ => by show m.played < 4; omega⟩
theorem ok_tick {m : Clock} (o : Ok m) (n : Nat) : Ok (dTick m n).1 := by
  unfold dTick
  split
  · exact o
  · split
    · exact o
    · split
      · exact o
      · exact ⟨o.most, o.on⟩
theorem ok_stop {m : Clock} (o : Ok m) (w : Nat) : Ok (dStop m w).1 := by
  unfold dStop
  split
  · exact o
  · split
    · exact o
    · split
      · exact o
      · exact ⟨o.most, o.on⟩
theorem ok_whistle {m : Clock} (o : Ok m) : Ok (dWhistle m).1 := by
  unfold dWhistle
  split
  · exact o
  · rename_i h
    split
    · exact o
    · have h' : m.runs = true := by
        cases q : m.runs with
        | true => rfl
        | false => exact absurd q h
      exact ⟨by have := o.on h'; show m.played + 1 ≤ 4; omega, fun z => by cases z⟩
theorem ok_deed {m : Clock} (o : Ok m) (c : Call) : Ok (deed m c).1 := by
  cases c with
  | start h e => exact o
  | kick => exact ok_kick o
  | tick n => exact ok_tick o n
  | halt_ w => exact ok_stop o w
  | whistle => exact ok_whistle o
  | left =>
    show Ok (dLeft m).1
    unfold dLeft
    split <;> exact o
  | minute =>
    show Ok (dMinute m).1
    unfold dMinute
    split <;> exact o

/-- the earlier periods' lengths, added up -/
theorem earlier_sum (m : Clock) (k : Nat) : (((List.range k).map fun i => ((Kmt2.length m i : Nat) : Int)).sum) = ((Kmt2.earlier m k : Nat) : Int) := by
  have gen : ∀ (l : List Nat) (a : Nat), ((l.foldl (· + ·) a : Nat) : Int) = (a : Int) + (l.map fun (i : Nat) => (i : Int)).sum := by
    intro l
    induction l with
    | nil => intro a; simp
    | cons x r ih =>
      intro a
      rw [List.foldl_cons, ih, List.map_cons, List.sum_cons]
      omega
  unfold Kmt2.earlier
  rw [gen, List.map_map]
  simp [Function.comp_def]
end Clk
/-! The heap, the promises of each def, and a few short words. -/
namespace Clk
open PySem PySem.Spec PyProof.Rows L2
open Kmt2 (Clock)

/-! ### words -/
theorem ite_dec {c : Prop} [Decidable c] {A B : Prop} (h1 : c → A) (h2 : ¬ c → B) : if decide c = true then A else B := by
  by_cases h : c
  · rw [decide_eq_true h, if_pos rfl]
    exact h1 h
  · rw [decide_eq_false h, if_neg Bool.false_ne_true]
    exact h2 h
theorem ite_not {c : Prop} [Decidable c] {A B : Prop} (h1 : ¬ c → A) (h2 : c → B) : if (!decide c) = true then A else B := by
  by_cases h : c
  · rw [decide_eq_true h]
    exact iteF (h2 h)
  · rw [decide_eq_false h]
    exact iteT (h1 h)
theorem ite_bool {b : Bool} {A B : Prop} (h1 : b = true → A) (h2 : b = false → B) : if b = true then A else B := by
  cases b with
  | true => exact iteT (h1 rfl)
  | false => exact iteF (h2 rfl)
theorem ite_nob {b : Bool} {A B : Prop} (h1 : b = false → A) (h2 : b = true → B) : if (!b) = true then A else B := by
  cases b with
  | true => exact iteF (h2 rfl)
  | false => exact iteT (h1 rfl)

/-- a constant of the module -/
def Cn (mg : Str → Option Value) (x : Str) (i : Int) : Prop := ∃ t, mg x = some (.int i t)
theorem pe_cn {X : Cx} {x : Str} {i : Int} {pos : Pos} (h : Cn X.mg x i) (hg : Gl X x := by rfl) (hd : (x == ("__debug__" : Str)) = false := by decide) : PE X (.Name x pos) (tC (.int i)) := by
  obtain ⟨t, e⟩ := h
  exact pe_glob hg e ⟨t, rfl⟩ hd

/-- a def of the top, where it stands -/
def DefAt (K : PySem.W.Frag) (mg : Str → Option Value) (x : Str) (st : Stmt) (ps : List Str) : Prop := ∃ (f : Addr) (fd : FuncData), Fun K x x st f fd ∧ mg x = some (.ref f) ∧ Binds K fd ps []
/-- .. that keeps its promise -/
def Has (P : Program) (w : World) (K : PySem.W.Frag) (mg : Str → Option Value) (base : Heap) (k : Nat) (x : Str) (ps : List Str) (sp : Sp) : Prop :=
  ∃ (f : Addr) (fd : FuncData), FnOk P w K mg base CX0 k f fd ps sp ∧ mg x = some (.ref f) ∧ PySem.W.keepIn K (.ref f) = true ∧ Binds K fd ps []
theorem pe_has {X : Cx} {j k : Nat} {x : Str} {ps : List Str} {sp : Sp} {p pos : Pos} {e : Expr} {es : List Expr} {t : TA} (h : Has X.prog X.w X.K X.mg X.base k x ps sp) (hr : Room j X.A) (ha : PA X (e :: es) t) (hk : k ≤ j := by decide) (hg : Gl X x := by rfl)
    (hdb : (x == ("__debug__" : Str)) = false := by decide) (he : starEach (e :: es) X.env = (false, eval e X.env) :: starEach es X.env := by rfl) (hpl : (backTo pos (starEach es X.env)).any (·.1) = false := by rfl) :
    PE X (.Call (.Name x p) (e :: es) [] pos) (tCall sp [] E0 t) := by
  obtain ⟨f, fd, F, hm, kp, hb⟩ := h
  exact pe_call F (hr.mono hk) hg hm kp hb .nil pass0 ha hdb he hpl
theorem has_of {P : Program} {w : World} {K : PySem.W.Frag} {mg : Str → Option Value} {base : Heap} {x : Str} {st : Stmt} {N ps : List Str} {k : Nat} {sp : Sp} (D : DefAt K mg x st ps) (S : FnScope N ps (defScope st)) (len : ∀ vs H Q E, sp vs H Q E → vs.length = ps.length)
    (hbody : ∀ (f : Addr) (cdv : Value) (A : Around) (outer : List Env) (s : Shared) (H : Hp) (vs : List V) (Q : VK) (E : XK), Room k (A.deeper (envOfC x (defScope st) s.heap.objs.size f cdv)) → sp vs H Q E →
      ∃ t, PSs (cxOf CX0 P w K mg base N x (defScope st) f cdv A outer s H E).nox (defBody st) t ∧ t { nx := fun _ H' => Q .non H', rt := Q } (start N vs) H) : Has P w K mg base (k + 1) x ps sp := by
  obtain ⟨f, fd, F, hm, hb⟩ := D
  exact ⟨f, fd, F.ok S len (fun cdv A outer s H vs Q E hr h => hbody f cdv A outer s H vs Q E hr h), hm, F.kp, hb⟩

/-! ### the record in the heap -/
def mF (m : Clock) : List (Str × V) := [("half", .int (m.half : Int)), ("extra", .int (m.extra : Int)), ("played", .int (m.played : Int)), ("runs", .bl m.runs), ("gone", .int (m.gone : Int)), ("stood", .int (m.stood : Int)), ("stands", .bl m.stands)]
def At (C : Addr) (H : Hp) (a : Addr) (m : Clock) : Prop := ∃ dx, H a = some (.ins C dx (mF m))
/-- all but a is as it was -/
def Rest (a : Addr) (H H' : Hp) : Prop := ∀ b o, H b = some o → b ≠ a → H' b = some o
theorem lk_here {k : Str} {v : V} {r : List (Str × V)} : List.lookup k ((k, v) :: r) = some v := by
  have e : (k == k) = true := beq_self_eq_true k
  simp only [List.lookup, e]
theorem lk_past {k g : Str} {v : V} {r : List (Str × V)} (h : (k == g) = false) : List.lookup k ((g, v) :: r) = List.lookup k r := by
  simp only [List.lookup, h]
theorem put_here {f : Str} {v x : V} {r : List (Str × V)} : putF f v ((f, x) :: r) = (f, v) :: r := if_pos rfl
theorem put_past {f g : Str} {v x : V} {r r' : List (Str × V)} (h : ¬ g = f) (e : putF f v r = r') : putF f v ((g, x) :: r) = (g, x) :: r' := (if_neg h).trans (congrArg _ e)
theorem mF_half (m : Clock) : (mF m).lookup ("half" : Str) = some (.int (m.half : Int)) := lk_here
theorem mF_extra (m : Clock) : (mF m).lookup ("extra" : Str) = some (.int (m.extra : Int)) := (lk_past (by decide +kernel)).trans lk_here
theorem mF_played (m : Clock) : (mF m).lookup ("played" : Str) = some (.int (m.played : Int)) := (lk_past (by decide +kernel)).trans ((lk_past (by decide +kernel)).trans lk_here)
theorem mF_runs (m : Clock) : (mF m).lookup ("runs" : Str) = some (.bl m.runs) := (lk_past (by decide +kernel)).trans ((lk_past (by decide +kernel)).trans ((lk_past (by decide +kernel)).trans lk_here))
theorem mF_gone (m : Clock) : (mF m).lookup ("gone" : Str) = some (.int (m.gone : Int)) := (lk_past (by decide +kernel)).trans ((lk_past (by decide +kernel)).trans ((lk_past (by decide +kernel)).trans ((lk_past (by decide +kernel)).trans lk_here)))
theorem mF_stood (m : Clock) : (mF m).lookup ("stood" : Str) = some (.int (m.stood : Int)) := (lk_past (by decide +kernel)).trans ((lk_past (by decide +kernel)).trans ((lk_past (by decide +kernel)).trans ((lk_past (by decide +kernel)).trans ((lk_past (by decide +kernel)).trans lk_here))))
theorem mF_stands (m : Clock) : (mF m).lookup ("stands" : Str) = some (.bl m.stands) := (lk_past (by decide +kernel)).trans ((lk_past (by decide +kernel)).trans ((lk_past (by decide +kernel)).trans ((lk_past (by decide +kernel)).trans ((lk_past (by decide +kernel)).trans ((lk_past (by decide +kernel)).trans lk_here)))))
theorem put_played (m : Clock) (y : Nat) : putF "played" (.int (y : Int)) (mF m) = mF { m with played := y } := put_past (by decide +kernel) (put_past (by decide +kernel) put_here)
theorem put_runs (m : Clock) (y : Bool) : putF "runs" (.bl y) (mF m) = mF { m with runs := y } := put_past (by decide +kernel) (put_past (by decide +kernel) (put_past (by decide +kernel) put_here))
theorem put_gone (m : Clock) (y : Nat) : putF "gone" (.int (y : Int)) (mF m) = mF { m with gone := y } := put_past (by decide +kernel) (put_past (by decide +kernel) (put_past (by decide +kernel) (put_past (by decide +kernel) put_here)))
theorem put_stood (m : Clock) (y : Nat) : putF "stood" (.int (y : Int)) (mF m) = mF { m with stood := y } := put_past (by decide +kernel) (put_past (by decide +kernel) (put_past (by decide +kernel) (put_past (by decide +kernel) (put_past (by decide +kernel) put_here))))
theorem put_stands (m : Clock) (y : Bool) : putF "stands" (.bl y) (mF m) = mF { m with stands := y } := put_past (by decide +kernel) (put_past (by decide +kernel) (put_past (by decide +kernel) (put_past (by decide +kernel) (put_past (by decide +kernel) (put_past (by decide +kernel) put_here)))))
theorem put_new {f : Str} {v : V} : putF f v [] = [(f, v)] := rfl
theorem mF_new (h e : Nat) : putF "stands" (.bl false) (putF "stood" (.int 0) (putF "gone" (.int 0) (putF "runs" (.bl false) (putF "played" (.int 0) (putF "extra" (.int (e : Int)) (putF "half" (.int (h : Int)) [])))))) = mF (Kmt2.begun h e) := by
  have e1 : putF "half" (.int (h : Int)) ([] : List (Str × V)) = ([("half", .int (h : Int))] : List (Str × V)) := put_new
  have e2 : putF "extra" (.int (e : Int)) ([("half", .int (h : Int))] : List (Str × V)) = ([("half", .int (h : Int)), ("extra", .int (e : Int))] : List (Str × V)) := put_past (by decide +kernel) (put_new)
  have e3 : putF "played" (.int 0) ([("half", .int (h : Int)), ("extra", .int (e : Int))] : List (Str × V)) = ([("half", .int (h : Int)), ("extra", .int (e : Int)), ("played", .int 0)] : List (Str × V)) := put_past (by decide +kernel) (put_past (by decide +kernel) (put_new))
  have e4 : putF "runs" (.bl false) ([("half", .int (h : Int)), ("extra", .int (e : Int)), ("played", .int 0)] : List (Str × V)) = ([("half", .int (h : Int)), ("extra", .int (e : Int)), ("played", .int 0), ("runs", .bl false)] : List (Str × V)) := put_past (by decide +kernel) (put_past (by decide +kernel) (put_past (by decide +kernel) (put_new)))
  have e5 : putF "gone" (.int 0) ([("half", .int (h : Int)), ("extra", .int (e : Int)), ("played", .int 0), ("runs", .bl false)] : List (Str × V)) = ([("half", .int (h : Int)), ("extra", .int (e : Int)), ("played", .int 0), ("runs", .bl false), ("gone", .int 0)] : List (Str × V)) := put_past (by decide +kernel) (put_past (by decide +kernel) (put_past (by decide +kernel) (put_past (by decide +kernel) (put_new))))
  have e6 : putF "stood" (.int 0) ([("half", .int (h : Int)), ("extra", .int (e : Int)), ("played", .int 0), ("runs", .bl false), ("gone", .int 0)] : List (Str × V)) = ([("half", .int (h : Int)), ("extra", .int (e : Int)), ("played", .int 0), ("runs", .bl false), ("gone", .int 0), ("stood", .int 0)] : List (Str × V)) := put_past (by decide +kernel) (put_past (by decide +kernel) (put_past (by decide +kernel) (put_past (by decide +kernel) (put_past (by decide +kernel) (put_new)))))
  have e7 : putF "stands" (.bl false) ([("half", .int (h : Int)), ("extra", .int (e : Int)), ("played", .int 0), ("runs", .bl false), ("gone", .int 0), ("stood", .int 0)] : List (Str × V)) = ([("half", .int (h : Int)), ("extra", .int (e : Int)), ("played", .int 0), ("runs", .bl false), ("gone", .int 0), ("stood", .int 0), ("stands", .bl false)] : List (Str × V)) := put_past (by decide +kernel) (put_past (by decide +kernel) (put_past (by decide +kernel) (put_past (by decide +kernel) (put_past (by decide +kernel) (put_past (by decide +kernel) (put_new))))))
  rw [e1, e2, e3, e4, e5, e6, e7]
  rfl
theorem At.same {C : Addr} {H H' : Hp} {a : Addr} {m : Clock} (h : At C H a m) (s : Same H H') : At C H' a m := by
  obtain ⟨dx, e⟩ := h
  exact ⟨dx, s _ _ e⟩
theorem At.set {C dx : Addr} {H : Hp} {a : Addr} {m : Clock} {fs : List (Str × V)} (e : fs = mF m) : At C (upd H a (.ins C dx fs)) a m := ⟨dx, by rw [e]; exact upd_same⟩
theorem Rest.set {H : Hp} {a : Addr} {o : HO} : Rest a H (upd H a o) := fun b o e hb => by
  rw [upd_ne hb]
  exact e
theorem Rest.trans {a : Addr} {H H1 H2 : Hp} (s : Rest a H H1) (t : Rest a H1 H2) : Rest a H H2 := fun b o e hb => t b o (s b o e hb) hb
theorem Rest.of {a : Addr} {H H1 : Hp} (s : Same H H1) : Rest a H H1 := fun b o e _ => s b o e
theorem Same.new {H : Hp} {p : Addr} {o : HO} (h : H p = none) : Same H (upd H p o) := fun b u e => by
  rw [upd_ne (ne_of_none e h)]
  exact e
theorem Rest.free {C : Addr} {H H1 : Hp} {a p : Addr} {m : Clock} (s : Rest a H H1) (h : At C H1 a m) (hp : H1 p = none) : H p = none := by
  cases q : H p with
  | none => rfl
  | some o =>
    by_cases e : p = a
    · obtain ⟨dx, z⟩ := h
      rw [e, z] at hp
      cases hp
    · rw [s p o q e] at hp
      cases hp

/-! ### what the top has written -/
structure Txt (K : PySem.W.Frag) (mg : Str → Option Value) (C : Addr) : Prop where
  cl : Cls K C
  nHalf : NoAttr K C "half"
  nExtra : NoAttr K C "extra"
  nPlayed : NoAttr K C "played"
  nRuns : NoAttr K C "runs"
  nGone : NoAttr K C "gone"
  nStood : NoAttr K C "stood"
  nStands : NoAttr K C "stands"
  gC : mg "Match" = some (.ref C)
  cHalves : Cn mg "HALVES" 2
  cExtras : Cn mg "EXTRAS" 2
  cShortest : Cn mg "SHORTEST" 60
  cLongestHalf : Cn mg "LONGEST_HALF" 3600
  cLongestExtra : Cn mg "LONGEST_EXTRA" 1800
  cMinute : Cn mg "MINUTE" 60
  cAtOnce : Cn mg "MOST_AT_ONCE" 3600
  cMostGone : Cn mg "MOST_GONE" 1000000
  cNotNow : Cn mg "NOT_NOW" (-11)
  cAlready : Cn mg "ALREADY" (-16)
  cOutOfRange : Cn mg "OUT_OF_RANGE" (-22)
  cTooMuch : Cn mg "TOO_MUCH" (-28)
  cTooEarly : Cn mg "TOO_EARLY" (-35)
  cStart : Cn mg "START" 0
  cKick : Cn mg "KICK" 1
  cTick : Cn mg "TICK" 2
  cStop : Cn mg "STOP" 3
  cWhistle : Cn mg "WHISTLE" 4
  cLeft : Cn mg "LEFT" 5
  bSum : mg "sum" = none
  bRange : mg "range" = none
  bLen : mg "len" = none
  bInt : mg "int" = none
  gNum : ∃ aN, mg "NUMBERS" = some (.ref aN) ∧ ∀ H, SqT K H aN (([2, 0, 1, 1, 0, 0, 0] : List Int).map V.int)

/-! ### the promises -/
/-- a def that reads the record and gives a value -/
def spRd (C : Addr) (g : Clock → V) : Sp := fun vs H Q _ => ∃ (a : Addr) (m : Clock), vs = [.ref a] ∧ At C H a m ∧ m.played ≤ 4 ∧ ∀ H', Same H H' → Q (g m) H'
/-- .. and gives a new list of ints -/
def spRdL (C : Addr) (g : Clock → List Int) : Sp := fun vs H Q _ => ∃ (a : Addr) (m : Clock), vs = [.ref a] ∧ At C H a m ∧ m.played ≤ 4 ∧ ∀ H' p, Same H H' → H p = none → H' p = some (.lst ((g m).map V.int)) → Q (.ref p) H'
/-- a def that changes the record -/
def spWr (C : Addr) (g : Clock → Clock) : Sp := fun vs H Q _ => ∃ (a : Addr) (m : Clock), vs = [.ref a] ∧ At C H a m ∧ ∀ H', At C H' a (g m) → Rest a H H' → Q .non H'
def spInit (C : Addr) : Sp := fun vs H Q _ => ∃ (p dx : Addr) (h e : Nat), vs = [.ref p, .int (h : Int), .int (e : Int)] ∧ H p = some (.ins C dx []) ∧
  ∀ H' : Hp, At C H' p (Kmt2.begun h e) → Rest p H H' → Q .non H'
def spLens : Sp := fun vs H Q _ => ∃ h e : Nat, vs = [.int (h : Int), .int (e : Int)] ∧ Q (.bl (Kmt2.okTimes h e)) H
/-- by its number from 1 on -/
def spLenOf (C : Addr) : Sp := fun vs H Q _ => ∃ (a : Addr) (m : Clock) (z : Int) (k : Nat), vs = [.ref a, .int z] ∧ z = (k : Int) + 1 ∧ At C H a m ∧ Q (.int (Kmt2.length m k : Nat)) H
def goOn (m : Clock) (n : Nat) : Clock := { m with gone := m.gone + n, stood := if m.stands = true then m.stood + n else m.stood }
def spGoOn (C : Addr) : Sp := fun vs H Q _ => ∃ (a : Addr) (m : Clock) (n : Nat), vs = [.ref a, .int (n : Int)] ∧ At C H a m ∧ ∀ H', At C H' a (goOn m n) → Rest a H H' → Q .non H'
def spUp : Sp := fun vs H Q _ => ∃ z : Int, vs = [.int z] ∧ Q (.int ((z + 60 - 1) / 60)) H
/-- a deed: the record and its arguments; a new list comes out -/
def spDo (C : Addr) (args : List V) (g : Clock → Clock × List Int) : Sp := fun vs H Q _ => ∃ (a : Addr) (m : Clock), vs = .ref a :: args ∧ At C H a m ∧ m.played ≤ 4 ∧
  ∀ H' p, At C H' a (g m).1 → Rest a H H' → H p = none → H' p = some (.lst ((g m).2.map V.int)) → Q (.ref p) H'
def spTick (C : Addr) : Sp := fun vs H Q E => ∃ n : Nat, spDo C [.int (n : Int)] (fun m => dTick m n) vs H Q E
def spStop (C : Addr) : Sp := fun vs H Q E => ∃ w : Nat, spDo C [.int (w : Int)] (fun m => dStop m w) vs H Q E
def spAnswered (C : Addr) : Sp := fun vs H Q E => ∃ (b : Addr) (c : Kmt2.Call), moreOf c ≠ 2 ∧ H b = some (.lst ((rowOf c).map V.int)) ∧ spDo C [.ref b] (fun m => deed m c) vs H Q E
def spAns (K : PySem.W.Frag) : Sp := fun vs H Q _ => ∃ (a : Addr) (ns : List Int), vs = [.ref a] ∧ SqL K H a (ns.map V.int) ∧ (∀ x ∈ ns, (0 : Int) ≤ x) ∧ PyKmt2.answers_asked ns = true ∧
  ∀ (H' : Hp) (p : Addr), H' p = some (.lst ((PyKmt2.answers ns).map V.int)) → Q (.ref p) H'

/-! ### the text by places -/
def top (i : Nat) : Stmt := PySem.Challenge.pw_halfclock_s01_answers.main.body.getD i (.Pass ⟨0, 0, 0, 0⟩)
abbrev sInit : Stmt := inClass (top 6) 0
end Clk
/-! The defs of periods. -/
namespace Clk
open PySem PySem.Spec PyProof.Rows L2
open Kmt2 (Clock)
abbrev sLens : Stmt := top 7
abbrev sHowMany : Stmt := top 8
abbrev sLenOf : Stmt := top 9
abbrev sRunning : Stmt := top 10
abbrev sLenNow : Stmt := top 11
abbrev sLenBefore : Stmt := top 12
abbrev sDue : Stmt := top 13
abbrev sBegin : Stmt := top 14
abbrev sEnd : Stmt := top 15
abbrev sGoOn : Stmt := top 16
def lenNow (m : Clock) : V := .int ((Kmt2.length m m.played : Nat) : Int)
def lenBefore (m : Clock) : V := .int ((Kmt2.earlier m m.played : Nat) : Int)
def dueOf (m : Clock) : V := .int ((Kmt2.length m m.played + m.stood : Nat) : Int)
def begunAnew (m : Clock) : Clock := { m with runs := true, gone := 0, stood := 0, stands := false }
def ended (m : Clock) : Clock := { m with runs := false, played := m.played + 1 }
theorem few {f : Str} {v : V} {fs : List (Str × V)} {n : Nat} (h : fs.length ≤ n) : (putF f v fs).length ≤ n + 1 := Nat.le_trans (length_putF f v fs) (Nat.succ_le_succ h)
theorem few_ok {n k : Nat} (h : n ≤ k) (hk : k < 1000 := by decide) : n < 1000 := Nat.lt_of_le_of_lt h hk
theorem put_gone0 (m : Clock) : putF "gone" (.int 0) (mF m) = mF { m with gone := 0 } := put_gone m 0
theorem put_stood0 (m : Clock) : putF "stood" (.int 0) (mF m) = mF { m with stood := 0 } := put_stood m 0
theorem mF_few (m : Clock) : (mF m).length < 1000 := by
  show 7 < 1000
  decide
section
variable {P : Program} {w : World} {K : PySem.W.Frag} {mg : Str → Option Value} {base : Heap} {C : Addr}
theorem sc_init : FnScope ["self", "half", "extra"] ["self", "half", "extra"] (defScope sInit) := ⟨rfl, rfl, rfl, by decide +kernel, rfl, by decide +kernel, by decide +kernel⟩
theorem ok_init {f : Addr} {fd : FuncData} (F : Fun K "__init__" "Match.__init__" sInit f fd) (T : Txt K mg C) : FnOk P w K mg base CX0 1 f fd ["self", "half", "extra"] (spInit C) := by
  refine F.ok sc_init (fun vs H Q E h => ?_) (fun cdv A outer s H vs Q E hr h => ?_)
  · obtain ⟨p, dx, a, b, rfl, _⟩ := h
    rfl
  obtain ⟨p, dx, a, b, rfl, hp, k⟩ := h
  refine ⟨_, pss_cons (ps_fld (pv 0) (pv 1) rfl) (pss_cons (ps_fld (pv 0) (pv 2) rfl) (pss_cons (ps_fld (pv 0) pe_int rfl) (pss_cons (ps_fld (pv 0) pe_bl rfl) (pss_cons (ps_fld (pv 0) pe_int rfl) (pss_cons (ps_fld (pv 0) pe_int rfl) (pss_one (ps_fld (pv 0) pe_bl rfl))))))), ?_⟩
  refine ⟨_, rfl, _, rfl, p, C, dx, [], rfl, hp, T.cl, T.nHalf, few_ok (Nat.le_refl 0), ?_⟩
  refine ⟨_, rfl, _, rfl, p, C, dx, _, rfl, upd_same, T.cl, T.nExtra, few_ok (few (Nat.le_refl 0)), ?_⟩
  refine ⟨_, rfl, p, C, dx, _, rfl, upd_same, T.cl, T.nPlayed, few_ok (few (few (Nat.le_refl 0))), ?_⟩
  refine ⟨_, rfl, p, C, dx, _, rfl, upd_same, T.cl, T.nRuns, few_ok (few (few (few (Nat.le_refl 0)))), ?_⟩
  refine ⟨_, rfl, p, C, dx, _, rfl, upd_same, T.cl, T.nGone, few_ok (few (few (few (few (Nat.le_refl 0))))), ?_⟩
  refine ⟨_, rfl, p, C, dx, _, rfl, upd_same, T.cl, T.nStood, few_ok (few (few (few (few (few (Nat.le_refl 0)))))), ?_⟩
  refine ⟨_, rfl, p, C, dx, _, rfl, upd_same, T.cl, T.nStands, few_ok (few (few (few (few (few (few (Nat.le_refl 0))))))), ?_⟩
  refine k _ (At.set (mF_new a b)) ?_
  exact (((((Rest.set.trans .set).trans .set).trans .set).trans .set).trans .set).trans .set
theorem sc_lens : FnScope ["half", "extra"] ["half", "extra"] (defScope sLens) := ⟨rfl, rfl, rfl, by decide +kernel, rfl, by decide +kernel, by decide +kernel⟩
theorem ok_lens (D : DefAt K mg "are_lengths" sLens ["half", "extra"]) (T : Txt K mg C) : Has P w K mg base 1 "are_lengths" ["half", "extra"] spLens := by
  refine has_of D sc_lens (fun vs H Q E h => ?_) (fun f cdv A outer s H vs Q E hr h => ?_)
  · obtain ⟨a, b, rfl, _⟩ := h
    rfl
  obtain ⟨a, b, rfl, k⟩ := h
  have k' : ∀ c, c = Kmt2.okTimes a b → Q (.bl c) H := fun c e => by rw [e]; exact k
  refine ⟨_, pss_cons (ps_if (PW.pt (pw_or (pt_cmpR op_lt (pv 0) (pe_cn T.cShortest) (nomark _)) (pw_or1 (pt_cmpR op_gt (pv 0) (pe_cn T.cLongestHalf) (nomark _))))) (pss_one (ps_ret pe_bl)) pss_nil)
    (pss_one (ps_ret (pe_or (pe_cmpR op_eq (pv 1) pe_int (nomark _)) (pe_one (pe_and (pe_cmpR op_ge (pv 1) (pe_cn T.cShortest) (nomark _)) (pe_one (pe_cmpR op_le (pv 1) (pe_cn T.cLongestExtra) (nomark _)))))))), ?_⟩
  refine ⟨_, rfl, _, _, rfl, rfl, _, rfl, ite_dec (fun c1 => iteT ?_) fun c1 => ?_⟩
  · refine k' _ ?_
    have : ¬ 60 ≤ a := by omega
    simp [Kmt2.okTimes, this]
  refine ⟨_, rfl, _, _, rfl, rfl, _, rfl, ite_dec (fun c2 => ?_) fun c2 => ?_⟩
  · refine k' _ ?_
    have : ¬ a ≤ 3600 := by omega
    simp [Kmt2.okTimes, this]
  have h1 : 60 ≤ a := by omega
  have h2 : a ≤ 3600 := by omega
  refine ⟨_, rfl, rfl, _, rfl, ite_dec (fun c3 => ?_) fun c3 => ?_⟩
  · refine k' _ ?_
    have : b = 0 := by have := V.int.inj c3; omega
    simp [Kmt2.okTimes, h1, h2, this]
  have h3 : ¬ b = 0 := fun z => c3 (by rw [z]; rfl)
  refine ⟨_, rfl, _, _, rfl, rfl, _, rfl, ite_dec (fun c4 => ?_) fun c4 => ?_⟩
  · refine ⟨_, rfl, _, _, rfl, rfl, k' _ ?_⟩
    have h4 : 60 ≤ b := by omega
    have e : decide ((b : Int) ≤ 1800) = decide (b ≤ 1800) := by
      rw [Bool.eq_iff_iff, decide_eq_true_eq, decide_eq_true_eq]
      omega
    rw [e]
    simp [Kmt2.okTimes, h1, h2, h3, h4]
  · refine k' _ ?_
    have h4 : ¬ 60 ≤ b := by omega
    simp [Kmt2.okTimes, h3, h4]
theorem sc_m {st : Stmt} (h : FnScope ["match"] ["match"] (defScope st)) : FnScope ["match"] ["match"] (defScope st) := h
theorem sc_howMany : FnScope ["match"] ["match"] (defScope sHowMany) := ⟨rfl, rfl, rfl, by decide +kernel, rfl, by decide +kernel, by decide +kernel⟩
theorem len_rd {C : Addr} {g : Clock → V} : ∀ vs H Q E, spRd C g vs H Q E → vs.length = (["match"] : List Str).length := fun vs H Q E h => by
  obtain ⟨a, m, rfl, _⟩ := h
  rfl
theorem len_rdL {C : Addr} {g : Clock → List Int} : ∀ vs H Q E, spRdL C g vs H Q E → vs.length = (["match"] : List Str).length := fun vs H Q E h => by
  obtain ⟨a, m, rfl, _⟩ := h
  rfl
theorem len_wr {C : Addr} {g : Clock → Clock} : ∀ vs H Q E, spWr C g vs H Q E → vs.length = (["match"] : List Str).length := fun vs H Q E h => by
  obtain ⟨a, m, rfl, _⟩ := h
  rfl
theorem ok_howMany (D : DefAt K mg "how_many" sHowMany ["match"]) (T : Txt K mg C) : Has P w K mg base 1 "how_many" ["match"] (spRd C fun m => .int ((Kmt2.most m : Nat) : Int)) := by
  refine has_of D sc_howMany len_rd (fun f cdv A outer s H vs Q E hr h => ?_)
  obtain ⟨a, m, rfl, ⟨dx, hm⟩, hp, k⟩ := h
  refine ⟨_, pss_cons (ps_if (pt_cmpR op_eq (pe_fld (pv 0) rfl) pe_int (nomark _)) (pss_one (ps_ret (pe_cn T.cHalves))) pss_nil) (pss_one (ps_ret (pe_op op_add (pe_cn T.cHalves) (pe_cn T.cExtras)))), ?_⟩
  have k := k H (Same.refl H)
  refine ⟨_, rfl, a, C, dx, _, _, rfl, hm, T.cl, T.nExtra, mF_extra m, rfl, _, rfl, ite_dec (fun c => ?_) fun c => ?_⟩
  · have e : m.extra = 0 := by have := V.int.inj c; omega
    simp only [Kmt2.most, e, if_true] at k
    exact k
  · have e : ¬ m.extra = 0 := fun z => c (by rw [z]; rfl)
    simp only [Kmt2.most, e, if_false] at k
    exact ⟨_, _, rfl, rfl, k⟩
theorem sc_lenOf : FnScope ["match", "number"] ["match", "number"] (defScope sLenOf) := ⟨rfl, rfl, rfl, by decide +kernel, rfl, by decide +kernel, by decide +kernel⟩
theorem ok_lenOf (D : DefAt K mg "length_of" sLenOf ["match", "number"]) (T : Txt K mg C) : Has P w K mg base 1 "length_of" ["match", "number"] (spLenOf C) := by
  refine has_of D sc_lenOf (fun vs H Q E h => ?_) (fun f cdv A outer s H vs Q E hr h => ?_)
  · obtain ⟨a, m, z, n, rfl, _⟩ := h
    rfl
  obtain ⟨a, m, z, n, rfl, hz, ⟨dx, hm⟩, k⟩ := h
  refine ⟨_, pss_cons (ps_if (pt_cmpR op_le (pv 1) (pe_cn T.cHalves) (nomark _)) (pss_one (ps_ret (pe_fld (pv 0) rfl))) pss_nil) (pss_one (ps_ret (pe_fld (pv 0) rfl))), ?_⟩
  refine ⟨_, rfl, _, _, rfl, rfl, _, rfl, ite_dec (fun c => ?_) fun c => ?_⟩
  · have e : n < 2 := by omega
    simp only [Kmt2.length, e, if_true] at k
    exact ⟨_, rfl, a, C, dx, _, _, rfl, hm, T.cl, T.nHalf, mF_half m, k⟩
  · have e : ¬ n < 2 := by omega
    simp only [Kmt2.length, e, if_false] at k
    exact ⟨_, rfl, a, C, dx, _, _, rfl, hm, T.cl, T.nExtra, mF_extra m, k⟩
theorem sc_running : FnScope ["match"] ["match"] (defScope sRunning) := ⟨rfl, rfl, rfl, by decide +kernel, rfl, by decide +kernel, by decide +kernel⟩
theorem ok_running (D : DefAt K mg "running" sRunning ["match"]) (T : Txt K mg C) : Has P w K mg base 1 "running" ["match"] (spRd C fun m => .int ((m.played : Int) + 1)) := by
  refine has_of D sc_running len_rd (fun f cdv A outer s H vs Q E hr h => ?_)
  obtain ⟨a, m, rfl, ⟨dx, hm⟩, hp, k⟩ := h
  refine ⟨_, pss_one (ps_ret (pe_op op_add (pe_fld (pv 0) rfl) pe_int)), ?_⟩
  exact ⟨_, rfl, a, C, dx, _, _, rfl, hm, T.cl, T.nPlayed, mF_played m, _, _, rfl, rfl, k H (Same.refl H)⟩
theorem sc_lenNow : FnScope ["match"] ["match"] (defScope sLenNow) := ⟨rfl, rfl, rfl, by decide +kernel, rfl, by decide +kernel, by decide +kernel⟩
theorem ok_lenNow (D : DefAt K mg "length_now" sLenNow ["match"]) (h1 : Has P w K mg base 1 "length_of" ["match", "number"] (spLenOf C)) (h2 : Has P w K mg base 1 "running" ["match"] (spRd C fun m => .int ((m.played : Int) + 1))) :
    Has P w K mg base 2 "length_now" ["match"] (spRd C lenNow) := by
  refine has_of D sc_lenNow len_rd (fun f cdv A outer s H vs Q E hr h => ?_)
  obtain ⟨a, m, rfl, hm, hp, k⟩ := h
  refine ⟨_, pss_one (ps_ret (pe_has h1 hr (pa_cons (pv 0) (pa_cons (pe_has h2 hr (pa_cons (pv 0) pa_nil)) pa_nil)))), ?_⟩
  refine ⟨_, rfl, _, rfl, a, m, rfl, hm, hp, fun H1 s1 => ?_⟩
  exact ⟨a, m, _, m.played, rfl, rfl, hm.same s1, k H1 s1⟩
theorem sc_lenBefore : FnScope ["match", "number"] ["match"] (defScope sLenBefore) := ⟨rfl, rfl, rfl, by decide +kernel, rfl, by decide +kernel, by decide +kernel⟩
theorem ok_lenBefore (D : DefAt K mg "length_before" sLenBefore ["match"]) (T : Txt K mg C) (h1 : Has P w K mg base 1 "length_of" ["match", "number"] (spLenOf C)) (h2 : Has P w K mg base 1 "running" ["match"] (spRd C fun m => .int ((m.played : Int) + 1))) :
    Has P w K mg base 2 "length_before" ["match"] (spRd C lenBefore) := by
  refine has_of D sc_lenBefore len_rd (fun f cdv A outer s H vs Q E hr h => ?_)
  obtain ⟨a, m, rfl, hm, hp, k⟩ := h
  refine ⟨_, pss_one (ps_ret (pe_callB (cr_sum rfl) (by rfl) T.bSum (by decide +kernel) (pa_cons (pe_lc (own := [("number", 1)]) (g := gName 1) (tt := tYes) rfl sc_lenBefore.nd
    (pi_range2 rfl T.bRange (pa_cons pe_int (pa_cons (pe_has h2 hr (pa_cons (pv 0) pa_nil)) pa_nil)))
    (blkOk_by (N := ["match", "number"]) (sc := defScope sLenBefore) (by decide +kernel)) (fun _ _ _ _ _ => pg_name (i := 1) sc_lenBefore.nd rfl (Or.inl rfl)) (fun _ _ _ _ _ => pts_nil)
    (fun _ _ _ _ _ => pe_has h1 hr (pa_cons (pv 0) (pa_cons (pv 1) pa_nil)))) pa_nil))), ?_⟩
  refine ⟨_, rfl, a, m, rfl, hm, hp, fun H1 s1 => ?_⟩
  refine ⟨1, (m.played : Int) + 1, rfl, ⟨by decide, by decide, by omega, by omega⟩, fun D hD => ?_⟩
  have en : ((m.played : Int) + 1 - 1).toNat = m.played := by omega
  rw [en]
  refine lc_range (lo := 1) (n := m.played) (fun i H' => Same H1 H' ∧ H' D = some (.lst (((List.range i).map fun j => ((Kmt2.length m j : Nat) : Int)).map V.int))) ⟨Same.new hD, upd_same⟩ ?_ ?_
  · rintro i H' hi ⟨s2, hd⟩
    refine ⟨rfl, ?_⟩
    unfold tYes
    refine iteT ?_
    refine ⟨_, rfl, _, rfl, a, m, _, i, rfl, Int.add_comm _ _, (hm.same s1).same s2, _, hd, ?_, ?_, ?_⟩
    · rw [List.length_map, List.length_map, List.length_range]
      exact Nat.lt_of_lt_of_le (Nat.lt_of_lt_of_le hi hp) (by decide)
    · intro b o e
      rw [upd_ne (ne_of_none e hD)]
      exact s2 b o e
    · rw [upd_same, List.range_succ, List.map_append, List.map_append]
      rfl
  · rintro H' ⟨s2, hd⟩
    refine ⟨D, _, rfl, SqL.of hd, ?_⟩
    rw [earlier_sum]
    exact k H' (s1.trans s2)
theorem sc_due : FnScope ["match"] ["match"] (defScope sDue) := ⟨rfl, rfl, rfl, by decide +kernel, rfl, by decide +kernel, by decide +kernel⟩
theorem ok_due (D : DefAt K mg "due" sDue ["match"]) (T : Txt K mg C) (h1 : Has P w K mg base 2 "length_now" ["match"] (spRd C lenNow)) : Has P w K mg base 3 "due" ["match"] (spRd C dueOf) := by
  refine has_of D sc_due len_rd (fun f cdv A outer s H vs Q E hr h => ?_)
  obtain ⟨a, m, rfl, hm, hp, k⟩ := h
  refine ⟨_, pss_one (ps_ret (pe_op op_add (pe_has h1 hr (pa_cons (pv 0) pa_nil)) (pe_fld (pv 0) rfl))), ?_⟩
  refine ⟨_, rfl, a, m, rfl, hm, hp, fun H1 s1 => ?_⟩
  obtain ⟨dx, e⟩ := hm.same s1
  exact ⟨_, rfl, a, C, dx, _, _, rfl, e, T.cl, T.nStood, mF_stood m, _, _, rfl, rfl, k H1 s1⟩
theorem sc_begin : FnScope ["match"] ["match"] (defScope sBegin) := ⟨rfl, rfl, rfl, by decide +kernel, rfl, by decide +kernel, by decide +kernel⟩
theorem ok_begin (D : DefAt K mg "begin" sBegin ["match"]) (T : Txt K mg C) : Has P w K mg base 1 "begin" ["match"] (spWr C begunAnew) := by
  refine has_of D sc_begin len_wr (fun f cdv A outer s H vs Q E hr h => ?_)
  obtain ⟨a, m, rfl, ⟨dx, hm⟩, k⟩ := h
  refine ⟨_, pss_cons (ps_fld (pv 0) pe_bl rfl) (pss_cons (ps_fld (pv 0) pe_int rfl) (pss_cons (ps_fld (pv 0) pe_int rfl) (pss_one (ps_fld (pv 0) pe_bl rfl)))), ?_⟩
  refine ⟨_, rfl, a, C, dx, _, rfl, hm, T.cl, T.nRuns, mF_few m, ?_⟩
  rw [put_runs]
  refine ⟨_, rfl, a, C, dx, _, rfl, upd_same, T.cl, T.nGone, mF_few _, ?_⟩
  rw [put_gone0]
  refine ⟨_, rfl, a, C, dx, _, rfl, upd_same, T.cl, T.nStood, mF_few _, ?_⟩
  rw [put_stood0]
  refine ⟨_, rfl, a, C, dx, _, rfl, upd_same, T.cl, T.nStands, mF_few _, ?_⟩
  rw [put_stands]
  exact k _ (At.set rfl) (((Rest.set.trans .set).trans .set).trans .set)
theorem sc_end : FnScope ["match"] ["match"] (defScope sEnd) := ⟨rfl, rfl, rfl, by decide +kernel, rfl, by decide +kernel, by decide +kernel⟩
theorem ok_end (D : DefAt K mg "end" sEnd ["match"]) (T : Txt K mg C) : Has P w K mg base 1 "end" ["match"] (spWr C ended) := by
  refine has_of D sc_end len_wr (fun f cdv A outer s H vs Q E hr h => ?_)
  obtain ⟨a, m, rfl, ⟨dx, hm⟩, k⟩ := h
  refine ⟨_, pss_cons (ps_fld (pv 0) pe_bl rfl) (pss_one (ps_fld (pv 0) (pe_op op_add (pe_fld (pv 0) rfl) pe_int) rfl)), ?_⟩
  refine ⟨_, rfl, a, C, dx, _, rfl, hm, T.cl, T.nRuns, mF_few m, ?_⟩
  rw [put_runs]
  refine ⟨_, rfl, a, C, dx, _, _, rfl, upd_same, T.cl, T.nPlayed, mF_played _, _, _, rfl, rfl, _, rfl, a, C, dx, _, rfl, upd_same, T.cl, T.nPlayed, mF_few _, ?_⟩
  exact k _ (At.set (put_played { m with runs := false } (m.played + 1))) (Rest.set.trans .set)
theorem sc_goOn : FnScope ["match", "seconds"] ["match", "seconds"] (defScope sGoOn) := ⟨rfl, rfl, rfl, by decide +kernel, rfl, by decide +kernel, by decide +kernel⟩
theorem ok_goOn (D : DefAt K mg "go_on" sGoOn ["match", "seconds"]) (T : Txt K mg C) : Has P w K mg base 1 "go_on" ["match", "seconds"] (spGoOn C) := by
  refine has_of D sc_goOn (fun vs H Q E h => ?_) (fun f cdv A outer s H vs Q E hr h => ?_)
  · obtain ⟨a, m, n, rfl, _⟩ := h
    rfl
  obtain ⟨a, m, n, rfl, ⟨dx, hm⟩, k⟩ := h
  refine ⟨_, pss_cons (ps_fld (pv 0) (pe_op op_add (pe_fld (pv 0) rfl) (pv 1)) rfl) (pss_one (ps_if (pt_val (pe_fld (pv 0) rfl)) (pss_one (ps_fld (pv 0) (pe_op op_add (pe_fld (pv 0) rfl) (pv 1)) rfl)) pss_nil)), ?_⟩
  refine ⟨_, rfl, a, C, dx, _, _, rfl, hm, T.cl, T.nGone, mF_gone m, _, rfl, _, _, rfl, rfl, _, rfl, a, C, dx, _, rfl, hm, T.cl, T.nGone, mF_few m, ?_⟩
  have e1 : putF "gone" (.int ((m.gone : Int) + (n : Int))) (mF m) = mF { m with gone := m.gone + n } := put_gone m (m.gone + n)
  rw [e1]
  refine ⟨_, rfl, a, C, dx, _, _, rfl, upd_same, T.cl, T.nStands, mF_stands _, _, rfl, ite_bool (fun c => ?_) fun c => ?_⟩
  · refine ⟨_, rfl, a, C, dx, _, _, rfl, upd_same, T.cl, T.nStood, mF_stood _, _, rfl, _, _, rfl, rfl, _, rfl, a, C, dx, _, rfl, upd_same, T.cl, T.nStood, mF_few _, ?_⟩
    refine k _ (At.set ((put_stood { m with gone := m.gone + n } (m.stood + n)).trans ?_)) (Rest.set.trans .set)
    have c' : m.stands = true := c
    simp only [goOn, c', if_true]
  · refine k _ (At.set ?_) Rest.set
    have c' : m.stands = false := c
    simp only [goOn, c', Bool.false_eq_true, if_false]
end
end Clk
/-! The defs of minutes. -/
namespace Clk
open PySem PySem.Spec PyProof.Rows L2
open Kmt2 (Clock)
abbrev sUp : Stmt := top 19
abbrev sWithin : Stmt := top 20
abbrev sMinWithin : Stmt := top 21
abbrev sLast : Stmt := top 22
abbrev sBeyond : Stmt := top 23
abbrev sMinutes : Stmt := top 24
def withinB (m : Clock) : V := .bl (decide ((m.gone : Int) < ((Kmt2.length m m.played : Nat) : Int)))
def minWithin (m : Clock) : V := .int (((m.gone : Int) + ((Kmt2.earlier m m.played : Nat) : Int)) / 60 + 1)
def lastMin (m : Clock) : V := .int ((((Kmt2.length m m.played : Nat) : Int) + ((Kmt2.earlier m m.played : Nat) : Int) + 60 - 1) / 60)
def minBeyond (m : Clock) : V := .int (((m.gone : Int) - ((Kmt2.length m m.played : Nat) : Int)) / 60 + 1)
def minutesOf (m : Clock) : List Int := [((Kmt2.minute m).1 : Int), ((Kmt2.minute m).2 : Int)]
theorem minutes_in {m : Clock} (h : m.gone < Kmt2.length m m.played) : minutesOf m = [((m.gone : Int) + ((Kmt2.earlier m m.played : Nat) : Int)) / 60 + 1, 0] := by
  have e : Kmt2.minute m = ((Kmt2.earlier m m.played + m.gone) / 60 + 1, 0) := if_pos h
  unfold minutesOf
  rw [e]
  show [(((Kmt2.earlier m m.played + m.gone) / 60 + 1 : Nat) : Int), ((0 : Nat) : Int)] = _
  congr 1
  omega
theorem minutes_out {m : Clock} (h : ¬ m.gone < Kmt2.length m m.played) : minutesOf m = [(((Kmt2.length m m.played : Nat) : Int) + ((Kmt2.earlier m m.played : Nat) : Int) + 60 - 1) / 60, ((m.gone : Int) - ((Kmt2.length m m.played : Nat) : Int)) / 60 + 1] := by
  have e : Kmt2.minute m = ((Kmt2.earlier m m.played + Kmt2.length m m.played + 59) / 60, (m.gone - Kmt2.length m m.played) / 60 + 1) := if_neg h
  unfold minutesOf
  rw [e]
  show [(((Kmt2.earlier m m.played + Kmt2.length m m.played + 59) / 60 : Nat) : Int), (((m.gone - Kmt2.length m m.played) / 60 + 1 : Nat) : Int)] = _
  congr 1
  · omega
  · congr 1
    omega
section
variable {P : Program} {w : World} {K : PySem.W.Frag} {mg : Str → Option Value} {base : Heap} {C : Addr}
theorem sc_up : FnScope ["seconds"] ["seconds"] (defScope sUp) := ⟨rfl, rfl, rfl, by decide +kernel, rfl, by decide +kernel, by decide +kernel⟩
theorem ok_up (D : DefAt K mg "rounded_up" sUp ["seconds"]) (T : Txt K mg C) : Has P w K mg base 1 "rounded_up" ["seconds"] spUp := by
  refine has_of D sc_up (fun vs H Q E h => ?_) (fun f cdv A outer s H vs Q E hr h => ?_)
  · obtain ⟨z, rfl, _⟩ := h
    rfl
  obtain ⟨z, rfl, k⟩ := h
  refine ⟨_, pss_one (ps_ret (pe_op op_fdiv (pe_op op_sub (pe_op op_add (pv 0) (pe_cn T.cMinute)) pe_int) (pe_cn T.cMinute))), ?_⟩
  exact ⟨_, rfl, _, _, rfl, rfl, _, _, rfl, rfl, _, _, rfl, rfl, ⟨by decide, by decide⟩, k⟩
theorem sc_within : FnScope ["match"] ["match"] (defScope sWithin) := ⟨rfl, rfl, rfl, by decide +kernel, rfl, by decide +kernel, by decide +kernel⟩
theorem ok_within (D : DefAt K mg "is_within" sWithin ["match"]) (T : Txt K mg C) (h1 : Has P w K mg base 2 "length_now" ["match"] (spRd C lenNow)) : Has P w K mg base 3 "is_within" ["match"] (spRd C withinB) := by
  refine has_of D sc_within len_rd (fun f cdv A outer s H vs Q E hr h => ?_)
  obtain ⟨a, m, rfl, hm, hp, k⟩ := h
  refine ⟨_, pss_one (ps_ret (pe_cmpR op_lt (pe_fld (pv 0) rfl) (pe_has h1 hr (pa_cons (pv 0) pa_nil)) (nomark _))), ?_⟩
  obtain ⟨dx, e⟩ := id hm
  exact ⟨_, rfl, a, C, dx, _, _, rfl, e, T.cl, T.nGone, mF_gone m, _, rfl, a, m, rfl, hm, hp, fun H1 s1 => ⟨_, _, rfl, rfl, k H1 s1⟩⟩
theorem sc_minWithin : FnScope ["match"] ["match"] (defScope sMinWithin) := ⟨rfl, rfl, rfl, by decide +kernel, rfl, by decide +kernel, by decide +kernel⟩
theorem ok_minWithin (D : DefAt K mg "minute_within" sMinWithin ["match"]) (T : Txt K mg C) (h1 : Has P w K mg base 2 "length_before" ["match"] (spRd C lenBefore)) : Has P w K mg base 3 "minute_within" ["match"] (spRd C minWithin) := by
  refine has_of D sc_minWithin len_rd (fun f cdv A outer s H vs Q E hr h => ?_)
  obtain ⟨a, m, rfl, hm, hp, k⟩ := h
  refine ⟨_, pss_one (ps_ret (pe_op op_add (pe_op op_fdiv (pe_op op_add (pe_fld (pv 0) rfl) (pe_has h1 hr (pa_cons (pv 0) pa_nil))) (pe_cn T.cMinute)) pe_int)), ?_⟩
  obtain ⟨dx, e⟩ := id hm
  exact ⟨_, rfl, a, C, dx, _, _, rfl, e, T.cl, T.nGone, mF_gone m, _, rfl, a, m, rfl, hm, hp, fun H1 s1 => ⟨_, _, rfl, rfl, _, _, rfl, rfl, ⟨by decide, by decide⟩, _, _, rfl, rfl, k H1 s1⟩⟩
theorem sc_last : FnScope ["match"] ["match"] (defScope sLast) := ⟨rfl, rfl, rfl, by decide +kernel, rfl, by decide +kernel, by decide +kernel⟩
theorem ok_last (D : DefAt K mg "last_minute" sLast ["match"]) (h0 : Has P w K mg base 1 "rounded_up" ["seconds"] spUp) (h1 : Has P w K mg base 2 "length_now" ["match"] (spRd C lenNow)) (h2 : Has P w K mg base 2 "length_before" ["match"] (spRd C lenBefore)) :
    Has P w K mg base 3 "last_minute" ["match"] (spRd C lastMin) := by
  refine has_of D sc_last len_rd (fun f cdv A outer s H vs Q E hr h => ?_)
  obtain ⟨a, m, rfl, hm, hp, k⟩ := h
  refine ⟨_, pss_one (ps_ret (pe_has h0 hr (pa_cons (pe_op op_add (pe_has h1 hr (pa_cons (pv 0) pa_nil)) (pe_has h2 hr (pa_cons (pv 0) pa_nil))) pa_nil))), ?_⟩
  exact ⟨_, rfl, a, m, rfl, hm, hp, fun H1 s1 => ⟨_, rfl, a, m, rfl, hm.same s1, hp, fun H2 s2 => ⟨_, _, rfl, rfl, _, rfl, k H2 (s1.trans s2)⟩⟩⟩
theorem sc_beyond : FnScope ["match"] ["match"] (defScope sBeyond) := ⟨rfl, rfl, rfl, by decide +kernel, rfl, by decide +kernel, by decide +kernel⟩
theorem ok_beyond (D : DefAt K mg "minute_beyond" sBeyond ["match"]) (T : Txt K mg C) (h1 : Has P w K mg base 2 "length_now" ["match"] (spRd C lenNow)) : Has P w K mg base 3 "minute_beyond" ["match"] (spRd C minBeyond) := by
  refine has_of D sc_beyond len_rd (fun f cdv A outer s H vs Q E hr h => ?_)
  obtain ⟨a, m, rfl, hm, hp, k⟩ := h
  refine ⟨_, pss_one (ps_ret (pe_op op_add (pe_op op_fdiv (pe_op op_sub (pe_fld (pv 0) rfl) (pe_has h1 hr (pa_cons (pv 0) pa_nil))) (pe_cn T.cMinute)) pe_int)), ?_⟩
  obtain ⟨dx, e⟩ := id hm
  exact ⟨_, rfl, a, C, dx, _, _, rfl, e, T.cl, T.nGone, mF_gone m, _, rfl, a, m, rfl, hm, hp, fun H1 s1 => ⟨_, _, rfl, rfl, _, _, rfl, rfl, ⟨by decide, by decide⟩, _, _, rfl, rfl, k H1 s1⟩⟩
theorem sc_minutes : FnScope ["match"] ["match"] (defScope sMinutes) := ⟨rfl, rfl, rfl, by decide +kernel, rfl, by decide +kernel, by decide +kernel⟩
theorem ok_minutes (D : DefAt K mg "minutes_of" sMinutes ["match"]) (h1 : Has P w K mg base 3 "is_within" ["match"] (spRd C withinB)) (h2 : Has P w K mg base 3 "minute_within" ["match"] (spRd C minWithin)) (h3 : Has P w K mg base 3 "last_minute" ["match"] (spRd C lastMin))
    (h4 : Has P w K mg base 3 "minute_beyond" ["match"] (spRd C minBeyond)) : Has P w K mg base 4 "minutes_of" ["match"] (spRdL C minutesOf) := by
  refine has_of D sc_minutes len_rdL (fun f cdv A outer s H vs Q E hr h => ?_)
  obtain ⟨a, m, rfl, hm, hp, k⟩ := h
  refine ⟨_, pss_cons (ps_if (pt_val (pe_has h1 hr (pa_cons (pv 0) pa_nil))) (pss_one (ps_ret (pe_lst (pa_cons (pe_has h2 hr (pa_cons (pv 0) pa_nil)) (pa_cons pe_int pa_nil))))) pss_nil)
    (pss_one (ps_ret (pe_lst (pa_cons (pe_has h3 hr (pa_cons (pv 0) pa_nil)) (pa_cons (pe_has h4 hr (pa_cons (pv 0) pa_nil)) pa_nil))))), ?_⟩
  refine ⟨_, rfl, a, m, rfl, hm, hp, fun H1 s1 => ⟨_, rfl, ite_dec (fun c => ?_) fun c => ?_⟩⟩
  · refine ⟨_, rfl, a, m, rfl, hm.same s1, hp, fun H2 s2 => ⟨(by show 2 ≤ sizeLine; decide), fun p np => ?_⟩⟩
    refine k _ p ((s1.trans s2).trans (Same.new np)) ((s1.trans s2).free np) ?_
    rw [minutes_in (by omega)]
    exact upd_same
  · refine ⟨_, rfl, a, m, rfl, hm.same s1, hp, fun H2 s2 => ⟨_, rfl, a, m, rfl, (hm.same s1).same s2, hp, fun H3 s3 => ⟨(by show 2 ≤ sizeLine; decide), fun p np => ?_⟩⟩⟩
    refine k _ p (((s1.trans s2).trans s3).trans (Same.new np)) (((s1.trans s2).trans s3).free np) ?_
    rw [minutes_out (by omega)]
    exact upd_same
end
end Clk
/-! The deeds. -/
namespace Clk
open PySem PySem.Spec PyProof.Rows L2
open Kmt2 (Clock)
abbrev sKick : Stmt := top 33
abbrev sTick : Stmt := top 34
abbrev sStop : Stmt := top 35
abbrev sWhistle : Stmt := top 36
abbrev sLeft : Stmt := top 37
abbrev sMinute : Stmt := top 38
theorem len_do {C : Addr} {g : Clock → Clock × List Int} : ∀ vs H Q E, spDo C [] g vs H Q E → vs.length = (["match"] : List Str).length := fun vs H Q E h => by
  obtain ⟨a, m, rfl, _⟩ := h
  rfl
theorem one_ok : (1 : Nat) ≤ sizeLine := by decide
/-- the record is as it was, a new list comes out -/
theorem out_of {C a : Addr} {H H1 : Hp} {m : Clock} {r : Clock × List Int} {Q : VK} {l : List Int} {xs : List V} {p : Addr} (k : ∀ H' p, At C H' a r.1 → Rest a H H' → H p = none → H' p = some (.lst (r.2.map V.int)) → Q (.ref p) H')
    (e : r = (m, l)) (hm : At C H a m) (s1 : Same H H1) (np : H1 p = none) (ex : xs = l.map V.int) : Q (.ref p) (upd H1 p (.lst xs)) := by
  have k' := k (upd H1 p (.lst xs)) p
  rw [e] at k'
  refine k' (hm.same (s1.trans (Same.new np))) (Rest.of (s1.trans (Same.new np))) (s1.free np) ?_
  rw [ex]
  exact upd_same
/-- the record is another -/
theorem out_to {C a : Addr} {H H1 : Hp} {m' : Clock} {r : Clock × List Int} {Q : VK} {l : List Int} {xs : List V} {p : Addr} (k : ∀ H' p, At C H' a r.1 → Rest a H H' → H p = none → H' p = some (.lst (r.2.map V.int)) → Q (.ref p) H')
    (e : r = (m', l)) (hm : At C H1 a m') (s1 : Rest a H H1) (np : H1 p = none) (ex : xs = l.map V.int) : Q (.ref p) (upd H1 p (.lst xs)) := by
  have k' := k (upd H1 p (.lst xs)) p
  rw [e] at k'
  refine k' (hm.same (Same.new np)) (s1.trans (Rest.of (Same.new np))) (s1.free hm np) ?_
  rw [ex]
  exact upd_same
section
variable {P : Program} {w : World} {K : PySem.W.Frag} {mg : Str → Option Value} {base : Heap} {C : Addr}
theorem sc_kick : FnScope ["match"] ["match"] (defScope sKick) := ⟨rfl, rfl, rfl, by decide +kernel, rfl, by decide +kernel, by decide +kernel⟩
theorem ok_kick_def (D : DefAt K mg "kick" sKick ["match"]) (T : Txt K mg C) (h1 : Has P w K mg base 1 "how_many" ["match"] (spRd C fun m => .int ((Kmt2.most m : Nat) : Int))) (h2 : Has P w K mg base 1 "begin" ["match"] (spWr C begunAnew))
    (h3 : Has P w K mg base 1 "running" ["match"] (spRd C fun m => .int ((m.played : Int) + 1))) : Has P w K mg base 2 "kick" ["match"] (spDo C [] dKick) := by
  refine has_of D sc_kick len_do (fun f cdv A outer s H vs Q E hr h => ?_)
  obtain ⟨a, m, rfl, hm, hp, k⟩ := h
  refine ⟨_, pss_cons (ps_if (pt_val (pe_fld (pv 0) rfl)) (pss_one (ps_ret (pe_lst (pa_cons (pe_cn T.cAlready) pa_nil)))) pss_nil)
    (pss_cons (ps_if (pt_cmpR op_ge (pe_fld (pv 0) rfl) (pe_has h1 hr (pa_cons (pv 0) pa_nil)) (nomark _)) (pss_one (ps_ret (pe_lst (pa_cons (pe_cn T.cNotNow) pa_nil)))) pss_nil)
    (pss_cons (ps_expr (pe_has h2 hr (pa_cons (pv 0) pa_nil))) (pss_one (ps_ret (pe_lst (pa_cons (pe_has h3 hr (pa_cons (pv 0) pa_nil)) pa_nil)))))), ?_⟩
  obtain ⟨dx, e⟩ := id hm
  refine ⟨_, rfl, a, C, dx, _, _, rfl, e, T.cl, T.nRuns, mF_runs m, _, rfl, ite_bool (fun c => ?_) fun c => ?_⟩
  · exact ⟨one_ok, fun p np => out_of k (if_pos c) hm (Same.refl H) np rfl⟩
  have c' : ¬ m.runs = true := by rw [c]; decide
  refine ⟨_, rfl, a, C, dx, _, _, rfl, e, T.cl, T.nPlayed, mF_played m, _, rfl, a, m, rfl, hm, hp, fun H1 s1 => ⟨_, _, rfl, rfl, _, rfl, ite_dec (fun c2 => ?_) fun c2 => ?_⟩⟩
  · exact ⟨one_ok, fun p np => out_of k ((if_neg c').trans (if_pos (by omega))) hm s1 np rfl⟩
  refine ⟨_, rfl, a, m, rfl, hm.same s1, fun H2 m2 r2 => ?_⟩
  refine ⟨_, rfl, a, begunAnew m, rfl, m2, hp, fun H3 s3 => ⟨one_ok, fun p np => ?_⟩⟩
  exact out_to k ((if_neg c').trans (if_neg (by omega))) (m2.same s3) (((Rest.of s1).trans r2).trans (Rest.of s3)) np rfl
theorem sc_tick : FnScope ["match", "seconds"] ["match", "seconds"] (defScope sTick) := ⟨rfl, rfl, rfl, by decide +kernel, rfl, by decide +kernel, by decide +kernel⟩
theorem ok_tick_def (D : DefAt K mg "tick" sTick ["match", "seconds"]) (T : Txt K mg C) (h1 : Has P w K mg base 1 "go_on" ["match", "seconds"] (spGoOn C)) : Has P w K mg base 2 "tick" ["match", "seconds"] (spTick C) := by
  refine has_of D sc_tick (fun vs H Q E h => ?_) (fun f cdv A outer s H vs Q E hr h => ?_)
  · obtain ⟨n, a, m, rfl, _⟩ := h
    rfl
  obtain ⟨n, a, m, rfl, hm, hp, k⟩ := h
  refine ⟨_, pss_cons (ps_if (PW.pt (pw_or (pt_cmpR op_lt (pv 1) pe_int (nomark _)) (pw_or1 (pt_cmpR op_gt (pv 1) (pe_cn T.cAtOnce) (nomark _))))) (pss_one (ps_ret (pe_lst (pa_cons (pe_cn T.cOutOfRange) pa_nil)))) pss_nil)
    (pss_cons (ps_if (pt_not (pt_val (pe_fld (pv 0) rfl))) (pss_one (ps_ret (pe_lst (pa_cons pe_int pa_nil)))) pss_nil)
    (pss_cons (ps_if (pt_cmpR op_gt (pe_op op_add (pe_fld (pv 0) rfl) (pv 1)) (pe_cn T.cMostGone) (nomark _)) (pss_one (ps_ret (pe_lst (pa_cons (pe_cn T.cTooMuch) pa_nil)))) pss_nil)
    (pss_cons (ps_expr (pe_has h1 hr (pa_cons (pv 0) (pa_cons (pv 1) pa_nil)))) (pss_one (ps_ret (pe_lst (pa_cons (pe_fld (pv 0) rfl) pa_nil))))))), ?_⟩
  obtain ⟨dx, e⟩ := id hm
  refine ⟨_, rfl, _, _, rfl, rfl, _, rfl, ite_dec (fun c1 => iteT ?_) fun c1 => ?_⟩
  · exact ⟨one_ok, fun p np => out_of k (if_pos (.inl (by omega))) hm (Same.refl H) np rfl⟩
  refine ⟨_, rfl, _, _, rfl, rfl, _, rfl, ite_dec (fun c2 => ?_) fun c2 => ?_⟩
  · exact ⟨one_ok, fun p np => out_of k (if_pos (.inr (by omega))) hm (Same.refl H) np rfl⟩
  have c12 : ¬ (n < 1 ∨ 3600 < n) := by omega
  refine ⟨_, rfl, a, C, dx, _, _, rfl, e, T.cl, T.nRuns, mF_runs m, _, rfl, ite_nob (fun c3 => ?_) fun c3 => ?_⟩
  · exact ⟨one_ok, fun p np => out_of k ((if_neg c12).trans (if_pos c3)) hm (Same.refl H) np rfl⟩
  have c3' : ¬ m.runs = false := by rw [c3]; decide
  refine ⟨_, rfl, a, C, dx, _, _, rfl, e, T.cl, T.nGone, mF_gone m, _, rfl, _, _, rfl, rfl, _, _, rfl, rfl, _, rfl, ite_dec (fun c4 => ?_) fun c4 => ?_⟩
  · exact ⟨one_ok, fun p np => out_of k ((if_neg c12).trans ((if_neg c3').trans (if_pos (by omega)))) hm (Same.refl H) np rfl⟩
  refine ⟨_, rfl, _, rfl, a, m, n, rfl, hm, fun H2 m2 r2 => ?_⟩
  obtain ⟨dx2, e2⟩ := id m2
  refine ⟨_, rfl, a, C, dx2, _, _, rfl, e2, T.cl, T.nGone, mF_gone _, one_ok, fun p np => ?_⟩
  exact out_to k ((if_neg c12).trans ((if_neg c3').trans (if_neg (by omega)))) m2 r2 np rfl
theorem sc_stop : FnScope ["match", "wanted"] ["match", "wanted"] (defScope sStop) := ⟨rfl, rfl, rfl, by decide +kernel, rfl, by decide +kernel, by decide +kernel⟩
theorem eq_one (n : Nat) : decide (V.int (n : Int) = V.int 1) = (n == 1) := by
  rw [Bool.eq_iff_iff, decide_eq_true_eq, beq_iff_eq]
  constructor
  · intro h
    have := V.int.inj h
    omega
  · intro h
    rw [h]
    rfl
theorem ok_stop_def (D : DefAt K mg "stop" sStop ["match", "wanted"]) (T : Txt K mg C) : Has P w K mg base 1 "stop" ["match", "wanted"] (spStop C) := by
  refine has_of D sc_stop (fun vs H Q E h => ?_) (fun f cdv A outer s H vs Q E hr h => ?_)
  · obtain ⟨n, a, m, rfl, _⟩ := h
    rfl
  obtain ⟨n, a, m, rfl, hm, hp, k⟩ := h
  refine ⟨_, pss_cons (ps_if (pt_cmpR op_gt (pv 1) pe_int (nomark _)) (pss_one (ps_ret (pe_lst (pa_cons (pe_cn T.cOutOfRange) pa_nil)))) pss_nil)
    (pss_cons (ps_if (pt_not (pt_val (pe_fld (pv 0) rfl))) (pss_one (ps_ret (pe_lst (pa_cons (pe_cn T.cNotNow) pa_nil)))) pss_nil)
    (pss_cons (ps_if (pt_cmpR op_eq (pe_fld (pv 0) rfl) (pe_cmpR op_eq (pv 1) pe_int (nomark _)) (nomark _)) (pss_one (ps_ret (pe_lst (pa_cons (pe_cn T.cAlready) pa_nil)))) pss_nil)
    (pss_cons (ps_fld (pv 0) (pe_cmpR op_eq (pv 1) pe_int (nomark _)) rfl) (pss_one (ps_ret (pe_lst (pa_cons pe_int pa_nil))))))), ?_⟩
  obtain ⟨dx, e⟩ := id hm
  refine ⟨_, rfl, _, _, rfl, rfl, _, rfl, ite_dec (fun c1 => ?_) fun c1 => ?_⟩
  · exact ⟨one_ok, fun p np => out_of k (if_pos (by omega)) hm (Same.refl H) np rfl⟩
  have c1' : ¬ 1 < n := by omega
  refine ⟨_, rfl, a, C, dx, _, _, rfl, e, T.cl, T.nRuns, mF_runs m, _, rfl, ite_nob (fun c3 => ?_) fun c3 => ?_⟩
  · exact ⟨one_ok, fun p np => out_of k ((if_neg c1').trans (if_pos c3)) hm (Same.refl H) np rfl⟩
  have c3' : ¬ m.runs = false := by rw [c3]; decide
  refine ⟨_, rfl, a, C, dx, _, _, rfl, e, T.cl, T.nStands, mF_stands m, _, rfl, rfl, rfl, _, rfl, ite_dec (fun c4 => ?_) fun c4 => ?_⟩
  · rw [eq_one] at c4
    exact ⟨one_ok, fun p np => out_of k ((if_neg c1').trans ((if_neg c3').trans (if_pos (V.bl.inj c4)))) hm (Same.refl H) np rfl⟩
  have c4' : ¬ m.stands = (n == 1) := fun z => c4 (by rw [eq_one, z])
  refine ⟨_, rfl, rfl, _, rfl, a, C, dx, _, rfl, e, T.cl, T.nStands, mF_few m, ?_⟩
  rw [eq_one, put_stands]
  refine ⟨one_ok, fun p np => ?_⟩
  exact out_to k ((if_neg c1').trans ((if_neg c3').trans (if_neg c4'))) (At.set rfl) Rest.set np rfl
theorem sc_whistle : FnScope ["match"] ["match"] (defScope sWhistle) := ⟨rfl, rfl, rfl, by decide +kernel, rfl, by decide +kernel, by decide +kernel⟩
theorem ok_whistle_def (D : DefAt K mg "whistle" sWhistle ["match"]) (T : Txt K mg C) (h1 : Has P w K mg base 3 "due" ["match"] (spRd C dueOf)) (h2 : Has P w K mg base 1 "end" ["match"] (spWr C ended)) : Has P w K mg base 4 "whistle" ["match"] (spDo C [] dWhistle) := by
  refine has_of D sc_whistle len_do (fun f cdv A outer s H vs Q E hr h => ?_)
  obtain ⟨a, m, rfl, hm, hp, k⟩ := h
  refine ⟨_, pss_cons (ps_if (pt_not (pt_val (pe_fld (pv 0) rfl))) (pss_one (ps_ret (pe_lst (pa_cons (pe_cn T.cNotNow) pa_nil)))) pss_nil)
    (pss_cons (ps_if (pt_cmpR op_lt (pe_fld (pv 0) rfl) (pe_has h1 hr (pa_cons (pv 0) pa_nil)) (nomark _)) (pss_one (ps_ret (pe_lst (pa_cons (pe_cn T.cTooEarly) pa_nil)))) pss_nil)
    (pss_cons (ps_expr (pe_has h2 hr (pa_cons (pv 0) pa_nil))) (pss_one (ps_ret (pe_lst (pa_cons (pe_fld (pv 0) rfl) pa_nil)))))), ?_⟩
  obtain ⟨dx, e⟩ := id hm
  refine ⟨_, rfl, a, C, dx, _, _, rfl, e, T.cl, T.nRuns, mF_runs m, _, rfl, ite_nob (fun c3 => ?_) fun c3 => ?_⟩
  · exact ⟨one_ok, fun p np => out_of k (if_pos c3) hm (Same.refl H) np rfl⟩
  have c3' : ¬ m.runs = false := by rw [c3]; decide
  refine ⟨_, rfl, a, C, dx, _, _, rfl, e, T.cl, T.nGone, mF_gone m, _, rfl, a, m, rfl, hm, hp, fun H1 s1 => ⟨_, _, rfl, rfl, _, rfl, ite_dec (fun c2 => ?_) fun c2 => ?_⟩⟩
  · exact ⟨one_ok, fun p np => out_of k ((if_neg c3').trans (if_pos (by omega))) hm s1 np rfl⟩
  refine ⟨_, rfl, a, m, rfl, hm.same s1, fun H2 m2 r2 => ?_⟩
  obtain ⟨dx2, e2⟩ := id m2
  refine ⟨_, rfl, a, C, dx2, _, _, rfl, e2, T.cl, T.nPlayed, mF_played _, one_ok, fun p np => ?_⟩
  exact out_to k ((if_neg c3').trans (if_neg (by omega))) m2 ((Rest.of s1).trans r2) np rfl
theorem sc_left : FnScope ["match"] ["match"] (defScope sLeft) := ⟨rfl, rfl, rfl, by decide +kernel, rfl, by decide +kernel, by decide +kernel⟩
theorem ok_left_def (D : DefAt K mg "left" sLeft ["match"]) (T : Txt K mg C) (h1 : Has P w K mg base 3 "due" ["match"] (spRd C dueOf)) : Has P w K mg base 4 "left" ["match"] (spDo C [] dLeft) := by
  refine has_of D sc_left len_do (fun f cdv A outer s H vs Q E hr h => ?_)
  obtain ⟨a, m, rfl, hm, hp, k⟩ := h
  refine ⟨_, pss_cons (ps_if (pt_not (pt_val (pe_fld (pv 0) rfl))) (pss_one (ps_ret (pe_lst (pa_cons (pe_cn T.cNotNow) pa_nil)))) pss_nil)
    (pss_one (ps_ret (pe_lst (pa_cons (pe_callTy call_int1 (by rfl) T.bInt (by decide +kernel) (pa_cons (pe_cmpR op_ge (pe_fld (pv 0) rfl) (pe_has h1 hr (pa_cons (pv 0) pa_nil)) (nomark _)) pa_nil))
      (pa_cons (pe_op op_sub (pe_has h1 hr (pa_cons (pv 0) pa_nil)) (pe_fld (pv 0) rfl)) pa_nil))))), ?_⟩
  obtain ⟨dx, e⟩ := id hm
  refine ⟨_, rfl, a, C, dx, _, _, rfl, e, T.cl, T.nRuns, mF_runs m, _, rfl, ite_nob (fun c3 => ?_) fun c3 => ?_⟩
  · exact ⟨one_ok, fun p np => out_of k (if_pos c3) hm (Same.refl H) np rfl⟩
  have c3' : ¬ m.runs = false := by rw [c3]; decide
  refine ⟨_, rfl, a, C, dx, _, _, rfl, e, T.cl, T.nGone, mF_gone m, _, rfl, a, m, rfl, hm, hp, fun H1 s1 => ⟨_, _, rfl, rfl, .inr ⟨_, rfl, ?_⟩⟩⟩
  refine ⟨_, rfl, a, m, rfl, hm.same s1, hp, fun H2 s2 => ?_⟩
  obtain ⟨dx2, e2⟩ := (hm.same s1).same s2
  refine ⟨_, rfl, a, C, dx2, _, _, rfl, e2, T.cl, T.nGone, mF_gone _, _, _, rfl, rfl, (by show 2 ≤ sizeLine; decide), fun p np => ?_⟩
  refine out_of k (if_neg c3') hm (s1.trans s2) np ?_
  have e3 : (if decide (((Kmt2.length m m.played + m.stood : Nat) : Int) ≤ (m.gone : Int)) = true then (1 : Int) else 0) = if Kmt2.length m m.played + m.stood ≤ m.gone then 1 else 0 := by
    by_cases q : Kmt2.length m m.played + m.stood ≤ m.gone
    · have q' : ((Kmt2.length m m.played + m.stood : Nat) : Int) ≤ (m.gone : Int) := by omega
      rw [decide_eq_true q', if_pos rfl, if_pos q]
    · have q' : ¬ ((Kmt2.length m m.played + m.stood : Nat) : Int) ≤ (m.gone : Int) := by omega
      rw [decide_eq_false q', if_neg Bool.false_ne_true, if_neg q]
  rw [← e3]
  rfl
theorem sc_minute : FnScope ["match"] ["match"] (defScope sMinute) := ⟨rfl, rfl, rfl, by decide +kernel, rfl, by decide +kernel, by decide +kernel⟩
theorem ok_minute_def (D : DefAt K mg "minute" sMinute ["match"]) (T : Txt K mg C) (h1 : Has P w K mg base 4 "minutes_of" ["match"] (spRdL C minutesOf)) : Has P w K mg base 5 "minute" ["match"] (spDo C [] dMinute) := by
  refine has_of D sc_minute len_do (fun f cdv A outer s H vs Q E hr h => ?_)
  obtain ⟨a, m, rfl, hm, hp, k⟩ := h
  refine ⟨_, pss_cons (ps_if (pt_not (pt_val (pe_fld (pv 0) rfl))) (pss_one (ps_ret (pe_lst (pa_cons (pe_cn T.cNotNow) pa_nil)))) pss_nil)
    (pss_one (ps_ret (pe_op op_cat (pe_lst (pa_cons pe_int pa_nil)) (pe_has h1 hr (pa_cons (pv 0) pa_nil))))), ?_⟩
  obtain ⟨dx, e⟩ := id hm
  refine ⟨_, rfl, a, C, dx, _, _, rfl, e, T.cl, T.nRuns, mF_runs m, _, rfl, ite_nob (fun c3 => ?_) fun c3 => ?_⟩
  · exact ⟨one_ok, fun p np => out_of k (if_pos c3) hm (Same.refl H) np rfl⟩
  have c3' : ¬ m.runs = false := by rw [c3]; decide
  refine ⟨one_ok, fun l nl => ?_⟩
  refine ⟨_, rfl, a, m, rfl, hm.same (Same.new nl), hp, fun H1 b s1 nb hb => ?_⟩
  refine ⟨l, b, _, _, rfl, rfl, s1 _ _ upd_same, hb, (by show 1 + 2 ≤ sizeLine; decide), fun p np => ?_⟩
  exact out_of k (if_neg c3') hm ((Same.new nl).trans s1) np rfl
end
end Clk
/-! What a call but start is answered. -/
namespace Clk
open PySem PySem.Spec PyProof.Rows L2
open Kmt2 (Clock)
abbrev sAnswered : Stmt := top 47
abbrev sAns : Stmt := top 48
theorem row_first (c : Kmt2.Call) : atI ((rowOf c).map V.int) 0 = some (.int ((placeOf c : Nat) : Int)) := by
  cases c <;> exact atI_nat (j := 0) rfl
theorem kick_of {c : Kmt2.Call} (h : placeOf c = 1) : c = .kick := by
  cases c <;> first | rfl | exact absurd h (by simp [placeOf])
theorem tick_of {c : Kmt2.Call} (h : placeOf c = 2) : ∃ n, c = .tick n := by
  cases c <;> first | exact ⟨_, rfl⟩ | exact absurd h (by simp [placeOf])
theorem stop_of {c : Kmt2.Call} (h : placeOf c = 3) : ∃ n, c = .halt_ n := by
  cases c <;> first | exact ⟨_, rfl⟩ | exact absurd h (by simp [placeOf])
theorem whistle_of {c : Kmt2.Call} (h : placeOf c = 4) : c = .whistle := by
  cases c <;> first | rfl | exact absurd h (by simp [placeOf])
theorem left_of {c : Kmt2.Call} (h : placeOf c = 5) : c = .left := by
  cases c <;> first | rfl | exact absurd h (by simp [placeOf])
theorem minute_of {c : Kmt2.Call} (h0 : moreOf c ≠ 2) (h1 : placeOf c ≠ 1) (h2 : placeOf c ≠ 2) (h3 : placeOf c ≠ 3) (h4 : placeOf c ≠ 4) (h5 : placeOf c ≠ 5) : c = .minute := by
  cases c <;> first | rfl | exact absurd rfl h0 | exact absurd rfl h1 | exact absurd rfl h2 | exact absurd rfl h3 | exact absurd rfl h4 | exact absurd rfl h5
theorem int_eq {n : Nat} {k : Nat} (h : V.int (n : Int) = V.int (k : Int)) : n = k := by
  have := V.int.inj h
  omega
section
variable {P : Program} {w : World} {K : PySem.W.Frag} {mg : Str → Option Value} {base : Heap} {C : Addr}
theorem sc_answered : FnScope ["match", "row"] ["match", "row"] (defScope sAnswered) := ⟨rfl, rfl, rfl, by decide +kernel, rfl, by decide +kernel, by decide +kernel⟩
theorem ok_answered (D : DefAt K mg "answered" sAnswered ["match", "row"]) (T : Txt K mg C) (h1 : Has P w K mg base 2 "kick" ["match"] (spDo C [] dKick)) (h2 : Has P w K mg base 2 "tick" ["match", "seconds"] (spTick C)) (h3 : Has P w K mg base 1 "stop" ["match", "wanted"] (spStop C))
    (h4 : Has P w K mg base 4 "whistle" ["match"] (spDo C [] dWhistle)) (h5 : Has P w K mg base 4 "left" ["match"] (spDo C [] dLeft)) (h6 : Has P w K mg base 5 "minute" ["match"] (spDo C [] dMinute)) : Has P w K mg base 6 "answered" ["match", "row"] (spAnswered C) := by
  refine has_of D sc_answered (fun vs H Q E h => ?_) (fun f cdv A outer s H vs Q E hr h => ?_)
  · obtain ⟨b, c, _, _, a, m, rfl, _⟩ := h
    rfl
  obtain ⟨b, c, hc, hb, a, m, rfl, hm, hp, k⟩ := h
  refine ⟨_, pss_cons (ps_if (pt_cmpR op_eq (pe_ix ix_list (pv 1) pe_int (fun _ _ => rfl)) (pe_cn T.cKick) (nomark _)) (pss_one (ps_ret (pe_has h1 hr (pa_cons (pv 0) pa_nil)))) pss_nil)
    (pss_cons (ps_if (pt_cmpR op_eq (pe_ix ix_list (pv 1) pe_int (fun _ _ => rfl)) (pe_cn T.cTick) (nomark _)) (pss_one (ps_ret (pe_has h2 hr (pa_cons (pv 0) (pa_cons (pe_ix ix_list (pv 1) pe_int (fun _ _ => rfl)) pa_nil))))) pss_nil)
    (pss_cons (ps_if (pt_cmpR op_eq (pe_ix ix_list (pv 1) pe_int (fun _ _ => rfl)) (pe_cn T.cStop) (nomark _)) (pss_one (ps_ret (pe_has h3 hr (pa_cons (pv 0) (pa_cons (pe_ix ix_list (pv 1) pe_int (fun _ _ => rfl)) pa_nil))))) pss_nil)
    (pss_cons (ps_if (pt_cmpR op_eq (pe_ix ix_list (pv 1) pe_int (fun _ _ => rfl)) (pe_cn T.cWhistle) (nomark _)) (pss_one (ps_ret (pe_has h4 hr (pa_cons (pv 0) pa_nil)))) pss_nil)
    (pss_cons (ps_if (pt_cmpR op_eq (pe_ix ix_list (pv 1) pe_int (fun _ _ => rfl)) (pe_cn T.cLeft) (nomark _)) (pss_one (ps_ret (pe_has h5 hr (pa_cons (pv 0) pa_nil)))) pss_nil)
    (pss_one (ps_ret (pe_has h6 hr (pa_cons (pv 0) pa_nil)))))))), ?_⟩
  have r0 := row_first c
  refine ⟨_, rfl, b, _, 0, _, rfl, rfl, SqL.of hb, r0, rfl, _, rfl, ite_dec (fun c1 => ?_) fun c1 => ?_⟩
  · obtain rfl := kick_of (int_eq (k := 1) c1)
    exact ⟨_, rfl, a, m, rfl, hm, hp, k⟩
  refine ⟨_, rfl, b, _, 0, _, rfl, rfl, SqL.of hb, r0, rfl, _, rfl, ite_dec (fun c2 => ?_) fun c2 => ?_⟩
  · obtain ⟨n, rfl⟩ := tick_of (int_eq (k := 2) c2)
    exact ⟨_, rfl, _, rfl, b, _, 1, _, rfl, rfl, SqL.of hb, atI_nat (j := 1) rfl, n, a, m, rfl, hm, hp, k⟩
  refine ⟨_, rfl, b, _, 0, _, rfl, rfl, SqL.of hb, r0, rfl, _, rfl, ite_dec (fun c3 => ?_) fun c3 => ?_⟩
  · obtain ⟨n, rfl⟩ := stop_of (int_eq (k := 3) c3)
    exact ⟨_, rfl, _, rfl, b, _, 1, _, rfl, rfl, SqL.of hb, atI_nat (j := 1) rfl, n, a, m, rfl, hm, hp, k⟩
  refine ⟨_, rfl, b, _, 0, _, rfl, rfl, SqL.of hb, r0, rfl, _, rfl, ite_dec (fun c4 => ?_) fun c4 => ?_⟩
  · obtain rfl := whistle_of (int_eq (k := 4) c4)
    exact ⟨_, rfl, a, m, rfl, hm, hp, k⟩
  refine ⟨_, rfl, b, _, 0, _, rfl, rfl, SqL.of hb, r0, rfl, _, rfl, ite_dec (fun c5 => ?_) fun c5 => ?_⟩
  · obtain rfl := left_of (int_eq (k := 5) c5)
    exact ⟨_, rfl, a, m, rfl, hm, hp, k⟩
  obtain rfl := minute_of hc (fun z => c1 (by rw [z]; rfl)) (fun z => c2 (by rw [z]; rfl)) (fun z => c3 (by rw [z]; rfl)) (fun z => c4 (by rw [z]; rfl)) (fun z => c5 (by rw [z]; rfl))
  exact ⟨_, rfl, a, m, rfl, hm, hp, k⟩
end
end Clk
/-! The loop over the calls. -/
namespace Clk
open PySem PySem.Spec PyProof.Rows L2
open Kmt2 (Clock)
/-! ### places in the list of calls -/
theorem cut_row {pre row post : List V} {lo hi : Int} (h1 : lo = (pre.length : Int)) (h2 : hi = ((pre.length + row.length : Nat) : Int)) : cutV (pre ++ (row ++ post)) (some lo) (some hi) = row := by
  unfold cutV
  rw [h1, h2, HT.sIx_nat, HT.sIx_nat]
  have l1 : min pre.length (pre ++ (row ++ post)).length = pre.length := by
    rw [List.length_append]
    omega
  have l2 : min (pre.length + row.length) (pre ++ (row ++ post)).length = pre.length + row.length := by
    rw [List.length_append, List.length_append]
    omega
  rw [l1, l2, List.drop_left, Nat.add_sub_cancel_left, List.take_left]
theorem num_at (c : Kmt2.Call) : atI (([2, 0, 1, 1, 0, 0, 0] : List Int).map V.int) ((placeOf c : Nat) : Int) = some (.int ((moreOf c : Nat) : Int)) := by
  cases c
  · exact atI_nat (j := 0) rfl
  · exact atI_nat (j := 1) rfl
  · exact atI_nat (j := 2) rfl
  · exact atI_nat (j := 3) rfl
  · exact atI_nat (j := 4) rfl
  · exact atI_nat (j := 5) rfl
  · exact atI_nat (j := 6) rfl
theorem call_at {pre post : List V} (c : Kmt2.Call) {z : Int} (h : z = (pre.length : Int)) : atI (pre ++ ((rowOf c).map V.int ++ post)) z = some (.int ((placeOf c : Nat) : Int)) := by
  rw [h]
  refine atI_nat ?_
  rw [List.getElem?_append_right (Nat.le_refl _), Nat.sub_self]
  cases c <;> rfl
theorem start_of {c : Kmt2.Call} (h : placeOf c = 0) : ∃ a b, c = .start a b := by
  cases c <;> first | exact ⟨_, _, rfl⟩ | exact absurd h (by simp [placeOf])
theorem place_more {c : Kmt2.Call} (h : placeOf c ≠ 0) : moreOf c ≠ 2 := by
  cases c <;> first | exact absurd rfl h | simp [moreOf]
theorem turn_deed {c : Kmt2.Call} (h : moreOf c ≠ 2) (m : Clock) : turn (some m) c = (some (deed m c).1, (deed m c).2) := by
  cases c <;> first | exact absurd rfl h | rfl
theorem turn_none {c : Kmt2.Call} (h : moreOf c ≠ 2) : turn none c = (none, []) := by
  cases c <;> first | exact absurd rfl h | rfl
theorem flat_more (cs : List Kmt2.Call) (c : Kmt2.Call) : (cs ++ [c]).flatMap rowOf = cs.flatMap rowOf ++ rowOf c := by
  rw [List.flatMap_append, List.flatMap_cons, List.flatMap_nil, List.append_nil]

/-! ### the heap between two turns -/
/-- what the name match holds -/
def Mt (C : Addr) (H0 H : Hp) (s : Option Clock) (v : V) : Prop := match s with
  | none => v = .non
  | some m => Ok m ∧ ∃ x, v = .ref x ∧ H0 x = none ∧ At C H x m
theorem same_rest {H0 H H' : Hp} {x : Addr} (s : Same H0 H) (r : Rest x H H') (n : H0 x = none) : Same H0 H' := fun b o e => r b o (s b o e) (ne_of_none e n)
theorem same_upd {H0 H : Hp} {x : Addr} {o : HO} (s : Same H0 H) (n : H0 x = none) : Same H0 (upd H x o) := same_rest s Rest.set n
theorem Mt.upd {C : Addr} {H0 H : Hp} {s : Option Clock} {v : V} {f : Addr} {xs ys : List V} (h : Mt C H0 H s v) (hf : H f = some (.lst xs)) : Mt C H0 (L2.upd H f (.lst ys)) s v := by
  cases s with
  | none => exact h
  | some m =>
    obtain ⟨o, x, e, n, dx, hx⟩ := h
    refine ⟨o, x, e, n, dx, ?_⟩
    rw [upd_ne (ne_of hx hf (by intro z; cases z))]
    exact hx
theorem Mt.same {C : Addr} {H0 H H' : Hp} {s : Option Clock} {v : V} (h : Mt C H0 H s v) (q : Same H H') : Mt C H0 H' s v := by
  cases s with
  | none => exact h
  | some m =>
    obtain ⟨o, x, e, n, hx⟩ := h
    exact ⟨o, x, e, n, hx.same q⟩
/-- the loop's word -/
structure Word (C : Addr) (H0 : Hp) (a fo : Addr) (cs : List Kmt2.Call) (cs1 cs2 : List Kmt2.Call) (s : Option Clock) (out : List Int) (v : V) (H : Hp) : Prop where
  all : cs = cs1 ++ cs2
  same : Same H0 H
  found : H fo = some (.lst (out.map V.int))
  mt : Mt C H0 H s v
  eq : out ++ go s cs2 = go none cs
  ok : okRun s cs2
/-- the word behind a turn: the answer ans stands in out, the state is the mirror's -/
theorem Word.next {C : Addr} {H0 H H' : Hp} {a fo : Addr} {cs cs1 cs2 : List Kmt2.Call} {c : Kmt2.Call} {s : Option Clock} {out : List Int} {v v' : V} (W : Word C H0 a fo cs cs1 (c :: cs2) s out v H)
    (same : Same H0 H') (found : H' fo = some (.lst ((out ++ (((turn s c).2.length : Nat) : Int) :: (turn s c).2).map V.int))) (mt : Mt C H0 H' (turn s c).1 v') :
    Word C H0 a fo cs (cs1 ++ [c]) cs2 (turn s c).1 (out ++ (((turn s c).2.length : Nat) : Int) :: (turn s c).2) v' H' := by
  refine ⟨?_, same, found, mt, ?_, W.ok.2⟩
  · rw [W.all, List.append_assoc]
    rfl
  · rw [← W.eq, List.append_assoc]
    rfl
theorem Word.size {C : Addr} {H0 H : Hp} {a fo : Addr} {cs cs1 cs2 : List Kmt2.Call} {c : Kmt2.Call} {s : Option Clock} {out : List Int} {v : V} (W : Word C H0 a fo cs cs1 (c :: cs2) s out v H) (h : (go none cs).length ≤ 10000000) :
    out.length + 1 + (turn s c).2.length ≤ sizeLine := by
  have e := congrArg List.length W.eq
  have q : (go s (c :: cs2)).length = (turn s c).2.length + (go (turn s c).1 cs2).length + 1 := by
    show ((((turn s c).2.length : Nat) : Int) :: ((turn s c).2 ++ go (turn s c).1 cs2)).length = _
    rw [List.length_cons, List.length_append]
  rw [List.length_append, q] at e
  have z : (10000000 : Nat) ≤ sizeLine := by decide
  omega

/-! ### the end of a turn: found.append(len(answer)); found.extend(answer); at = at + len(row) (slots: calls, match, found, at, row, answer) -/
def rLen (K : PySem.W.Frag) : List V → Hp → VK → Prop := fun xs H Q => ∃ p ys, xs = [.ref p] ∧ (SqL K H p ys ∨ SqT K H p ys) ∧ Q (.int ys.length) H
def t_tail (K : PySem.W.Frag) : TS := tSeq (tDrop (tBM K "list" rAppend (tVar 2) (tCons (tCB (rLen K) (tCons (tVar 5) tNil)) tNil)))
  (tSeq (tDrop (tBM K "list" rExtend (tVar 2) (tCons (tVar 5) tNil))) (tAsg (tOp (rI0 fun i j => .int (i + j)) (tVar 3) (tCB (rLen K) (tCons (tVar 4) tNil))) (gName 3)))
theorem pure_tail {K : PySem.W.Frag} {D : Ends} {H : Hp} {ca fo ro an : Addr} {v : Option V} {z : Int} {out ans : List Int} {row : List V} (hf : H fo = some (.lst (out.map V.int))) (ha : H an = some (.lst (ans.map V.int))) (hr : H ro = some (.lst row)) (n1 : an ≠ fo) (n2 : ro ≠ fo)
    (hsz : out.length + 1 + ans.length ≤ sizeLine)
    (h : D.nx [some (.ref ca), v, some (.ref fo), some (.int (z + ((row.length : Nat) : Int))), some (.ref ro), some (.ref an)] (upd (upd H fo (.lst ((out ++ [((ans.length : Nat) : Int)]).map V.int))) fo (.lst ((out ++ ((ans.length : Nat) : Int) :: ans).map V.int)))) :
    t_tail K D [some (.ref ca), v, some (.ref fo), some (.int z), some (.ref ro), some (.ref an)] H := by
  have hl : (ans.map V.int).length = ans.length := List.length_map ..
  refine ⟨_, rfl, .inl ⟨rfl, _, SqL.of hf⟩, _, rfl, an, _, rfl, .inl (SqL.of ha), fo, _, _, rfl, rfl, hf, ?_, ?_⟩
  · rw [List.length_map]
    omega
  have e1 : out.map V.int ++ [V.int (((ans.map V.int).length : Nat) : Int)] = (out ++ [((ans.length : Nat) : Int)]).map V.int := by
    rw [List.map_append, hl]
    rfl
  rw [e1]
  refine ⟨_, rfl, .inl ⟨rfl, _, SqL.of upd_same⟩, _, rfl, fo, an, _, _, rfl, rfl, upd_same, (upd_ne n1).trans ha, ?_, ?_⟩
  · rw [List.length_map, List.length_map, List.length_append]
    show out.length + 1 + ans.length ≤ sizeLine
    exact hsz
  have e2 : (out ++ [((ans.length : Nat) : Int)]).map V.int ++ ans.map V.int = (out ++ ((ans.length : Nat) : Int) :: ans).map V.int := by
    rw [← List.map_append, List.append_assoc]
    rfl
  rw [e2]
  exact ⟨_, rfl, _, rfl, ro, row, rfl, .inl (SqL.of ((upd_ne n2).trans ((upd_ne n2).trans hr))), _, _, rfl, rfl, h⟩
end Clk
namespace Clk
open PySem PySem.Spec PyProof.Rows L2
open Kmt2 (Clock)
/-- a turn's end, from the answer's list on: the word of the next turn -/
theorem turn_end {C : Addr} {K : PySem.W.Frag} {H0 H H' : Hp} {a fo ro an : Addr} {cs cs1 cs2 : List Kmt2.Call} {c : Kmt2.Call} {s : Option Clock} {out ans : List Int} {v v' : V} {D : Ends} (W : Word C H0 a fo cs cs1 (c :: cs2) s out v H) (hsz : (go none cs).length ≤ 10000000) (nf : H0 fo = none)
    (ea : (turn s c).2 = ans) (same : Same H0 H') (found : H' fo = some (.lst (out.map V.int))) (mt : Mt C H0 H' (turn s c).1 v') (ha : H' an = some (.lst (ans.map V.int))) (hr : H' ro = some (.lst ((rowOf c).map V.int))) (n1 : an ≠ fo) (n2 : ro ≠ fo)
    (hD : ∀ σ' H'', (∃ (d1 d2 : List Kmt2.Call) (s' : Option Clock) (out' : List Int) (v' : V) (r1 r2 : Option V), d2.length < (c :: cs2).length ∧ σ' = [some (.ref a), some v', some (.ref fo), some (.int (((d1.flatMap rowOf).length : Nat) : Int)), r1, r2] ∧ Word C H0 a fo cs d1 d2 s' out' v' H'') → D.nx σ' H'') :
    t_tail K D [some (.ref a), some v', some (.ref fo), some (.int (((cs1.flatMap rowOf).length : Nat) : Int)), some (.ref ro), some (.ref an)] H' := by
  have z := W.size hsz
  rw [ea] at z
  refine pure_tail found ha hr n1 n2 z (hD _ _ ⟨cs1 ++ [c], cs2, (turn s c).1, _, v', some (.ref ro), some (.ref an), Nat.lt_succ_self _, ?_, W.next ?_ ?_ ?_⟩)
  · rw [flat_more, List.length_append, List.length_map]
    rfl
  · exact same_upd (same_upd same nf) nf
  · rw [ea]
    exact upd_same
  · exact (mt.upd found).upd upd_same
section
variable {P : Program} {w : World} {K : PySem.W.Frag} {mg : Str → Option Value} {base : Heap} {C : Addr}
theorem sc_ans : FnScope ["calls", "match", "found", "at", "row", "answer"] ["calls"] (defScope sAns) := ⟨rfl, rfl, rfl, by decide +kernel, rfl, by decide +kernel, by decide +kernel⟩
theorem ok_ans {fA : Addr} {fdA : FuncData} (F : Fun K "answers" "answers" sAns fA fdA) (T : Txt K mg C) {fI : Addr} {fdI : FuncData} (M : Mk K C fI) (GI : FnOk P w K mg base CX0 1 fI fdI ["self", "half", "extra"] (spInit C)) (bI : Binds K fdI ["self", "half", "extra"] [])
    (h1 : Has P w K mg base 6 "answered" ["match", "row"] (spAnswered C)) (h2 : Has P w K mg base 1 "are_lengths" ["half", "extra"] spLens) : FnOk P w K mg base CX0 7 fA fdA ["calls"] (spAns K) := by
  refine F.ok sc_ans (fun vs H Q E h => ?_) (fun cdv A outer s H vs Q E hr h => ?_)
  · obtain ⟨a, ns, rfl, _⟩ := h
    rfl
  obtain ⟨a, ns, rfl, hS, hn, hask, k⟩ := h
  obtain ⟨cs, ens, hok, eans, hsz⟩ := asked_is hn hask
  obtain ⟨aN, gN, qN⟩ := T.gNum
  refine ⟨_, pss_cons (ps_set (i := 1) sc_ans.nd rfl (Or.inl rfl) pe_non) (pss_cons (ps_set (i := 2) sc_ans.nd rfl (Or.inl rfl) (pe_lst pa_nil)) (pss_cons (ps_set (i := 3) sc_ans.nd rfl (Or.inl rfl) pe_int)
    (pss_cons (ps_while PassesOwn.never (pt_cmpR op_lt (pv 3) (pe_callB call_len_seq (by rfl) T.bLen PySem.boot_len (pa_cons (pv 0) pa_nil)) (nomark _))
      (pss_cons (ps_set (i := 4) sc_ans.nd rfl (Or.inl rfl) (pe_slice sl_list (pv 0) (po_some (pv 3)) (po_some (pe_op op_add (pe_op op_add (pv 3) pe_int) (pe_ix ix_tup (pe_glob (v := .ref aN) rfl gN rfl) (pe_ix ix_list (pv 0) (pv 3) (fun _ _ => rfl)) (fun _ _ => rfl))))))
      (pss_cons (ps_if (pt_cmpR op_ne (pe_ix ix_list (pv 4) pe_int (fun _ _ => rfl)) (pe_cn T.cStart) (nomark _))
        (pss_one (ps_set (i := 5) sc_ans.nd rfl (Or.inl rfl) (pe_has h1 hr (pa_cons (pv 1) (pa_cons (pv 4) pa_nil)))))
        (pss_one (ps_if (pt_val (pe_has h2 hr (pa_cons (pe_ix ix_list (pv 4) pe_int (fun _ _ => rfl)) (pa_cons (pe_ix ix_list (pv 4) pe_int (fun _ _ => rfl)) pa_nil))))
          (pss_cons (ps_set (i := 1) sc_ans.nd rfl (Or.inl rfl) (pe_make M GI (hr.mono (by decide)) rfl T.gC bI .nil pass0 (pa_cons (pe_ix ix_list (pv 4) pe_int (fun _ _ => rfl)) (pa_cons (pe_ix ix_list (pv 4) pe_int (fun _ _ => rfl)) pa_nil))))
            (pss_one (ps_set (i := 5) sc_ans.nd rfl (Or.inl rfl) (pe_lst (pa_cons pe_int pa_nil)))))
          (pss_one (ps_set (i := 5) sc_ans.nd rfl (Or.inl rfl) (pe_lst (pa_cons (pe_cn T.cOutOfRange) pa_nil)))))))
      (pss_cons (ps_expr (pe_bm PySem.F.plainAttrs_list PySem.F.slot_list_append PySem.F.type_list_append mt_append (pv 2) (pa_cons (pe_callB call_len_seq (by rfl) T.bLen PySem.boot_len (pa_cons (pv 5) pa_nil)) pa_nil)))
      (pss_cons (ps_expr (pe_bm PySem.F.plainAttrs_list PySem.F.slot_list_extend PySem.F.type_list_extend mt_extend (pv 2) (pa_cons (pv 5) pa_nil)))
      (pss_one (ps_set (i := 3) sc_ans.nd rfl (Or.inl rfl) (pe_op op_add (pv 3) (pe_callB call_len_seq (by rfl) T.bLen PySem.boot_len (pa_cons (pv 4) pa_nil))))))))))
    (pss_one (ps_ret (pv 2)))))), ?_⟩
  -- found = []
  refine ⟨Nat.zero_le _, fun fo nf => ?_⟩
  refine ⟨fun n σ H' => ∃ (cs1 cs2 : List Kmt2.Call) (s : Option Clock) (out : List Int) (v : V) (r1 r2 : Option V), cs2.length = n ∧ σ = [some (.ref a), some v, some (.ref fo), some (.int (((cs1.flatMap rowOf).length : Nat) : Int)), r1, r2] ∧ Word C H a fo cs cs1 cs2 s out v H', ?_, ?_⟩
  · exact ⟨cs.length, [], cs, none, [], .non, none, none, rfl, rfl, rfl, Same.new nf, upd_same, rfl, rfl, hok⟩
  rintro n σ H1 ⟨cs1, cs2, s1, out, v, r1, r2, rfl, rfl, W⟩
  have eall : ns.map V.int = (cs1.flatMap rowOf).map V.int ++ (cs2.flatMap rowOf).map V.int := by
    rw [ens, W.all, List.flatMap_append, List.map_append]
  have hS1 := W.same.seq hS
  refine ⟨_, rfl, _, rfl, a, _, rfl, .inl hS1, _, _, rfl, rfl, _, rfl, ?_⟩
  have elen : (((ns.map V.int).length : Nat) : Int) = (((cs1.flatMap rowOf).length + (cs2.flatMap rowOf).length : Nat) : Int) := by
    rw [eall, List.length_append, List.length_map, List.length_map]
  cases cs2 with
  | nil =>
    have q : ¬ (((cs1.flatMap rowOf).length : Nat) : Int) < (((ns.map V.int).length : Nat) : Int) := by
      rw [elen, List.flatMap_nil, List.length_nil]
      omega
    rw [decide_eq_false q]
    refine iteF ?_
    refine ⟨_, rfl, k _ fo ?_⟩
    have e := W.eq
    rw [show go s1 [] = [] from rfl, List.append_nil] at e
    rw [eans, ← e]
    exact W.found
  | cons c cs2 =>
    have q : (((cs1.flatMap rowOf).length : Nat) : Int) < (((ns.map V.int).length : Nat) : Int) := by
      rw [elen, List.flatMap_cons, List.length_append, row_len]
      omega
    rw [decide_eq_true q]
    refine iteT ?_
    rw [List.flatMap_cons, List.map_append] at eall
    rw [eall] at hS1
    have hpl : (((cs1.flatMap rowOf).length : Nat) : Int) = ((((cs1.flatMap rowOf).map V.int).length : Nat) : Int) := by rw [List.length_map]
    refine ⟨fun σ' H' => ∃ (d1 d2 : List Kmt2.Call) (s' : Option Clock) (out' : List Int) (v' : V) (r1 r2 : Option V), d2.length < (c :: cs2).length ∧ σ' = [some (.ref a), some v', some (.ref fo), some (.int (((d1.flatMap rowOf).length : Nat) : Int)), r1, r2] ∧ Word C H a fo cs d1 d2 s' out' v' H', ?_, ?_⟩
    · rintro σ' H' ⟨d1, d2, s', out', v', r1, r2, l, e, W'⟩
      exact ⟨d2.length, l, d1, d2, s', out', v', r1, r2, rfl, e, W'⟩
    -- row = ..
    refine ⟨_, rfl, _, rfl, _, rfl, _, rfl, _, _, rfl, rfl, _, rfl, _, rfl, a, _, _, _, rfl, rfl, hS1, call_at c hpl, aN, _, _, _, rfl, rfl, qN H1, num_at c, _, _, rfl, rfl, _, rfl, a, _, rfl, hS1, fun ro nr => ?_⟩
    rw [cut_row hpl (by rw [List.length_map, List.length_map, row_len]; omega)]
    have n2 : ro ≠ fo := (ne_of_none W.found nr).symm
    have s2 : Same H1 (upd H1 ro (.lst ((rowOf c).map V.int))) := Same.new nr
    have sH2 : Same H (upd H1 ro (.lst ((rowOf c).map V.int))) := W.same.trans s2
    refine ⟨_, rfl, ro, _, 0, _, rfl, rfl, SqL.of upd_same, row_first c, rfl, _, rfl, ite_not (fun c0 => ?_) fun c0 => ?_⟩
    · -- answer = answered(match, row)
      have hc : moreOf c ≠ 2 := place_more fun z => c0 (by rw [z]; rfl)
      cases s1 with
      | none =>
        refine absurd ?_ W.ok.1
        rw [turn_none hc]
      | some m =>
        obtain ⟨okm, x, rfl, nx, hx⟩ := id W.mt
        obtain ⟨dx, ex⟩ := id hx
        refine ⟨_, rfl, _, rfl, ro, c, hc, upd_same, x, m, rfl, hx.same s2, okm.most, fun H3 p m3 r3 np hp3 => ?_⟩
        refine turn_end W hsz nf (by rw [turn_deed hc]) (same_rest sH2 r3 nx) (r3 fo _ (s2 _ _ W.found) (ne_of W.found ex (by intro z; cases z))) ?_ hp3 (r3 ro _ upd_same (ne_of_none ex nr).symm) (ne_of_none (s2 _ _ W.found) np).symm n2 fun σ' H'' h => h
        rw [turn_deed hc]
        exact ⟨ok_deed okm c, x, rfl, nx, m3⟩
    · obtain ⟨hh, ee, rfl⟩ := start_of (int_eq (k := 0) c0)
      refine ⟨_, rfl, ro, _, 1, _, rfl, rfl, SqL.of upd_same, atI_nat (j := 1) rfl, _, rfl, ro, _, 2, _, rfl, rfl, SqL.of upd_same, atI_nat (j := 2) rfl, hh, ee, rfl, _, rfl, ite_bool (fun ok => ?_) fun ok => ?_⟩
      · -- match = Match(row[1], row[2]); answer = [0]
        have et : turn s1 (.start hh ee) = (some (Kmt2.begun hh ee), [0]) := if_pos ok
        refine ⟨_, rfl, ro, _, 1, _, rfl, rfl, SqL.of upd_same, atI_nat (j := 1) rfl, _, rfl, ro, _, 2, _, rfl, rfl, SqL.of upd_same, atI_nat (j := 2) rfl, fun x dx nx nd ne => ⟨x, dx, hh, ee, rfl, upd_same, fun H3 m3 r3 => ⟨rfl, ?_⟩⟩⟩
        have s3 : Same (upd H1 ro (.lst ((rowOf (.start hh ee)).map V.int))) H3 := Same.made nx nd r3
        refine ⟨one_ok, fun p np => ?_⟩
        have s4 := s3.trans (Same.new (o := .lst [V.int 0]) np)
        refine turn_end (ans := [0]) W hsz nf (by rw [et]) (sH2.trans s4) (s4 _ _ (s2 _ _ W.found)) ?_ upd_same (s4 _ _ upd_same) (ne_of_none (s3 _ _ (s2 _ _ W.found)) np).symm n2 fun σ' H'' h => h
        rw [et]
        exact ⟨ok_begun hh ee, x, rfl, sH2.free nx, m3.same (Same.new np)⟩
      · -- answer = [OUT_OF_RANGE]
        have et : turn s1 (.start hh ee) = (s1, [-22]) := if_neg (by rw [ok]; decide)
        refine ⟨one_ok, fun p np => ?_⟩
        have s4 := s2.trans (Same.new (o := .lst [V.int (-22)]) np)
        refine turn_end (ans := [-22]) W hsz nf (by rw [et]) (W.same.trans s4) (s4 _ _ W.found) ?_ upd_same (Same.new np _ _ upd_same) (ne_of_none (s2 _ _ W.found) np).symm n2 fun σ' H'' h => h
        rw [et]
        exact W.mt.same s4
end
end Clk
/-! The end: what the top has written. -/
namespace Clk
open PySem PySem.Spec PyProof.Rows L2
theorem def_mk {K : PySem.W.Frag} {h : Heap} {mg : Str → Option Value} {x : Str} {st : Stmt} {ps : List Str} {f : Addr} {oc : Value} {od an : Option Addr} {osl : Array (Option Value)} {kV doc pm cdv ct : Value} (X : K.In h) (G : h.Ns mainGlobals mg)
    (hb : ∀ (kV doc pm : Value) (an : Option Addr) (cdv ct : Value) (us : List Value), us.length = ps.length → bindArgs (PySem.W.fnOf x x (defArgs st) (defBody st) (defScope st) .none kV doc pm an cdv ct) ⟨us, []⟩ = pure (ps.zip us))
    (a : PySem.W.nsIn K mainGlobals x = some (some (.ref f))) (l : K.lookup f = some ⟨oc, od, .func (PySem.W.fnOf x x (defArgs st) (defBody st) (defScope st) .none kV doc pm an cdv ct), osl⟩) (c : PySem.W.codeIn K cdv x = true) (k : PySem.W.keepIn K (.ref f) = true) : DefAt K mg x st ps :=
  ⟨f, _, fun_mk l c k, PySem.W.mg_of X G a, (fun_mk l c k).binds hb⟩
theorem no_mk {K : PySem.W.Frag} {C : Addr} {f : Str} (h : PySem.W.findIn K (.ref C) f = some none) : NoAttr K C f := h
theorem cn_mk {K : PySem.W.Frag} {h : Heap} {mg : Str → Option Value} {x : Str} {i : Int} {t : Tok} (X : K.In h) (G : h.Ns mainGlobals mg) (a : PySem.W.nsIn K mainGlobals x = some (some (.int i t))) : Cn mg x i := ⟨t, PySem.W.mg_of X G a⟩
theorem num_mk {K : PySem.W.Frag} {h : Heap} {mg : Str → Option Value} {aN : Addr} {cN : Value} {odN : Option Addr} {its : Array Value} {nN : Nat} {slN : Array (Option Value)} (X : K.In h) (G : h.Ns mainGlobals mg) (a : PySem.W.nsIn K mainGlobals "NUMBERS" = some (some (.ref aN)))
    (l : K.lookup aN = some ⟨cN, odN, .seq its nN, slN⟩) (hc : cN = .type "tuple") (hz : its.size ≤ sizeLine) (hv : Vals (([2, 0, 1, 1, 0, 0, 0] : List Int).map V.int) its.toList) :
    ∃ aN, mg "NUMBERS" = some (.ref aN) ∧ ∀ H, SqT K H aN (([2, 0, 1, 1, 0, 0, 0] : List Int).map V.int) :=
  ⟨aN, PySem.W.mg_of X G a, fun _ => .inr ⟨_, its, nN, l, hc, rfl, hz, hv⟩⟩
theorem bd_are_lengths : ∀ (kV doc pm : Value) (an : Option Addr) (cdv ct : Value) (us : List Value), us.length = (["half", "extra"] : List Str).length → bindArgs (PySem.W.fnOf "are_lengths" "are_lengths" (defArgs sLens) (defBody sLens) (defScope sLens) .none kV doc pm an cdv ct) ⟨us, []⟩ = pure ((["half", "extra"] : List Str).zip us) := fun _ _ _ _ _ _ us hl => match us, hl with | [_, _], _ => rfl
theorem bd_how_many : ∀ (kV doc pm : Value) (an : Option Addr) (cdv ct : Value) (us : List Value), us.length = (["match"] : List Str).length → bindArgs (PySem.W.fnOf "how_many" "how_many" (defArgs sHowMany) (defBody sHowMany) (defScope sHowMany) .none kV doc pm an cdv ct) ⟨us, []⟩ = pure ((["match"] : List Str).zip us) := fun _ _ _ _ _ _ us hl => match us, hl with | [_], _ => rfl
theorem bd_length_of : ∀ (kV doc pm : Value) (an : Option Addr) (cdv ct : Value) (us : List Value), us.length = (["match", "number"] : List Str).length → bindArgs (PySem.W.fnOf "length_of" "length_of" (defArgs sLenOf) (defBody sLenOf) (defScope sLenOf) .none kV doc pm an cdv ct) ⟨us, []⟩ = pure ((["match", "number"] : List Str).zip us) := fun _ _ _ _ _ _ us hl => match us, hl with | [_, _], _ => rfl
theorem bd_running : ∀ (kV doc pm : Value) (an : Option Addr) (cdv ct : Value) (us : List Value), us.length = (["match"] : List Str).length → bindArgs (PySem.W.fnOf "running" "running" (defArgs sRunning) (defBody sRunning) (defScope sRunning) .none kV doc pm an cdv ct) ⟨us, []⟩ = pure ((["match"] : List Str).zip us) := fun _ _ _ _ _ _ us hl => match us, hl with | [_], _ => rfl
theorem bd_length_now : ∀ (kV doc pm : Value) (an : Option Addr) (cdv ct : Value) (us : List Value), us.length = (["match"] : List Str).length → bindArgs (PySem.W.fnOf "length_now" "length_now" (defArgs sLenNow) (defBody sLenNow) (defScope sLenNow) .none kV doc pm an cdv ct) ⟨us, []⟩ = pure ((["match"] : List Str).zip us) := fun _ _ _ _ _ _ us hl => match us, hl with | [_], _ => rfl
theorem bd_length_before : ∀ (kV doc pm : Value) (an : Option Addr) (cdv ct : Value) (us : List Value), us.length = (["match"] : List Str).length → bindArgs (PySem.W.fnOf "length_before" "length_before" (defArgs sLenBefore) (defBody sLenBefore) (defScope sLenBefore) .none kV doc pm an cdv ct) ⟨us, []⟩ = pure ((["match"] : List Str).zip us) := fun _ _ _ _ _ _ us hl => match us, hl with | [_], _ => rfl
theorem bd_due : ∀ (kV doc pm : Value) (an : Option Addr) (cdv ct : Value) (us : List Value), us.length = (["match"] : List Str).length → bindArgs (PySem.W.fnOf "due" "due" (defArgs sDue) (defBody sDue) (defScope sDue) .none kV doc pm an cdv ct) ⟨us, []⟩ = pure ((["match"] : List Str).zip us) := fun _ _ _ _ _ _ us hl => match us, hl with | [_], _ => rfl
theorem bd_begin : ∀ (kV doc pm : Value) (an : Option Addr) (cdv ct : Value) (us : List Value), us.length = (["match"] : List Str).length → bindArgs (PySem.W.fnOf "begin" "begin" (defArgs sBegin) (defBody sBegin) (defScope sBegin) .none kV doc pm an cdv ct) ⟨us, []⟩ = pure ((["match"] : List Str).zip us) := fun _ _ _ _ _ _ us hl => match us, hl with | [_], _ => rfl
theorem bd_end : ∀ (kV doc pm : Value) (an : Option Addr) (cdv ct : Value) (us : List Value), us.length = (["match"] : List Str).length → bindArgs (PySem.W.fnOf "end" "end" (defArgs sEnd) (defBody sEnd) (defScope sEnd) .none kV doc pm an cdv ct) ⟨us, []⟩ = pure ((["match"] : List Str).zip us) := fun _ _ _ _ _ _ us hl => match us, hl with | [_], _ => rfl
theorem bd_go_on : ∀ (kV doc pm : Value) (an : Option Addr) (cdv ct : Value) (us : List Value), us.length = (["match", "seconds"] : List Str).length → bindArgs (PySem.W.fnOf "go_on" "go_on" (defArgs sGoOn) (defBody sGoOn) (defScope sGoOn) .none kV doc pm an cdv ct) ⟨us, []⟩ = pure ((["match", "seconds"] : List Str).zip us) := fun _ _ _ _ _ _ us hl => match us, hl with | [_, _], _ => rfl
theorem bd_rounded_up : ∀ (kV doc pm : Value) (an : Option Addr) (cdv ct : Value) (us : List Value), us.length = (["seconds"] : List Str).length → bindArgs (PySem.W.fnOf "rounded_up" "rounded_up" (defArgs sUp) (defBody sUp) (defScope sUp) .none kV doc pm an cdv ct) ⟨us, []⟩ = pure ((["seconds"] : List Str).zip us) := fun _ _ _ _ _ _ us hl => match us, hl with | [_], _ => rfl
theorem bd_is_within : ∀ (kV doc pm : Value) (an : Option Addr) (cdv ct : Value) (us : List Value), us.length = (["match"] : List Str).length → bindArgs (PySem.W.fnOf "is_within" "is_within" (defArgs sWithin) (defBody sWithin) (defScope sWithin) .none kV doc pm an cdv ct) ⟨us, []⟩ = pure ((["match"] : List Str).zip us) := fun _ _ _ _ _ _ us hl => match us, hl with | [_], _ => rfl
theorem bd_minute_within : ∀ (kV doc pm : Value) (an : Option Addr) (cdv ct : Value) (us : List Value), us.length = (["match"] : List Str).length → bindArgs (PySem.W.fnOf "minute_within" "minute_within" (defArgs sMinWithin) (defBody sMinWithin) (defScope sMinWithin) .none kV doc pm an cdv ct) ⟨us, []⟩ = pure ((["match"] : List Str).zip us) := fun _ _ _ _ _ _ us hl => match us, hl with | [_], _ => rfl
theorem bd_last_minute : ∀ (kV doc pm : Value) (an : Option Addr) (cdv ct : Value) (us : List Value), us.length = (["match"] : List Str).length → bindArgs (PySem.W.fnOf "last_minute" "last_minute" (defArgs sLast) (defBody sLast) (defScope sLast) .none kV doc pm an cdv ct) ⟨us, []⟩ = pure ((["match"] : List Str).zip us) := fun _ _ _ _ _ _ us hl => match us, hl with | [_], _ => rfl
theorem bd_minute_beyond : ∀ (kV doc pm : Value) (an : Option Addr) (cdv ct : Value) (us : List Value), us.length = (["match"] : List Str).length → bindArgs (PySem.W.fnOf "minute_beyond" "minute_beyond" (defArgs sBeyond) (defBody sBeyond) (defScope sBeyond) .none kV doc pm an cdv ct) ⟨us, []⟩ = pure ((["match"] : List Str).zip us) := fun _ _ _ _ _ _ us hl => match us, hl with | [_], _ => rfl
theorem bd_minutes_of : ∀ (kV doc pm : Value) (an : Option Addr) (cdv ct : Value) (us : List Value), us.length = (["match"] : List Str).length → bindArgs (PySem.W.fnOf "minutes_of" "minutes_of" (defArgs sMinutes) (defBody sMinutes) (defScope sMinutes) .none kV doc pm an cdv ct) ⟨us, []⟩ = pure ((["match"] : List Str).zip us) := fun _ _ _ _ _ _ us hl => match us, hl with | [_], _ => rfl
theorem bd_kick : ∀ (kV doc pm : Value) (an : Option Addr) (cdv ct : Value) (us : List Value), us.length = (["match"] : List Str).length → bindArgs (PySem.W.fnOf "kick" "kick" (defArgs sKick) (defBody sKick) (defScope sKick) .none kV doc pm an cdv ct) ⟨us, []⟩ = pure ((["match"] : List Str).zip us) := fun _ _ _ _ _ _ us hl => match us, hl with | [_], _ => rfl
theorem bd_tick : ∀ (kV doc pm : Value) (an : Option Addr) (cdv ct : Value) (us : List Value), us.length = (["match", "seconds"] : List Str).length → bindArgs (PySem.W.fnOf "tick" "tick" (defArgs sTick) (defBody sTick) (defScope sTick) .none kV doc pm an cdv ct) ⟨us, []⟩ = pure ((["match", "seconds"] : List Str).zip us) := fun _ _ _ _ _ _ us hl => match us, hl with | [_, _], _ => rfl
theorem bd_stop : ∀ (kV doc pm : Value) (an : Option Addr) (cdv ct : Value) (us : List Value), us.length = (["match", "wanted"] : List Str).length → bindArgs (PySem.W.fnOf "stop" "stop" (defArgs sStop) (defBody sStop) (defScope sStop) .none kV doc pm an cdv ct) ⟨us, []⟩ = pure ((["match", "wanted"] : List Str).zip us) := fun _ _ _ _ _ _ us hl => match us, hl with | [_, _], _ => rfl
theorem bd_whistle : ∀ (kV doc pm : Value) (an : Option Addr) (cdv ct : Value) (us : List Value), us.length = (["match"] : List Str).length → bindArgs (PySem.W.fnOf "whistle" "whistle" (defArgs sWhistle) (defBody sWhistle) (defScope sWhistle) .none kV doc pm an cdv ct) ⟨us, []⟩ = pure ((["match"] : List Str).zip us) := fun _ _ _ _ _ _ us hl => match us, hl with | [_], _ => rfl
theorem bd_left : ∀ (kV doc pm : Value) (an : Option Addr) (cdv ct : Value) (us : List Value), us.length = (["match"] : List Str).length → bindArgs (PySem.W.fnOf "left" "left" (defArgs sLeft) (defBody sLeft) (defScope sLeft) .none kV doc pm an cdv ct) ⟨us, []⟩ = pure ((["match"] : List Str).zip us) := fun _ _ _ _ _ _ us hl => match us, hl with | [_], _ => rfl
theorem bd_minute : ∀ (kV doc pm : Value) (an : Option Addr) (cdv ct : Value) (us : List Value), us.length = (["match"] : List Str).length → bindArgs (PySem.W.fnOf "minute" "minute" (defArgs sMinute) (defBody sMinute) (defScope sMinute) .none kV doc pm an cdv ct) ⟨us, []⟩ = pure ((["match"] : List Str).zip us) := fun _ _ _ _ _ _ us hl => match us, hl with | [_], _ => rfl
theorem bd_answered : ∀ (kV doc pm : Value) (an : Option Addr) (cdv ct : Value) (us : List Value), us.length = (["match", "row"] : List Str).length → bindArgs (PySem.W.fnOf "answered" "answered" (defArgs sAnswered) (defBody sAnswered) (defScope sAnswered) .none kV doc pm an cdv ct) ⟨us, []⟩ = pure ((["match", "row"] : List Str).zip us) := fun _ _ _ _ _ _ us hl => match us, hl with | [_, _], _ => rfl
theorem all_mk {P : Program} {w : World} {K : PySem.W.Frag} {h : Heap} {mg : Str → Option Value} {fa C f1 f2 : Addr} (X : K.In h) (G : h.Ns mainGlobals mg) (hfa : mg "answers" = some (.ref fa)) (T : Txt K mg C)
    {od1 an1 od2 an2 : Option Addr} {sl1 sl2 : Array (Option Value)} {oc1 kV1 dc1 pm1 cd1 ct1 oc2 kV2 dc2 pm2 cd2 ct2 : Value}
    (a1 : PySem.W.findIn K (.ref C) "__init__" = some (some (.ref f1))) (i1 : PySem.W.isFn K (.ref f1) = true) (l1 : K.lookup f1 = some ⟨oc1, od1, .func (PySem.W.fnOf "__init__" "Match.__init__" (defArgs sInit) (defBody sInit) (defScope sInit) .none kV1 dc1 pm1 an1 cd1 ct1), sl1⟩) (c1 : PySem.W.codeIn K cd1 "Match.__init__" = true) (k1 : PySem.W.keepIn K (.ref f1) = true)
    (a2 : PySem.W.nsIn K mainGlobals "answers" = some (some (.ref f2))) (l2 : K.lookup f2 = some ⟨oc2, od2, .func (PySem.W.fnOf "answers" "answers" (defArgs sAns) (defBody sAns) (defScope sAns) .none kV2 dc2 pm2 an2 cd2 ct2), sl2⟩) (c2 : PySem.W.codeIn K cd2 "answers" = true) (k2 : PySem.W.keepIn K (.ref f2) = true)
    (mk : PySem.W.makesIn K C = true) (kc : PySem.W.keepIn K (.ref C) = true)
    (d_are_lengths : DefAt K mg "are_lengths" sLens ["half", "extra"])
    (d_how_many : DefAt K mg "how_many" sHowMany ["match"])
    (d_length_of : DefAt K mg "length_of" sLenOf ["match", "number"])
    (d_running : DefAt K mg "running" sRunning ["match"])
    (d_length_now : DefAt K mg "length_now" sLenNow ["match"])
    (d_length_before : DefAt K mg "length_before" sLenBefore ["match"])
    (d_due : DefAt K mg "due" sDue ["match"])
    (d_begin : DefAt K mg "begin" sBegin ["match"])
    (d_end : DefAt K mg "end" sEnd ["match"])
    (d_go_on : DefAt K mg "go_on" sGoOn ["match", "seconds"])
    (d_rounded_up : DefAt K mg "rounded_up" sUp ["seconds"])
    (d_is_within : DefAt K mg "is_within" sWithin ["match"])
    (d_minute_within : DefAt K mg "minute_within" sMinWithin ["match"])
    (d_last_minute : DefAt K mg "last_minute" sLast ["match"])
    (d_minute_beyond : DefAt K mg "minute_beyond" sBeyond ["match"])
    (d_minutes_of : DefAt K mg "minutes_of" sMinutes ["match"])
    (d_kick : DefAt K mg "kick" sKick ["match"])
    (d_tick : DefAt K mg "tick" sTick ["match", "seconds"])
    (d_stop : DefAt K mg "stop" sStop ["match", "wanted"])
    (d_whistle : DefAt K mg "whistle" sWhistle ["match"])
    (d_left : DefAt K mg "left" sLeft ["match"])
    (d_minute : DefAt K mg "minute" sMinute ["match"])
    (d_answered : DefAt K mg "answered" sAnswered ["match", "row"])
    : ∃ fd : FuncData, (∀ (s : Shared) (us : List Value), us.length = (["calls"] : List Str).length → BindsTo s fd ⟨us, []⟩ ((["calls"] : List Str).zip us)) ∧ ∀ base : Heap, K.In base → base.Ns mainGlobals mg → FnOk P w K mg base CX0 7 fa fd ["calls"] (spAns K) := by
  have e := hfa.symm.trans (PySem.W.mg_of X G a2)
  cases e
  have F1 := fun_mk (st := sInit) l1 c1 k1
  have F2 := fun_mk (st := sAns) l2 c2 k2
  have b1 := F1.binds (ps := ["self", "half", "extra"]) fun _ _ _ _ _ _ us hl => match us, hl with | [_, _, _], _ => rfl
  refine ⟨PySem.W.fnOf "answers" "answers" (defArgs sAns) (defBody sAns) (defScope sAns) .none kV2 dc2 pm2 an2 cd2 ct2, fun s us hu => match us, hu with | [_], _ => .of_eq rfl, fun base _ _ => ?_⟩
  have hLenOf := ok_lenOf (P := P) (w := w) (base := base) d_length_of T
  have hRunning := ok_running (P := P) (w := w) (base := base) d_running T
  have hLenNow := ok_lenNow d_length_now hLenOf hRunning
  have hLenBefore := ok_lenBefore d_length_before T hLenOf hRunning
  have hDue := ok_due d_due T hLenNow
  have hUp := ok_up (P := P) (w := w) (base := base) d_rounded_up T
  have hMinutes := ok_minutes d_minutes_of (ok_within d_is_within T hLenNow) (ok_minWithin d_minute_within T hLenBefore) (ok_last d_last_minute hUp hLenNow hLenBefore) (ok_beyond d_minute_beyond T hLenNow)
  have hKick := ok_kick_def d_kick T (ok_howMany d_how_many T) (ok_begin d_begin T) hRunning
  have hTick := ok_tick_def d_tick T (ok_goOn (P := P) (w := w) (base := base) d_go_on T)
  have hWhistle := ok_whistle_def d_whistle T hDue (ok_end d_end T)
  have hAnswered := ok_answered d_answered T hKick hTick (ok_stop_def d_stop T) hWhistle (ok_left_def d_left T hDue) (ok_minute_def d_minute T hMinutes)
  exact ok_ans F2 T ⟨mk, a1, i1, kc⟩ (ok_init F1 T) b1 hAnswered (ok_lens d_are_lengths T)
end Clk
open PySem PySem.W PyProof.Rows
set_option maxRecDepth 100000 in
set_option maxHeartbeats 16000000 in
theorem PySem.Challenge.cw_halfclock_s01_answers_holds : PySem.Challenge.rw_halfclock_s01_answers.Holds := by
  w_on; k_headS; (case hw => exact ⟨[.list [.int 0, .int 60, .int 0]], by decide +kernel, by decide +kernel⟩)
  k_fillS
  refine L2.walk_specK (r := PySem.Challenge.rw_halfclock_s01_answers) (k := 7) (CX := L2.CX0) (ps := ["calls"]) (sp := Clk.spAns) (by decide +kernel) rfl rfl ⟨rfl, by decide, by decide⟩ (fun w h Y => PySem.W.kIn_of Y) ?F ?S (fun _ _ _ _ z => z)
  case F =>
    intro w mg fa h Y KX G hmg
    refine' Clk.all_mk KX G hmg (C := ?C) ⟨⟨?pg, ?hd, ?po, ?sa⟩, Clk.no_mk ?n1, Clk.no_mk ?n2, Clk.no_mk ?n3, Clk.no_mk ?n4, Clk.no_mk ?n5, Clk.no_mk ?n6, Clk.no_mk ?n7, PySem.W.mg_of KX G ?aC, Clk.cn_mk KX G ?c_HALVES, Clk.cn_mk KX G ?c_EXTRAS, Clk.cn_mk KX G ?c_SHORTEST, Clk.cn_mk KX G ?c_LONGEST_HALF, Clk.cn_mk KX G ?c_LONGEST_EXTRA, Clk.cn_mk KX G ?c_MINUTE, Clk.cn_mk KX G ?c_MOST_AT_ONCE, Clk.cn_mk KX G ?c_MOST_GONE, Clk.cn_mk KX G ?c_NOT_NOW, Clk.cn_mk KX G ?c_ALREADY, Clk.cn_mk KX G ?c_OUT_OF_RANGE, Clk.cn_mk KX G ?c_TOO_MUCH, Clk.cn_mk KX G ?c_TOO_EARLY, Clk.cn_mk KX G ?c_START, Clk.cn_mk KX G ?c_KICK, Clk.cn_mk KX G ?c_TICK, Clk.cn_mk KX G ?c_STOP, Clk.cn_mk KX G ?c_WHISTLE, Clk.cn_mk KX G ?c_LEFT, PySem.W.mg_none_of KX G ?z1, PySem.W.mg_none_of KX G ?z2, PySem.W.mg_none_of KX G ?z3, PySem.W.mg_none_of KX G ?z4, Clk.num_mk KX G ?aN ?lN ?cN ?zN ?vN⟩ ?a1 ?i1 ?l1 ?c1 ?k1 ?a2 ?l2 ?c2 ?k2 ?mk ?kc
      (Clk.def_mk KX G Clk.bd_are_lengths ?fa_are_lengths ?fl_are_lengths ?fc_are_lengths ?fk_are_lengths)
      (Clk.def_mk KX G Clk.bd_how_many ?fa_how_many ?fl_how_many ?fc_how_many ?fk_how_many)
      (Clk.def_mk KX G Clk.bd_length_of ?fa_length_of ?fl_length_of ?fc_length_of ?fk_length_of)
      (Clk.def_mk KX G Clk.bd_running ?fa_running ?fl_running ?fc_running ?fk_running)
      (Clk.def_mk KX G Clk.bd_length_now ?fa_length_now ?fl_length_now ?fc_length_now ?fk_length_now)
      (Clk.def_mk KX G Clk.bd_length_before ?fa_length_before ?fl_length_before ?fc_length_before ?fk_length_before)
      (Clk.def_mk KX G Clk.bd_due ?fa_due ?fl_due ?fc_due ?fk_due)
      (Clk.def_mk KX G Clk.bd_begin ?fa_begin ?fl_begin ?fc_begin ?fk_begin)
      (Clk.def_mk KX G Clk.bd_end ?fa_end ?fl_end ?fc_end ?fk_end)
      (Clk.def_mk KX G Clk.bd_go_on ?fa_go_on ?fl_go_on ?fc_go_on ?fk_go_on)
      (Clk.def_mk KX G Clk.bd_rounded_up ?fa_rounded_up ?fl_rounded_up ?fc_rounded_up ?fk_rounded_up)
      (Clk.def_mk KX G Clk.bd_is_within ?fa_is_within ?fl_is_within ?fc_is_within ?fk_is_within)
      (Clk.def_mk KX G Clk.bd_minute_within ?fa_minute_within ?fl_minute_within ?fc_minute_within ?fk_minute_within)
      (Clk.def_mk KX G Clk.bd_last_minute ?fa_last_minute ?fl_last_minute ?fc_last_minute ?fk_last_minute)
      (Clk.def_mk KX G Clk.bd_minute_beyond ?fa_minute_beyond ?fl_minute_beyond ?fc_minute_beyond ?fk_minute_beyond)
      (Clk.def_mk KX G Clk.bd_minutes_of ?fa_minutes_of ?fl_minutes_of ?fc_minutes_of ?fk_minutes_of)
      (Clk.def_mk KX G Clk.bd_kick ?fa_kick ?fl_kick ?fc_kick ?fk_kick)
      (Clk.def_mk KX G Clk.bd_tick ?fa_tick ?fl_tick ?fc_tick ?fk_tick)
      (Clk.def_mk KX G Clk.bd_stop ?fa_stop ?fl_stop ?fc_stop ?fk_stop)
      (Clk.def_mk KX G Clk.bd_whistle ?fa_whistle ?fl_whistle ?fc_whistle ?fk_whistle)
      (Clk.def_mk KX G Clk.bd_left ?fa_left ?fl_left ?fc_left ?fk_left)
      (Clk.def_mk KX G Clk.bd_minute ?fa_minute ?fl_minute ?fc_minute ?fk_minute)
      (Clk.def_mk KX G Clk.bd_answered ?fa_answered ?fl_answered ?fc_answered ?fk_answered)
    (case aC => k_is); (case pg => k_is); (case hd => k_is); (case po => k_is); (case sa => k_is); (case n1 => k_is); (case n2 => k_is); (case n3 => k_is); (case n4 => k_is); (case n5 => k_is); (case n6 => k_is); (case n7 => k_is); (case c_HALVES => k_is); (case c_EXTRAS => k_is); (case c_SHORTEST => k_is); (case c_LONGEST_HALF => k_is); (case c_LONGEST_EXTRA => k_is); (case c_MINUTE => k_is); (case c_MOST_AT_ONCE => k_is); (case c_MOST_GONE => k_is); (case c_NOT_NOW => k_is); (case c_ALREADY => k_is); (case c_OUT_OF_RANGE => k_is); (case c_TOO_MUCH => k_is); (case c_TOO_EARLY => k_is); (case c_START => k_is); (case c_KICK => k_is); (case c_TICK => k_is); (case c_STOP => k_is); (case c_WHISTLE => k_is); (case c_LEFT => k_is); (case z1 => k_is); (case z2 => k_is); (case z3 => k_is); (case z4 => k_is); (case aN => k_is); (case lN => k_is)
    (case cN => rfl)
    (case zN => decide)
    (case vN => exact .cons ⟨_, rfl⟩ (.cons ⟨_, rfl⟩ (.cons ⟨_, rfl⟩ (.cons ⟨_, rfl⟩ (.cons ⟨_, rfl⟩ (.cons ⟨_, rfl⟩ (.cons ⟨_, rfl⟩ .nil)))))))
    (case a1 => k_is); (case i1 => k_is); (case l1 => k_is); (case c1 => k_is); (case k1 => k_is); (case a2 => k_is); (case l2 => k_is); (case c2 => k_is); (case k2 => k_is); (case mk => k_is); (case kc => k_is)
    (case fa_are_lengths => k_is); (case fl_are_lengths => k_is); (case fc_are_lengths => k_is); (case fk_are_lengths => k_is)
    (case fa_how_many => k_is); (case fl_how_many => k_is); (case fc_how_many => k_is); (case fk_how_many => k_is)
    (case fa_length_of => k_is); (case fl_length_of => k_is); (case fc_length_of => k_is); (case fk_length_of => k_is)
    (case fa_running => k_is); (case fl_running => k_is); (case fc_running => k_is); (case fk_running => k_is)
    (case fa_length_now => k_is); (case fl_length_now => k_is); (case fc_length_now => k_is); (case fk_length_now => k_is)
    (case fa_length_before => k_is); (case fl_length_before => k_is); (case fc_length_before => k_is); (case fk_length_before => k_is)
    (case fa_due => k_is); (case fl_due => k_is); (case fc_due => k_is); (case fk_due => k_is)
    (case fa_begin => k_is); (case fl_begin => k_is); (case fc_begin => k_is); (case fk_begin => k_is)
    (case fa_end => k_is); (case fl_end => k_is); (case fc_end => k_is); (case fk_end => k_is)
    (case fa_go_on => k_is); (case fl_go_on => k_is); (case fc_go_on => k_is); (case fk_go_on => k_is)
    (case fa_rounded_up => k_is); (case fl_rounded_up => k_is); (case fc_rounded_up => k_is); (case fk_rounded_up => k_is)
    (case fa_is_within => k_is); (case fl_is_within => k_is); (case fc_is_within => k_is); (case fk_is_within => k_is)
    (case fa_minute_within => k_is); (case fl_minute_within => k_is); (case fc_minute_within => k_is); (case fk_minute_within => k_is)
    (case fa_last_minute => k_is); (case fl_last_minute => k_is); (case fc_last_minute => k_is); (case fk_last_minute => k_is)
    (case fa_minute_beyond => k_is); (case fl_minute_beyond => k_is); (case fc_minute_beyond => k_is); (case fk_minute_beyond => k_is)
    (case fa_minutes_of => k_is); (case fl_minutes_of => k_is); (case fc_minutes_of => k_is); (case fk_minutes_of => k_is)
    (case fa_kick => k_is); (case fl_kick => k_is); (case fc_kick => k_is); (case fk_kick => k_is)
    (case fa_tick => k_is); (case fl_tick => k_is); (case fc_tick => k_is); (case fk_tick => k_is)
    (case fa_stop => k_is); (case fl_stop => k_is); (case fc_stop => k_is); (case fk_stop => k_is)
    (case fa_whistle => k_is); (case fl_whistle => k_is); (case fc_whistle => k_is); (case fk_whistle => k_is)
    (case fa_left => k_is); (case fl_left => k_is); (case fc_left => k_is); (case fk_left => k_is)
    (case fa_minute => k_is); (case fl_minute => k_is); (case fc_minute => k_is); (case fk_minute => k_is)
    (case fa_answered => k_is); (case fl_answered => k_is); (case fc_answered => k_is); (case fk_answered => k_is)
  case S =>
    intro K H xs a hO hwi hask hx
    cases hx with
    | cons h1 h2 =>
      cases h2
      cases h1 with
      | lst hs ha =>
        have e := L2.ints_dw a.1 _ ha
        subst e
        have q : ((Codec.inLen 0 30000 a.1 && a.1.all (Codec.inInt 0 4294967295)) && true) = true := hwi
        rw [Bool.and_eq_true, Bool.and_eq_true] at q
        refine ⟨_, a.1, rfl, hs, fun x hx => ?_, hask, fun H' p hp => .lst (L2.SqL.of hp) (L2.dw_ints _)⟩
        have z := List.all_eq_true.mp q.1.2 x hx
        exact (Codec.inInt_iff.mp z).1
#print axioms PySem.Challenge.cw_halfclock_s01_answers_holds
