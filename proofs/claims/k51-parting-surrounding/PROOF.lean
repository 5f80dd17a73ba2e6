import PyProof.Rows.All
import Wide.All
import OpenK.AllK
import Wide.FinOn
import KE.KStateDown
import Lean
import HandS.ForMost
import HandS.More
import HandS.Conv
import HandS.WordsExc
import HandS.Defaults
import HandS.IsInst
import HandS.Star
import HandS.TupAny
import HandS.Evl
import HandS.SortInts
import HandS.TupSets
import HandS.Strs
import HandS.DictComp
import HandS.Deep
import HandS.Head0
import HandS.Head1
import HandS.Head2
import HandS.HeadEnd
import HandS.HeadHook1
import HandS.HeadHook2
import KE.DatumIndex
import KE.SortData
import KE.KIndexOf
import KE.KDictKeyed
import KE.GoesEnum
import PySem.Challenge.RW_wokeas_k51_whole_parting_surroundings
set_option Elab.async false
set_option linter.all false
set_option maxRecDepth 100000
set_option maxHeartbeats 4000000
set_option maxHeartbeats 0
namespace Wok
open PySem PySem.Spec PyProof.Rows L2
/-! the text by places -/
def topAt (i : Nat) : Stmt := PySem.Challenge.pw_wokeas_k51_whole_parting_surroundings.main.body.getD i (.Pass default)
abbrev s_is_integer : Stmt := topAt 5
abbrev s_is_number : Stmt := topAt 6
abbrev s_is_pair : Stmt := topAt 7
abbrev s_is_by_form : Stmt := topAt 9
abbrev s_machine_fault : Stmt := topAt 10
abbrev s_is_machine : Stmt := topAt 11
abbrev s_want : Stmt := topAt 13
abbrev s_want_machine : Stmt := topAt 14
abbrev s_is_place_by_form : Stmt := topAt 16
abbrev s_guard_fault : Stmt := topAt 17
abbrev s_want_many : Stmt := topAt 18
abbrev s_is_guard : Stmt := topAt 19
abbrev s_want_both : Stmt := topAt 21
abbrev s_want_case : Stmt := topAt 22
abbrev s_as_set : Stmt := topAt 24
abbrev s_all_standings : Stmt := topAt 25
abbrev s_left_by : Stmt := topAt 26
abbrev s_nexts_of : Stmt := topAt 27
abbrev s_after_by : Stmt := topAt 28
abbrev s_goal_by : Stmt := topAt 30
abbrev s_states_behind : Stmt := topAt 31
abbrev s_states_begun : Stmt := topAt 32
abbrev s_failing_from : Stmt := topAt 33
abbrev s_failing_by : Stmt := topAt 34
abbrev s_failing : Stmt := topAt 36
abbrev s_feeding : Stmt := topAt 38
abbrev s_greatest_answer : Stmt := topAt 40
abbrev s_parting_surrounding : Stmt := topAt 42
abbrev s_law_feed : Stmt := topAt 44
abbrev s_law_draw : Stmt := topAt 45
abbrev s_law_machine : Stmt := topAt 46
abbrev s_law_more : Stmt := topAt 47
abbrev s_law_reach : Stmt := topAt 48
abbrev s_law_part : Stmt := topAt 49
abbrev s_law_pair : Stmt := topAt 50
abbrev s_law_may : Stmt := topAt 51
abbrev s_law_every : Stmt := topAt 52
abbrev s_law_kinds : Stmt := topAt 53
abbrev s_law_placed : Stmt := topAt 54
abbrev s_law_is_number : Stmt := topAt 55
abbrev s_law_is_pair : Stmt := topAt 56
abbrev s_law_move_fault : Stmt := topAt 57
abbrev s_law_around_judged : Stmt := topAt 58
abbrev s_law_short : Stmt := topAt 59
abbrev s_law_is_right : Stmt := topAt 60
abbrev s_law : Stmt := topAt 61
def d_is_integer : He.DefD := ⟨("is_integer", none), "is_integer", "is_integer", defArgs s_is_integer, defBody s_is_integer, defScope s_is_integer, [], []⟩
def d_is_number : He.DefD := ⟨("is_number", none), "is_number", "is_number", defArgs s_is_number, defBody s_is_number, defScope s_is_number, [], []⟩
def d_is_pair : He.DefD := ⟨("is_pair", none), "is_pair", "is_pair", defArgs s_is_pair, defBody s_is_pair, defScope s_is_pair, [], []⟩
def d_is_by_form : He.DefD := ⟨("is_by_form", none), "is_by_form", "is_by_form", defArgs s_is_by_form, defBody s_is_by_form, defScope s_is_by_form, [], []⟩
def d_machine_fault : He.DefD := ⟨("machine_fault", none), "machine_fault", "machine_fault", defArgs s_machine_fault, defBody s_machine_fault, defScope s_machine_fault, [], []⟩
def d_is_machine : He.DefD := ⟨("is_machine", none), "is_machine", "is_machine", defArgs s_is_machine, defBody s_is_machine, defScope s_is_machine, [], []⟩
def d_want : He.DefD := ⟨("want", none), "want", "want", defArgs s_want, defBody s_want, defScope s_want, [.int (-1)], []⟩
def d_want_machine : He.DefD := ⟨("want_machine", none), "want_machine", "want_machine", defArgs s_want_machine, defBody s_want_machine, defScope s_want_machine, [.str "machine"], []⟩
def d_want_both : He.DefD := ⟨("want_both", none), "want_both", "want_both", defArgs s_want_both, defBody s_want_both, defScope s_want_both, [], []⟩
def d_want_case : He.DefD := ⟨("want_case", none), "want_case", "want_case", defArgs s_want_case, defBody s_want_case, defScope s_want_case, [], []⟩
def d_as_set : He.DefD := ⟨("as_set", none), "as_set", "as_set", defArgs s_as_set, defBody s_as_set, defScope s_as_set, [], []⟩
def d_all_standings : He.DefD := ⟨("all_standings", none), "all_standings", "all_standings", defArgs s_all_standings, defBody s_all_standings, defScope s_all_standings, [], []⟩
def d_left_by : He.DefD := ⟨("left_by", none), "left_by", "left_by", defArgs s_left_by, defBody s_left_by, defScope s_left_by, [], []⟩
def d_after_by : He.DefD := ⟨("after_by", none), "after_by", "after_by", defArgs s_after_by, defBody s_after_by, defScope s_after_by, [], []⟩
def d_goal_by : He.DefD := ⟨("goal_by", none), "goal_by", "goal_by", defArgs s_goal_by, defBody s_goal_by, defScope s_goal_by, [], []⟩
def d_states_behind : He.DefD := ⟨("states_behind", none), "states_behind", "states_behind", defArgs s_states_behind, defBody s_states_behind, defScope s_states_behind, [], []⟩
def d_states_begun : He.DefD := ⟨("states_begun", none), "states_begun", "states_begun", defArgs s_states_begun, defBody s_states_begun, defScope s_states_begun, [], []⟩
def d_failing_from : He.DefD := ⟨("failing_from", none), "failing_from", "failing_from", defArgs s_failing_from, defBody s_failing_from, defScope s_failing_from, [], []⟩
def d_failing_by : He.DefD := ⟨("failing_by", none), "failing_by", "failing_by", defArgs s_failing_by, defBody s_failing_by, defScope s_failing_by, [], []⟩
def d_failing : He.DefD := ⟨("failing", none), "failing", "failing", defArgs s_failing, defBody s_failing, defScope s_failing, [], [("beats", .int 0), ("guard", .non)]⟩
def d_feeding : He.DefD := ⟨("feeding", none), "feeding", "feeding", defArgs s_feeding, defBody s_feeding, defScope s_feeding, [], []⟩
def d_greatest_answer : He.DefD := ⟨("greatest_answer", none), "greatest_answer", "greatest_answer", defArgs s_greatest_answer, defBody s_greatest_answer, defScope s_greatest_answer, [], []⟩
def d_parting_surrounding : He.DefD := ⟨("parting_surrounding", none), "parting_surrounding", "parting_surrounding", defArgs s_parting_surrounding, defBody s_parting_surrounding, defScope s_parting_surrounding, [], []⟩
def d_law_feed : He.DefD := ⟨("_law_feed", none), "_law_feed", "_law_feed", defArgs s_law_feed, defBody s_law_feed, defScope s_law_feed, [], []⟩
def d_law_draw : He.DefD := ⟨("_law_draw", none), "_law_draw", "_law_draw", defArgs s_law_draw, defBody s_law_draw, defScope s_law_draw, [], []⟩
def d_law_machine : He.DefD := ⟨("_law_machine", none), "_law_machine", "_law_machine", defArgs s_law_machine, defBody s_law_machine, defScope s_law_machine, [], []⟩
def d_law_more : He.DefD := ⟨("_law_more", none), "_law_more", "_law_more", defArgs s_law_more, defBody s_law_more, defScope s_law_more, [], []⟩
def d_law_reach : He.DefD := ⟨("_law_reach", none), "_law_reach", "_law_reach", defArgs s_law_reach, defBody s_law_reach, defScope s_law_reach, [], []⟩
def d_law_part : He.DefD := ⟨("_law_part", none), "_law_part", "_law_part", defArgs s_law_part, defBody s_law_part, defScope s_law_part, [], []⟩
def d_law_pair : He.DefD := ⟨("_law_pair", none), "_law_pair", "_law_pair", defArgs s_law_pair, defBody s_law_pair, defScope s_law_pair, [], []⟩
def d_law_may : He.DefD := ⟨("_law_may", none), "_law_may", "_law_may", defArgs s_law_may, defBody s_law_may, defScope s_law_may, [], []⟩
def d_law_every : He.DefD := ⟨("_law_every", none), "_law_every", "_law_every", defArgs s_law_every, defBody s_law_every, defScope s_law_every, [], []⟩
def d_law_kinds : He.DefD := ⟨("_law_kinds", none), "_law_kinds", "_law_kinds", defArgs s_law_kinds, defBody s_law_kinds, defScope s_law_kinds, [], []⟩
def d_law_placed : He.DefD := ⟨("_law_placed", none), "_law_placed", "_law_placed", defArgs s_law_placed, defBody s_law_placed, defScope s_law_placed, [], []⟩
def d_law_is_number : He.DefD := ⟨("_law_is_number", none), "_law_is_number", "_law_is_number", defArgs s_law_is_number, defBody s_law_is_number, defScope s_law_is_number, [], []⟩
def d_law_is_pair : He.DefD := ⟨("_law_is_pair", none), "_law_is_pair", "_law_is_pair", defArgs s_law_is_pair, defBody s_law_is_pair, defScope s_law_is_pair, [], []⟩
def d_law_move_fault : He.DefD := ⟨("_law_move_fault", none), "_law_move_fault", "_law_move_fault", defArgs s_law_move_fault, defBody s_law_move_fault, defScope s_law_move_fault, [], []⟩
def d_law_around_judged : He.DefD := ⟨("_law_around_judged", none), "_law_around_judged", "_law_around_judged", defArgs s_law_around_judged, defBody s_law_around_judged, defScope s_law_around_judged, [], []⟩
def d_law_short : He.DefD := ⟨("_law_short", none), "_law_short", "_law_short", defArgs s_law_short, defBody s_law_short, defScope s_law_short, [], []⟩
def d_law_is_right : He.DefD := ⟨("_law_is_right", none), "_law_is_right", "_law_is_right", defArgs s_law_is_right, defBody s_law_is_right, defScope s_law_is_right, [], []⟩
def d_law : He.DefD := ⟨("law", none), "law", "law", defArgs s_law, defBody s_law, defScope s_law, [], []⟩
def defs : List He.DefD := [d_is_integer, d_is_number, d_is_pair, d_is_by_form, d_machine_fault, d_is_machine, d_want, d_want_machine, d_want_both, d_want_case, d_as_set, d_all_standings, d_left_by, d_after_by, d_goal_by, d_states_behind, d_states_begun, d_failing_from, d_failing_by, d_failing, d_feeding, d_greatest_answer, d_parting_surrounding, d_law_feed, d_law_draw, d_law_machine, d_law_more, d_law_reach, d_law_part, d_law_pair, d_law_may, d_law_every, d_law_kinds, d_law_placed, d_law_is_number, d_law_is_pair, d_law_move_fault, d_law_around_judged, d_law_short, d_law_is_right, d_law]
def facts : List He.Fa := [.glo "is_integer", .glo "is_number", .glo "is_pair", .glo "is_by_form", .glo "machine_fault", .glo "is_machine", .glo "want", .glo "want_machine", .glo "want_both", .glo "want_case", .glo "as_set", .glo "all_standings", .glo "left_by", .glo "after_by", .glo "goal_by", .glo "states_behind", .glo "states_begun", .glo "failing_from", .glo "failing_by", .glo "failing", .glo "feeding", .glo "greatest_answer", .glo "parting_surrounding", .glo "_law_feed", .glo "_law_draw", .glo "_law_machine", .glo "_law_more", .glo "_law_reach", .glo "_law_part", .glo "_law_pair", .glo "_law_may", .glo "_law_every", .glo "_law_kinds", .glo "_law_placed", .glo "_law_is_number", .glo "_law_is_pair", .glo "_law_move_fault", .glo "_law_around_judged", .glo "_law_short", .glo "_law_is_right", .glo "law", .free "isinstance", .free "int", .free "bool", .free "tuple", .free "len", .free "all", .free "enumerate", .free "sorted", .free "set", .free "range", .free "min", .free "max", .free "repr", .free "list"]
def loose1 : List PySem.Str := ["WakeError", "MachineError", "NotUsable", "is_integer", "is_number", "is_pair", "is_by_form", "machine_fault", "is_machine", "want", "want_machine", "is_place_by_form", "guard_fault", "want_many", "is_guard", "want_both", "want_case", "as_set", "all_standings", "left_by", "nexts_of", "after_by", "goal_by", "states_behind"]
def loose2 : List PySem.Str := ["states_begun", "failing_from", "failing_by", "failing", "feeding", "greatest_answer", "parting_surrounding", "_law_feed", "_law_draw", "_law_machine", "_law_more", "_law_reach", "_law_part", "_law_pair", "_law_may", "_law_every", "_law_kinds", "_law_placed", "_law_is_number", "_law_is_pair", "_law_move_fault", "_law_around_judged", "_law_short", "_law_is_right"]
def loose : List PySem.Str := loose1 ++ loose2
abbrev R : PySem.W.OpenRow := PySem.W.OpenLaw.row PySem.Challenge.rw_wokeas_k51_whole_parting_surroundings
abbrev hk : PySem.W.Hook := He.hookD 4 facts defs
def ob (s : PySem.W.SharedT) : He.AlD := He.obsDG 4 facts defs (HandSHeadRun.getT s)
theorem ob_eq (s : PySem.W.SharedT) : ob s = hk.obs s.abs := He.obsDG_eq (HandSHeadRun.getT_eq s)
theorem run (w : World) : HandSHeadRun.RunEq R (PySem.W.view R.prog [61]) hk ob 4000 loose w := by
  intro os
  kernel_rfl
end Wok

set_option maxHeartbeats 4000000
namespace Wok
open PySem PySem.Spec PyProof.Rows L2

/-! ### the set's table, for more masks than the library's -/
def MaskG (m : Nat) : Prop := m = 7 ∨ m = 31 ∨ m = 127 ∨ m = 511 ∨ m = 2047
/-- the slots that the first k steps of the round meet, as bits -/
def orb (m : Nat) : Nat → Nat
  | 0 => 0
  | k + 1 => orb m k ||| 2 ^ lcgN m k
theorem orb_mem (m j : Nat) : ∀ k, (orb m k).testBit j = true → ∃ i, i < k ∧ lcgN m i = j
  | 0, h => by simp [orb] at h
  | k + 1, h => by
    unfold orb at h
    rw [Nat.testBit_or, Bool.or_eq_true, Nat.testBit_two_pow, decide_eq_true_eq] at h
    rcases h with h | h
    · obtain ⟨i, a, b⟩ := orb_mem m j k h
      exact ⟨i, by omega, b⟩
    · exact ⟨k, by omega, h⟩
theorem orb_all {m : Nat} (hm : MaskG m) : orb m (m + 1) = 2 ^ (m + 1) - 1 := by
  rcases hm with e | e | e | e | e <;> subst e <;> decide +kernel
theorem orb_round {m : Nat} (hm : MaskG m) : lcgN m (m + 1) = 0 := by
  rcases hm with e | e | e | e | e <;> subst e <;> decide +kernel
/-- behind a whole round all is as at its start -/
theorem orb_mod {m : Nat} (hm : MaskG m) : ∀ k, lcgN m (m + 1 + k) = lcgN m k
  | 0 => orb_round hm
  | k + 1 => congrArg (fun z => (z * 5 + 1) % (m + 1)) (orb_mod hm k)
theorem orb_hits {m j : Nat} (hm : MaskG m) (hj : j ≤ m) : ∃ i, i ≤ m ∧ lcgN m i = j := by
  have e : (orb m (m + 1)).testBit j = true := by
    rw [orb_all hm, Nat.testBit_two_pow_sub_one]
    exact decide_eq_true (Nat.lt_succ_of_le hj)
  obtain ⟨i, a, b⟩ := orb_mem m j _ e
  exact ⟨i, Nat.le_of_lt_succ a, b⟩
/-- from any slot any other is met within a round -/
theorem orb_from {m i j : Nat} (hm : MaskG m) (hi : i ≤ m) (hj : j ≤ m) : ∃ k, k ≤ m ∧ lcgI m i k = j := by
  obtain ⟨a, la, ea⟩ := orb_hits hm hi
  obtain ⟨b, lb, eb⟩ := orb_hits hm hj
  subst ea
  by_cases c : a ≤ b
  · exact ⟨b - a, by omega, by rw [lcgN_add, show a + (b - a) = b by omega, eb]⟩
  · exact ⟨m + 1 + b - a, by omega, by rw [lcgN_add, show a + (m + 1 + b - a) = m + 1 + b by omega, orb_mod hm, eb]⟩
/-- each slot starts a run within m + 12 runs -/
theorem run_hits {m j : Nat} (hm : MaskG m) (h : Int) (hj : j ≤ m) : ∃ n, n ≤ m + 12 ∧ runI m (SetTable.bits h) n = j := by
  obtain ⟨k, lk, e⟩ := orb_from hm (runI_le m (SetTable.bits h) 12) hj
  exact ⟨12 + k, by omega, (runI_tail (bits_lt h) k).trans e⟩
theorem way_hits {m j : Nat} (hm : MaskG m) (h : Int) (hj : j ≤ m) : ∃ k, k < 10 * SetTable.turns m ∧ way m h k = j := by
  obtain ⟨n, ln, e⟩ := run_hits hm h hj
  obtain ⟨k, lk, e2⟩ := run_nth m (SetTable.bits h) n
  refine ⟨k, ?_, ?_⟩
  · show k < 10 * (m + 15)
    omega
  · exact (congrArg SetTable.Probe.j e2).trans e
/-- the first empty slot on the way -/
theorem way_first {m : Nat} (hm : MaskG m) (l : List Nat) (hl : l.length ≤ m) (h : Int) : ∃ k, k < 10 * SetTable.turns m ∧ way m h k ∉ l ∧ ∀ c, c < k → way m h c ∈ l := by
  obtain ⟨j, lj, nj⟩ := st_missing l (m + 1) (by omega)
  obtain ⟨k0, lk, e⟩ := way_hits hm h (Nat.le_of_lt_succ lj)
  obtain ⟨k, a, b, c⟩ := st_least (p := fun k => way m h k ∉ l) k0 (by rw [e]; exact nj)
  exact ⟨k, by omega, b, fun i hi => Classical.byContradiction fun z => c i hi z⟩

/-! ### the table laid anew -/
theorem free_here {m : Nat} {owner : Array (Option Nat)} : ∀ (f n i b j : Nat), n < f → i ≤ m → (itL m i b n).1 = j → oAt owner j = none →
    ∃ r, SetTable.layClean.free m owner f i b = some r ∧ oAt owner r = none ∧ r ≤ m
  | 0, _, _, _, _, h, _, _, _ => absurd h (Nat.not_lt_zero _)
  | f + 1, n, i, b, j, hn, hi, e, ho => by
    rw [free_succ]
    have hr := runEnd_bd hi
    cases q : (List.range (SetTable.runEnd m i + 1 - i)).find? fun k => (oAt owner (i + k)).isNone with
    | some k =>
      have h1 := List.find?_some q
      have h2 := List.mem_range.mp (List.mem_of_find?_eq_some q)
      exact ⟨i + k, rfl, Option.isNone_iff_eq_none.mp h1, by omega⟩
    | none =>
      cases n with
      | zero =>
        have e' : i = j := e
        subst e'
        have z := List.find?_eq_none.mp q 0 (List.mem_range.mpr (by omega))
        rw [Nat.add_zero, ho] at z
        exact absurd rfl z
      | succ n => exact free_here f n _ _ j (by omega) (leap_le m i b) e ho
theorem free_any {m : Nat} (hm : MaskG m) {owner : Array (Option Nat)} (h : Int) {j : Nat} (hj : j ≤ m) (ho : oAt owner j = none) :
    ∃ r, SetTable.layClean.free m owner (SetTable.turns m) (SetTable.bits h % (m + 1)) (SetTable.bits h) = some r ∧ oAt owner r = none ∧ r ≤ m := by
  obtain ⟨n, ln, e⟩ := run_hits hm h hj
  refine free_here (SetTable.turns m) n _ _ j ?_ (Nat.le_of_lt_succ (Nat.mod_lt _ (Nat.succ_pos _))) ?_ ho
  · show n < m + 15
    omega
  · rw [itL_run]
    exact e
theorem filterMap_same {α β : Type} {f g : α → Option β} : ∀ (l : List α), (∀ a ∈ l, g a = f a) → l.filterMap g = l.filterMap f
  | [], _ => rfl
  | a :: l, h => by
    have ih := filterMap_same (f := f) (g := g) l fun b hb => h b (List.mem_cons_of_mem _ hb)
    rw [List.filterMap_cons, List.filterMap_cons, h a List.mem_cons_self, ih]
/-- one place changed in a filterMap -/
theorem filterMap_one {α β : Type} (f g : α → Option β) (j : α) (b : β) (hf : f j = none) (hg : g j = some b) (he : ∀ a, a ≠ j → g a = f a) : ∀ l : List α, l.Nodup → j ∈ l → (l.filterMap g).Perm (b :: l.filterMap f)
  | [], _, h => by cases h
  | a :: l, nd, h => by
    obtain ⟨n1, n2⟩ := List.nodup_cons.mp nd
    by_cases c : a = j
    · subst c
      have e : l.filterMap g = l.filterMap f := filterMap_same l fun x hx => he x fun z => n1 (z ▸ hx)
      rw [List.filterMap_cons_some hg, List.filterMap_cons_none hf, e]
    · have hm : j ∈ l := (List.mem_cons.mp h).resolve_left fun z => c z.symm
      have ih := filterMap_one f g j b hf hg he l n2 hm
      cases q : f a with
      | none =>
        rw [List.filterMap_cons_none ((he a c).trans q), List.filterMap_cons_none q]
        exact ih
      | some y =>
        rw [List.filterMap_cons_some ((he a c).trans q), List.filterMap_cons_some q]
        exact (ih.cons y).trans (List.Perm.swap b y _)
theorem live_set {m j k : Nat} {owner : Array (Option Nat)} (hs : owner.size = m + 1) (hj : j ≤ m) (ho : oAt owner j = none) : (liveOf m (owner.setIfInBounds j (some k))).Perm ((j, k) :: liveOf m owner) := by
  have hj' : j < owner.size := by omega
  refine filterMap_one _ _ j (j, k) ?_ ?_ (fun a ha => ?_) _ List.nodup_range (List.mem_range.mpr (by omega))
  · rw [oAt_none hj', ho] <;> rfl
  · show ((owner.setIfInBounds j (some k)).getD j none).map (j, ·) = some (j, k)
    rw [Array.getD_eq_getD_getElem?, Array.getElem?_setIfInBounds, if_pos rfl, if_pos hj'] <;> rfl
  · show ((owner.setIfInBounds j (some k)).getD a none).map (a, ·) = (owner.getD a none).map (a, ·)
    rw [Array.getD_eq_getD_getElem?, Array.getD_eq_getD_getElem?, Array.getElem?_setIfInBounds, if_neg (fun z => ha z.symm)]
/-- n hashes have found their slots -/
def Laid (m n : Nat) (owner : Array (Option Nat)) : Prop := owner.size = m + 1 ∧ ((liveOf m owner).map (·.2)).Perm (List.range n)
theorem laid_zero (m : Nat) : Laid m 0 (Array.replicate (m + 1) none) := by
  refine ⟨by simp, ?_⟩
  have e : liveOf m (Array.replicate (m + 1) none) = [] := by
    unfold liveOf
    refine List.filterMap_eq_nil_iff.mpr fun j hj => ?_
    have h := List.mem_range.mp hj
    rw [Array.getD_eq_getD_getElem?, Array.getElem?_replicate, if_pos h] <;> rfl
  rw [e]
  exact List.Perm.refl _
theorem laid_room {m n : Nat} {owner : Array (Option Nat)} (L : Laid m n owner) (hn : n ≤ m) : ∃ j, j ≤ m ∧ oAt owner j = none := by
  obtain ⟨j, lj, nj⟩ := st_missing ((liveOf m owner).map (·.1)) (m + 1) (by
    have e := L.2.length_eq
    rw [List.length_map, List.length_range] at e
    rw [List.length_map]
    omega)
  refine ⟨j, Nat.le_of_lt_succ lj, ?_⟩
  cases q : oAt owner j with
  | none => rfl
  | some k => exact absurd (List.mem_map.mpr ⟨(j, k), (mem_live L.1).2 ⟨Nat.le_of_lt_succ lj, q⟩, rfl⟩) nj
theorem laid_step {m n : Nat} (hm : MaskG m) {owner : Array (Option Nat)} (L : Laid m n owner) (hn : n ≤ m) (h : Int) :
    ∃ owner', stepF m (some (owner, n)) h = some (owner', n + 1) ∧ Laid m (n + 1) owner' := by
  obtain ⟨j, lj, ej⟩ := laid_room L hn
  obtain ⟨r, e, er, lr⟩ := free_any hm h lj ej
  refine ⟨_, stepF_some e, by rw [Array.size_setIfInBounds]; exact L.1, ?_⟩
  refine ((live_set L.1 lr er).map (·.2)).trans ?_
  rw [List.map_cons, List.range_succ]
  exact (L.2.cons n).trans (List.perm_append_singleton n _).symm
theorem laid_fold {m : Nat} (hm : MaskG m) : ∀ (l : List Int) (n : Nat) (owner : Array (Option Nat)), Laid m n owner → n + l.length ≤ m → ∃ owner', l.foldl (stepF m) (some (owner, n)) = some (owner', n + l.length) ∧ Laid m (n + l.length) owner'
  | [], n, owner, L, _ => ⟨owner, rfl, L⟩
  | h :: l, n, owner, L, hl => by
    rw [List.length_cons] at hl
    obtain ⟨o1, e1, L1⟩ := laid_step hm L (by omega) h
    obtain ⟨o2, e2, L2⟩ := laid_fold hm l (n + 1) o1 L1 (by omega)
    have e : n + (h :: l).length = n + 1 + l.length := by rw [List.length_cons]; omega
    refine ⟨o2, ?_, by rw [e]; exact L2⟩
    rw [List.foldl_cons, e1, e]
    exact e2
theorem relaidG (t : SetTable) {hs : Array Int} {wanted M : Nat} (hw : SetTable.sizeAbove wanted - 1 = M) (hM : MaskG M) (hn : hs.size ≤ M) :
    ∃ t' order, t.relaid hs wanted = some (t', order) ∧ order.toList.Perm (List.range hs.size) ∧ Ris t'.place.toList ∧ t'.place.size = hs.size ∧ t'.mask = M ∧ t'.led = t.led ∧ t'.plain = t.plain ∧ t'.dummies = #[] := by
  obtain ⟨owner, e, L⟩ := laid_fold hM hs.toList 0 _ (laid_zero M) (by rw [Array.length_toList]; omega)
  have ec : SetTable.layClean M hs = some owner := by
    rw [layClean_eq, e] <;> rfl
  rw [Nat.zero_add, Array.length_toList] at L
  refine ⟨tabOf t M owner, ((liveOf M owner).map (·.2)).toArray, ?_, L.2, ?_, ?_, rfl, rfl, rfl, rfl⟩
  · rw [relaid_eq, hw, ec] <;> rfl
  · exact (ris_live (fun j => owner.getD j none) (List.range (M + 1)) (by unfold Ris; exact List.pairwise_lt_range)).1
  · have z := L.2.length_eq
    rw [List.length_map, List.length_range] at z
    show (((liveOf M owner).map (·.1)).toArray).size = hs.size
    rw [List.size_toArray, List.length_map, z]
theorem size_308 : SetTable.sizeAbove (SetTable.grown 77) = 512 := by decide +kernel
theorem size_1228 : SetTable.sizeAbove (SetTable.grown 307) = 2048 := by decide +kernel
/-- where a table of a mask is full, the next mask -/
theorem full_next {m n : Nat} (hm : MaskG m) (h1 : n * 5 < m * 3) (h2 : (n + 1) * 5 ≥ m * 3) (hn : n ≤ 1000) :
    ∃ M, SetTable.sizeAbove (SetTable.grown (n + 1)) - 1 = M ∧ MaskG M ∧ SetTable.sizeAbove (SetTable.grown (n + 1)) ≤ 4096 ∧ (n + 1) * 5 < M * 3 ∧ n + 1 ≤ M := by
  rcases hm with e | e | e | e | e
  · have en : n = 4 := by omega
    exact ⟨31, by rw [en, size_20], .inr (.inl rfl), by rw [en, size_20]; decide, by omega, by omega⟩
  · have en : n = 18 := by omega
    exact ⟨127, by rw [en, size_76], .inr (.inr (.inl rfl)), by rw [en, size_76]; decide, by omega, by omega⟩
  · have en : n = 76 := by omega
    exact ⟨511, by rw [en, size_308], .inr (.inr (.inr (.inl rfl))), by rw [en, size_308]; decide, by omega, by omega⟩
  · have en : n = 306 := by omega
    exact ⟨2047, by rw [en, size_1228], .inr (.inr (.inr (.inr rfl))), by rw [en, size_1228]; decide, by omega, by omega⟩
  · omega
end Wok
namespace Wok
open PySem PySem.Spec PyProof.Rows L2

/-! ### keys made of numbers and tuples alone -/
mutual
def nums : NestedKey → Bool
  | .none => false
  | .num _ => true
  | .text _ => false
  | .tup ks => numsAll ks
def numsAll : List NestedKey → Bool
  | [] => true
  | k :: ks => nums k && numsAll ks
end
section
variable {P : Program} {w : World} {A : Around} {E : Value → Shared → Prop}
/-- each answers b, and leaves all as it is -/
def Says (P : Program) (w : World) (s : Shared) (b : Bool) (t : Sem Bool) : Prop := ∀ (A : Around) (E : Value → Shared → Prop) (Q : Bool → Shared → Prop), Q b s → wpAny (model P w) A t Q E s
theorem Says.of {s : Shared} {b : Bool} {t : Sem Bool} (e : t = pure b) : Says P w s b t := fun A E Q q => by rw [e]; exact wpAny_pure q
theorem ofA_of_tuple {s : Shared} {a : Addr} {o : Obj} {vs : Array Value} {m n : Nat} (ho : s.heap.get? a = some o) (hc : o.cls = .type "tuple") (hd : o.data = .seq vs m) (h : ∀ v ∈ vs.toList, Says P w s false (ofAClassStatement n v)) :
    Says P w s false (ofAClassStatement (n + 1) (.ref a)) := fun A E Q q => by
  unfold ofAClassStatement
  refine wpAny_bind (wpAny_typeOf (T := "tuple") ⟨o, ho, hc⟩ ?_)
  try dsimp only
  simp only [show (("tuple" : String) == "tuple") = true by decide, if_true, Bool.not_true, Bool.false_eq_true, if_false]
  show wpAny _ _ (seqItems? (.ref a) >>= _) _ _ s
  refine wpAny_bind (wpAny_seqItems ho hd (wpAny_bind ?_))
  show wpAny _ _ (forIn vs _ _) _ _ s
  rw [← Array.forIn_toList]
  refine wpAny_forIn_list _ (fun l r z => r.1 = none ∧ z = s ∧ ∀ v ∈ l, Says P w s false (ofAClassStatement n v)) _ ?_ ?_ _ _ ⟨rfl, rfl, h⟩
  · rintro v l r z ⟨e1, rfl, hl⟩
    refine wpAny_bind (hl v List.mem_cons_self A _ _ ?_)
    simp only [Bool.false_eq_true, if_false]
    exact wpAny_pure ⟨rfl, rfl, fun u hu => hl u (List.mem_cons_of_mem _ hu)⟩
  · rintro ⟨r1, r2⟩ z ⟨e1, rfl, _⟩
    simp only at e1
    subst e1
    exact wpAny_pure q
theorem hashBy_of_tuple {s : Shared} {a : Addr} {o : Obj} {vs : Array Value} {m n : Nat} (ho : s.heap.get? a = some o) (hc : o.cls = .type "tuple") (hd : o.data = .seq vs m) (h : ∀ v ∈ vs.toList, Says P w s true (hashByValue n v)) :
    Says P w s true (hashByValue (n + 1) (.ref a)) := fun A E Q q => by
  unfold hashByValue
  refine wpAny_bind (wpAny_specialOf (T := "tuple") ⟨o, ho, hc⟩ F.slot_tuple_hash.lookup ?_)
  show wpAny _ _ (seqItems? (.ref a) >>= _) _ _ s
  refine wpAny_bind (wpAny_seqItems ho hd (wpAny_bind ?_))
  show wpAny _ _ (forIn vs _ _) _ _ s
  rw [← Array.forIn_toList]
  refine wpAny_forIn_list _ (fun l r z => r.1 = none ∧ z = s ∧ ∀ v ∈ l, Says P w s true (hashByValue n v)) _ ?_ ?_ _ _ ⟨rfl, rfl, h⟩
  · rintro v l r z ⟨e1, rfl, hl⟩
    refine wpAny_bind (hl v List.mem_cons_self A _ _ ?_)
    simp only [Bool.not_true, Bool.false_eq_true, if_false]
    exact wpAny_pure ⟨rfl, rfl, fun u hu => hl u (List.mem_cons_of_mem _ hu)⟩
  · rintro ⟨r1, r2⟩ z ⟨e1, rfl, _⟩
    simp only at e1
    subst e1
    exact wpAny_pure q
mutual
theorem key_says : ∀ (k : NestedKey) (v : Value) (n : Nat) (s : Shared), NestedIs s.heap k v → nums k = true → k.depth ≤ n → Says P w s false (ofAClassStatement n v) ∧ Says P w s true (hashByValue n v)
  | .none, _, _, _, _, h, _ => by cases h
  | .text _, _, _, _, _, h, _ => by cases h
  | .num i, _, n, s, x, _, _ => by
    cases x with
    | bool e => exact ⟨.of (by cases n <;> rfl), .of (by cases n <;> rfl)⟩
    | int _ t => exact ⟨.of (by cases n <;> rfl), .of (by cases n <;> rfl)⟩
  | .tup ks, _, n, s, x, h, hn => by
    cases x with
    | tup g1 g2 g3 g4 =>
      simp only [NestedKey.depth] at hn
      cases n with
      | zero => omega
      | succ n =>
        have z := keys_say ks _ n s g4 (by simpa [nums] using h) (by omega)
        exact ⟨ofA_of_tuple g1 g2 g3 fun v hv => (z v hv).1, hashBy_of_tuple g1 g2 g3 fun v hv => (z v hv).2⟩
theorem keys_say : ∀ (ks : List NestedKey) (vs : List Value) (n : Nat) (s : Shared), NestedAll s.heap ks vs → numsAll ks = true → NestedKey.depthAll ks ≤ n → ∀ v ∈ vs, Says P w s false (ofAClassStatement n v) ∧ Says P w s true (hashByValue n v)
  | [], _, _, _, x, _, _, v, hv => by cases x; cases hv
  | k :: ks, _, n, s, x, h, hn, v, hv => by
    cases x with
    | cons x1 x2 =>
      simp only [NestedKey.depthAll] at hn
      simp only [numsAll, Bool.and_eq_true] at h
      rcases List.mem_cons.mp hv with e | hv
      · rw [e]; exact key_says k _ n s x1 h.1 (by omega)
      · exact keys_say ks _ n s x2 h.2 (by omega) v hv
end
/-- the tuple at b is the key k -/
def KeyN (h : Heap) (k : NestedKey) (b : Addr) : Prop := (NestedIs h k (.ref b) ∧ k.depth ≤ 8) ∧ nums k = true
theorem KeyN.is {h : Heap} {k : NestedKey} {b : Addr} (x : KeyN h k b) : (nestedKind P w).is h k b := x.1
theorem KeyN.keep {h h' : Heap} {k : NestedKey} {b : Addr} (x : KeyN h k b) (e : ∀ c o, h.get? c = some o → h'.get? c = some o) : KeyN h' k b :=
  ⟨⟨NestedIs.at (fun c o _ _ q _ => e c o q) k _ x.1.1, x.1.2⟩, x.2⟩
/-- .. where the set at a alone changes -/
theorem KeyN.but {h h' : Heap} {k : NestedKey} {a b : Addr} {o : Obj} {es : Array (Int × Value)} {ep : Nat} {t : SetTable} (x : KeyN h k b) (ho : h.get? a = some o) (hd : o.data = .set es ep t) (hs : Heap.SameBut a h h') : KeyN h' k b :=
  ⟨⟨NestedIs.at (fun c oc vs n q qd => (hs.2 c fun z => by
    subst z
    rw [ho] at q
    cases q
    rw [hd] at qd
    cases qd).trans q) k _ x.1.1, x.1.2⟩, x.2⟩
theorem seen_none {s : Shared} {k : NestedKey} {b : Addr} (x : KeyN s.heap k b) {ys : List Value} (hy : ∀ y ∈ ys, ∃ k' c, y = Value.ref c ∧ KeyN s.heap k' c) : Says P w s false (searchCouldBeSeen (.ref b) ys) := fun A E Q q => by
  unfold searchCouldBeSeen
  refine wpAny_bind (wpAny_forIn_list _ (fun l r z => r.1 = none ∧ z = s ∧ ∀ y ∈ l, ∃ k' c, y = Value.ref c ∧ KeyN s.heap k' c) _ ?_ ?_ _ _ ⟨rfl, rfl, hy⟩)
  · rintro v l r z ⟨e1, rfl, hl⟩
    obtain ⟨k', c, rfl, xc⟩ := hl v List.mem_cons_self
    have hl' : ∀ y ∈ l, ∃ k' c, y = Value.ref c ∧ KeyN z.heap k' c := fun u hu => hl u (List.mem_cons_of_mem _ hu)
    dsimp only
    by_cases hv : (b == c || (carriedByValue (.ref b) && carriedByValue (.ref c))) = true
    · exact wp_if_pos hv (wpAny_pure ⟨rfl, rfl, hl'⟩)
    · refine wp_if_neg hv (wpAny_bind ((nestedKind P w).quiet x.is ?_))
      simp only [Bool.not_true, Bool.false_eq_true, if_false]
      refine wpAny_bind ((nestedKind P w).quiet xc.is ?_)
      simp only [Bool.not_true, Bool.false_eq_true, if_false]
      refine wpAny_bind ((key_says k _ 8 z x.1.1 x.2 x.1.2).1 A _ _ ?_)
      simp only [Bool.false_eq_true, if_false]
      refine wpAny_bind ((key_says k' _ 8 z xc.1.1 xc.2 xc.1.2).1 A _ _ ?_)
      simp only [Bool.false_eq_true, if_false]
      exact wpAny_pure ⟨rfl, rfl, hl'⟩
  · rintro ⟨r1, r2⟩ z ⟨e1, rfl, _⟩
    simp only at e1
    subst e1
    exact wpAny_pure q

/-! ### the set -/
structure SN (w : World) (h : Heap) (a : Addr) (es : Array (Int × Value)) (ep : Nat) (t : SetTable) : Prop where
  ob : ∃ o, h.get? a = some o ∧ o.ExactSet ∧ o.data = .set es ep t
  el : ∀ e ∈ es.toList, ∃ k c, e.2 = Value.ref c ∧ KeyN h k c
  ris : Ris t.place.toList
  dm : t.dummies = #[]
  sz : t.place.size = es.size
  mok : MaskG t.mask
  plain : t.plain = true
  led : w.params.followText "set-order" = true ∨ t.led = true
  room : es.size * 5 < t.mask * 3
  few : es.size ≤ 1000
variable {a : Addr} {es : Array (Int × Value)} {ep : Nat} {t : SetTable} {s : Shared}
theorem SN.fits (R : SN w s.heap a es ep t) : t.fits es.size = true := by
  have h1 := R.room
  unfold SetTable.fits SetTable.fill
  rw [R.dm, R.sz, Bool.and_eq_true, beq_iff_eq, decide_eq_true_eq]
  show es.size = es.size ∧ es.size + 0 ≤ t.mask
  omega
theorem maskG_odd {m : Nat} (h : MaskG m) : m % 2 = 1 := by
  rcases h with e | e | e | e | e <;> subst e <;> rfl
theorem SN.steady (R : SN w s.heap a es ep t) : ¬ t.gaveWay = true := by
  unfold SetTable.gaveWay
  rw [maskG_odd R.mok]
  decide
theorem nth_clean {m : Nat} : ∀ (n : Nat) (p : SetTable.Probe), p.dummy = none → (nth m p n).dummy = none
  | 0, _, h => h
  | n + 1, p, h => nth_clean n (adv m p) (by unfold adv; split <;> exact h)
abbrev wayS (m : Nat) (h : Int) : SetTable.Probe := runAt m (SetTable.bits h % (m + 1)) (SetTable.bits h)
/-- the search, from the c-th step of the way on: an equal key is met, or the first empty slot -/
theorem search_go (R : SN w s.heap a es ep t) {x : Addr} {k : NestedKey} {hh : Int} (hx : KeyN s.heap k x) (hu : A.units + 8 < cLine) {K : Nat} (hK : way t.mask hh K ∉ t.place.toList) (hKb : ∀ c, c < K → way t.mask hh c ∈ t.place.toList) (hKf : K < 10 * SetTable.turns t.mask)
    {Q : SetFound → Shared → Prop} (hin : (∃ e ∈ es.toList, ∃ c, e.2 = Value.ref c ∧ KeyN s.heap k c) → Q (.there none) s) (hout : Q (.free (way t.mask hh K) false) s) :
    ∀ (f c : Nat) (stand : Option SetTable.Probe), stand.getD (t.probeStart hh) = nth t.mask (wayS t.mask hh) c → c ≤ K → K - c < f → wpAny (model P w) A (setSearchFrom a (.ref x) hh true f stand) Q E s
  | 0, _, _, _, _, hf => absurd hf (Nat.not_lt_zero _)
  | f + 1, c, stand, hst, hc, hf => by
    obtain ⟨o, ho, hex, hd⟩ := R.ob
    have stp : ∀ q, (nth t.mask (nth t.mask (wayS t.mask hh) c) q).j = way t.mask hh (c + q) := fun q => congrArg SetTable.Probe.j (nth_add t.mask c _ q).symm
    have spec := go_spec t R.ris R.dm (fun i => (es[i]?.map (·.1)).getD 0) hh (10 * SetTable.turns t.mask) (K - c) (nth t.mask (wayS t.mask hh) c) (nth_clean c _ rfl) (by omega)
      (fun q hq => by rw [stp]; exact hKb _ (by omega)) (by rw [stp, show c + (K - c) = K by omega]; exact hK)
    rw [setSearchFrom_succ]
    refine wpAny_bind (wpAny_setState_of ho hd R.fits ?_)
    dsimp only
    refine wp_if_neg R.steady ?_
    try refine wpAny_bind (wpAny_pure ?_)
    rw [hst]
    rcases spec with ⟨q, i, hq, hi, _, _, hpr⟩ | ⟨_, hpr⟩
    · -- a slot of this hash
      have hpr' : t.probe (fun i => (es[i]?.map (·.1)).getD 0) hh (nth t.mask (wayS t.mask hh) c) = some (.candidate (nth t.mask (nth t.mask (wayS t.mask hh) c) q).j i (nth t.mask (nth t.mask (wayS t.mask hh) c) (q + 1))) := hpr
      rw [hpr']
      dsimp only
      have hil : i < es.size := by
        have h1 := (List.getElem?_eq_some_iff.mp hi).1
        rw [Array.length_toList, R.sz] at h1
        exact h1
      have hsl := slot_live R.ris hi
      have hei : es[i]? = some es[i] := Array.getElem?_eq_getElem hil
      generalize es[i] = e at hei
      have hem : e ∈ es.toList := List.mem_of_getElem? (by rw [Array.getElem?_toList]; exact hei)
      obtain ⟨k', c', e2, xc⟩ := R.el e hem
      obtain ⟨e1, ev⟩ := e
      have e2' : ev = Value.ref c' := e2
      subst e2'
      have rest : wpAny (model P w) A (searchRest a (.ref x) hh true f es t (nth t.mask (nth t.mask (wayS t.mask hh) c) q).j i (nth t.mask (nth t.mask (wayS t.mask hh) c) (q + 1))) Q E s := by
        unfold searchRest
        rw [hei]
        dsimp only
        refine wpAny_bind (wpAny_holding ((nestedKind P w).eqBool (x := k') (y := k) hu xc.is hx.is ?_))
        refine wpAny_bind (wpAny_setState_of ho hd R.fits ?_)
        dsimp only
        by_cases hkk : k' = k
        · refine wp_if_pos (by simp [hkk]) (wpAny_pure (hin ⟨_, hem, c', rfl, hkk ▸ xc⟩))
        · refine wp_if_neg (by simp [hkk]) ?_
          try refine wpAny_bind (wpAny_pure ?_)
          rw [sameMem]
          dsimp only
          simp only [if_true, hsl, hei]
          refine wpAny_bind (wpAny_isSame_ref_self (wpAny_bind (wpAny_pure ?_)))
          simp only [if_true]
          refine wp_if_neg (by simp [hkk]) ?_
          exact search_go R hx hu hK hKb hKf hin hout f (c + (q + 1)) _ (nth_add t.mask c _ (q + 1)).symm (by omega) (by omega)
      by_cases hl : t.led = true
      · refine wp_if_neg (by simp [hl]) ?_
        try refine wpAny_bind (wpAny_pure ?_)
        exact rest
      · refine wp_if_pos (by simp [hl]) ?_
        refine wpAny_bind (seen_none hx (fun y hy => ?_) A _ _ ?_)
        · obtain ⟨e0, he0, ee⟩ := List.mem_map.mp hy
          have he1 : e0 ∈ es ∧ e0.1 = hh := by simpa using he0
          obtain ⟨k2, c2, z1, z2⟩ := R.el e0 (by simpa using he1.1)
          exact ⟨k2, c2, ee.symm.trans z1, z2⟩
        · refine wp_if_neg (by decide) ?_
          try refine wpAny_bind (wpAny_pure ?_)
          exact rest
    · -- the empty slot
      have hpr' : t.probe (fun i => (es[i]?.map (·.1)).getD 0) hh (nth t.mask (wayS t.mask hh) c) = some (.empty (way t.mask hh K) none) := by
        have e2 : way t.mask hh K = (nth t.mask (nth t.mask (wayS t.mask hh) c) (K - c)).j := by rw [stp, show c + (K - c) = K by omega]
        rw [e2]
        exact hpr
      rw [hpr']
      exact wpAny_pure hout
theorem search_any (R : SN w s.heap a es ep t) {x : Addr} {k : NestedKey} {hh : Int} (hx : KeyN s.heap k x) (hu : A.units + 8 < cLine) {Q : SetFound → Shared → Prop}
    (hin : (∃ e ∈ es.toList, ∃ c, e.2 = Value.ref c ∧ KeyN s.heap k c) → Q (.there none) s) (hout : ∀ j, j ∉ t.place.toList → Q (.free j false) s) : wpAny (model P w) A (setSearch a (.ref x) hh true) Q E s := by
  have hroom := R.room
  obtain ⟨K, kf, kn, kb⟩ := way_first R.mok t.place.toList (by rw [Array.length_toList, R.sz]; omega) hh
  have hbig : 10 * SetTable.turns t.mask ≤ 20620 := by
    show 10 * (t.mask + 15) ≤ 20620
    rcases R.mok with e | e | e | e | e <;> omega
  unfold setSearch
  exact search_go R hx hu kn kb kf hin (hout _ kn) 100000 0 none rfl (Nat.zero_le _) (by omega)
end
end Wok
namespace Wok
open PySem PySem.Spec PyProof.Rows L2

theorem range_pick {α : Type} (l : List α) : ∀ n, n ≤ l.length → (List.range n).filterMap (fun i => l[i]?) = l.take n
  | 0, _ => rfl
  | n + 1, h => by
    have hn : n < l.length := h
    rw [List.range_succ, List.filterMap_append, range_pick l n (Nat.le_of_lt hn), List.filterMap_cons_some (List.getElem?_eq_getElem hn), List.filterMap_nil, List.take_succ, List.getElem?_eq_getElem hn]
    rfl
theorem order_pick {α : Type} (es : Array α) (order : Array Nat) (h : order.toList.Perm (List.range es.size)) : (order.filterMap (es[·]?)).toList.Perm es.toList := by
  have e1 : (order.filterMap (es[·]?)).toList = order.toList.filterMap fun i => es.toList[i]? := by
    rw [Array.toList_filterMap]
    exact congrArg (fun f => List.filterMap f order.toList) (funext fun i => (Array.getElem?_toList ..).symm)
  rw [e1]
  refine (h.filterMap _).trans ?_
  rw [range_pick es.toList es.size (by rw [Array.length_toList]; exact Nat.le_refl _), List.take_of_length_le (by rw [Array.length_toList]; exact Nat.le_refl _)]

section
variable {P : Program} {w : World} {A : Around} {E : Value → Shared → Prop} {s : Shared} {a : Addr} {es : Array (Int × Value)} {ep : Nat} {t : SetTable}
theorem relayS {o : Obj} (ho : s.heap.get? a = some o) (hex : o.ExactSet) (hd : o.data = .set es ep t) (el : ∀ e ∈ es.toList, ∃ k c, e.2 = Value.ref c ∧ KeyN s.heap k c) (sz : t.place.size = es.size) (dm : t.dummies = #[]) (fl : es.size ≤ t.mask)
    (pl : t.plain = true) (ld : w.params.followText "set-order" = true ∨ t.led = true) (few : es.size ≤ 1000) {wanted M : Nat} (hw : SetTable.sizeAbove wanted - 1 = M) (hM : MaskG M) (hw2 : SetTable.sizeAbove wanted ≤ 4096) (hr : es.size * 5 < M * 3) (hn : es.size ≤ M) {Q : Unit → Shared → Prop}
    (hQ : ∀ h' es' ep' t', Heap.SameBut a s.heap h' → SN w h' a es' ep' t' → es'.toList.Perm es.toList → Q () { s with heap := h' }) : wpAny (model P w) A (setRelay a wanted) Q E s := by
  have hfits : t.fits es.size = true := by
    unfold SetTable.fits SetTable.fill
    rw [dm, sz, Bool.and_eq_true, beq_iff_eq, decide_eq_true_eq]
    show es.size = es.size ∧ es.size + 0 ≤ t.mask
    omega
  obtain ⟨t', order, e, pm, r1, r2, r3, r4, r5, r6⟩ := relaidG t (hs := es.map (·.1)) hw hM (by rw [Array.size_map]; exact hn)
  rw [Array.size_map] at pm r2
  have pk := order_pick es order pm
  have hs2 : (order.filterMap (es[·]?)).size = es.size := by
    have z := pk.length_eq
    rw [Array.length_toList, Array.length_toList] at z
    exact z
  rw [setRelay_eq]
  refine wpAny_bind (wpAny_setState_of ho hd hfits ?_)
  dsimp only
  refine wp_if_neg (by rw [sizeLine_eq]; omega) ?_
  try refine wpAny_bind (wpAny_pure ?_)
  rw [e]
  dsimp only
  refine wpAny_bind (wp_if_neg (by rw [hs2]; simp) ?_)
  try refine wpAny_bind (wpAny_pure ?_)
  refine wpAny_pure ?_
  dsimp only
  refine wpAny_storeSet_of ho hd ?_ (by rw [hs2, sizeLine_eq]; omega)
  have sb : Heap.SameBut a s.heap (s.heap.update a (Obj.putSet (order.filterMap (es[·]?)) t')) := Heap.SameBut.update ..
  refine hQ _ (order.filterMap (es[·]?)) (ep + 1) t' sb ⟨⟨_, store_at ho hd, ⟨hex.1, hex.2.1, hex.2.2⟩, rfl⟩, fun x hx => ?_, r1, r6, by rw [r2, hs2], by rw [r3]; exact hM, by rw [r5]; exact pl, by rw [r4]; exact ld, by rw [hs2, r3]; exact hr, by rw [hs2]; exact few⟩ pk
  obtain ⟨k, c, z1, z2⟩ := el x (pk.mem_iff.mp hx)
  exact ⟨k, c, z1, z2.but ho hd sb⟩

/-- add: an equal key is there, or the tuple itself comes in -/
theorem addS (R : SN w s.heap a es ep t) {x : Addr} {k : NestedKey} {hh : Int} (hx : KeyN s.heap k x) (hu : A.units + 8 < cLine) (few : es.size + 1 ≤ 1000) {Q : Bool → Shared → Prop}
    (hQ : ∀ b h' es' ep' t', Heap.SameBut a s.heap h' → SN w h' a es' ep' t' → ((∃ e ∈ es.toList, ∃ c, e.2 = Value.ref c ∧ KeyN s.heap k c) ∧ es' = es) ∨ es'.toList.Perm ((hh, .ref x) :: es.toList) → Q b { s with heap := h' }) :
    wpAny (model P w) A (setAddHashed a (.ref x) hh) Q E s := by
  obtain ⟨o, ho, hex, hd⟩ := R.ob
  have hroom := R.room
  unfold setAddHashed
  refine wpAny_holding ?_
  rw [show (100000 : Nat) = 99999 + 1 from rfl, setAddHashedIn_succ]
  refine wpAny_bind (wpAny_setState_of ho hd R.fits ?_)
  dsimp only
  refine wp_if_neg (by simp [byScan, Value.scannable]) ?_
  try refine wpAny_bind (wpAny_pure ?_)
  refine wpAny_bind (search_any R hx hu (fun z => ?_) fun j hj => ?_)
  · dsimp only
    exact wpAny_pure (hQ false s.heap es ep t (Heap.SameBut.refl a s.heap) R (.inl ⟨z, rfl⟩))
  · dsimp only
    refine wpAny_bind (wpAny_setState_of ho hd R.fits ?_)
    dsimp only
    have hp := put_place t j
    have hdm := put_dm R.dm j
    have hmk : (t.put j).1.mask = t.mask := rfl
    have hled : (t.put j).1.led = t.led := rfl
    have hpl : (t.put j).1.plain = true := R.plain
    have hpix : (t.put j).2 = SetTable.below t.place j := rfl
    have hris : Ris (t.put j).1.place.toList := by
      rw [hp, ← SetTable.toList_insertAt]
      exact ris_insert R.ris fun z => hj (List.mem_of_getElem? (by rw [Array.getElem?_toList]; exact z))
    obtain ⟨cut, _, _⟩ := below_cut R.ris j
    have hsz1 : (t.put j).1.place.size = es.size + 1 := by
      rw [← Array.length_toList, hp, len_ins _ (by rw [Array.length_toList]; exact cut), Array.length_toList, R.sz]
    generalize hpt : t.put j = pt at hp hdm hmk hled hpl hpix hris hsz1
    obtain ⟨t1, p⟩ := pt
    dsimp only at hp hdm hmk hled hpl hpix hris hsz1 ⊢
    subst hpix
    first
      | (refine wpAny_bind ?_; refine wp_if_pos hpl ?_; refine (key_says k _ 8 s hx.1.1 hx.2 hx.1.2).2 A _ _ ?_)
      | refine wp_if_pos hpl (wpAny_bind ((key_says k _ 8 s hx.1.1 hx.2 hx.1.2).2 A _ _ ?_))
    simp only [if_true]
    have hins : (SetTable.insertAt es (SetTable.below t.place j) (hh, Value.ref x)).toList = es.toList.take (SetTable.below t.place j) ++ (hh, Value.ref x) :: es.toList.drop (SetTable.below t.place j) := SetTable.toList_insertAt _ _ _
    have pm : (SetTable.insertAt es (SetTable.below t.place j) (hh, Value.ref x)).toList.Perm ((hh, Value.ref x) :: es.toList) := by
      rw [hins]
      exact put_perm es.toList _ _
    generalize SetTable.insertAt es (SetTable.below t.place j) (hh, Value.ref x) = es1 at pm ⊢
    have hes : es1.size = es.size + 1 := by
      have z := pm.length_eq
      rw [Array.length_toList, List.length_cons, Array.length_toList] at z
      exact z
    refine wpAny_bind (wpAny_storeSet_of ho hd ?_ (by rw [hes, sizeLine_eq]; omega))
    have sb : Heap.SameBut a s.heap (s.heap.update a (Obj.putSet es1 t1)) := Heap.SameBut.update ..
    have ho1 := store_at (es' := es1) (t' := t1) ho hd
    generalize s.heap.update a (Obj.putSet es1 t1) = h1 at sb ho1 ⊢
    have el1 : ∀ e ∈ es1.toList, ∃ k c, e.2 = Value.ref c ∧ KeyN h1 k c := fun e he => by
      rcases List.mem_cons.mp (pm.mem_iff.mp he) with z | z
      · exact ⟨k, x, by rw [z], hx.but ho hd sb⟩
      · obtain ⟨k2, c2, y1, y2⟩ := R.el e z
        exact ⟨k2, c2, y1, y2.but ho hd sb⟩
    have ld1 : w.params.followText "set-order" = true ∨ t1.led = true := by rw [hled]; exact R.led
    have hfill : t1.fill = es.size + 1 := by
      unfold SetTable.fill
      rw [hsz1, hdm] <;> rfl
    by_cases hf : t1.tooFull = true
    · first
        | (refine wpAny_bind ?_; refine wp_if_pos (by simp [hf]) ?_)
        | (refine wp_if_pos (by simp [hf]) ?_; refine wpAny_bind ?_)
      have hfull : (es.size + 1) * 5 ≥ t.mask * 3 := by
        have z := hf
        unfold SetTable.tooFull at z
        rw [decide_eq_true_eq, hfill, hmk] at z
        exact z
      obtain ⟨M, m1, m2, m3, m4, m5⟩ := full_next R.mok R.room hfull (by omega)
      refine relayS (s := { s with heap := h1 }) ho1 ⟨hex.1, hex.2.1, hex.2.2⟩ rfl el1 (by rw [hsz1, hes]) hdm (by rw [hes, hmk]; omega) hpl ld1 (by rw [hes]; exact few) m1 m2 m3 (by rw [hes]; exact m4) (by rw [hes]; exact m5) ?_
      intro h2 es2 ep2 t2 sb2 R2 pm2
      exact wpAny_pure (hQ true h2 es2 ep2 t2 (sb.trans sb2) R2 (.inr (pm2.trans pm)))
    · first
        | refine wp_if_neg (by simp [hf]) ?_
        | (refine wpAny_bind ?_; refine wp_if_neg (by simp [hf]) ?_; refine wpAny_pure ?_)
      refine wpAny_pure (hQ true h1 es1 (ep + 1) t1 sb ⟨⟨_, ho1, ⟨hex.1, hex.2.1, hex.2.2⟩, rfl⟩, el1, hris, hdm, by rw [hsz1, hes], by rw [hmk]; exact R.mok, hpl, ld1, ?_, by rw [hes]; exact few⟩ (.inr pm))
      have z := hf
      unfold SetTable.tooFull at z
      rw [decide_eq_true_eq, hfill] at z
      rw [hes]
      omega
end
end Wok
namespace Wok
open PySem PySem.Spec PyProof.Rows L2
section
variable {P : Program} {w : World} {A : Around} {E : Value → Shared → Prop} {s : Shared}
/-- a set just made -/
abbrev setO0 (w : World) : Obj := { cls := .type "set", dict := none, data := .set #[] 0 (.fresh 0 0 (!w.params.followText "set-order")) }
abbrev liO (l : Addr) : Obj := { cls := .type "list_iterator", data := .fields #[.ref l, .int 0 0] }
set_option maxHeartbeats 4000000 in
/-- set(xs) of a list, by what its loop does -/
theorem set_of_list {l : Addr} {items : Array Value} {Q : Value → Shared → Prop} {Z : Shared → Prop} (hl : s.heap.IsList l items)
    (hloop : codeAny (model P w) A.in1.in1 (.builtin "set.update.loop" ⟨[.ref s.heap.objs.size, .ref (s.heap.objs.size + 1)], []⟩) (fun r z => r = .ok (.ret .none) ∧ Z z) { s with heap := (s.heap.push (setO0 w)).push (liO l) })
    (h : ∀ z, Z z → Q (.ref s.heap.objs.size) z) : wpAny (model P w) A (call (.type "set") [.ref l]) Q E s := by
  obtain ⟨c, tl, hmro⟩ := F.called_set.mro
  have hmade := F.called_set.made
  have hsub := F.called_set.sub
  have hnt := F.called_set.notType
  have hcc := F.called_set.canCreate
  have hct := F.typeCall_set_1 (.ref l)
  refine wpAny_call (codeAny_of_tree ?_)
  show wpAny _ _ (callAny (.type "set") _) _ _ _
  refine wpAny_pure ⟨Code.quiet_builtin _ (by decide +kernel), codeAny_builtin F.entry_type_call ?_⟩
  rw [Around.under_plain (weight_type_call_type "set" [.ref l] []) rfl]
  repeat (any_goals (first | assumption | wp_step))
  refine codeAny_mono (code_set_led1 (.ref l) (E := E) (Q₁ := fun u z => u = .ref s.heap.objs.size ∧ z = { s with heap := s.heap.push (setO0 w) }) ⟨rfl, rfl⟩) fun r z hr => ?_
  cases r with
  | error e => exact hr
  | ok fl =>
    cases fl with
    | next => exact hr.elim
    | brk => exact hr.elim
    | cont => exact hr.elim
    | ret u =>
      obtain ⟨rfl, rfl⟩ := hr
      have hS : (s.heap.push (setO0 w)).get? s.heap.objs.size = some (setO0 w) := Heap.get?_push_size _ rfl
      have hT : Shared.TypeIs { s with heap := s.heap.push (setO0 w) } (.ref s.heap.objs.size) "set" := ⟨_, hS, rfl⟩
      have hli := F.called_set.init.lookup
      have hbi := F.called_set.init.bind (.ref s.heap.objs.size)
      repeat (any_goals (first | assumption | wp_step))
      refine codeAny_mono (codeAny_call_builtin (R := wants (fun r z => r = .none ∧ Z z) E) F.called_set.init.plain F.entry_set_init (check_set_init_1 hT ?_)) fun r2 z2 hr2 => ?_
      · obtain ⟨ol, hol, hcl, nl, hdl⟩ := hl
        obtain ⟨ocls, odict, odata, oslots⟩ := ol
        simp only at hcl hdl
        subst hcl hdl
        have hol' : (s.heap.push (setO0 w)).get? l = some { cls := .type "list", dict := odict, data := .seq items nl, slots := oslots } := Heap.get?_push_of_some _ hol
        have hl1 : (s.heap.push (setO0 w)).IsList l items := ⟨_, hol', rfl, nl, rfl⟩
        have hsls := F.sub_list_set
        have hslf := F.sub_list_frozenset
        have hne : (Value.type "list" == Value.type "dict") = false := by decide
        unfold Builtin.«set.__init__» noKeywords Builtin.Frozenset.updateFrom
        generalize hPI : pyIter = PI
        wp_walk
        subst hPI
        refine wpAny_pyIter_list hl1 (wpAny_bind (wpAny_runValue ?_))
        have hz : (s.heap.push (setO0 w)).objs.size = s.heap.objs.size + 1 := Heap.size_push ..
        rw [hz]
        refine codeAny_mono hloop fun r3 z3 hr3 => ?_
        obtain ⟨rfl, q⟩ := hr3
        refine wpAny_pure ?_
        show wpAny _ _ (ret Value.none) _ _ _
        exact wpAny_pure ⟨rfl, q⟩
      · cases r2 with
        | error e => exact hr2
        | ok fl2 =>
          cases fl2 with
          | next => exact hr2.elim
          | brk => exact hr2.elim
          | cont => exact hr2.elim
          | ret r =>
            obtain ⟨rfl, q⟩ := hr2
            repeat (any_goals (first | assumption | wp_step))
            exact h _ q
end
end Wok
namespace Wok
open PySem PySem.Spec PyProof.Rows L2
section
variable {P : Program} {w : World} {A : Around} {E : Value → Shared → Prop} {s : Shared}
theorem KeyN.uniq {h : Heap} {k k' : NestedKey} {b : Addr} (x : KeyN h k b) (y : KeyN h k' b) : k = k' := NestedIs.inj _ _ _ x.1.1 y.1.1
/-- what has come in from the first i of the list -/
structure GotN (h : Heap) (items : List Value) (i : Nat) (es : Array (Int × Value)) : Prop where
  sub : ∀ e ∈ es.toList, e.2 ∈ items.take i
  all : ∀ k b, Value.ref b ∈ items.take i → KeyN h k b → ∃ c, Value.ref c ∈ es.toList.map (·.2) ∧ KeyN h k c
  len : es.size ≤ i
theorem take_one {α : Type} {l : List α} {i : Nat} {x : α} (h : l[i]? = some x) : l.take (i + 1) = l.take i ++ [x] := by
  rw [List.take_succ, h] <;> rfl
theorem setN_loop {I : Addr} {fp wr : List Addr} {G : Array GenState → Array GenState → Prop} {n : Nat} {Pv : Nat → Value → Prop} {St : Nat → Shared → Prop} {R : Result → Shared → Prop}
    (W : WalksS P w A.in1 I fp wr G n Pv St) (S : Addr) (hSf : S ∉ fp) (items : List Value) (hn : n = items.length) (few : items.length ≤ 1000) (hval : ∀ i v, Pv i v → items[i]? = some v)
    (h0 : Heap) (hk : ∀ v ∈ items, ∃ k b, v = Value.ref b ∧ KeyN h0 k b) (hS0 : h0.get? S = none) (hw0 : ∀ b ∈ wr, h0.get? b = none) (hu : A.in1.units + 8 < cLine) :
    ∀ (m i : Nat) (s : Shared), n - i = m → i ≤ n → St i s → (∀ b o, h0.get? b = some o → s.heap.get? b = some o) → (∃ es ep t, SN w s.heap S es ep t ∧ GotN h0 items i es) →
      (∀ z es ep t, Moved (S :: wr) G s z → SN w z.heap S es ep t → GotN h0 items n es → (∀ b o, h0.get? b = some o → z.heap.get? b = some o) → R (.ok (.ret .none)) z) →
      codeAny (model P w) A (.builtin "set.update.loop" ⟨[.ref S, .ref I], []⟩) R s := by
  have hSw : S ∉ wr := fun q => hSf (W.sub _ q)
  have up : ∀ b ∈ wr, b ∈ S :: wr := fun b hb => List.mem_cons_of_mem _ hb
  have old : ∀ {s z : Shared}, Moved wr G s z → (∀ b o, h0.get? b = some o → s.heap.get? b = some o) → ∀ b o, h0.get? b = some o → z.heap.get? b = some o := fun hm kp b o e =>
    hm.heap b o (fun hb => by rw [hw0 b hb] at e; cases e) (kp b o e)
  have redo : ∀ {s z : Shared} {es : Array (Int × Value)} {ep : Nat} {t : SetTable} {i : Nat}, SN w s.heap S es ep t → GotN h0 items i es → Moved wr G s z → (∀ b o, h0.get? b = some o → z.heap.get? b = some o) → SN w z.heap S es ep t :=
    fun {s z es ep t i} R g hm kp => by
      obtain ⟨o, ho, r⟩ := R.ob
      refine ⟨⟨o, hm.heap S o hSw ho, r⟩, fun e he => ?_, R.ris, R.dm, R.sz, R.mok, R.plain, R.led, R.room, R.few⟩
      obtain ⟨k, b, e1, e2⟩ := hk e.2 (List.mem_of_mem_take (g.sub e he))
      exact ⟨k, b, e1, e2.keep kp⟩
  intro m
  induction m with
  | zero =>
    intro i s hm hi hst kp ⟨es, ep, t, hS, g⟩ hR
    have ei : i = n := by omega
    subst ei
    refine codeAny_builtin F.entry_set_update_loop ?_
    rw [Around.under_plainId F.plain_set_update_loop _]
    show wpAny _ A.in1 (pyNext (.ref I) >>= _) _ _ s
    refine wpAny_bind (W.done s _ _ hst fun z mv => ?_)
    show wpAny _ A.in1 (ret Value.none) _ _ z
    exact wpAny_pure (hR z es ep t (mv.mono up) (redo hS g mv (old mv kp)) g (old mv kp))
  | succ m ih =>
    intro i s hm hi hst kp ⟨es, ep, t, hS, g⟩ hR
    have lt : i < n := by omega
    refine codeAny_builtin F.entry_set_update_loop ?_
    rw [Around.under_plainId F.plain_set_update_loop _]
    show wpAny _ A.in1 (pyNext (.ref I) >>= _) _ _ s
    refine wpAny_bind (W.item i s _ _ lt hst fun v z pv hst' mv => ?_)
    have hv := hval i v pv
    have kp' := old mv kp
    have hS' := redo hS g mv kp'
    obtain ⟨k, b, rfl, xb⟩ := hk v (List.mem_of_getElem? hv)
    have xz : KeyN z.heap k b := xb.keep kp'
    show wpAny _ A.in1 (holding [Value.ref b] (setAdd S (.ref b)) >>= _) _ _ z
    refine wpAny_bind (wpAny_holding ?_)
    unfold setAdd
    refine wpAny_holding (wpAny_bind ((nestedKind P w).pyHash (k := k) hu xz.is ?_))
    refine addS (s := { z with toks := z.toks + (nestedKind P w).draws k }) hS' xz hu (by have := g.len; omega) fun bb h' es' ep' t' sb R2 alt => ?_
    have tk := take_one hv
    have kp2 : ∀ c o, h0.get? c = some o → h'.get? c = some o := fun c o e => (sb.2 c (fun q => by rw [q, hS0] at e; cases e)).trans (kp' c o e)
    have g' : GotN h0 items (i + 1) es' := by
      rcases alt with ⟨⟨e0, he0, c0, f1, f2⟩, rfl⟩ | pm
      · obtain ⟨k2, b2, y1, y2⟩ := hk e0.2 (List.mem_of_mem_take (g.sub e0 he0))
        rw [f1] at y1
        cases y1
        have ek : k2 = k := (y2.keep kp').uniq f2
        subst ek
        refine ⟨fun e he => by rw [tk]; exact List.mem_append_left _ (g.sub e he), fun k3 b3 hb3 x3 => ?_, Nat.le_succ_of_le g.len⟩
        rw [tk] at hb3
        rcases List.mem_append.mp hb3 with q | q
        · exact g.all k3 b3 q x3
        · have e3 := List.mem_singleton.mp q
          injection e3 with e3
          subst e3
          have ek := x3.uniq xb
          subst ek
          exact ⟨c0, List.mem_map.mpr ⟨e0, he0, f1⟩, y2⟩
      · refine ⟨fun e he => ?_, fun k3 b3 hb3 x3 => ?_, ?_⟩
        · rw [tk]
          rcases List.mem_cons.mp (pm.mem_iff.mp he) with q | q
          · rw [q]; exact List.mem_append_right _ (List.mem_singleton.mpr rfl)
          · exact List.mem_append_left _ (g.sub e q)
        · rw [tk] at hb3
          have into : ∀ v, v ∈ es.toList.map (·.2) → v ∈ es'.toList.map (·.2) := fun v hv => (pm.map (·.2)).mem_iff.mpr (List.mem_cons_of_mem _ hv)
          rcases List.mem_append.mp hb3 with q | q
          · obtain ⟨c, y1, y2⟩ := g.all k3 b3 q x3
            exact ⟨c, into _ y1, y2⟩
          · have e3 := List.mem_singleton.mp q
            injection e3 with e3
            subst e3
            exact ⟨b3, (pm.map (·.2)).mem_iff.mpr List.mem_cons_self, x3⟩
        · have q := pm.length_eq
          rw [Array.length_toList, List.length_cons, Array.length_toList] at q
          have := g.len
          omega
    refine wpAny_pure ⟨plainId_quiet F.plain_set_update_loop _, ih (i + 1) _ (by omega) lt (W.frame _ z _ _ hst' (Nat.le_add_right _ _) fun c hc o e => ?_) kp2 ⟨es', ep', t', R2, g'⟩ fun y es2 ep2 t2 mv2 R3 g2 kp3 => ?_⟩
    · rw [sb.2 c (fun q : c = S => hSf (by rw [← q]; exact hc))]; exact e
    · refine hR y es2 ep2 t2 (Moved.trans W.gtrans ((mv.mono up).then_heap (Nat.le_add_right _ _) fun c o hc e => ?_) mv2) R3 g2 kp3
      rw [sb.2 c (fun q : c = S => hc (by rw [q]; exact List.mem_cons_self))]; exact e
theorem gotN_zero (h : Heap) (items : List Value) : GotN h items 0 #[] := ⟨fun e he => by simp at he, fun k b hb => by simp at hb, Nat.le_refl _⟩
theorem setN_new {h : Heap} {a : Addr} (ho : h.get? a = some (setO0 w)) : SN w h a #[] 0 (.fresh 0 0 (!w.params.followText "set-order")) where
  ob := ⟨_, ho, ⟨rfl, rfl, rfl⟩, rfl⟩
  el := fun e he => by simp at he
  ris := List.Pairwise.nil
  dm := rfl
  sz := rfl
  mok := .inl rfl
  plain := rfl
  led := by
    show _ ∨ (!w.params.followText "set-order") = true
    cases w.params.followText "set-order"
    · exact .inr rfl
    · exact .inl rfl
  room := by show 0 * 5 < 7 * 3; decide
  few := Nat.zero_le _
theorem none_past {h : Heap} {b : Addr} (hb : h.objs.size ≤ b) : h.get? b = none := by
  cases q : h.get? b with
  | none => rfl
  | some o => exact absurd (Nat.lt_of_lt_of_le (Heap.lt_size q) hb) (Nat.lt_irrefl _)
/-- the walk of the new set's source -/
theorem list_walk {l : Addr} {items : Array Value} (hh : A.handled = none) (hl : s.heap.IsList l items) :
    WalksS P w A.in1.in1.in1 (s.heap.objs.size + 1) [s.heap.objs.size + 1, l] [s.heap.objs.size + 1] (fun a b => b = a) items.size (fun i v => items[i]? = some v) (fun i z => z.heap.IsListIter (s.heap.objs.size + 1) l i ∧ z.heap.IsList l items) ∧
      s.heap.objs.size ∉ [s.heap.objs.size + 1, l] := by
  have hlS : l < s.heap.objs.size := by
    obtain ⟨o, ho, _⟩ := hl
    exact Heap.lt_size ho
  refine ⟨(Walks.list (by simp [hh]) (s.heap.objs.size + 1) l (Nat.ne_of_lt (Nat.lt_succ_of_lt hlS)) items).toS, ?_⟩
  simp only [List.mem_cons, List.mem_singleton, List.not_mem_nil, or_false, not_or]
  exact ⟨Nat.ne_of_lt (Nat.lt_succ_self _), Nat.ne_of_gt hlS⟩
/-- set(xs), xs a list of keys -/
theorem call_setN {l : Addr} {items : Array Value} {Q : Value → Shared → Prop} (hh : A.handled = none) (hl : s.heap.IsList l items) (few : items.size ≤ 1000) (hk : ∀ v ∈ items.toList, ∃ k b, v = Value.ref b ∧ KeyN s.heap k b) (hu : A.units + 20 < cLine)
    (h : ∀ h' tk es ep t, SN w h' s.heap.objs.size es ep t → GotN s.heap items.toList items.size es → (∀ b o, s.heap.get? b = some o → h'.get? b = some o) → Q (.ref s.heap.objs.size) { s with heap := h', toks := tk }) :
    wpAny (model P w) A (call (.type "set") [.ref l]) Q E s := by
  obtain ⟨W, nS⟩ := list_walk (P := P) (w := w) hh hl
  have hsz : (s.heap.push (setO0 w)).objs.size = s.heap.objs.size + 1 := Heap.size_push ..
  have hS : ((s.heap.push (setO0 w)).push (liO l)).get? s.heap.objs.size = some (setO0 w) := Heap.get?_push_of_some _ (Heap.get?_push_size _ rfl)
  have hI : ((s.heap.push (setO0 w)).push (liO l)).get? (s.heap.objs.size + 1) = some (liO l) := by
    rw [← hsz]
    exact Heap.get?_push_size _ rfl
  refine set_of_list (Z := fun z => ∃ h' tk es ep t, z = { s with heap := h', toks := tk } ∧ SN w h' s.heap.objs.size es ep t ∧ GotN s.heap items.toList items.size es ∧ ∀ b o, s.heap.get? b = some o → h'.get? b = some o) hl ?_ ?_
  · refine setN_loop W s.heap.objs.size nS items.toList (by rw [Array.length_toList]) (by rw [Array.length_toList]; exact few) (fun i v e => by rw [Array.getElem?_toList]; exact e) s.heap hk (none_past (Nat.le_refl _))
      (fun b hb => none_past (by rw [List.mem_singleton.mp hb]; exact Nat.le_succ _)) (by show A.units + 1 + 1 + 1 + 8 < cLine; omega) items.size 0 _ (Nat.sub_zero _) (Nat.zero_le _) ⟨⟨_, hI, rfl, rfl⟩, (hl.push _).push _⟩
      (fun b o e => Heap.get?_push_of_some _ (Heap.get?_push_of_some _ e)) ⟨#[], 0, _, setN_new hS, gotN_zero _ _⟩ ?_
    intro z es ep t mv R g kp
    obtain ⟨h', g2, d2, tk2, os2⟩ := z
    have eg : g2 = s.gens := mv.gens
    have ed : d2 = s.drawn := mv.drawn
    have eo : os2 = s.os := mv.os
    subst eg ed eo
    exact ⟨rfl, h', tk2, es, ep, t, rfl, R, g, kp⟩
  · rintro z ⟨h', tk, es, ep, t, rfl, R, g, kp⟩
    exact h h' tk es ep t R g kp
/-- set(xs), xs a list of whole numbers -/
theorem call_setInts {l : Addr} {items : Array Value} {ns : List Int} {Q : Value → Shared → Prop} (hh : A.handled = none) (hl : s.heap.IsList l items) (hit : IntsAre items.toList ns) (few : ns.length ≤ 1000)
    (h : ∀ (h' : Heap) (tk c : Nat), SetR w h' s.heap.objs.size (fun j => decide (j ∈ ns)) c → c ≤ ns.length → (∀ b o, s.heap.get? b = some o → h'.get? b = some o) → Q (.ref s.heap.objs.size) { s with heap := h', toks := tk }) :
    wpAny (model P w) A (call (.type "set") [.ref l]) Q E s := by
  obtain ⟨W, nS⟩ := list_walk (P := P) (w := w) hh hl
  have hlen : items.size = ns.length := by
    have q := IntsAre.length hit
    rw [Array.length_toList] at q
    exact q
  have hsz : (s.heap.push (setO0 w)).objs.size = s.heap.objs.size + 1 := Heap.size_push ..
  have hS : ((s.heap.push (setO0 w)).push (liO l)).get? s.heap.objs.size = some (setO0 w) := Heap.get?_push_of_some _ (Heap.get?_push_size _ rfl)
  have hI : ((s.heap.push (setO0 w)).push (liO l)).get? (s.heap.objs.size + 1) = some (liO l) := by
    rw [← hsz]
    exact Heap.get?_push_size _ rfl
  have hat : ∀ (us : List Value) (ms : List Int), IntsAre us ms → ∀ (i : Nat) (v : Value), us[i]? = some v → ∃ k t, ms[i]? = some k ∧ v = .int k t := by
    intro us ms hm
    induction hm with
    | nil => intro i v e; simp at e
    | cons n t _ ih =>
      intro i v e
      cases i with
      | zero => simp at e; exact ⟨n, t, rfl, e.symm⟩
      | succ i => exact ih i v (by simpa using e)
  refine set_of_list (Z := fun z => ∃ h' tk c, z = { s with heap := h', toks := tk } ∧ SetR w h' s.heap.objs.size (fun j => decide (j ∈ ns)) c ∧ c ≤ ns.length ∧ ∀ b o, s.heap.get? b = some o → h'.get? b = some o) hl ?_ ?_
  · refine set_update_ints W s.heap.objs.size nS ns hlen (by unfold scanBound; omega) (fun i v e => hat _ _ hit i v (by rw [Array.getElem?_toList]; exact e)) items.size 0 _ (Nat.sub_zero _) (Nat.zero_le _) ⟨⟨_, hI, rfl, rfl⟩, (hl.push _).push _⟩ ⟨0, Nat.le_refl _, setR_new_at hS⟩ ?_
    intro z c mv hc R
    obtain ⟨h', g2, d2, tk2, os2⟩ := z
    have eg : g2 = s.gens := mv.gens
    have ed : d2 = s.drawn := mv.drawn
    have eo : os2 = s.os := mv.os
    subst eg ed eo
    refine ⟨rfl, h', tk2, c, rfl, R, by omega, fun b o e => mv.heap b o (fun hb => ?_) (Heap.get?_push_of_some _ (Heap.get?_push_of_some _ e))⟩
    have hlt := Heap.lt_size e
    rcases List.mem_cons.mp hb with q | q
    · exact Nat.lt_irrefl _ (q ▸ hlt)
    · exact Nat.lt_irrefl _ (Nat.lt_trans (Nat.lt_succ_self _) (List.mem_singleton.mp q ▸ hlt))
  · rintro z ⟨h', tk, c, rfl, R, hc, kp⟩
    exact h h' tk c R hc kp
end
end Wok
namespace Wok
open PySem PySem.Spec PyProof.Rows L2
open Evl (Ex EvT)
abbrev St := L2.St

/-! ### data in the abstract heap: numbers, truth values, None, texts, tuples -/
mutual
inductive Dt (K : PySem.W.Frag) (H : Hp) : V → PyData → Prop
  | non : Dt K H .non .none
  | bl (b : Bool) : Dt K H (.bl b) (.bool b)
  | int (i : Int) : Dt K H (.int i) (.int i)
  | str (x : Str) : Dt K H (.str x) (.str x)
  | tup {a : Addr} {xs : List V} {ds : List PyData} (hs : SqT K H a xs) (hd : DtAll K H xs ds) : Dt K H (.ref a) (.tuple ds)
inductive DtAll (K : PySem.W.Frag) (H : Hp) : List V → List PyData → Prop
  | nil : DtAll K H [] []
  | cons {v : V} {vs : List V} {d : PyData} {ds : List PyData} (h : Dt K H v d) (t : DtAll K H vs ds) : DtAll K H (v :: vs) (d :: ds)
end

/-- the tuples stay -/
def Kp (K : PySem.W.Frag) (H H' : Hp) : Prop := ∀ a xs, SqT K H a xs → SqT K H' a xs
theorem Kp.refl (K : PySem.W.Frag) (H : Hp) : Kp K H H := fun _ _ h => h
theorem Kp.trans {K : PySem.W.Frag} {H H1 H2 : Hp} (a : Kp K H H1) (b : Kp K H1 H2) : Kp K H H2 := fun c xs h => b c xs (a c xs h)
theorem Kp.ex {K : PySem.W.Frag} {H H' : Hp} (e : Ex H H') : Kp K H H' := fun _ _ h => Evl.ex_t e h
/-- an object that is no tuple is written -/
def NoTup : HO → Prop
  | .tup _ => False
  | .frz _ _ => False
  | _ => True
theorem Kp.upd {K : PySem.W.Frag} {H : Hp} {l : Addr} {o o' : HO} (h : H l = some o) (n : NoTup o) : Kp K H (upd H l o') := fun a xs q => by
  rcases q with (q | ⟨ob, q⟩) | q
  · refine .inl (.inl ?_)
    rw [upd_ne (fun z => by subst z; rw [h] at q; cases q; exact n)]
    exact q
  · refine .inl (.inr ⟨ob, ?_⟩)
    rw [upd_ne (fun z => by subst z; rw [h] at q; cases q; exact n)]
    exact q
  · exact .inr q
theorem Kp.new {K : PySem.W.Frag} {H : Hp} {l : Addr} {o' : HO} (h : H l = none) : Kp K H (L2.upd H l o') := Kp.ex (Ex.new h)

mutual
theorem Dt.mono {K : PySem.W.Frag} {H H' : Hp} (e : Kp K H H') : ∀ (d : PyData) {v : V}, Dt K H v d → Dt K H' v d
  | .none, _, h => by cases h; exact .non
  | .bool _, _, h => by cases h; exact .bl _
  | .int _, _, h => by cases h; exact .int _
  | .str _, _, h => by cases h; exact .str _
  | .tuple ds, _, h => by
    cases h with
    | tup hs hd => exact .tup (e _ _ hs) (DtAll.mono e ds hd)
  | .list _, _, h => by cases h
  | .dict _, _, h => by cases h
theorem DtAll.mono {K : PySem.W.Frag} {H H' : Hp} (e : Kp K H H') : ∀ (ds : List PyData) {vs : List V}, DtAll K H vs ds → DtAll K H' vs ds
  | [], _, h => by cases h; exact .nil
  | d :: ds, _, h => by
    cases h with
    | cons h1 t => exact .cons (Dt.mono e d h1) (DtAll.mono e ds t)
end
theorem Dt.ex {K : PySem.W.Frag} {H H' : Hp} {v : V} {d : PyData} (h : Dt K H v d) (e : Ex H H') : Dt K H' v d := h.mono (.ex e)
theorem DtAll.ex {K : PySem.W.Frag} {H H' : Hp} {v : List V} {d : List PyData} (h : DtAll K H v d) (e : Ex H H') : DtAll K H' v d := h.mono (.ex e)
mutual
theorem Dt.dp {K : PySem.W.Frag} {H : Hp} : ∀ (d : PyData) {v : V}, Dt K H v d → Dp K H v d
  | .none, _, h => by cases h; exact .non
  | .bool _, _, h => by cases h; exact .bl _
  | .int _, _, h => by cases h; exact .int _
  | .str _, _, h => by cases h; exact .str _
  | .tuple ds, _, h => by
    cases h with
    | tup hs hd => exact .tup hs (DtAll.dp ds hd)
  | .list _, _, h => by cases h
  | .dict _, _, h => by cases h
theorem DtAll.dp {K : PySem.W.Frag} {H : Hp} : ∀ (ds : List PyData) {vs : List V}, DtAll K H vs ds → DpAll K H vs ds
  | [], _, h => by cases h; exact .nil
  | d :: ds, _, h => by
    cases h with
    | cons h1 t => exact .cons (Dt.dp d h1) (DtAll.dp ds t)
end
section
variable {K : PySem.W.Frag} {H H' : Hp} {vs ws : List V} {ds es : List PyData} {v : V} {d : PyData} {i : Nat}
theorem DtAll.length : ∀ {vs : List V} {ds : List PyData}, DtAll K H vs ds → vs.length = ds.length
  | _, _, .nil => rfl
  | _, _, .cons _ t => congrArg Nat.succ (DtAll.length t)
theorem DtAll.get : ∀ {vs : List V} {ds : List PyData} {i : Nat} {d : PyData}, DtAll K H vs ds → ds[i]? = some d → ∃ v, vs[i]? = some v ∧ Dt K H v d
  | _, _, _, _, .nil, e => by simp at e
  | _, _, 0, _, .cons h _, e => by simp at e; subst e; exact ⟨_, rfl, h⟩
  | _, _, i + 1, _, .cons _ t, e => by
    obtain ⟨v, a, b⟩ := DtAll.get (i := i) t (by simpa using e)
    exact ⟨v, by simpa using a, b⟩
theorem DtAll.at : ∀ {vs : List V} {ds : List PyData} {i : Nat} {v : V}, DtAll K H vs ds → vs[i]? = some v → ∃ d, ds[i]? = some d ∧ Dt K H v d
  | _, _, _, _, .nil, e => by simp at e
  | _, _, 0, _, .cons h _, e => by simp at e; subst e; exact ⟨_, rfl, h⟩
  | _, _, i + 1, _, .cons _ t, e => by
    obtain ⟨v, a, b⟩ := DtAll.at (i := i) t (by simpa using e)
    exact ⟨v, by simpa using a, b⟩
theorem DtAll.append : ∀ {vs : List V} {ds : List PyData} {ws : List V} {es : List PyData}, DtAll K H vs ds → DtAll K H ws es → DtAll K H (vs ++ ws) (ds ++ es)
  | _, _, _, _, .nil, h => h
  | _, _, _, _, .cons a t, h => .cons a (DtAll.append t h)
theorem DtAll.snoc (h : DtAll K H vs ds) (t : Dt K H v d) : DtAll K H (vs ++ [v]) (ds ++ [d]) := h.append (.cons t .nil)
theorem DtAll.take : ∀ {vs : List V} {ds : List PyData} (n : Nat), DtAll K H vs ds → DtAll K H (vs.take n) (ds.take n)
  | _, _, 0, _ => .nil
  | _, _, _ + 1, .nil => .nil
  | _, _, n + 1, .cons h t => .cons h (DtAll.take n t)
theorem DtAll.drop : ∀ {vs : List V} {ds : List PyData} (n : Nat), DtAll K H vs ds → DtAll K H (vs.drop n) (ds.drop n)
  | _, _, 0, h => h
  | _, _, _ + 1, .nil => .nil
  | _, _, n + 1, .cons _ t => DtAll.drop n t
theorem DtAll.ints : ∀ (ns : List Int), DtAll K H (ns.map V.int) (ns.map PyData.int)
  | [] => .nil
  | n :: ns => .cons (.int n) (DtAll.ints ns)
theorem DtAll.of_ints : ∀ {ns : List Int} {vs : List V}, DtAll K H vs (ns.map PyData.int) → vs = ns.map V.int
  | [], _, h => by cases h; rfl
  | n :: ns, _, h => by
    cases h with
    | cons a t => cases a; rw [DtAll.of_ints t]; rfl
theorem Dt.int_of {n : Int} (h : Dt K H v (.int n)) : v = .int n := by cases h; rfl
theorem Dt.bl_of {n : Bool} (h : Dt K H v (.bool n)) : v = .bl n := by cases h; rfl
theorem Dt.non_of (h : Dt K H v .none) : v = .non := by cases h; rfl
theorem Dt.tup_of (h : Dt K H v (.tuple ds)) : ∃ a xs, v = .ref a ∧ SqT K H a xs ∧ DtAll K H xs ds := by
  cases h with
  | tup a b => exact ⟨_, _, rfl, a, b⟩
theorem Dt.not_non (h : Dt K H v (.tuple ds)) : v ≠ .non := by cases h; simp

/-! ### what an expression gives -/
/-- a value of which P is true, the heap grown -/
def Rv (te : TE) (σ : St) (H : Hp) (P : V → Hp → Prop) : Prop := ∀ H1, Ex H H1 → ∀ Q : VK, (∀ v H2, Ex H1 H2 → P v H2 → Q v H2) → te σ H1 Q
/-- data -/
abbrev Dv (K : PySem.W.Frag) (te : TE) (σ : St) (H : Hp) (d : PyData) : Prop := Rv te σ H fun v H' => Dt K H' v d
/-- a new list of data -/
def Lv (K : PySem.W.Frag) (te : TE) (σ : St) (H : Hp) (ds : List PyData) : Prop :=
  ∀ H1, Ex H H1 → ∀ Q : VK, (∀ p xs H2, H1 p = none → Ex H1 H2 → H2 p = some (.lst xs) → DtAll K H2 xs ds → Q (.ref p) H2) → te σ H1 Q
/-- arguments -/
def Av (K : PySem.W.Frag) (ta : TA) (σ : St) (H : Hp) (ds : List PyData) : Prop := ∀ H1, Ex H H1 → ∀ Q : List V → Hp → Prop, (∀ vs H2, Ex H1 H2 → DtAll K H2 vs ds → Q vs H2) → ta σ H1 Q
variable {σ : St} {te ta tb : TE} {t : TA} {P : V → Hp → Prop}
theorem Rv.mono (h : Rv te σ H P) (e : Ex H H') : Rv te σ H' P := fun H1 a Q q => h H1 (e.trans a) Q q
theorem Lv.mono (h : Lv K te σ H ds) (e : Ex H H') : Lv K te σ H' ds := fun H1 a Q q => h H1 (e.trans a) Q q
theorem dv_var {j : Nat} (h : σ[j]? = some (some v)) (hd : Dt K H v d) : Dv K (tVar j) σ H d := fun H1 e _ q => ⟨v, h, q v H1 (.refl H1) (hd.ex e)⟩
theorem dv_int {n : Int} : Dv K (tC (.int n)) σ H (.int n) := fun H1 _ _ q => q _ H1 (.refl H1) (.int n)
theorem dv_bl {n : Bool} : Dv K (tC (.bl n)) σ H (.bool n) := fun H1 _ _ q => q _ H1 (.refl H1) (.bl n)
theorem dv_non : Dv K (tC .non) σ H .none := fun H1 _ _ q => q _ H1 (.refl H1) .non
theorem dv_str {n : Str} : Dv K (tC (.str n)) σ H (.str n) := fun H1 _ _ q => q _ H1 (.refl H1) (.str n)
theorem av_nil : Av K tNil σ H [] := fun H1 _ _ q => q [] H1 (.refl H1) .nil
theorem av_cons (h : Dv K te σ H d) (ht : Av K t σ H ds) : Av K (tCons te t) σ H (d :: ds) := fun H1 e Q q =>
  h H1 e _ fun v H2 e2 dv => ht H2 (e.trans e2) _ fun vs H3 e3 dvs => q _ H3 (e2.trans e3) (.cons (dv.ex e3) dvs)
theorem dv_tup (h : Av K t σ H ds) (hl : ds.length ≤ 1000000) : Dv K (tTup t) σ H (.tuple ds) := fun H1 e Q q =>
  h H1 e _ fun vs H2 e2 dvs => ⟨Nat.le_trans (Nat.le_of_eq dvs.length) (Nat.le_trans hl (by decide)), fun p hp => q _ _ (e2.trans (.new hp)) (.tup (SqT.of upd_same) (dvs.ex (.new hp)))⟩
/-- o[i] -/
theorem dv_ix (ha : Dv K ta σ H (.tuple ds)) (hb : Dv K tb σ H (.int (i : Nat))) (hi : ds[i]? = some d) : Dv K (tOp (rIxT K) ta tb) σ H d := fun H1 e Q q =>
  ha H1 e _ fun x H2 e2 dx => hb H2 (e.trans e2) _ fun y H3 e3 dy => by
    obtain ⟨a, xs, rfl, sq, dl⟩ := Dt.tup_of (dx.ex e3)
    obtain ⟨v, hv, dv⟩ := dl.get hi
    have ey := dy.int_of
    subst ey
    exact ⟨a, xs, (i : Int), v, rfl, rfl, sq, atI_nat hv, q v H3 (e2.trans e3) dv⟩
/-- two ints by an operator -/
theorem dv_op {g : Int → Int → Int} {x y : Int} (ha : Dv K ta σ H (.int x)) (hb : Dv K tb σ H (.int y)) : Dv K (tOp (rI0 fun a b => .int (g a b)) ta tb) σ H (.int (g x y)) := fun H1 e Q q =>
  ha H1 e _ fun v H2 e2 dx => hb H2 (e.trans e2) _ fun w H3 e3 dy => by
    have ex := dx.int_of
    have ey := dy.int_of
    subst ex ey
    exact ⟨x, y, rfl, rfl, q _ H3 (e2.trans e3) (.int _)⟩
theorem dv_opC {C : Int → Int → Prop} {g : Int → Int → Int} {x y : Int} (ha : Dv K ta σ H (.int x)) (hb : Dv K tb σ H (.int y)) (hc : C x y) : Dv K (tOp (rI C fun a b => .int (g a b)) ta tb) σ H (.int (g x y)) := fun H1 e Q q =>
  ha H1 e _ fun v H2 e2 dx => hb H2 (e.trans e2) _ fun w H3 e3 dy => by
    have ex := dx.int_of
    have ey := dy.int_of
    subst ex ey
    exact ⟨x, y, rfl, rfl, hc, q _ H3 (e2.trans e3) (.int _)⟩
theorem dv_opB {g : Int → Int → Bool} {x y : Int} (ha : Dv K ta σ H (.int x)) (hb : Dv K tb σ H (.int y)) : Dv K (tOp (rI0 fun a b => .bl (g a b)) ta tb) σ H (.bool (g x y)) := fun H1 e Q q =>
  ha H1 e _ fun v H2 e2 dx => hb H2 (e.trans e2) _ fun w H3 e3 dy => by
    have ex := dx.int_of
    have ey := dy.int_of
    subst ex ey
    exact ⟨x, y, rfl, rfl, q _ H3 (e2.trans e3) (.bl _)⟩
theorem dv_eqI {x y : Int} (ha : Dv K ta σ H (.int x)) (hb : Dv K tb σ H (.int y)) : Dv K (tOp rEq ta tb) σ H (.bool (decide (x = y))) := fun H1 e Q q =>
  ha H1 e _ fun v H2 e2 dx => hb H2 (e.trans e2) _ fun w H3 e3 dy => by
    have ex := dx.int_of
    have ey := dy.int_of
    subst ex ey
    refine ⟨rfl, ?_⟩
    have z : decide (V.int x = V.int y) = decide (x = y) := by
      by_cases c : x = y
      · rw [c]; simp
      · rw [decide_eq_false c, decide_eq_false (fun h => c (V.int.inj h))]
    rw [z]
    exact q _ H3 (e2.trans e3) (.bl _)
theorem dv_neI {x y : Int} (ha : Dv K ta σ H (.int x)) (hb : Dv K tb σ H (.int y)) : Dv K (tOp rNe ta tb) σ H (.bool (!decide (x = y))) := fun H1 e Q q =>
  ha H1 e _ fun v H2 e2 dx => hb H2 (e.trans e2) _ fun w H3 e3 dy => by
    have ex := dx.int_of
    have ey := dy.int_of
    subst ex ey
    refine ⟨rfl, ?_⟩
    have z : decide (V.int x = V.int y) = decide (x = y) := by
      by_cases c : x = y
      · rw [c]; simp
      · rw [decide_eq_false c, decide_eq_false (fun h => c (V.int.inj h))]
    rw [z]
    exact q _ H3 (e2.trans e3) (.bl _)
/-- is None -/
theorem dv_isN (ha : Rv ta σ H P) : Rv (tOp (fun x y H Q => y = .non ∧ Q (.bl (decide (x = .non))) H) ta (tC .non)) σ H (fun b H' => ∃ v, P v H' ∧ b = .bl (decide (v = .non))) := fun H1 e Q q =>
  ha H1 e _ fun v H2 e2 p => ⟨rfl, q _ H2 e2 ⟨v, p, rfl⟩⟩
/-! ### tests -/
variable {c u : TT} {b b' : Bool}
theorem et_of (h : Dv K te σ H (.bool b)) : EvT (tTest te) σ H b := fun H1 e Q q => h H1 e _ fun v H2 e2 dv => ⟨b, dv.bl_of, q H2 e2⟩
theorem et_val (h : Dv K te σ H (.bool b)) : EvT (tB te) σ H b := fun H1 e Q q => h H1 e _ fun v H2 e2 dv => ⟨b, dv.bl_of, q H2 e2⟩
theorem et_to (h : EvT c σ H b) (e : b = b') : EvT c σ H b' := e ▸ h
theorem dv_to {d' : PyData} (h : Dv K te σ H d) (e : d = d') : Dv K te σ H d' := e ▸ h
theorem dv_if (h : EvT c σ H b) (h1 : b = true → Rv ta σ H P) (h2 : b = false → Rv tb σ H P) : Rv (tIf c ta tb) σ H P := fun H1 e Q q =>
  h H1 e _ fun H2 e2 => by
    cases b with
    | true => exact h1 rfl H2 (e.trans e2) Q fun v H3 e3 p => q v H3 (e2.trans e3) p
    | false => exact h2 rfl H2 (e.trans e2) Q fun v H3 e3 p => q v H3 (e2.trans e3) p
theorem dv_and (h1 : Dv K ta σ H (.bool b)) (h2 : b = true → Dv K tb σ H (.bool b')) : Dv K (tAndV ta tb) σ H (.bool (b && b')) := fun H1 e Q q =>
  h1 H1 e _ fun v H2 e2 dv => ⟨b, dv.bl_of, by
    cases b with
    | true => exact h2 rfl H2 (e.trans e2) Q fun v H3 e3 p => q v H3 (e2.trans e3) p
    | false => exact q _ H2 e2 (.bl _)⟩
theorem dv_or (h1 : Dv K ta σ H (.bool b)) (h2 : b = false → Dv K tb σ H (.bool b')) : Dv K (tOrV ta tb) σ H (.bool (b || b')) := fun H1 e Q q =>
  h1 H1 e _ fun v H2 e2 dv => ⟨b, dv.bl_of, by
    cases b with
    | false => exact h2 rfl H2 (e.trans e2) Q fun v H3 e3 p => q v H3 (e2.trans e3) p
    | true => exact q _ H2 e2 (.bl _)⟩
theorem dv_not (h1 : Dv K ta σ H (.bool b)) : Dv K (tNotV ta) σ H (.bool (!b)) := fun H1 e Q q =>
  h1 H1 e _ fun v H2 e2 dv => ⟨b, dv.bl_of, q _ H2 e2 (.bl _)⟩
/-! ### statements -/
variable {D : Ends} {tz tu tw : TS}
theorem qd_asg {j : Nat} (h : Dv K te σ H d) (k : ∀ v H1, Ex H H1 → Dt K H1 v d → tz D (σ.set j (some v)) H1) : tSeq (tAsg te (gName j)) tz D σ H := h H (.refl H) _ fun v H1 e dv => k v H1 e dv
theorem qr_asg {j : Nat} (h : Rv te σ H P) (k : ∀ v H1, Ex H H1 → P v H1 → tz D (σ.set j (some v)) H1) : tSeq (tAsg te (gName j)) tz D σ H := h H (.refl H) _ fun v H1 e dv => k v H1 e dv
theorem sd_asg {j : Nat} (h : Dv K te σ H d) (k : ∀ v H1, Ex H H1 → Dt K H1 v d → D.nx (σ.set j (some v)) H1) : tAsg te (gName j) D σ H := h H (.refl H) _ fun v H1 e dv => k v H1 e dv
theorem qd_asgG {g : TG} (h : Dv K te σ H d) (k : ∀ v H1, Ex H H1 → Dt K H1 v d → g v σ H1 (tz D)) : tSeq (tAsg te g) tz D σ H := h H (.refl H) _ fun v H1 e dv => k v H1 e dv
theorem ql_asg {j : Nat} (h : Lv K te σ H ds) (k : ∀ p xs H1, H p = none → Ex H H1 → H1 p = some (.lst xs) → DtAll K H1 xs ds → tz D (σ.set j (some (.ref p))) H1) : tSeq (tAsg te (gName j)) tz D σ H :=
  h H (.refl H) _ fun p xs H1 n e hp dv => k p xs H1 n e hp dv
theorem sd_ret (h : Rv te σ H P) (k : ∀ v H1, Ex H H1 → P v H1 → D.rt v H1) : tRet te D σ H := h H (.refl H) _ fun v H1 e dv => k v H1 e dv
theorem sd_drop (h : Rv te σ H P) (k : ∀ H1, Ex H H1 → D.nx σ H1) : tDrop te D σ H := h H (.refl H) _ fun v H1 e _ => k H1 e
theorem qd_drop (h : Rv te σ H P) (k : ∀ H1, Ex H H1 → tz D σ H1) : tSeq (tDrop te) tz D σ H := h H (.refl H) _ fun v H1 e _ => k H1 e
theorem sd_if (h : EvT c σ H b) (h1 : b = true → ∀ H1, Ex H H1 → tu D σ H1) (h2 : b = false → ∀ H1, Ex H H1 → tw D σ H1) : tIfS c tu tw D σ H := h H (.refl H) _ fun H1 e => by
  cases b with
  | true => exact h1 rfl H1 e
  | false => exact h2 rfl H1 e
theorem qd_if (h : EvT c σ H b) (h1 : b = true → ∀ H1, Ex H H1 → tu { D with nx := tz D } σ H1) (h2 : b = false → ∀ H1, Ex H H1 → tw { D with nx := tz D } σ H1) : tSeq (tIfS c tu tw) tz D σ H := sd_if (D := { D with nx := tz D }) h h1 h2
/-- an if that isn't taken -/
theorem qd_no (h : EvT c σ H false) (h2 : ∀ H1, Ex H H1 → tz D σ H1) : tSeq (tIfS c tu tNext) tz D σ H := qd_if h (fun q => nomatch q) fun _ H1 e => h2 H1 e
/-! ### targets -/
theorem DtAll.two {d1 d2 : PyData} (h : DtAll K H vs [d1, d2]) : ∃ x1 x2, vs = [x1, x2] ∧ Dt K H x1 d1 ∧ Dt K H x2 d2 := by
  cases h with
  | cons h1 t =>
    cases t with
    | cons h2 t2 =>
      cases t2
      exact ⟨_, _, rfl, h1, h2⟩
theorem gNil_ap {Q : St → Hp → Prop} : (fun (a : L2.St) (b : Hp) => gNil [] a b Q) = Q := by
  funext a b
  exact propext ⟨fun z => z.2, fun z => ⟨rfl, z⟩⟩
theorem g_pair {g1 g2 : TG} {d1 d2 : PyData} {Q : St → Hp → Prop} (h : Dt K H v (.tuple [d1, d2])) (k : ∀ v1 v2, Dt K H v1 d1 → Dt K H v2 d2 → g1 v1 σ H fun σ' H' => g2 v2 σ' H' Q) :
    gTup K 2 (gCons g1 (gCons g2 gNil)) v σ H Q := by
  obtain ⟨a, xs, rfl, sq, dl⟩ := h.tup_of
  obtain ⟨x1, x2, rfl, h1, h2⟩ := dl.two
  refine ⟨a, [x1, x2], rfl, sq, rfl, x1, [x2], rfl, ?_⟩
  have e : (fun (σ' : L2.St) (H' : Hp) => gCons g2 gNil [x2] σ' H' Q) = fun σ' H' => g2 x2 σ' H' Q := by
    funext σ' H'
    refine propext ⟨fun ⟨v', r, e1, z⟩ => ?_, fun z => ⟨x2, [], rfl, ?_⟩⟩
    · cases e1
      rw [gNil_ap] at z
      exact z
    · rw [gNil_ap]
      exact z
  rw [e]
  exact k x1 x2 h1 h2
theorem g_three {j1 j2 j3 : Nat} {d1 d2 d3 : PyData} {Q : St → Hp → Prop} (h : Dt K H v (.tuple [d1, d2, d3])) (k : ∀ v1 v2 v3, Dt K H v1 d1 → Dt K H v2 d2 → Dt K H v3 d3 → Q (((σ.set j1 (some v1)).set j2 (some v2)).set j3 (some v3)) H) :
    gTup K 3 (gCons (gName j1) (gCons (gName j2) (gCons (gName j3) gNil))) v σ H Q := by
  obtain ⟨a, xs, rfl, sq, dl⟩ := h.tup_of
  cases dl with
  | cons h1 t =>
    cases t with
    | cons h2 t2 =>
      cases t2 with
      | cons h3 t3 =>
        cases t3
        exact ⟨a, _, rfl, sq, rfl, _, _, rfl, _, _, rfl, _, _, rfl, rfl, k _ _ _ h1 h2 h3⟩
theorem g_two {j1 j2 : Nat} {d1 d2 : PyData} {Q : St → Hp → Prop} (h : Dt K H v (.tuple [d1, d2])) (k : ∀ v1 v2, Dt K H v1 d1 → Dt K H v2 d2 → Q ((σ.set j1 (some v1)).set j2 (some v2)) H) :
    gTup K 2 (gCons (gName j1) (gCons (gName j2) gNil)) v σ H Q := g_pair h k
/-! ### calls -/
/-- a def's promise over data: on dom it gives what R tells -/
def SpR (K : PySem.W.Frag) (dom : List PyData → Prop) (R : List PyData → PyData → Prop) : Sp := fun vs H Q _ => ∃ ds, DtAll K H vs ds ∧ dom ds ∧ ∀ d v H', R ds d → Ex H H' → Dt K H' v d → Q v H'
theorem dv_call {dom : List PyData → Prop} {R : List PyData → PyData → Prop} {E : XK} (ht : Av K t σ H ds) (hd : dom ds) : Rv (tCall (SpR K dom R) [] E t) σ H (fun v H' => ∃ d, R ds d ∧ Dt K H' v d) := fun H1 e Q q =>
  ht H1 e _ fun vs H2 e2 dvs => ⟨ds, by rw [List.append_nil]; exact dvs, hd, fun d v H' r e3 dv => q v H' (e2.trans e3) ⟨d, r, dv⟩⟩
/-- .. where R tells one value -/
theorem dv_call1 {dom : List PyData → Prop} {R : List PyData → PyData → Prop} {E : XK} (ht : Av K t σ H ds) (hd : dom ds) (h1 : ∀ d', R ds d' → d' = d) : Dv K (tCall (SpR K dom R) [] E t) σ H d := fun H1 e Q q =>
  dv_call (E := E) ht hd H1 e Q fun v H2 e2 ⟨d', r, dv⟩ => q v H2 e2 (by rw [← h1 d' r]; exact dv)
end
end Wok
namespace Wok
open PySem PySem.Spec PyProof.Rows L2
open Evl (Ex)

/-! ### data that can be keys -/
mutual
def good : PyData → Bool
  | .int _ => true
  | .tuple ds => goods ds
  | _ => false
def goods : List PyData → Bool
  | [] => true
  | d :: ds => good d && goods ds
end
mutual
def keyD : PyData → NestedKey
  | .int i => .num i
  | .tuple ds => .tup (keyDs ds)
  | _ => .none
def keyDs : List PyData → List NestedKey
  | [] => []
  | d :: ds => keyD d :: keyDs ds
end
mutual
theorem keyD_nums : ∀ d : PyData, good d = true → nums (keyD d) = true
  | .int _, _ => rfl
  | .tuple ds, h => by
    show numsAll (keyDs ds) = true
    exact keyDs_nums ds (by simpa [good] using h)
  | .none, h => by simp [good] at h
  | .bool _, h => by simp [good] at h
  | .str _, h => by simp [good] at h
  | .list _, h => by simp [good] at h
  | .dict _, h => by simp [good] at h
theorem keyDs_nums : ∀ ds : List PyData, goods ds = true → numsAll (keyDs ds) = true
  | [], _ => rfl
  | d :: ds, h => by
    simp only [goods, Bool.and_eq_true] at h
    show (nums (keyD d) && numsAll (keyDs ds)) = true
    rw [keyD_nums d h.1, keyDs_nums ds h.2]
    rfl
end
mutual
theorem keyD_inj : ∀ d e : PyData, good d = true → good e = true → keyD d = keyD e → d = e
  | .int _, .int _, _, _, h => by
    injection h with h
    rw [h]
  | .tuple ds, .tuple es, h1, h2, h => by
    injection h with h
    rw [keyDs_inj ds es (by simpa [good] using h1) (by simpa [good] using h2) h]
  | .int _, .tuple _, _, _, h => by cases h
  | .tuple _, .int _, _, _, h => by cases h
  | .none, _, h, _, _ => by simp [good] at h
  | .bool _, _, h, _, _ => by simp [good] at h
  | .str _, _, h, _, _ => by simp [good] at h
  | .list _, _, h, _, _ => by simp [good] at h
  | .dict _, _, h, _, _ => by simp [good] at h
  | _, .none, _, h, _ => by simp [good] at h
  | _, .bool _, _, h, _ => by simp [good] at h
  | _, .str _, _, h, _ => by simp [good] at h
  | _, .list _, _, h, _ => by simp [good] at h
  | _, .dict _, _, h, _ => by simp [good] at h
theorem keyDs_inj : ∀ ds es : List PyData, goods ds = true → goods es = true → keyDs ds = keyDs es → ds = es
  | [], [], _, _, _ => rfl
  | [], _ :: _, _, _, h => by cases h
  | _ :: _, [], _, _, h => by cases h
  | d :: ds, e :: es, h1, h2, h => by
    simp only [goods, Bool.and_eq_true] at h1 h2
    injection h with a b
    rw [keyD_inj d e h1.1 h2.1 a, keyDs_inj ds es h1.2 h2.2 b]
end
section
variable {X : Cx} {pins : List (Addr × Obj)} {σ : L2.St} {H : Hp} {s : Shared}
mutual
theorem Dt.raw (I : Inv X pins σ H s) : ∀ (d : PyData) {v : V} {u : Value}, Dt X.K H v d → RelV v u → good d = true → NestedIs s.heap (keyD d) u ∧ Reads s.heap u d []
  | .int i, _, _, h, r, _ => by
    cases h
    obtain ⟨t, rfl⟩ := r
    exact ⟨.int i t, .int i t⟩
  | .tuple ds, _, _, h, r, g => by
    cases h with
    | tup sq hd =>
      cases r
      obtain ⟨its, rv, ⟨o, ho, hc, n, hdt⟩, _⟩ := I.tuple sq
      have z := DtAll.raw I ds hd rv (by simpa [good] using g)
      exact ⟨.tup ho hc hdt (by simpa using z.1), .tuple ho hc hdt (by simpa using z.2)⟩
  | .none, _, _, _, _, g => by simp [good] at g
  | .bool _, _, _, _, _, g => by simp [good] at g
  | .str _, _, _, _, _, g => by simp [good] at g
  | .list _, _, _, _, _, g => by simp [good] at g
  | .dict _, _, _, _, _, g => by simp [good] at g
theorem DtAll.raw (I : Inv X pins σ H s) : ∀ (ds : List PyData) {vs : List V} {us : List Value}, DtAll X.K H vs ds → Vals vs us → goods ds = true → NestedAll s.heap (keyDs ds) us ∧ ReadsAll s.heap us ds []
  | [], _, _, h, r, _ => by
    cases h
    cases r
    exact ⟨.nil, .nil⟩
  | d :: ds, _, _, h, r, g => by
    simp only [goods, Bool.and_eq_true] at g
    cases h with
    | cons h1 t =>
      cases r with
      | cons r1 r2 =>
        have z1 := Dt.raw I d h1 r1 g.1
        have z2 := DtAll.raw I ds t r2 g.2
        exact ⟨.cons z1.1 z2.1, ReadsAll.cons (as := []) (bs := []) z1.2 z2.2⟩
end
/-- a tuple of numbers and such tuples, not too deep -/
structure KeyD (d : PyData) : Prop where
  good : good d = true
  depth : (keyD d).depth ≤ 8
  tup : ∃ x r, d = .tuple (x :: r)
theorem Dt.keyN (I : Inv X pins σ H s) {d : PyData} {v : V} {u : Value} (h : Dt X.K H v d) (r : RelV v u) (k : KeyD d) : ∃ b, v = .ref b ∧ u = .ref b ∧ KeyN s.heap (keyD d) b := by
  have z := (h.raw I d r k.good).1
  obtain ⟨x, l, rfl⟩ := k.tup
  obtain ⟨a, xs, rfl, _, _⟩ := h.tup_of
  cases r
  exact ⟨a, rfl, rfl, ⟨z, k.depth⟩, keyD_nums _ k.good⟩

theorem Dt.uniq (I : Inv X pins σ H s) {d d' : PyData} {v : V} (h : Dt X.K H v d) (k : KeyD d) (k' : KeyD d') (h' : Dt X.K H v d') : d = d' := by
  obtain ⟨x, l, e⟩ := k.tup
  have h0 := h
  rw [e] at h0
  obtain ⟨a, xs, ev, _, _⟩ := h0.tup_of
  subst ev
  obtain ⟨b, _, e1, n1⟩ := h.keyN I (show RelV (.ref a) (.ref a) from rfl) k
  obtain ⟨b', _, e2, n2⟩ := h'.keyN I (show RelV (.ref a) (.ref a) from rfl) k'
  cases e1
  cases e2
  exact keyD_inj d d' k.good k'.good (n1.uniq n2)
/-! ### set(..) of whole numbers, of keys -/
theorem CallR.or {f : Value} {r r' : List V → Hp → VK → Prop} (h : CallR X f r) (h' : CallR X f r') : CallR X f (fun xs H Q => r xs H Q ∨ r' xs H Q) := fun pins s σ H xs us Q I rv q => by
  rcases q with q | q
  · exact h pins s σ H xs us Q I rv q
  · exact h' pins s σ H xs us Q I rv q
def rSetI (K : PySem.W.Frag) (w : World) : List V → Hp → VK → Prop := fun xs H Q => ∃ (l : Addr) (ns : List Int), xs = [.ref l] ∧ SqL K H l (ns.map V.int) ∧ ns.length ≤ 1000 ∧
  ∀ a c, H a = none → c ≤ ns.length → Q (.ref a) (upd H a (SetO w a (fun j => decide (j ∈ ns)) c))
theorem ints_vals : ∀ {ns : List Int} {us : List Value}, Vals (ns.map V.int) us → IntsAre us ns
  | [], _, .nil => .nil
  | n :: ns, _, .cons r t => by
    obtain ⟨tk, rfl⟩ := r
    exact .cons n tk (ints_vals t)
theorem cr_setI (hc : X.calm = true) : CallR X (.type "set") (rSetI X.K X.w) := by
  intro pins s σ H xs us Q I r h
  obtain ⟨l, ns, rfl, hl, few, q⟩ := h
  rw [Vals.ref1 r]
  obtain ⟨its, rv, pl, _⟩ := I.list hl
  refine call_setInts (P := X.prog) (w := X.w) (ns := ns) (I.ok.hd hc) pl.isList (by simpa using ints_vals rv) few fun h' tk c R hcn kp => ?_
  exact ⟨.ref s.heap.objs.size, _, I.laid (t' := tk) kp (Nat.le_refl _) (setO_new R), rfl, q _ c (I.hok.fresh (Nat.le_refl _)) hcn⟩
/-- a set of keys: its members as they stand in it -/
def SetNO (w : World) (a : Addr) (vs : List V) : HO := .ext fun h => ∃ (es : Array (Int × Value)) (ep : Nat) (t : SetTable), (∃ o, h.get? a = some o ∧ o.ExactSet ∧ o.data = .set es ep t) ∧ Vals vs (es.toList.map (·.2)) ∧ Ris t.place.toList ∧
  t.fits es.size = true ∧ (w.params.followText "set-order" = true ∨ t.led = true) ∧ es.size ≤ 1000
def rSetN (K : PySem.W.Frag) (w : World) : List V → Hp → VK → Prop := fun xs H Q => ∃ (l : Addr) (ys : List V) (ds : List PyData), xs = [.ref l] ∧ SqL K H l ys ∧ DtAll K H ys ds ∧ ds.length ≤ 1000 ∧ (∀ d ∈ ds, KeyD d) ∧
  ∀ a vs, H a = none → (∀ v ∈ vs, v ∈ ys) → (∀ d ∈ ds, ∃ v ∈ vs, Dt K H v d) → vs.length ≤ ys.length → (∀ v d d', KeyD d → KeyD d' → Dt K H v d → Dt K H v d' → d = d') → Q (.ref a) (upd H a (SetNO w a vs))
theorem Vals.mem_of {ys : List V} {us : List Value} (r : Vals ys us) {u : Value} (h : u ∈ us) : ∃ (i : Nat) (v : V), ys[i]? = some v ∧ us[i]? = some u ∧ RelV v u := by
  obtain ⟨i, hi, e⟩ := List.getElem_of_mem h
  have eu : us[i]? = some u := by rw [List.getElem?_eq_getElem hi, e]
  have hy : i < ys.length := by rw [r.length]; exact hi
  obtain ⟨u', e1, e2⟩ := r.get (List.getElem?_eq_getElem hy)
  rw [eu] at e1
  cases e1
  exact ⟨i, ys[i], List.getElem?_eq_getElem hy, eu, e2⟩
theorem cr_setN (hc : X.calm = true) (hu : X.A.units + 64 < cLine) : CallR X (.type "set") (rSetN X.K X.w) := by
  intro pins s σ H xs us Q I r h
  obtain ⟨l, ys, ds, rfl, hl, hd, few, hk, q⟩ := h
  rw [Vals.ref1 r]
  obtain ⟨its, rv, pl, _⟩ := I.list hl
  have hlen : its.length = ds.length := by rw [← rv.length, hd.length]
  have key : ∀ u ∈ its, ∃ v d b, v ∈ ys ∧ d ∈ ds ∧ Dt X.K H v d ∧ v = .ref b ∧ u = .ref b ∧ KeyN s.heap (keyD d) b := fun u hu => by
    obtain ⟨i, v, e1, e2, e3⟩ := Vals.mem_of rv hu
    obtain ⟨d, f1, f2⟩ := hd.at e1
    have hdm := List.mem_of_getElem? f1
    obtain ⟨b, g1, g2, g3⟩ := f2.keyN I e3 (hk d hdm)
    exact ⟨v, d, b, List.mem_of_getElem? e1, hdm, f2, g1, g2, g3⟩
  refine call_setN (P := X.prog) (w := X.w) (I.ok.hd hc) pl.isList (by rw [List.size_toArray, hlen]; exact few) (fun u hu' => ?_) (by omega) fun h' tk es ep t R g kp => ?_
  · obtain ⟨v, d, b, _, _, _, _, g2, g3⟩ := key u (by simpa using hu')
    exact ⟨_, b, g2, g3⟩
  have sub : ∀ e ∈ es.toList, e.2 ∈ its := fun e he => by simpa using List.mem_of_mem_take (g.sub e he)
  have ref : ∀ us : List Value, (∀ u ∈ us, u ∈ its) → ∃ vs : List V, Vals vs us ∧ ∀ v ∈ vs, v ∈ ys := by
    intro us
    induction us with
    | nil => intro _; exact ⟨[], .nil, fun v hv => by cases hv⟩
    | cons u us ih =>
      intro hus
      obtain ⟨vs, a1, a2⟩ := ih fun x hx => hus x (List.mem_cons_of_mem _ hx)
      obtain ⟨v, d, b, h1, _, _, h2, h3, _⟩ := key u (hus u List.mem_cons_self)
      refine ⟨v :: vs, .cons (by rw [h2, h3]; rfl) a1, fun x hx => ?_⟩
      rcases List.mem_cons.mp hx with e | hx
      · rw [e]; exact h1
      · exact a2 x hx
  obtain ⟨vs, rvs, hvs⟩ := ref (es.toList.map (·.2)) fun u hu' => by
    obtain ⟨e, he, ee⟩ := List.mem_map.mp hu'
    rw [← ee]
    exact sub e he
  refine ⟨.ref s.heap.objs.size, upd H s.heap.objs.size (SetNO X.w s.heap.objs.size vs), I.laid (t' := tk) kp (Nat.le_refl _) ?_, rfl, q _ vs (I.hok.fresh (Nat.le_refl _)) hvs (fun d hdm => ?_) ?_ fun v d d' k k' h h' => h.uniq I k k' h'⟩
  · obtain ⟨o, ho, rr⟩ := R.ob
    refine ⟨⟨es, ep, t, ⟨o, ho, rr⟩, rvs, R.ris, SN.fits (s := { s with heap := h' }) R, R.led, R.few⟩, ⟨o, ho⟩, fun h1 h2 p k => ?_⟩
    obtain ⟨es', ep', t', ⟨o', ho', rr'⟩, z⟩ := p
    exact ⟨es', ep', t', ⟨o', k o' ho', rr'⟩, z⟩
  · obtain ⟨i, hi, e⟩ := List.getElem_of_mem hdm
    have ed : ds[i]? = some d := by rw [List.getElem?_eq_getElem hi, e]
    obtain ⟨v, e1, dv⟩ := hd.get ed
    obtain ⟨u, e2, rvu⟩ := rv.get e1
    obtain ⟨b, g1, g2, g3⟩ := dv.keyN I rvu (hk d hdm)
    have hit : Value.ref b ∈ its.toArray.toList.take its.toArray.size := by
      have e3 : its.toArray.toList.take its.toArray.size = its := by simp
      rw [e3, ← g2]
      exact List.mem_of_getElem? e2
    obtain ⟨c, m1, m2⟩ := g.all _ b hit g3
    obtain ⟨j, v2, n1, n2, n3⟩ := Vals.mem_of rvs m1
    obtain ⟨e0, he0, ee0⟩ := List.mem_map.mp m1
    have hcm : Value.ref c ∈ its := by rw [← ee0]; exact sub e0 he0
    obtain ⟨v3, d3, b3, p1, p2, p3, p4, p5, p6⟩ := key _ hcm
    cases p5
    have e4 := keyD_inj d3 d (hk d3 p2).good (hk d hdm).good (p6.uniq m2)
    have e5 : v2 = v3 := by
      rw [p4] at p3 ⊢
      exact n3.inj (show RelV (.ref c) (.ref c) from rfl)
    exact ⟨v2, List.mem_of_getElem? n1, by rw [e5, ← e4]; exact p3⟩
  · have z1 : vs.length = es.size := by have z := rvs.length; simpa using z
    have z2 : es.size ≤ its.length := by have z := g.len; simpa using z
    have z3 := rv.length
    omega

/-! ### sorted(..) of such a set -/
theorem each_pairs {R : Value → V × PyData × Value → Prop} : ∀ (l : List (V × PyData × Value)), (∀ b ∈ l, R b.2.2 b) → PySem.W.EachIs R (l.map (·.2.2)) l
  | [], _ => .nil
  | b :: l, h => .cons (h b List.mem_cons_self) (each_pairs l fun c hc => h c (List.mem_cons_of_mem _ hc))
theorem each_eq : ∀ {us : List Value} {l : List (V × PyData × Value)}, PySem.W.EachIs (fun u b => u = b.2.2) us l → us = l.map (·.2.2)
  | _, _, .nil => rfl
  | _, _, .cons h t => by rw [h, each_eq t]; rfl
def rSortedN (K : PySem.W.Frag) (w : World) : List V → Hp → VK → Prop := fun xs H Q => ∃ (a : Addr) (vs : List V) (C : PyData → Prop), xs = [.ref a] ∧ H a = some (SetNO w a vs) ∧ (∀ v ∈ vs, ∃ d, Dt K H v d ∧ KeyD d ∧ C d) ∧
  (∀ d d', C d → C d' → PySem.W.alike d d' = true) ∧
  ∀ ys p, ys.Perm vs → H p = none → Q (.ref p) (upd H p (.lst ys))
theorem cr_sortedN (hc : X.calm = true) (hu : X.A.units + 64 < cLine) : CallR X (.builtin "sorted") (rSortedN X.K X.w) := by
  intro pins s σ H xs us Q I r h
  obtain ⟨a, vs, C, rfl, ha, hk, hal, q⟩ := h
  rw [Vals.ref1 r]
  obtain ⟨es, ep, t, ⟨o, ho, hex, hd⟩, rvs, ris, fits, led, few⟩ := (I.hok a _ ha).1
  refine Calls.call_function_entry kind_sorted plain_sorted entry_sorted (args_sorted1 _) ?_
  unfold Builtin.«sorted»
  refine wpAny_bind (m := checkCount "sorted" 1 1 _) (wpAny_pure ?_)
  refine wpAny_bind (collect_set (A := X.A.in1) (I.ok.hd hc) ⟨o, ho, hex.1, hd⟩ fits (by unfold scanBound; omega) ris led fun s1 out kp hz g1 o1 pm => ?_)
  -- the members with their data
  have tri : ∀ ws : List Value, (∀ u ∈ ws, u ∈ es.toList.map (·.2)) → ∃ l : List (V × PyData × Value), l.map (·.2.2) = ws ∧ ∀ b ∈ l, C b.2.1 ∧ Dt X.K H b.1 b.2.1 ∧ KeyD b.2.1 ∧ RelV b.1 b.2.2 := by
    intro ws
    induction ws with
    | nil => intro _; exact ⟨[], rfl, fun b hb => by cases hb⟩
    | cons u ws ih =>
      intro hws
      obtain ⟨l, e, hl⟩ := ih fun x hx => hws x (List.mem_cons_of_mem _ hx)
      obtain ⟨i, v, n1, n2, n3⟩ := Vals.mem_of rvs (hws u List.mem_cons_self)
      have hv := List.mem_of_getElem? n1
      obtain ⟨d, d1, d2, d3⟩ := hk v hv
      refine ⟨(v, d, u) :: l, by rw [List.map_cons, e], fun b hb => ?_⟩
      rcases List.mem_cons.mp hb with e2 | hb
      · rw [e2]; exact ⟨d3, d1, d2, n3⟩
      · exact hl b hb
  obtain ⟨bs, ebs, hbs⟩ := tri out fun u hu' => pm.mem_iff.mp hu'
  have hlen : out.length ≤ 1000 := by
    rw [pm.length_eq, List.length_map, Array.length_toList]
    exact few
  have hblen : bs.length = out.length := by rw [← ebs, List.length_map]
  refine wpAny_bind (wpAny_newList ?_ (by rw [sizeLine_eq]; omega))
  have hoL : (s1.heap.push (seqObj "list" out.toArray 0)).get? s1.heap.objs.size = some (seqObj "list" out.toArray 0) := Heap.get?_push_size _ rfl
  have rd : ∀ b ∈ bs, Reads (s1.heap.push (seqObj "list" out.toArray 0)) b.2.2 b.2.1 [] := fun b hb => by
    obtain ⟨_, b2, b3, b4⟩ := hbs b hb
    exact PyProof.Rows.Reads.keeps (fun c oc e => Heap.get?_push_of_some _ (kp c oc e)) (b2.raw I _ b4 b3.good).2
  have hdep : ∀ b ∈ bs, b.2.1.depth ≤ 16 := fun b hb => by
    have z : ∀ d : PyData, good d = true → d.depth = (keyD d).depth := by
      intro d
      refine PyData.rec (motive_1 := fun d => good d = true → d.depth = (keyD d).depth) (motive_2 := fun ds => goods ds = true → PyData.depthAll ds = NestedKey.depthAll (keyDs ds)) (motive_3 := fun _ => True) (motive_4 := fun _ => True) ?_ ?_ ?_ ?_ ?_ ?_ ?_ ?_ ?_ ?_ ?_ ?_ d
      · intro h; simp [good] at h
      · intro b h; simp [good] at h
      · intro i _; simp [PyData.depth, keyD, NestedKey.depth]
      · intro x h; simp [good] at h
      · intro xs _ h; simp [good] at h
      · intro xs ih h
        simp only [PyData.depth, keyD, NestedKey.depth]
        rw [ih (by simpa [good] using h)]
      · intro kvs _ h; simp [good] at h
      · intro _; simp [PyData.depthAll, keyDs, NestedKey.depthAll]
      · intro d ds h1 h2 h
        simp only [goods, Bool.and_eq_true] at h
        simp only [PyData.depthAll, keyDs, NestedKey.depthAll]
        rw [h1 h.1, h2 h.2]
      · trivial
      · intros; trivial
      · intros; trivial
    obtain ⟨_, _, b3, _⟩ := hbs b hb
    rw [z _ b3.good]
    have := b3.depth
    omega
  have e1 : PySem.W.EachIs (fun u (b : V × PyData × Value) => u = b.2.2) out bs := by
    have z := each_pairs (R := fun u (b : V × PyData × Value) => u = b.2.2) bs fun b _ => rfl
    rw [ebs] at z
    exact z
  have e2 : PySem.W.EachIs (fun u (b : V × PyData × Value) => ∃ as, Reads (s1.heap.push (seqObj "list" out.toArray 0)) u b.2.1 as ∧ s1.heap.objs.size ∉ as) out bs := by
    have z := each_pairs (R := fun u (b : V × PyData × Value) => ∃ as, Reads (s1.heap.push (seqObj "list" out.toArray 0)) u b.2.1 as ∧ s1.heap.objs.size ∉ as) bs fun b hb => ⟨[], rd b hb, by simp⟩
    rw [ebs] at z
    exact z
  refine wpAny_bind (wpAny_holding (PySem.W.list_sort_data (s := { s1 with heap := s1.heap.push (seqObj "list" out.toArray 0) }) (a := s1.heap.objs.size) (n := 0) (vs := out) (bs := bs) (enc := fun b => b.2.1) (R := fun u b => u = b.2.2) hoL e1 e2 ?_ ?_ (by rw [hblen, sizeLine_eq]; omega) (fun b hb => ?_) fun out2 hl2 e3 => ?_))
  · intro d hd' d' hd''
    obtain ⟨b, hb, rfl⟩ := List.mem_map.mp hd'
    obtain ⟨b', hb', rfl⟩ := List.mem_map.mp hd''
    exact hal _ _ (hbs b hb).1 (hbs b' hb').1
  · refine .inl fun d hd' => ?_
    obtain ⟨b, hb, rfl⟩ := List.mem_map.mp hd'
    exact (hbs b hb).2.2.1.tup
  · have := hdep b hb
    show X.A.units + 1 + 1 + b.2.1.depth < cLine
    omega
  · have eo2 := each_eq e3
    have pmb : (bs.mergeSort (PySem.W.dataLe false fun b => b.2.1)).Perm bs := List.mergeSort_perm _ _
    obtain ⟨c, hc2⟩ := sortedHeap_at (vs := out) (out := out2.toArray) hoL
    have pout : out2.Perm (es.toList.map (·.2)) := by
      rw [eo2]
      refine (pmb.map (·.2.2)).trans ?_
      rw [ebs]
      exact pm
    -- the values that stand in the list
    have rvo : Vals ((bs.mergeSort (PySem.W.dataLe false fun b => b.2.1)).map (·.1)) out2 := by
      rw [eo2]
      have go : ∀ l : List (V × PyData × Value), (∀ b ∈ l, RelV b.1 b.2.2) → Vals (l.map (·.1)) (l.map (·.2.2)) := by
        intro l
        induction l with
        | nil => intro _; exact .nil
        | cons b l ih => intro hl; exact .cons (hl b List.mem_cons_self) (ih fun c hc => hl c (List.mem_cons_of_mem _ hc))
      exact go _ fun b hb => (hbs b (pmb.mem_iff.mp hb)).2.2.2
    have pv : ((bs.mergeSort (PySem.W.dataLe false fun b => b.2.1)).map (·.1)).Perm vs := by
      have uniq : ∀ (xs ys : List V) (us vs' : List Value), Vals xs us → Vals ys vs' → us.Perm vs' → xs.Perm ys := by
        intro xs ys us vs' r1 r2 hp
        have ab : ∀ {xs : List V} {us : List Value}, Vals xs us → us.filterMap absV = xs := by
          intro xs us r
          induction r with
          | nil => rfl
          | cons h t ih => rw [List.filterMap_cons_some h.abs, ih]
        rw [← ab r1, ← ab r2]
        exact hp.filterMap _
      exact uniq _ _ _ _ rvo rvs pout
    have hn : H s1.heap.objs.size = none := I.hok.fresh hz
    have keep : ∀ b u, s.heap.get? b = some u → (sortedHeap (s1.heap.push (seqObj "list" out.toArray 0)) s1.heap.objs.size out out2.toArray).get? b = some u := fun b u e => by
      have e' := kp b u e
      have hlt := Heap.lt_size e'
      rw [sortedHeap_old (Nat.ne_of_lt hlt) (by rw [size_push']; exact Nat.lt_succ_of_lt hlt)]
      exact Heap.get?_push_of_some _ e'
    have hll : ((bs.mergeSort (PySem.W.dataLe false fun b => b.2.1)).map (·.1)).length ≤ sizeLine := by
      rw [List.length_map, List.length_mergeSort, hblen, sizeLine_eq]
      omega
    refine wpAny_pure ⟨_, rfl, ?_⟩
    have J : Inv X pins σ (upd H s1.heap.objs.size (.lst ((bs.mergeSort (PySem.W.dataLe false fun b => b.2.1)).map (·.1)))) { s with heap := sortedHeap (s1.heap.push (seqObj "list" out.toArray 0)) s1.heap.objs.size out out2.toArray, gens := s1.gens, drawn := s1.drawn, toks := s1.toks } :=
      I.call (ch := []) (Un.laid keep hz hn) (I.hok.laid keep hz ⟨hll, out2, c, rvo, hc2⟩) (by rw [g1]; exact I.bare) (fun _ z => nomatch z)
    have es1 : ({ s1 with heap := sortedHeap (s1.heap.push (seqObj "list" out.toArray 0)) s1.heap.objs.size out out2.toArray } : Shared) = { s with heap := sortedHeap (s1.heap.push (seqObj "list" out.toArray 0)) s1.heap.objs.size out out2.toArray, gens := s1.gens, drawn := s1.drawn, toks := s1.toks } := by
      cases s1
      cases s
      cases o1
      rfl
    exact ⟨.ref s1.heap.objs.size, _, by rw [← es1] at J; exact J, rfl, q _ _ pv hn⟩
end
end Wok
namespace Wok
open PySem PySem.Spec PyProof.Rows L2
open Evl (Ex)

/-! ### dicts whose keys are nested tuples, all values True -/
def rowsK (xs : List (PyData × Addr)) : List (NestedKey × Addr × Value) := xs.map fun p => (keyD p.1, p.2, Value.bool true)
def DNO (P : Program) (w : World) (a : Addr) (xs : List (PyData × Addr)) : HO := .ext fun h => (a == sysModules) = false ∧ xs.length ≤ 1000000 ∧
  ∃ (o : Obj) (es : Array DictEntry) (ep : Nat), h.get? a = some o ∧ o.ExactDict ∧ o.data = .dict es ep ∧ es.toList = (rowsK xs).map (entryOfKey (nestedKind P w)) ∧ ((rowsK xs).map (·.1)).Nodup
def KeysIn (K : PySem.W.Frag) (H : Hp) (xs : List (PyData × Addr)) : Prop := ∀ p ∈ xs, Dt K H (.ref p.2) p.1 ∧ KeyD p.1
theorem KeysIn.mono {K : PySem.W.Frag} {H H' : Hp} {xs : List (PyData × Addr)} (h : KeysIn K H xs) (e : Kp K H H') : KeysIn K H' xs := fun p hp => ⟨(h p hp).1.mono e, (h p hp).2⟩
theorem KeysIn.snoc {K : PySem.W.Frag} {H : Hp} {xs : List (PyData × Addr)} (h : KeysIn K H xs) {d : PyData} {b : Addr} (hd : Dt K H (.ref b) d) (k : KeyD d) : KeysIn K H (xs ++ [(d, b)]) := fun p hp => by
  rcases List.mem_append.mp hp with q | q
  · exact h p q
  · rw [List.mem_singleton.mp q]; exact ⟨hd, k⟩
/-- behind d[k] = True -/
def AddK (xs xs' : List (PyData × Addr)) (d : PyData) (b : Addr) : Prop := (d ∈ xs.map (·.1) ∧ xs' = xs) ∨ (d ∉ xs.map (·.1) ∧ xs' = xs ++ [(d, b)])
section
variable {X : Cx} {pins : List (Addr × Obj)} {σ : L2.St} {H : Hp} {s : Shared} {a : Addr} {xs : List (PyData × Addr)}
theorem dno_ok {P : Program} {w : World} {H : Hp} {h : Heap} (ha : (a == sysModules) = false) (hl : xs.length ≤ 1000000) {o : Obj} {es : Array DictEntry} {ep : Nat} (ho : h.get? a = some o) (hx : o.ExactDict) (hd : o.data = .dict es ep)
    (he : es.toList = (rowsK xs).map (entryOfKey (nestedKind P w))) (hn : ((rowsK xs).map (·.1)).Nodup) : ObjOk P w H h a (DNO P w a xs) := by
  refine ⟨⟨ha, hl, o, es, ep, ho, hx, hd, he, hn⟩, ⟨o, ho⟩, fun h1 h2 p k => ?_⟩
  obtain ⟨p1, p2, o', es', ep', q1, q⟩ := p
  exact ⟨p1, p2, o', es', ep', k o' q1, q⟩
theorem dno_full (I : Inv X pins σ H s) (h : H a = some (DNO X.prog X.w a xs)) (k : KeysIn X.K H xs) : (a == sysModules) = false ∧ xs.length ≤ 1000000 ∧ s.heap.DictOfH (nestedKind X.prog X.w) a (rowsK xs) := by
  obtain ⟨h1, h2, o, es, ep, ho, hx, hd, he, hn⟩ := (I.hok a _ h).1
  refine ⟨h1, h2, o, es, ep, ho, hx, hd, he, fun x hx => ?_, hn⟩
  obtain ⟨p, hp, rfl⟩ := List.mem_map.mp hx
  obtain ⟨dp, kp⟩ := k p hp
  obtain ⟨b, e1, e2, e3⟩ := dp.keyN I (show RelV (.ref p.2) (.ref p.2) from rfl) kp
  cases e1
  exact e3.is
theorem rows_at (k : KeysIn X.K H xs) {d : PyData} (kd : KeyD d) : ((atKey (rowsK xs) (keyD d)).isSome = true ↔ d ∈ xs.map (·.1)) := by
  have aux : ∀ xs : List (PyData × Addr), (∀ p ∈ xs, KeyD p.1) → ((atKey (rowsK xs) (keyD d)).isSome = true ↔ d ∈ xs.map (·.1)) := by
    intro xs
    induction xs with
    | nil => intro _; simp [rowsK, atKey]
    | cons p xs ih =>
      intro hk
      have ih' := ih fun q hq => hk q (List.mem_cons_of_mem _ hq)
      by_cases c : keyD p.1 = keyD d
      · have e := keyD_inj _ _ (hk p List.mem_cons_self).good kd.good c
        simp [rowsK, atKey, c, e]
      · have ne : ¬ d = p.1 := fun z => c (by rw [z])
        have e1 : atKey (rowsK (p :: xs)) (keyD d) = atKey (rowsK xs) (keyD d) := by
          simp [rowsK, atKey, c]
        rw [e1, ih']
        simp [ne]
  exact aux xs fun p hp => (k p hp).2
theorem rows_put (k : KeysIn X.K H xs) {d : PyData} (kd : KeyD d) (b : Addr) : ∃ xs', AddK xs xs' d b ∧ storedH (rowsK xs) (keyD d) b (.bool true) = rowsK xs' := by
  by_cases c : (atKey (rowsK xs) (keyD d)).isSome = true
  · refine ⟨xs, .inl ⟨(rows_at k kd).mp c, rfl⟩, ?_⟩
    unfold storedH
    rw [if_pos c]
    unfold rowsK
    rw [List.map_map]
    refine List.map_congr_left fun p _ => ?_
    show putAt (keyD d) (.bool true) (keyD p.1, p.2, Value.bool true) = _
    unfold putAt
    split <;> rfl
  · refine ⟨xs ++ [(d, b)], .inr ⟨fun z => c ((rows_at k kd).mpr z), rfl⟩, ?_⟩
    unfold storedH
    rw [if_neg c]
    unfold rowsK
    rw [List.map_append] <;> rfl
/-- the dict written -/
theorem dno_store (I : Inv X pins σ H s) (h : H a = some (DNO X.prog X.w a xs)) {xs' : List (PyData × Addr)} {h' : Heap} {t' : Nat} (ha : (a == sysModules) = false) (hl : xs'.length ≤ 1000000) (hm : h'.DictOfH (nestedKind X.prog X.w) a (rowsK xs')) (hs : Heap.SameBut a s.heap h') :
    Inv X pins σ (upd H a (DNO X.prog X.w a xs')) { s with heap := h', toks := t' } := by
  obtain ⟨o, es, ep, ho, hx, hd, he, _, hn⟩ := hm
  exact d_write I (by rw [h]; exact True.intro) hs ⟨o, ho⟩ (dno_ok ha hl ho hx hd he hn)
theorem addK_len {xs xs' : List (PyData × Addr)} {d : PyData} {b : Addr} (h : AddK xs xs' d b) : xs'.length ≤ xs.length + 1 := by
  rcases h with ⟨_, rfl⟩ | ⟨_, rfl⟩
  · exact Nat.le_succ _
  · rw [List.length_append]; exact Nat.le_refl _
/-- k not in d -/
def rNotInN (K : PySem.W.Frag) (P : Program) (w : World) : R2 := fun x y H Q => ∃ a xs d, y = .ref a ∧ H a = some (DNO P w a xs) ∧ KeysIn K H xs ∧ Dt K H x d ∧ KeyD d ∧ ∀ c : Bool, (c = true ↔ d ∈ xs.map (·.1)) → Q (.bl (!c)) H
theorem op_notInN (hu : X.A.units + 64 < cLine) : OpR X (compareOp .NotIn) (rNotInN X.K X.prog X.w) := by
  intro pins s σ H x y v u Q I rx ry h
  obtain ⟨a, xs, d, rfl, ha, hk, hd, kd, q⟩ := h
  cases ry
  obtain ⟨b, rfl, rfl, kn⟩ := hd.keyN I rx kd
  obtain ⟨f1, f2, f3⟩ := dno_full I ha hk
  show wpAny _ _ (do return Value.bool (!(← contains (.ref a) (.ref b)))) _ _ s
  refine wpAny_bind (wpAny_contains_heap (knd := nestedKind X.prog X.w) (k := keyD d) (show X.A.units + 1 + 8 < cLine by omega) kn.is f1 f3 (wpAny_pure ?_))
  exact ⟨.bl _, H, I.tok _, rfl, q _ (rows_at hk kd)⟩
/-- d[k] = True -/
def rPutN (K : PySem.W.Frag) (P : Program) (w : World) : TSet := fun o i v H Q => ∃ a xs d b, o = .ref a ∧ i = .ref b ∧ v = .bl true ∧ H a = some (DNO P w a xs) ∧ KeysIn K H xs ∧ Dt K H i d ∧ KeyD d ∧ xs.length < 1000000 ∧
  ∀ xs', AddK xs xs' d b → Q (upd H a (DNO P w a xs'))
theorem set_N (hu : X.A.units + 64 < cLine) : PSet X (rPutN X.K X.prog X.w) := by
  intro pins s σ H o i v ov iv u Q I ro ri rv h
  obtain ⟨a, xs, d, b, rfl, rfl, rfl, ha, hk, hd, kd, hl, q⟩ := h
  cases ro
  cases rv
  obtain ⟨b', e1, rfl, kn⟩ := hd.keyN I ri kd
  cases e1
  obtain ⟨f1, f2, f3⟩ := dno_full I ha hk
  obtain ⟨xs', ad, est⟩ := rows_put hk kd b
  refine wpAny_setItem_heap (knd := nestedKind X.prog X.w) (k := keyD d) (hsz := by unfold rowsK; rw [List.length_map, sizeLine_eq]; omega) (show X.A.units + 1 + 8 < cLine by omega) kn.is f3 fun h' hm hs => ?_
  rw [est] at hm
  exact ⟨_, dno_store I ha f1 (by have := addK_len ad; omega) hm hs, q xs' ad⟩
/-- {}, to be such a dict -/
def tDNewN (P : Program) (w : World) : TE := fun _ H Q => ∀ p, H p = none → Q (.ref p) (upd H p (DNO P w p []))
theorem dno_new {P : Program} {w : World} {H : Hp} (h : Heap) (hb : sysModules < h.objs.size) : ObjOk P w H (h.push { cls := .type "dict", data := .dict #[] }) h.objs.size (DNO P w h.objs.size []) :=
  dno_ok (beq_eq_false_iff_ne.mpr (Ne.symm (Nat.ne_of_lt hb))) (Nat.zero_le _) (Heap.get?_push_size _ rfl) ⟨rfl, rfl, rfl⟩ rfl rfl List.nodup_nil
theorem pe_dnewN {pos : Pos} : PE X (.Dict [] [] pos) (tDNewN X.prog X.w) := ⟨fun pins s σ H Q I h =>
  wpAny_Dict_empty ⟨.ref s.heap.objs.size, _, I.laid (t' := s.toks) (fun _ _ q => Heap.get?_push_of_some _ q) (Nat.le_refl _) (dno_new s.heap I.big), rfl, h _ (I.hok.fresh (Nat.le_refl _))⟩⟩

/-! ### {k: True for name in ..} -/
/-- the store of a comprehension's turn -/
def putN (K : PySem.W.Frag) (P : Program) (w : World) (D : Addr) (y z : V) (H : Hp) (Q : Hp → Prop) : Prop := z = .bl true ∧ ∃ xs d b, y = .ref b ∧ H D = some (DNO P w D xs) ∧ KeysIn K H xs ∧ Dt K H y d ∧ KeyD d ∧ xs.length < 1000000 ∧ ∀ xs', AddK xs xs' d b → Q (upd H D (DNO P w D xs'))
theorem putN_run {D : Addr} {y z : V} {u r : Value} {E : Value → Shared → Prop} {Q : Unit → Shared → Prop} (hu : X.A.units + 64 < cLine) (I : Inv X pins σ H s) (ry : RelV y u) (rz : RelV z r) {Nx : Hp → Prop} (h : putN X.K X.prog X.w D y z H Nx)
    (k : ∀ s' H', Inv X pins σ H' s' → Nx H' → Q () s') : wpAny (model X.prog X.w) X.A (dictSet D u r) Q E s := by
  obtain ⟨rfl, xs, d, b, rfl, ha, hk, hd, kd, hl, q⟩ := h
  cases rz
  obtain ⟨b', e1, rfl, kn⟩ := hd.keyN I ry kd
  cases e1
  obtain ⟨f1, f2, f3⟩ := dno_full I ha hk
  obtain ⟨xs', ad, est⟩ := rows_put hk kd b
  refine wpAny_dictSet_heap (knd := nestedKind X.prog X.w) (k := keyD d) (hsz := by unfold rowsK; rw [List.length_map, sizeLine_eq]; omega) (show X.A.units + 8 < cLine by omega) kn.is f3 fun h' hm hs => ?_
  rw [est] at hm
  exact k _ _ (dno_store I ha f1 (by have := addK_len ad; omega) hm hs) (q xs' ad)
def tDcN (K : PySem.W.Frag) (P : Program) (w : World) (wi : TI) (g : TG) (tk tv : TE) (vs : List Nat) : TE := fun σ H Q => wi σ H fun J H1 => ∀ D, H1 D = none → ∃ W : Nat → Nat → Hp → Prop, (∃ m, W 0 m (upd H1 D (DNO P w D []))) ∧ ∀ i m H, W i m H →
  (J.stop i H ∧ Q (.ref D) H) ∨ (J.go i H ∧ ∃ Nx : Hp → Prop, (∀ H', Nx H' → ∃ m', m' < m ∧ W (i + 1) m' H') ∧ ∀ x H', J.yld i H x H' → g x (wipe σ vs) H' fun σ2 H2 => wipe σ2 vs = wipe σ vs ∧
    tk σ2 H2 fun y H4 => tv σ2 H4 fun z H5 => putN K P w D y z H5 Nx)
theorem dcN_core {pins : List (Addr × Obj)} {s : Shared} {σ : L2.St} {H : Hp} {Q : VK} {kx vx tg iter : Expr} {scope : Scope} {own : List (Str × Nat)} {pos pos' : Pos} {wi : TI} {g : TG} {tk tv : TE} {use : Option (Value → Sem Unit)} {Qf : Value → Shared → Prop}
    (hu : X.A.units + 64 < cLine) (hc : X.calm = true) (hN : X.N.Nodup) (I : Inv X pins σ H s) (hi : PI X tg iter wi) (ok : BlkOk X.N X.env.scope scope own)
    (hg : ∀ (s : Shared) (H : Hp) (C : Addr) (cl : List (Str × Addr)) (fp : List Addr), PG (X.blk s H scope (compEnvC scope cl C X.env) fp) tg g) (hk : ∀ (s : Shared) (H : Hp) (C : Addr) (cl : List (Str × Addr)) (fp : List Addr), PE (X.blk s H scope (compEnvC scope cl C X.env) fp) kx tk)
    (he : ∀ (s : Shared) (H : Hp) (C : Addr) (cl : List (Str × Addr)) (fp : List Addr), PE (X.blk s H scope (compEnvC scope cl C X.env) fp) vx tv) (hs : ∀ x, foldedSetIterable iter X.env x = pure x)
    (hw : tDcN X.K X.prog X.w wi g tk tv (own.map (·.2)) σ H Q)
    (hRR : ∀ D C s' m H', Inv X pins σ H' s' → Q (.ref D) H' → s'.heap.Ns C m → FpOk X pins H' C → compPost (model X.prog X.w) X.A X.xe use Qf (.ref D) C (.ok .next) s') :
    wpAny (model X.prog X.w) X.A (comprehension (.DictComp kx vx [⟨tg, iter, [], 0⟩] scope pos) scope X.env pos' newDict false (eval iter X.env) use) Qf X.xe s := by
  refine wpAny_comprehension_free (use := use) rfl hs (closure_ok fun y hy e => (ok.free y hy e).elim (fun k => I.ok.has _ (.inl k)) fun k => I.ok.has _ (.inr k)) ok.kind (fun y hy e => by rw [ok.uniq y hy, e])
    (thn (hi.run pins s σ H _ I hw) fun xv s1 hx => thn hx fun itv s2 h2 => ?_)
  obtain ⟨it, fp, tn, J, H2, rfl, I2, T, st2, f2, q⟩ := h2
  refine wpAny_newObj_type (newEnv_comp ?_)
  have hDn : H2 s2.heap.objs.size = none := I2.hok.fresh (Nat.le_refl _)
  obtain ⟨W, ⟨m0, w0⟩, turn⟩ := q _ hDn
  -- the dict is laid
  have I3 : Inv X pins σ (upd H2 s2.heap.objs.size (DNO X.prog X.w s2.heap.objs.size [])) { s2 with heap := s2.heap.push { cls := .type "dict", data := .dict #[] } } :=
    I2.laid (t' := s2.toks) (fun b o e => Heap.get?_push_of_some _ e) (Nat.le_refl _) (dno_new s2.heap I2.big)
  have f3 : ∀ b ∈ fp, FpOk X pins (upd H2 s2.heap.objs.size (DNO X.prog X.w s2.heap.objs.size [])) b ∧ b < (s2.heap.push { cls := .type "dict", data := .dict #[] }).objs.size := fun b hb => by
    obtain ⟨o, e, _⟩ := T.obj _ _ st2 b hb
    have lt := Heap.lt_size e
    exact ⟨⟨by rw [upd_ne (Nat.ne_of_lt lt)]; exact (f2 b hb).1, (f2 b hb).2⟩, by rw [Heap.size_push]; exact Nat.lt_succ_of_lt lt⟩
  have st3 : tn 0 (s2.heap.push { cls := .type "dict", data := .dict #[] }) := T.keep _ _ _ st2 fun b _ o e => Heap.get?_push_of_some _ e
  revert I3 f3 st3 w0 turn
  generalize upd H2 s2.heap.objs.size (DNO X.prog X.w s2.heap.objs.size []) = H3
  generalize s2.heap.objs.size = D
  generalize hs3 : ({ s2 with heap := s2.heap.push { cls := .type "dict", data := .dict #[] } } : Shared) = s3
  have hh3 : s2.heap.push { cls := .type "dict", data := .dict #[] } = s3.heap := by rw [← hs3]
  rw [hh3]
  intro turn w0 I3 f3 st3
  have I4 := block_start I3 ok hN f3
  show codeAny _ _ (.compStart (.DictComp kx vx [⟨tg, iter, [], 0⟩] scope pos) 0 (.ref it) (.ref D) (compEnvC scope (cellsFrom (s3.heap.objs.size + 1) scope.names (cloFrom X.env.cells scope.names [])) s3.heap.objs.size X.env)) (compPost (model X.prog X.w) X.A X.xe use Qf (.ref D) s3.heap.objs.size) _
  have pg := hg s3 H3 s3.heap.objs.size (cellsFrom (s3.heap.objs.size + 1) scope.names (cloFrom X.env.cells scope.names [])) fp
  have pk := hk s3 H3 s3.heap.objs.size (cellsFrom (s3.heap.objs.size + 1) scope.names (cloFrom X.env.cells scope.names [])) fp
  have pv := he s3 H3 s3.heap.objs.size (cellsFrom (s3.heap.objs.size + 1) scope.names (cloFrom X.env.cells scope.names [])) fp
  generalize hce : compEnvC scope (cellsFrom (s3.heap.objs.size + 1) scope.names (cloFrom X.env.cells scope.names [])) s3.heap.objs.size X.env = ce at I4 pg pk pv ⊢
  have cL : ce.locals = s3.heap.objs.size := by subst hce; rfl
  generalize hs4 : ({ s3 with heap := pushCells (s3.heap.push { cls := .type "dict", data := .dict #[] }) scope.names } : Shared) = s4 at I4
  have hs4' : s4 = { s3 with heap := pushCells (s3.heap.push { cls := .type "dict", data := .dict #[] }) scope.names } := hs4.symm
  have st4 : tn 0 s4.heap := T.keep _ _ _ st3 fun b _ o e => by rw [hs4']; exact pushCells_keeps _ _ _ _ (Heap.get?_push_of_some _ e)
  have foot : ∀ {σ' : L2.St} {H' : Hp} {z : Shared}, Inv (X.blk s3 H3 scope ce fp) [] σ' H' z → (∀ b ∈ fp, H' b = none) → ∀ b ∈ fp, FpOk (X.blk s3 H3 scope ce fp) [] H' b := fun {σ' H' z} J hn b hb =>
    ⟨hn b hb, (J.ok.exf b hb).1, J.ok.exfs b hb, .inl hb, fun x c e => (J.ok.exf b hb).2 x c e, fun p hp => absurd (show p ∈ ([] : List (Addr × Obj)) ++ [] from hp) (by simp)⟩
  have loop : codeAny (model X.prog X.w) X.A (.compLoop (.DictComp kx vx [⟨tg, iter, [], 0⟩] scope pos) 0 (.ref it) (.ref D) ce) (compPost (model X.prog X.w) X.A X.xe use Qf (.ref D) s3.heap.objs.size) s4 := by
    refine compLoop_anyD (fun n z => ∃ i H', Inv (X.blk s3 H3 scope ce fp) [] (wipe σ (own.map (·.2))) H' z ∧ tn i z.heap ∧ (∀ b ∈ fp, H' b = none) ∧ W i n H') ?_ m0 ⟨0, H3, I4, st4, fun b hb => (f3 b hb).1.1, w0⟩
    rintro n s5 ⟨i, H5, I5, st5, n5, w5⟩
    rcases turn i n H5 w5 with ⟨stop, qq⟩ | ⟨go, Nx, hNx, step⟩
    · refine thnF (T.done (X.blk s3 H3 scope ce fp) rfl rfl rfl hc i [] s5 _ H5 (fun _ _ => False) I5 (foot I5 n5) st5 stop) fun r s6 ⟨hr, I6⟩ => ?_
      subst hr
      have I7 : Inv X pins σ H5 s6 := I3.call' (ch := fp) I6.os I6.base I6.hok I6.bare fun b hb => ⟨(f3 b hb).1.2.2.2.1, (f3 b hb).1.2.1, (f3 b hb).1.2.2.2.2.1, (f3 b hb).1.2.2.2.2.2⟩
      have nC : H5 s3.heap.objs.size = none := cL ▸ (I6.free : H5 ce.locals = none)
      obtain ⟨m, hn, _⟩ := I6.loc
      have hn' : s6.heap.Ns s3.heap.objs.size m := cL ▸ (hn : s6.heap.Ns ce.locals m)
      exact hRR D s3.heap.objs.size s6 m H5 I7 qq hn' (I3.fpOk (H' := H5) (Nat.le_refl _) nC)
    · refine thnF (T.item (X.blk s3 H3 scope ce fp) rfl rfl rfl hc i [] s5 _ H5 (fun _ _ => False) I5 (foot I5 n5) st5 go) fun r s6 ⟨u, hr, h6⟩ => ?_
      subst hr
      refine thnF h6 fun _ s7 ⟨x, H7, I7, r7, y7, st7, n7⟩ => ?_
      have I7' := I7.pinned (foot I7 n7) (T.obj _ _ st7)
      refine thnF (pg.run _ s7 _ H7 x u _ I7' r7 (step x H7 y7)) fun _ s8 ⟨σ8, H8, I8, hw8, q8⟩ => ?_
      refine wpAny_tests_nil ?_
      simp only [if_true]
      refine thnF (pk.run _ s8 σ8 H8 _ I8 q8) fun z s10 ⟨yk, H10, I10, r10, q10⟩ => ?_
      refine thnF (pv.run _ s10 σ8 H10 _ I10 q10) fun z2 s11 ⟨yv, H11, I11, r11, q11⟩ => ?_
      refine putN_run (X := X.blk s3 H3 scope ce fp) hu I11 r10 r11 q11 fun s12 H12 I12 nx => ?_
      obtain ⟨m', hm, w'⟩ := hNx H12 nx
      have pin' : ∀ b ∈ fp, ∀ o, s7.heap.get? b = some o → s12.heap.get? b = some o ∧ H12 b = none := fun b hb o e =>
        let z := I12.pin (b, o) (List.mem_append_right _ (List.mem_append_right _ (mem_pinsAt hb e)))
        ⟨z.1, z.2.1⟩
      refine ⟨m', hm, i + 1, H12, (I12.unpinned (pins := [])).weak (by rw [← hw8, wipe_length]) (fun j v e => ?_), T.keep _ _ _ st7 fun b hb o e => (pin' b hb o e).1, fun b hb => ?_, w'⟩
      · rw [← hw8] at e
        exact (wipe_some e).1
      · obtain ⟨o, e, _⟩ := T.obj _ _ st7 b hb
        exact (pin' b hb o e).2
  exact codeAny_compStart_dict loop (T.self X.A 0 _ _ _ st4 loop)
theorem pe_dcN {kx vx tg iter : Expr} {scope : Scope} {own : List (Str × Nat)} {pos : Pos} {wi : TI} {g : TG} {tk tv : TE} (hu : X.A.units + 64 < cLine) (hc : X.calm = true) (hN : X.N.Nodup) (hi : PI X tg iter wi) (ok : BlkOk X.N X.env.scope scope own)
    (hg : ∀ (s : Shared) (H : Hp) (C : Addr) (cl : List (Str × Addr)) (fp : List Addr), PG (X.blk s H scope (compEnvC scope cl C X.env) fp) tg g) (hk : ∀ (s : Shared) (H : Hp) (C : Addr) (cl : List (Str × Addr)) (fp : List Addr), PE (X.blk s H scope (compEnvC scope cl C X.env) fp) kx tk)
    (he : ∀ (s : Shared) (H : Hp) (C : Addr) (cl : List (Str × Addr)) (fp : List Addr), PE (X.blk s H scope (compEnvC scope cl C X.env) fp) vx tv) (hs : ∀ x, foldedSetIterable iter X.env x = pure x := by intro _; rfl) :
    PE X (.DictComp kx vx [⟨tg, iter, [], 0⟩] scope pos) (tDcN X.K X.prog X.w wi g tk tv (own.map (·.2))) := by
  refine ⟨fun pins s σ H Q I hw => ?_⟩
  rw [arm_eval_DictComp]
  refine dcN_core hu hc hN I hi ok hg hk he hs hw fun D C s' m H' I' q hn f => ⟨m, hn, fun h'' sb => ?_⟩
  obtain ⟨f0, f1, f2, f3, f4, f5⟩ := f
  exact ⟨.ref D, H', I'.turned (t' := s'.toks) (fun b o hb e => (sb.2 b hb).trans e) f0 f1 f3 f4 f5, rfl, q⟩
theorem ps_setDcN {i : Nat} {y : Str} {py : Pos} {kx vx tg iter : Expr} {scope : Scope} {own : List (Str × Nat)} {pos spos : Pos} {wi : TI} {g : TG} {tk tv : TE} (hu : X.A.units + 64 < cLine) (hc : X.calm = true) (hN : X.N.Nodup) (hy : X.N[i]? = some y) (hyl : X.env.scope.names.lookup y = some .local)
    (hsw : swapsWith (.DictComp kx vx [⟨tg, iter, [], 0⟩] scope pos) (some (.Name y py)) spos.line X.env = pure true) (hi : PI X tg iter wi) (ok : BlkOk X.N X.env.scope scope own)
    (hg : ∀ (s : Shared) (H : Hp) (C : Addr) (cl : List (Str × Addr)) (fp : List Addr), PG (X.blk s H scope (compEnvC scope cl C X.env) fp) tg g) (hk : ∀ (s : Shared) (H : Hp) (C : Addr) (cl : List (Str × Addr)) (fp : List Addr), PE (X.blk s H scope (compEnvC scope cl C X.env) fp) kx tk)
    (he : ∀ (s : Shared) (H : Hp) (C : Addr) (cl : List (Str × Addr)) (fp : List Addr), PE (X.blk s H scope (compEnvC scope cl C X.env) fp) vx tv) (hs : ∀ x, foldedSetIterable iter X.env x = pure x := by intro _; rfl) :
    PS X (.Assign [.Name y py] (.DictComp kx vx [⟨tg, iter, [], 0⟩] scope pos) spos) (tAsg (tDcN X.K X.prog X.w wi g tk tv (own.map (·.2))) (gName i)) := by
  refine ⟨fun pins s σ H D I h => ?_⟩
  rw [exec_Assign_Name_used _ _ _ _ hsw]
  refine wpAny_bind (wpAny_standAt (wpAny_bind ?_))
  show wpAny _ X.A (do let _ ← comprehension (.DictComp kx vx [⟨tg, iter, [], 0⟩] scope pos) scope X.env (firstIterPos [⟨tg, iter, [], 0⟩] pos) newDict false (eval iter X.env) (some (assign (.Name y py) X.env))) _ _ s
  have h : tDcN X.K X.prog X.w wi g tk tv (own.map (·.2)) σ H (fun x H1 => gName i x σ H1 D.nx) := h
  refine wpAny_bind (thn (dcN_core (Qf := fun _ s' => SP X pins D .next s') hu hc hN I hi ok hg hk he hs h fun L C s' m H' I' q hn f => ?_) fun _ s' hq => wpAny_pure (wpAny_pure hq))
  show wpAny _ _ (assign (.Name y py) X.env (.ref L)) _ _ _
  refine wpAny_assign_Name (store_ok2 (v := V.ref L) I' hN hy (.inl hyl) rfl (fun s2 I2 ⟨a, sb, ha⟩ => ?_) (.inr hyl))
  obtain ⟨f0, f1, f2, f3, f4, f5⟩ := f
  have haC : C ≠ a := by
    rcases ha with z | z
    · rw [z]; exact f1
    · exact fun e => f4 y a z e.symm
  refine ⟨m, hn.sameBut sb haC, fun h3 sb3 => ?_⟩
  exact ⟨_, H', I2.turned (t' := s2.toks) (fun b o hb e => (sb3.2 b hb).trans e) f0 f1 f3 f4 f5, q⟩
theorem swD_true {kx vx : Expr} {gs : List Comprehension} {scope : Scope} {pos py : Pos} {y : Str} {l : Nat} {env : Env} (hk : env.scope.kind = .function) (hy : env.scope.names.lookup y = some .local) (hl : (py.line == pos.line) = true)
    (ha : (scope.names.any fun (n, k) => n == y && (k == .local || k == .cell)) = false) : swapsWith (.DictComp kx vx gs scope pos) (some (.Name y py)) l env = pure true := by
  have ky : env.kindOf y = some .local := hy
  have hb : env.blockKind = .function := by unfold Env.blockKind; rw [hk]; rfl
  unfold swapsWith
  simp only [hb, ky, ha, Expr.pos, hl]
  rfl
end
end Wok
namespace Wok
open PySem PySem.Spec PyProof.Rows L2
open Evl (Ex)

/-! ### repr of data -/
section
variable {X : Cx}
theorem Dp.isref {K : PySem.W.Frag} {H : Hp} {x : V} {ds : List PyData} (h : Dp K H x (.list ds)) : ∃ a, x = .ref a := by
  cases h with
  | lst _ _ => exact ⟨_, rfl⟩
theorem Dp.isrefT {K : PySem.W.Frag} {H : Hp} {x : V} {ds : List PyData} (h : Dp K H x (.tuple ds)) : ∃ a, x = .ref a := by
  cases h with
  | tup _ _ => exact ⟨_, rfl⟩
/-- repr(x), where nothing is being shown -/
def rRepr (K : PySem.W.Frag) : List V → Hp → VK → Prop := fun xs H Q => ∃ a d, xs = [.ref a] ∧ Dp K H (.ref a) d ∧ d.showable = true ∧ d.hasDict = false ∧ d.depth ≤ 40 ∧ d.shown.length ≤ sizeLine ∧ Q (.str d.shown) H
theorem cr_repr (hg : X.A.guards = some []) (hu : X.A.units + 64 < cLine) : CallR X (.builtin "repr") (rRepr X.K) := by
  intro pins s σ H xs us Q I r h
  obtain ⟨a, d, rfl, hd, h1, h2, h3, h4, q⟩ := h
  obtain ⟨u, rfl, ru⟩ := vals1 r
  obtain ⟨as, rd⟩ := Dp.reads I d _ _ hd ru
  cases ru
  refine repr_of_reads' rd h1 (PyData.noDict_hsm h2) hg (by omega) (fun _ _ e => e) (fun h' u tk hk => ?_) h4
  exact ⟨.str d.shown, H, I.kept (t' := tk) hk, ⟨u, rfl⟩, q⟩
end

/-! ### defs called where nothing is being shown -/
structure FnOkG (P : Program) (w : World) (K : PySem.W.Frag) (mg : Str → Option Value) (base : Heap) (k : Nat) (f : Addr) (fd : FuncData) (ps : List Str) (sp : Sp) : Prop where
  len : ∀ vs H Q E, sp vs H Q E → vs.length = ps.length
  run : ∀ (A : Around) (outer : List Env) (s : Shared) (H : Hp) (args : Args) (us : List Value) (vs : List V) (Q : VK) (E : XK), Room k A → A.guards = some [] → Env0 P w K mg base A outer s H → BindsTo s fd args (ps.zip us) → Vals vs us → sp vs H Q E →
    codeAny (model P w) A (.call (.ref f) args) (CR CX0 outer P w H s Q E) s
theorem fnG_of {P : Program} {w : World} {K : PySem.W.Frag} {mg : Str → Option Value} {base : Heap} {x qual : Str} {params : Arguments} {body : List Stmt} {scope : Scope} {dvs : List V} {kws : List (Str × V)} {f : Addr} {fd : FuncData} {N ps : List Str} {k : Nat} {sp : Sp}
    (F : FunD K x qual params body scope dvs kws f fd) (S : FnScope N ps scope) (len : ∀ vs H Q E, sp vs H Q E → vs.length = ps.length)
    (hbody : ∀ (cdv : Value) (A : Around) (outer : List Env) (s : Shared) (H : Hp) (vs : List V) (Q : VK) (E : XK), Room k (A.deeper (envOfC qual scope s.heap.objs.size f cdv)) → A.guards = some [] → sp vs H Q E →
      ∃ t, PSs (cxOf CX0 P w K mg base N qual scope f cdv A outer s H E).nox body t ∧ t { nx := fun _ H' => Q .non H', rt := Q } (start N vs) H) : FnOkG P w K mg base (k + 1) f fd ps sp := by
  obtain ⟨oc, od, dV, kV, doc, pm, an, cdv, ct, osl, rfl, lk, hcd, _, _⟩ := F.ex
  refine ⟨len, fun A outer s H args us vs Q E hr hG e0 hb r hsp => ?_⟩
  have kx : K.In s.heap := e0.mod.kin.keeps fun b o e => (e0.bs b o e).1
  have nl : s.heap.NoLimit := e0.mod.nolimit.keeps fun b o e => (e0.bs b o e).1
  refine codeAny_call_function hr.depth (kx _ _ lk) rfl S.co S.gen rfl (PySem.W.codeRec_of kx hcd) (hb _ _ _ _ (wpAny_newFunctionEnv_cells S.kind (fun z hz => ?_) fun env he s1 cl => ?_))
  · obtain ⟨n, v⟩ := z
    exact (S.par n (List.of_mem_zip hz).1).elim .inl fun q => .inr ⟨q, PySem.W.cellsFrom_some _ _ _ (.inl q)⟩
  subst he
  refine ⟨nl.keeps cl.toInCall.keep, codeAny_func ?_⟩
  obtain ⟨t, ht, hq⟩ := hbody cdv A outer s H vs Q E (hr.deeper _) hG hsp
  have I0 : Inv (cxOf CX0 P w K mg base N qual scope f cdv A outer s H E) [] (start N vs) H s1 := inv_start S hr.hd e0 (len _ _ _ _ hsp) r cl
  refine wpAny_mono (ht.nox.run [] s1 (start N vs) H _ I0 hq) (fun fl z hz => ?_) fun e z hz => hz
  cases fl with
  | ret u => exact let ⟨v, _, H', J, rv, q⟩ := hz; ⟨v, H', J.os, J.bare, J.base, J.hok, rv, q⟩
  | next => exact let ⟨_, H', J, q⟩ := hz; ⟨.non, H', J.os, J.bare, J.base, J.hok, rfl, q⟩
  | brk => exact let ⟨_, _, _, q⟩ := hz; False.elim q
  | cont => exact let ⟨_, _, _, q⟩ := hz; False.elim q
section
variable {X : Cx} {k : Nat} {f : Addr} {fd : FuncData} {ps : List Str} {sp : Sp} {x : Str} {p pos : Pos} {e : Expr} {es : List Expr} {t : TA}
theorem pe_callG (F : FnOkG X.prog X.w X.K X.mg X.base k f fd ps sp) (hr : Room k X.A) (hG : X.A.guards = some []) (hg : Gl X x) (hm : X.mg x = some (.ref f)) (hk : PySem.W.keepIn X.K (.ref f) = true) (hb : Binds X.K fd ps [])
    (ha : PA X (e :: es) t) (hdb : (x == ("__debug__" : Str)) = false := by decide) (he : starEach (e :: es) X.env = (false, eval e X.env) :: starEach es X.env := by rfl) (hpl : (backTo pos (starEach es X.env)).any (·.1) = false := by rfl) :
    PE X (.Call (.Name x p) (e :: es) [] pos) (tCall sp [] E0 t) := by
  refine ⟨fun pins s σ H Q I hw => wpAny_Call_Name_kw (ld_glob I hg hm (PySem.W.callWith_K (h₀ := X.base) I.ok.mod.kin hk (thn (ha.run pos pins s σ H _ I hw) fun us s1 ⟨vs, H1, I1, r, q⟩ => ⟨I1.kIn, ?_⟩) he hpl) hdb)⟩
  have q' : sp vs H1 Q E0 := by
    have z : sp (vs ++ []) H1 Q E0 := q
    rwa [List.append_nil] at z
  have hl : us.length = ps.length := by rw [← r.length]; exact F.len _ _ _ _ q'
  have hb' := hb s1 us I1.kIn (by rw [List.append_nil]; exact hl)
  rw [List.append_nil] at hb'
  refine wpAny_call (codeAny_mono (F.run X.A X.stack s1 H1 ⟨us, []⟩ us vs Q E0 hr hG I1.env0 hb' r q') fun r z hz => ?_)
  cases r with
  | error e => exact False.elim hz
  | ok fl =>
    cases fl with
    | ret u => exact I1.after hz
    | next => exact False.elim hz
    | brk => exact False.elim hz
    | cont => exact False.elim hz
end

/-! ### the end -/
/-- the script as what alone is tracked -/
def scriptH (a : Addr) (vs : List Value) (ns : List Int) : Hp := fun b => if b = a then some (.frz { cls := .type "list", data := .seq vs.toArray } (.lst (ns.map V.int))) else none
theorem scriptH_at {a b : Addr} {vs : List Value} {ns : List Int} {u : HO} (h : scriptH a vs ns b = some u) : b = a ∧ u = .frz { cls := .type "list", data := .seq vs.toArray } (.lst (ns.map V.int)) := by
  unfold scriptH at h
  split at h
  · exact ⟨by assumption, (Option.some.inj h).symm⟩
  · cases h
theorem scriptH_off {a b : Addr} {vs : List Value} {ns : List Int} (h : b ≠ a) : scriptH a vs ns b = none := if_neg h
theorem law_runG {P : Program} {w : World} {K : PySem.W.Frag} {mg mb : Str → Option Value} {k : Nat} {fa a : Addr} {fd : FuncData} {x : Str} {sp : Sp} {s₁ : Shared} {vs : List Value} {ns : List Int}
    (KX : K.In s₁.heap) (hns : s₁.heap.Ns mainGlobals mg) (hb : s₁.heap.Ns builtinsNs mb) (hbb : ∀ x : Str, x ≠ "__name__" → mb x = bootBuiltins x) (hlim : s₁.heap.NoLimit) (hg : s₁.gens = #[])
    (ha : s₁.heap.get? a = some { cls := .type "list", data := .seq vs.toArray }) (hi : IntsAre vs ns) (hl : ns.length ≤ sizeLine) (hr : Room k callerA) (H : Hp) (hH : H = scriptH a vs ns ∧ K.lookup a = none ∨ H = (fun _ => none) ∧ K.lookup a ≠ none)
    (F : ∀ base : Heap, K.In base → base.Ns mainGlobals mg → FnOkG P w K mg base k fa fd [x] sp) (hbind : ∀ (s : Shared) (u : Value), BindsTo s fd ⟨[u], []⟩ [(x, u)])
    (hsp : sp [.ref a] H (fun v _ => v = .bl true) fun _ _ _ => False) :
    codeAny (model P w) callerA (.call (.ref fa) ⟨[.ref a], []⟩) (fun r z => r = .ok (.ret (.bool true)) ∧ OldK s₁.heap z.heap ∧ z.os = s₁.os ∧ AllBare z.gens) s₁ := by
  have trk : ∀ {b : Addr} {u : HO}, H b = some u → b = a ∧ u = .frz { cls := .type "list", data := .seq vs.toArray } (.lst (ns.map V.int)) ∧ K.lookup a = none := fun {b u} q => by
    rcases hH with ⟨rfl, n⟩ | ⟨rfl, _⟩
    · exact ⟨(scriptH_at q).1, (scriptH_at q).2, n⟩
    · cases q
  have free : ∀ {b : Addr}, b ≠ a → H b = none := fun {b} hb => by
    cases q : H b with
    | none => rfl
    | some u => exact absurd (trk q).1 hb
  have dictFree : ∀ {b : Addr} {o : Obj} {es : Array DictEntry} {ep : Nat}, s₁.heap.get? b = some o → o.data = .dict es ep → H b = none := fun {b o es ep} e d => free fun z => by
    subst z
    rw [ha] at e
    cases e
    cases d
  have ns1 : ∀ {b : Addr} {m : Str → Option Value}, s₁.heap.Ns b m → (hidT s₁.heap H).Ns b m := fun {b m} ⟨o, es, ep, e, d, r⟩ => ⟨o, es, ep, hidT_get e (dictFree e d), d, r⟩
  have kin : K.In (hidT s₁.heap H) := fun b o e => hidT_get (KX b o e) (by
    cases q : H b with
    | none => rfl
    | some u =>
      obtain ⟨z, _, n⟩ := trk q
      subst z
      rw [n] at e
      cases e)
  have hok : HOk P w H s₁.heap := fun b u q => by
    obtain ⟨z1, z2, _⟩ := trk q
    subst z1 z2
    exact ⟨ha, by rw [List.length_map]; exact hl, vs, _, vals_ints hi, ha⟩
  have hM : Mod K mg (hidT s₁.heap H) := ⟨kin, ns1 hns, ⟨mb, ns1 hb, hbb⟩, let ⟨mc, h1, h2⟩ := hlim; ⟨mc, ns1 h1, h2⟩⟩
  have e0 : Env0 P w K mg (hidT s₁.heap H) callerA [] s₁ H := ⟨rfl, hM, fun b o e => of_hidT e, Nat.le_of_eq (hidT_size _ _), trivial, fun b hb => absurd (show b ∈ ([] : List Addr) from hb) (by simp), hok, .of_eq hg⟩
  refine codeAny_mono ((F _ kin (ns1 hns)).run callerA [] s₁ H ⟨[.ref a], []⟩ [.ref a] [.ref a] _ _ hr rfl e0 (hbind s₁ (.ref a)) (.cons rfl .nil) hsp) fun r z hz => ?_
  cases r with
  | error e => exact False.elim hz
  | ok fl =>
    cases fl with
    | next => exact False.elim hz
    | brk => exact False.elim hz
    | cont => exact False.elim hz
    | ret u =>
      obtain ⟨v, H', os, bare, un, hok', rv, rfl⟩ := hz
      obtain rfl : u = Value.bool true := rv
      refine ⟨rfl, OldK.of_keep fun b o e => ?_, os, bare⟩
      cases q : H b with
      | none => exact un.keep b o e q (fun y => absurd (show b ∈ ([] : List Addr) from y) (by simp)) (by simp)
      | some u =>
        obtain ⟨z1, z2, _⟩ := trk q
        subst z1 z2
        have y1 := (hok b _ q).1
        have y2 := (hok' b _ (un.frzs b _ _ q)).1
        rw [e] at y1
        cases y1
        exact y2
theorem walk_ofG {l : PySem.W.OpenLaw} {n k : Nat} {q : Program} {loose : List Str} {XP : (Str → Option Value) → Heap → Prop} {YP : World → Heap → Prop} {d : DefRec} {x : Str}
    (hn : l.most = some n) (hn2 : n ≤ sizeLine) (hdf : d.params.defaults = []) (hr : Room k callerA)
    (F : ∀ (w : World) (mg : Str → Option Value) (fa : Addr) (h : Heap), YP w h → h.Ns mainGlobals mg → mg d.name = some (.ref fa) →
      ∃ (K : PySem.W.Frag) (fd : FuncData) (sp : Sp), K.In h ∧ (∀ (s : Shared) (u : Value), BindsTo s fd ⟨[u], []⟩ [(x, u)]) ∧
        (∀ (H : Hp) (a : Addr) (ns : List Int), ns.length ≤ n → SqL K H a (ns.map V.int) → sp [.ref a] H (fun v _ => v = .bl true) fun _ _ _ => False) ∧
        ∀ base : Heap, K.In base → base.Ns mainGlobals mg → FnOkG l.prog w K mg base k fa fd [x] sp) :
    PySem.W.WalkO q loose XP YP l.row.toRowW d [] (fun f vs => PySem.call f vs) := by
  refine Att.attach_call hn hdf fun w s₀ s₁ mg mb fa o pm cd doc a vs ns G Y ho hd hcd hmg hobj hints hlen hg => ?_
  obtain ⟨K, fd, sp, KX, hb, hsp, hF⟩ := F w mg fa _ Y G.T.g hmg
  cases hk : K.lookup a with
  | none => exact law_runG KX G.T.g G.T.b G.T.builtins G.T.nolimit hg hobj hints (Nat.le_trans hlen hn2) hr (scriptH a vs ns) (.inl ⟨rfl, hk⟩) hF hb (hsp _ a ns hlen (.inl (.inr ⟨_, if_pos rfl⟩)))
  | some oa =>
    have e := KX a oa hk
    rw [hobj] at e
    cases e
    refine law_runG KX G.T.g G.T.b G.T.builtins G.T.nolimit hg hobj hints (Nat.le_trans hlen hn2) hr (fun _ => none) (.inr ⟨rfl, by rw [hk]; simp⟩) hF hb (hsp _ a ns hlen (.inr ⟨_, vs.toArray, _, hk, rfl, rfl, rfl, ?_, by simpa using vals_ints hints⟩))
    rw [List.size_toArray, hints.length]
    exact Nat.le_trans hlen hn2
end Wok
namespace Wok
open PySem PySem.Spec PyProof.Rows L2
open Evl (Ex)

/-! ### enumerate(t), t a tuple -/
set_option maxHeartbeats 2000000 in
theorem meets_enum1 {v : Value} {o : Obj} {G : Heap → Prop} (B : Begins v o G) : Meets (Builtin.«enumerate.__new__» ⟨[.type "enumerate", v], []⟩) (fun _ R s => G s.heap ∧
      R (.ok (.ret (.ref (s.heap.push o).objs.size))) { s with heap := (s.heap.push o).push { cls := .type "enumerate", data := .fields #[.none, .bool false, .ref s.heap.objs.size, rawInt 0, .none, .none] } }) :=
  .of_wp fun prog w A R s h => by
    obtain ⟨hp, g, d, tk, os⟩ := s
    obtain ⟨h1, h⟩ := h
    have hsub := sub_enumerate
    have go : ∀ {A' : Around} {E : Value → Shared → Prop} {Q : Value → Shared → Prop}, Q (.ref hp.objs.size) ⟨hp.push o, g, d, tk, os⟩ → wpAny (model prog w) A' (pyIter v) Q E ⟨hp, g, d, tk, os⟩ :=
      fun q => B.iter prog w _ _ ⟨hp, g, d, tk, os⟩ _ h1 q
    wp_walk
    refine wpAny_stack_any fun st => wpAny_pure ?_
    split
    · rename_i c _ _ _ _ _
      cases (c == Value.type "enumerate") <;> (wp_walk using go; exact ⟨_, rfl, h⟩)
    · wp_walk using go
      exact ⟨_, rfl, h⟩
theorem call_enum1 {prog : Program} {w : World} {A : Around} {E : Value → Shared → Prop} {s : Shared} {v : Value} {o : Obj} {G : Heap → Prop} {Q : Value → Shared → Prop} (B : Begins v o G) (h1 : G s.heap)
    (h : ∀ h', IsEnum h' (s.heap.objs.size + 1) s.heap.objs.size 0 .none → h'.get? s.heap.objs.size = some o → (∀ b o, s.heap.get? b = some o → h'.get? b = some o) → Q (.ref (s.heap.objs.size + 1)) { s with heap := h' }) :
    wpAny (model prog w) A (call (.type "enumerate") [v]) Q E s := by
  refine callType_new F.called_enumerate (by decide) (F.typeCall_enumerate_1 _) (F.newCall_enumerate_1 _) (fun obj => F.args_object_init_2 obj _) F.entry_enumerate_new (meets_enum1 B) ⟨h1, ?_⟩
  have hz : (s.heap.push o).objs.size = s.heap.objs.size + 1 := Heap.size_push ..
  show _ ∧ _
  rw [hz]
  have he : IsEnum ((s.heap.push o).push { cls := .type "enumerate", data := .fields #[.none, .bool false, .ref s.heap.objs.size, rawInt 0, .none, .none] }) (s.heap.objs.size + 1) s.heap.objs.size 0 .none := by
    have q := Heap.get?_push_size (s.heap.push o) (o := { cls := .type "enumerate", data := .fields #[.none, .bool false, .ref s.heap.objs.size, rawInt 0, .none, .none] }) rfl
    rw [hz] at q
    exact q
  exact ⟨⟨_, he, rfl⟩, h _ he (Heap.get?_push_of_some _ (Heap.get?_push_size _ B.free)) fun b o x => Heap.get?_push_of_some _ (Heap.get?_push_of_some _ x)⟩
/-- the tuple's items, each in a new pair with its number -/
def ItE (K : PySem.W.Frag) (a : Addr) : It :=
  ⟨fun i H => ∃ xs x, SqT K H a xs ∧ xs[i]? = some x, fun i H v H' => ∃ T x, v = .ref T ∧ H T = none ∧ H' = upd H T (.tup [.int (i : Nat), x]) ∧ ∀ xs, SqT K H a xs → xs[i]? = some x, fun i H => ∃ xs : List V, SqT K H a xs ∧ xs.length = i⟩
theorem turn_enumT {P : Program} {w : World} {K : PySem.W.Frag} {elts : List Expr} {kk : Nat} {tpos : Pos} (a e it : Addr) (items : Array Value) (hne : e ≠ it) (hea : a ≠ e) (hia : a ≠ it) :
    Turn P w K (.Tuple elts kk tpos) (ItE K a) [e, it] e (fun i h => (∃ old, IsEnum h e it ((i : Nat) : Int) old) ∧ h.IsTupleIter it a i) where
  mem := by simp
  obj := fun i h st b hb => by
    obtain ⟨⟨old, he⟩, ⟨o, ho, _, hd⟩⟩ := st
    rcases List.mem_cons.mp hb with z | z
    · rw [z]; exact ⟨_, he, fun v q => nomatch q⟩
    · rw [List.mem_singleton.mp z]; exact ⟨o, ho, fun v q => by rw [hd] at q; cases q⟩
  keep := fun i h h' st k => ⟨let ⟨old, he⟩ := st.1; ⟨old, k e (by simp) _ he⟩, st.2.at fun o q => k it (by simp) o q⟩
  item := by
    intro X hP hw hK hc i pins s σ H E I hf st hg
    subst hP hw hK
    obtain ⟨⟨old, he⟩, hit⟩ := st
    obtain ⟨xs, x, hq, hx⟩ := hg
    obtain ⟨its, rv, tp, _⟩ := I.tuple hq
    obtain ⟨u, hu, ru⟩ := rv.get hx
    have hlt : i < its.toArray.size := by
      rw [List.size_toArray]
      exact (List.getElem?_eq_some_iff.mp hu).1
    have tp' : s.heap.IsTuple a its.toArray := tp
    have hel : e < s.heap.objs.size := Heap.lt_size he
    refine wpAny_pyNext_enum_itemC (Draws.tuple (A := X.A.in1) (I.ok.hd hc) it a hia its.toArray) he ⟨hit, tp'⟩ hlt hne (by simp [hne, Ne.symm hea]) fun y h' tk hy ho st' hT hz hk => ?_
    have ey : y = u := by
      rw [List.getElem?_toArray, hu] at hy
      exact (Option.some.inj hy).symm
    subst ey
    refine ⟨_, rfl, wpAny_letOwnedTupleGo_enum (s := { s with heap := h', toks := tk + 1 }) ho fun h'' he' sb => ?_⟩
    have hT2 : h''.get? s.heap.objs.size = some { cls := .type "tuple", data := .seq #[.int i tk, y] } := (sb.2 _ (Nat.ne_of_gt hel)).trans hT
    have new : ObjOk X.prog X.w (upd H s.heap.objs.size (.tup [.int (i : Nat), x])) h'' s.heap.objs.size (.tup [.int (i : Nat), x]) :=
      ⟨by show 2 ≤ sizeLine; decide, [.int i tk, y], .cons ⟨_, rfl⟩ (.cons ru .nil), ⟨_, hT2, rfl, _, rfl⟩⟩
    have I1 : Inv X pins σ (upd H s.heap.objs.size (.tup [.int (i : Nat), x])) { s with heap := h'', toks := tk + 1 } :=
      I.turnedNew (ch := [e, it]) (fun b ob hb q => (sb.2 b (fun z => hb (by simp [z]))).trans (hk b ob (fun z => hb (by simp [z])) (fun z => hb (by simp [z])) q)) hf (Nat.le_refl _) new
    refine ⟨.ref s.heap.objs.size, _, I1, rfl, ⟨_, x, rfl, I.hok.fresh (Nat.le_refl _), rfl, fun ys hy => by rw [I.tuple_inj hy hq]; exact hx⟩, ⟨⟨y, ?_⟩, st'.1.at fun o q => (sb.2 it (Ne.symm hne)).trans q⟩, fun b hb => ?_⟩
    · rw [show ((i + 1 : Nat) : Int) = (i : Int) + 1 by omega]
      exact he'
    · have hb' : b < s.heap.objs.size := by
        rcases List.mem_cons.mp hb with z | z
        · exact z ▸ hel
        · obtain ⟨_, q, _⟩ := hit
          exact (List.mem_singleton.mp z) ▸ Heap.lt_size q
      rw [upd_ne (Nat.ne_of_lt hb')]
      exact (hf b hb).1
  done := by
    intro X hP hw hK hc i pins s σ H E I hf st hg
    subst hP hw hK
    obtain ⟨⟨old, he⟩, hit⟩ := st
    obtain ⟨xs, hq, hx⟩ := hg
    obtain ⟨its, rv, tp, _⟩ := I.tuple hq
    obtain ⟨f0, f1, f2, f3, f4, f5⟩ := hf it (by simp)
    have tp' : s.heap.IsTuple a its.toArray := tp
    have ei : its.toArray.size = i := by rw [List.size_toArray, ← rv.length, hx]
    refine wpAny_pyNext_enum_endD (Draws.tuple (A := X.A.in1) (I.ok.hd hc) it a hia its.toArray) he (by rw [ei]; exact ⟨hit, tp'⟩) fun h' eb => ⟨rfl, I.turned (t' := s.toks) (fun b o hb q => eb b o hb q) f0 f1 f3 f4 f5⟩
  self := fun A i s Q E st h => let ⟨⟨_, he⟩, _⟩ := st; wpAny_pyIter_enum he h
def iEnumT (K : PySem.W.Frag) (ta : TA) : TI := fun σ H R => ta σ H fun vs H1 => ∃ a xs, vs = [.ref a] ∧ SqT K H1 a xs ∧ R (ItE K a) H1
theorem pi_enumT {X : Cx} {e : Expr} {ta : TA} {p pos tpos : Pos} {elts : List Expr} {kk : Nat} (hg : Gl X "enumerate") (hm : X.mg "enumerate" = none) (ha : PA X [e] ta) (hs : starEach [e] X.env = [(false, eval e X.env)] := by rfl) :
    PI X (.Tuple elts kk tpos) (.Call (.Name "enumerate" p) [e] [] pos) (iEnumT X.K ta) := by
  refine ⟨fun pins s σ H R I h => Call_ (ld_blt I hg hm boot_enumerate (PyProof.Rows.callWith_type1 (thn (ha.run pos pins s σ H _ I h) fun us s1 ⟨vs, H1, I1, r1, q1⟩ => ?_) hs rfl))⟩
  obtain ⟨a, xs, rfl, hq, q⟩ := q1
  rw [Vals.ref1 r1]
  obtain ⟨its, rv, tp, _⟩ := I1.tuple hq
  have tp' : s1.heap.IsTuple a its.toArray := tp
  have hlt : a < s1.heap.objs.size := by
    obtain ⟨o, ho, _⟩ := tp'
    exact Heap.lt_size ho
  refine call_enum1 (begins_tuple a its.toArray) tp' fun h' he hit hk => wpAny_pyIter_enum he ?_
  refine ⟨s1.heap.objs.size + 1, [s1.heap.objs.size + 1, s1.heap.objs.size], _, _, H1, rfl, I1.kept (t' := s1.toks) hk, turn_enumT a (s1.heap.objs.size + 1) s1.heap.objs.size its.toArray (Nat.succ_ne_self _) (Nat.ne_of_lt (Nat.lt_succ_of_lt hlt)) (Nat.ne_of_lt hlt), ⟨⟨.none, he⟩, ⟨_, hit, rfl, rfl⟩⟩, fun b hb => ?_, q⟩
  have hle : s1.heap.objs.size ≤ b := by
    rcases List.mem_cons.mp hb with z | z
    · exact z ▸ Nat.le_succ _
    · exact Nat.le_of_eq (List.mem_singleton.mp z).symm
  exact I1.fpOk hle (I1.hok.fresh hle)
end Wok
namespace Wok
open PySem PySem.Spec PyProof.Rows L2
open Evl (Ex EvT)

/-! ### walks over data -/
/-- all but what stands at S stays -/
def Mu (S : List Addr) (H H' : Hp) : Prop := ∀ a o, a ∉ S → H a = some o → H' a = some o
/-- what stands at S is no tuple -/
def Sok (S : List Addr) (H : Hp) : Prop := ∀ a ∈ S, ∃ o, H a = some o ∧ NoTup o
theorem Mu.refl (S : List Addr) (H : Hp) : Mu S H H := fun _ _ _ h => h
theorem Mu.trans {S : List Addr} {H H1 H2 : Hp} (h : Mu S H H1) (k : Mu S H1 H2) : Mu S H H2 := fun a o n e => k a o n (h a o n e)
theorem Mu.ex {S : List Addr} {H H' : Hp} (e : Ex H H') : Mu S H H' := fun a o _ h => e a o h
theorem Mu.upd {S : List Addr} {H : Hp} {l : Addr} {o : HO} (h : l ∈ S) : Mu S H (L2.upd H l o) := fun a u n e => by
  rw [upd_ne (fun z => n (by rw [z]; exact h))]; exact e
theorem Mu.weak {S T : List Addr} {H H' : Hp} (h : Mu S H H') (e : ∀ a ∈ S, a ∈ T) : Mu T H H' := fun a o n => h a o fun z => n (e a z)
theorem Mu.to_ex {H H' : Hp} (h : Mu [] H H') : Ex H H' := fun a o e => h a o (by simp) e
theorem Sok.ex {S : List Addr} {H H' : Hp} (h : Sok S H) (e : Ex H H') : Sok S H' := fun a m => let ⟨o, q, n⟩ := h a m; ⟨o, e a o q, n⟩
theorem Sok.nil {H : Hp} : Sok [] H := fun _ m => by cases m
theorem Sok.cons {S : List Addr} {H : Hp} {l : Addr} {o : HO} (h : H l = some o) (n : NoTup o) (k : Sok S H) : Sok (l :: S) H := fun a m => by
  rcases List.mem_cons.mp m with e | e
  · subst e; exact ⟨o, h, n⟩
  · exact k a e
theorem Mu.kp {K : PySem.W.Frag} {S : List Addr} {H H' : Hp} (h : Mu S H H') (k : Sok S H) : Kp K H H' := fun a xs q => by
  have out : ∀ o, H a = some o → ¬ NoTup o → a ∉ S := fun o e n m => by
    obtain ⟨u, q, z⟩ := k a m
    rw [e] at q
    cases q
    exact n z
  rcases q with (q | ⟨ob, q⟩) | q
  · exact .inl (.inl (h a _ (out _ q fun z => z) q))
  · exact .inl (.inr ⟨ob, h a _ (out _ q fun z => z) q⟩)
  · exact .inr q

/-- the iterator gives these data -/
def Wk (K : PySem.W.Frag) (J : It) (ok : Hp → Prop) (ds : List PyData) : Prop :=
  ∀ i H, ok H → (∀ d, ds[i]? = some d → J.go i H ∧ ∀ x H', J.yld i H x H' → Ex H H' ∧ Dt K H' x d) ∧ (ds.length = i → J.stop i H)
/-- what a for walks: data, while all but what stands at S stays -/
def Iv (K : PySem.W.Frag) (S : List Addr) (wi : TI) (σ : St) (H : Hp) (ds : List PyData) : Prop :=
  ∀ H1, Ex H H1 → ∀ R : It → Hp → Prop, (∀ J H2, Ex H1 H2 → Wk K J (fun H' => Mu S H2 H') ds → R J H2) → wi σ H1 R
section
variable {K : PySem.W.Frag} {S : List Addr} {σ : St} {H H' : Hp} {te ta tb : TE} {t : TA} {d : PyData} {ds es : List PyData} {v : V} {vs ws : List V} {wi : TI}
theorem iv_tup (hS : Sok S H) (h : Dv K te σ H (.tuple ds)) : Iv K S (iTup K te) σ H ds := fun H1 e R q =>
  h H1 e _ fun v H2 e2 dv => by
    obtain ⟨a, xs, rfl, sq, dl⟩ := dv.tup_of
    refine ⟨a, rfl, ⟨xs, sq⟩, q _ H2 e2 fun i H3 m => ?_⟩
    have kp := m.kp (K := K) (hS.ex (e.trans e2))
    refine ⟨fun d hd => ?_, fun hi => ⟨xs, kp a xs sq, Nat.le_of_eq (dl.length.trans hi)⟩⟩
    obtain ⟨x, hx, dx⟩ := dl.get hd
    refine ⟨⟨xs, x, kp a xs sq, hx⟩, fun y H4 ⟨z1, z2⟩ => ?_⟩
    subst z1
    have ey := z2 xs (kp a xs sq)
    rw [hx] at ey
    cases ey
    exact ⟨.refl _, dx.mono kp⟩
theorem iv_lst (hS : Sok S H) (h : Lv K te σ H ds) : Iv K S (iList K te) σ H ds := fun H1 e R q =>
  h H1 e _ fun p xs H2 np e2 hp dl => by
    have nS : p ∉ S := fun m => by
      obtain ⟨o, ho, _⟩ := hS p m
      rw [e p o ho] at np
      cases np
    refine ⟨p, rfl, ⟨xs, .inl (.inl hp)⟩, q _ H2 e2 fun i H3 m => ?_⟩
    have kp := m.kp (K := K) (hS.ex (e.trans e2))
    have sq : SqL K H3 p xs := .inl (.inl (m p _ nS hp))
    refine ⟨fun d hd => ?_, fun hi => ⟨xs, sq, Nat.le_of_eq (dl.length.trans hi)⟩⟩
    obtain ⟨x, hx, dx⟩ := dl.get hd
    refine ⟨⟨xs, x, sq, hx⟩, fun y H4 ⟨z1, z2⟩ => ?_⟩
    subst z1
    have ey := z2 xs sq
    rw [hx] at ey
    cases ey
    exact ⟨.refl _, dx.mono kp⟩
/-- a list that stands in a variable -/
theorem iv_var {p : Addr} {xs : List V} {j : Nat} (hS : Sok S H) (hj : σ[j]? = some (some (.ref p))) (hp : H p = some (.lst xs)) (dl : DtAll K H xs ds) (nS : p ∉ S) : Iv K S (iList K (tVar j)) σ H ds := fun H1 e R q => by
  refine ⟨.ref p, hj, p, rfl, ⟨xs, .inl (.inl (e p _ hp))⟩, q _ H1 (.refl _) fun i H3 m => ?_⟩
  have kp := m.kp (K := K) (hS.ex e)
  have sq : SqL K H3 p xs := .inl (.inl (m p _ nS (e p _ hp)))
  refine ⟨fun d hd => ?_, fun hi => ⟨xs, sq, Nat.le_of_eq (dl.length.trans hi)⟩⟩
  obtain ⟨x, hx, dx⟩ := dl.get hd
  refine ⟨⟨xs, x, sq, hx⟩, fun y H4 ⟨z1, z2⟩ => ?_⟩
  subst z1
  have ey := z2 xs sq
  rw [hx] at ey
  cases ey
  exact ⟨.refl _, (dx.ex e).mono kp⟩
/-- the same, the list as any expression's value -/
theorem iv_at {p : Addr} {xs : List V} (hS : Sok S H) (h : Rv te σ H (fun v _ => v = .ref p)) (hp : H p = some (.lst xs)) (dl : DtAll K H xs ds) (nS : p ∉ S) : Iv K S (iList K te) σ H ds := fun H1 e R q => by
  refine h H1 e _ fun v H2 e2 ev => ?_
  subst ev
  refine ⟨p, rfl, ⟨xs, .inl (.inl (e2 p _ (e p _ hp)))⟩, q _ H2 e2 fun i H3 m => ?_⟩
  have kp := m.kp (K := K) (hS.ex (e.trans e2))
  have sq : SqL K H3 p xs := .inl (.inl (m p _ nS (e2 p _ (e p _ hp))))
  refine ⟨fun d hd => ?_, fun hi => ⟨xs, sq, Nat.le_of_eq (dl.length.trans hi)⟩⟩
  obtain ⟨x, hx, dx⟩ := dl.get hd
  refine ⟨⟨xs, x, sq, hx⟩, fun y H4 ⟨z1, z2⟩ => ?_⟩
  subst z1
  have ey := z2 xs sq
  rw [hx] at ey
  cases ey
  exact ⟨.refl _, (dx.ex (e.trans e2)).mono kp⟩
def pairD (i : Nat) (d : PyData) : PyData := .tuple [.int (i : Nat), d]
def enumD (ds : List PyData) : List PyData := ds.mapIdx pairD
theorem enumD_get {i : Nat} : (enumD ds)[i]? = (ds[i]?).map (pairD i) := by unfold enumD; rw [List.getElem?_mapIdx]
theorem enumD_len : (enumD ds).length = ds.length := by unfold enumD; rw [List.length_mapIdx]
theorem iv_enum (hS : Sok S H) (h : Dv K te σ H (.tuple ds)) : Iv K S (iEnumT K (tCons te tNil)) σ H (enumD ds) := fun H1 e R q =>
  h H1 e _ fun v H2 e2 dv => by
    obtain ⟨a, xs, rfl, sq, dl⟩ := dv.tup_of
    refine ⟨a, xs, rfl, sq, q _ H2 e2 fun i H3 m => ?_⟩
    have kp := m.kp (K := K) (hS.ex (e.trans e2))
    refine ⟨fun d hd => ?_, fun hi => ⟨xs, kp a xs sq, dl.length.trans (enumD_len.symm.trans hi)⟩⟩
    rw [enumD_get] at hd
    obtain ⟨d0, h0, rfl⟩ := Option.map_eq_some_iff.mp hd
    obtain ⟨x, hx, dx⟩ := dl.get h0
    refine ⟨⟨xs, x, kp a xs sq, hx⟩, fun y H4 ⟨T, x', z1, nT, z2, z3⟩ => ?_⟩
    have ey := z3 xs (kp a xs sq)
    rw [hx] at ey
    cases ey
    subst z1 z2
    exact ⟨.new nT, .tup (.inl (.inl upd_same)) (.cons (.int _) (.cons ((dx.mono kp).ex (.new nT)) .nil))⟩
def rangeD (n : Int) : List PyData := (List.range n.toNat).map fun (i : Nat) => PyData.int i
theorem iv_rng {n : Int} (h : Dv K te σ H (.int n)) (h1 : -(2 ^ 62) ≤ n) (h2 : n < 2 ^ 62) : Iv K S (iRng1 (tCons te tNil)) σ H (rangeD n) := fun H1 e R q =>
  h H1 e _ fun v H2 e2 dv => by
    refine ⟨n, by rw [dv.int_of], h1, h2, q _ H2 e2 fun i H3 _ => ⟨fun d hd => ?_, fun hi => ?_⟩⟩
    · unfold rangeD at hd
      rw [List.getElem?_map] at hd
      obtain ⟨j, h0, rfl⟩ := Option.map_eq_some_iff.mp hd
      have hi : i < n.toNat := by
        have := (List.getElem?_eq_some_iff.mp h0).1
        rwa [List.length_range] at this
      have ej : i = j := by
        rw [List.getElem?_range hi] at h0
        exact Option.some.inj h0
      subst ej
      refine ⟨hi, fun x H4 ⟨z1, z2⟩ => ?_⟩
      subst z1 z2
      rw [show ((0 : Int) + (i : Int)) = (i : Int) by omega]
      exact ⟨.refl _, .int _⟩
    · unfold rangeD at hi
      rw [List.length_map, List.length_range] at hi
      exact Nat.le_of_eq hi

/-! ### the loop -/
variable {D : Ends} {g : TG} {tu tz : TS}
theorem s_forD (hw : Iv K S wi σ H ds) (Pv : Nat → St → Hp → Prop) (h0 : ∀ H1, Ex H H1 → Pv 0 σ H1)
    (hs : ∀ i d x σ' H1 H2, ds[i]? = some d → Mu S H H1 → Pv i σ' H1 → Ex H1 H2 → Dt K H2 x d → g x σ' H2 fun σ3 H3 => tu { D with nx := fun σ4 H4 => Mu S H1 H4 ∧ Pv (i + 1) σ4 H4, ct := fun σ4 H4 => Mu S H1 H4 ∧ Pv (i + 1) σ4 H4, bk := D.nx } σ3 H3)
    (hd : ∀ σ' H1, Mu S H H1 → Pv ds.length σ' H1 → D.nx σ' H1) : tFor wi g tu D σ H := by
  refine hw H (.refl H) _ fun J H2 e2 wk => ?_
  refine ⟨fun i m σ' H' => i + m = ds.length ∧ Mu S H2 H' ∧ Pv i σ' H', ⟨ds.length, Nat.zero_add _, .refl _ _, h0 H2 e2⟩, fun i m σ' H' ⟨em, mu, pv⟩ => ?_⟩
  obtain ⟨w1, w2⟩ := wk i H' mu
  by_cases hi : i < ds.length
  · obtain ⟨g1, g2⟩ := w1 _ (List.getElem?_eq_getElem hi)
    refine .inr ⟨g1, fun σ4 H4 => Mu S H' H4 ∧ Pv (i + 1) σ4 H4, fun σ4 H4 ⟨z1, z2⟩ => ⟨m - 1, by omega, by omega, mu.trans z1, z2⟩, fun x H3 y => ?_⟩
    obtain ⟨e3, dx⟩ := g2 x H3 y
    exact hs i _ x σ' H' H3 (List.getElem?_eq_getElem hi) ((Mu.ex e2).trans mu) pv e3 dx
  · exact .inl ⟨w2 (by omega), hd σ' H' ((Mu.ex e2).trans mu) (by rw [show ds.length = i by omega]; exact pv)⟩
theorem q_forD (hw : Iv K S wi σ H ds) (Pv : Nat → St → Hp → Prop) (h0 : ∀ H1, Ex H H1 → Pv 0 σ H1)
    (hs : ∀ i d x σ' H1 H2, ds[i]? = some d → Mu S H H1 → Pv i σ' H1 → Ex H1 H2 → Dt K H2 x d → g x σ' H2 fun σ3 H3 => tu { D with nx := fun σ4 H4 => Mu S H1 H4 ∧ Pv (i + 1) σ4 H4, ct := fun σ4 H4 => Mu S H1 H4 ∧ Pv (i + 1) σ4 H4, bk := tz D } σ3 H3)
    (hd : ∀ σ' H1, Mu S H H1 → Pv ds.length σ' H1 → tz D σ' H1) : tSeq (tFor wi g tu) tz D σ H := s_forD (D := { D with nx := tz D }) hw Pv h0 hs hd
/-! ### comprehensions -/
variable {tt : TT} {ns : List Nat}
theorem lv_lc (hw : Iv K [] wi σ H ds) (hn : ds.length ≤ 1000000) (f : PyData → Option PyData)
    (hs : ∀ (i : Nat) d x H1, ds[i]? = some d → Ex H H1 → Dt K H1 x d → ∀ R : St → Hp → Prop, (∀ σ2, wipe σ2 ns = wipe σ ns → (∃ b, EvT tt σ2 H1 b ∧ (b = false → f d = none) ∧ (b = true → ∃ e, f d = some e ∧ Dv K te σ2 H1 e)) → R σ2 H1) → g x (wipe σ ns) H1 R) :
    Lv K (tLc wi g tt te ns) σ H (ds.filterMap f) := fun H1 e Q q => by
  refine hw H1 e _ fun J H2 e2 wk Dl nD => ?_
  refine ⟨fun i m H' => i + m = ds.length ∧ Ex H2 H' ∧ ∃ xs, H' Dl = some (.lst xs) ∧ DtAll K H' xs ((ds.take i).filterMap f) ∧ xs.length ≤ i, ⟨ds.length, Nat.zero_add _, .new nD, [], upd_same, .nil, Nat.le_refl _⟩, fun i m H' ⟨em, mu, xs, hx, dl, hl⟩ => ?_⟩
  obtain ⟨w1, w2⟩ := wk i H' (.ex mu)
  by_cases hi : i < ds.length
  · obtain ⟨g1, g2⟩ := w1 _ (List.getElem?_eq_getElem hi)
    refine .inr ⟨g1, fun H4 => Ex H2 H4 ∧ ∃ xs, H4 Dl = some (.lst xs) ∧ DtAll K H4 xs ((ds.take (i + 1)).filterMap f) ∧ xs.length ≤ i + 1, fun H4 ⟨z1, z2⟩ => ⟨m - 1, by omega, by omega, z1, z2⟩, fun x H3 y => ?_⟩
    obtain ⟨e3, dx⟩ := g2 x H3 y
    have et : (ds.take (i + 1)).filterMap f = (ds.take i).filterMap f ++ (f ds[i]).toList := by
      rw [List.take_add_one, List.getElem?_eq_getElem hi, List.filterMap_append]
      cases hf : f ds[i] <;> simp [hf]
    refine hs i _ x H3 (List.getElem?_eq_getElem hi) ((e.trans e2).trans (mu.trans e3)) dx _ fun σ2 hwp ⟨b, ht, hb0, hb1⟩ => ⟨hwp, ht H3 (.refl H3) _ fun H4 e4 => ?_⟩
    cases b with
    | false =>
      have ef := hb0 rfl
      rw [ef] at et
      exact ⟨(mu.trans e3).trans e4, xs, e4 _ _ (e3 _ _ hx), by rw [et]; simpa using (dl.ex e3).ex e4, Nat.le_succ_of_le hl⟩
    | true =>
      obtain ⟨e0, ef, hv⟩ := hb1 rfl
      rw [ef] at et
      refine hv H4 e4 _ fun y H5 e5 dy => ⟨xs, e5 _ _ (e4 _ _ (e3 _ _ hx)), ?_, ?_, xs ++ [y], upd_same, ?_, ?_⟩
      · rw [sizeLine_eq]; omega
      · exact (((mu.trans e3).trans e4).trans e5).mut nD
      · rw [et]
        have kp : Kp K H5 (upd H5 Dl (.lst (xs ++ [y]))) := .upd (e5 _ _ (e4 _ _ (e3 _ _ hx))) True.intro
        exact (((dl.ex e3).ex e4).ex e5).mono kp |>.snoc (dy.mono kp)
      · rw [List.length_append]; exact Nat.succ_le_succ hl
  · have ei : i = ds.length := by omega
    refine .inl ⟨w2 ei.symm, q Dl xs H' (Evl.fresh_back e2 nD) (e2.trans mu) hx ?_⟩
    rw [ei, List.take_length] at dl
    exact dl
theorem et_yes : EvT tYes σ H true := fun H1 _ _ q => q H1 (.refl H1)
/-- no tests -/
theorem lv_map (hw : Iv K [] wi σ H ds) (hn : ds.length ≤ 1000000) (f : PyData → PyData)
    (hs : ∀ (i : Nat) d x H1, ds[i]? = some d → Ex H H1 → Dt K H1 x d → ∀ R : St → Hp → Prop, (∀ σ2, wipe σ2 ns = wipe σ ns → Dv K te σ2 H1 (f d) → R σ2 H1) → g x (wipe σ ns) H1 R) :
    Lv K (tLc wi g tYes te ns) σ H (ds.map f) := by
  have z := lv_lc (te := te) (tt := tYes) hw hn (fun d => some (f d)) fun i d x H1 hd e dx R k => hs i d x H1 hd e dx R fun σ2 hwp hv => k σ2 hwp ⟨true, et_yes, fun z => (nomatch z), fun _ => ⟨_, rfl, hv⟩⟩
  rwa [show ds.filterMap (fun d => some (f d)) = ds.map f from List.filterMap_eq_map (f := f) ▸ rfl] at z
/-- a list of data, new or not -/
def Lw (K : PySem.W.Frag) (te : TE) (σ : St) (H : Hp) (ds : List PyData) : Prop :=
  ∀ H1, Ex H H1 → ∀ Q : VK, (∀ p xs H2, Ex H1 H2 → H2 p = some (.lst xs) → DtAll K H2 xs ds → Q (.ref p) H2) → te σ H1 Q
theorem Lv.w (h : Lv K te σ H ds) : Lw K te σ H ds := fun H1 e Q q => h H1 e Q fun p xs H2 _ e2 hp dl => q p xs H2 e2 hp dl
theorem lw_var {p : Addr} {xs : List V} {j : Nat} (hj : σ[j]? = some (some (.ref p))) (hp : H p = some (.lst xs)) (dl : DtAll K H xs ds) : Lw K (tVar j) σ H ds := fun H1 e Q q => ⟨_, hj, q p xs H1 (.refl _) (e _ _ hp) (dl.ex e)⟩
/-! ### lists and tuples made of lists -/
theorem dv_tuple (h : Lw K te σ H ds) : Dv K (tThen te (kTup K)) σ H (.tuple ds) := fun H1 e Q q =>
  h H1 e _ fun p xs H2 e2 hp dl => .inl ⟨p, xs, rfl, .inl (.inl hp), fun r hr => q _ _ (e2.trans (.new hr)) (.tup (.inl (.inl upd_same)) (dl.ex (.new hr)))⟩
theorem rgV_ints {n : Int} : rgV 0 n = ((List.range n.toNat).map fun (i : Nat) => (i : Int)).map V.int := by
  unfold rgV
  rw [show (n - 0) = n by omega, List.map_map]
  exact List.map_congr_left fun i _ => by show V.int (0 + (i : Int)) = _; rw [Int.zero_add]; rfl
theorem rangeD_ints {n : Int} : rangeD n = ((List.range n.toNat).map fun (i : Nat) => (i : Int)).map PyData.int := by
  unfold rangeD
  rw [List.map_map]; rfl
theorem dt_rg {n : Int} : DtAll K H (rgV 0 n) (rangeD n) := by
  rw [rgV_ints, rangeD_ints]
  exact .ints _
theorem dv_tupRg {n : Int} (h : Dv K te σ H (.int n)) (h1 : 0 ≤ n) (h2 : n ≤ 10000000) : Dv K (tTupRg (tRg1 te)) σ H (.tuple (rangeD n)) := fun H1 e Q q =>
  h H1 e _ fun v H2 e2 dv => ⟨n, dv.int_of, ⟨by decide, by decide, by omega, by omega, by omega⟩, fun r hr => q _ _ (e2.trans (.new hr)) (.tup (.inl (.inl upd_same)) dt_rg)⟩
theorem lv_lstRg {n : Int} (h : Dv K te σ H (.int n)) (h1 : 0 ≤ n) (h2 : n ≤ 10000000) : Lv K (tLstRg (tRg1 te)) σ H (rangeD n) := fun H1 e Q q =>
  h H1 e _ fun v H2 e2 dv => ⟨n, dv.int_of, ⟨by decide, by decide, by omega, by omega, by omega⟩, fun r hr => q r _ _ (Evl.fresh_back e2 hr) (e2.trans (.new hr)) upd_same dt_rg⟩
theorem lv_lst (h : Av K t σ H ds) (hl : ds.length ≤ 1000000) : Lv K (tLst t) σ H ds := fun H1 e Q q =>
  h H1 e _ fun vs H2 e2 dvs => ⟨by rw [sizeLine_eq, dvs.length]; omega, fun p hp => q p vs _ (Evl.fresh_back e2 hp) (e2.trans (.new hp)) upd_same (dvs.ex (.new hp))⟩
/-- len -/
theorem dv_len (h : Dv K te σ H (.tuple ds)) : Dv K (tCB (Evl.rLenS K) (tCons te tNil)) σ H (.int (ds.length : Nat)) := fun H1 e Q q =>
  h H1 e _ fun v H2 e2 dv => by
    obtain ⟨a, xs, rfl, sq, dl⟩ := dv.tup_of
    refine ⟨a, xs, rfl, .inr sq, ?_⟩
    rw [show xs.length = ds.length from dl.length]
    exact q _ H2 e2 (.int _)
theorem dv_lenL (h : Lw K te σ H ds) : Dv K (tCB (Evl.rLenS K) (tCons te tNil)) σ H (.int (ds.length : Nat)) := fun H1 e Q q =>
  h H1 e _ fun p xs H2 e2 hp dl => by
    refine ⟨p, xs, rfl, .inl (.inl (.inl hp)), ?_⟩
    rw [show xs.length = ds.length from dl.length]
    exact q _ H2 e2 (.int _)
theorem dv_lenP {p : Addr} {xs : List V} {j : Nat} (hj : σ[j]? = some (some (.ref p))) (hp : H p = some (.lst xs)) : Dv K (tCB (Evl.rLenS K) (tCons (tVar j) tNil)) σ H (.int (xs.length : Nat)) := fun H1 e Q q =>
  ⟨_, hj, p, xs, rfl, .inl (.inl (.inl (e p _ hp))), q _ H1 (.refl _) (.int _)⟩
/-- max, min of new lists of ints -/
theorem dv_max {ms : List Int} {m : Int} (h : Lw K te σ H (ms.map .int)) (hm : m ∈ ms) (hx : ∀ y ∈ ms, y ≤ m) : Dv K (tCB (rMax K) (tCons te tNil)) σ H (.int m) := fun H1 e Q q =>
  h H1 e _ fun p xs H2 e2 hp dl => by
    have ex := dl.of_ints
    subst ex
    refine ⟨p, ms, rfl, .inl (.inl hp), List.length_pos_of_mem hm, fun m' h1 h2 => ?_⟩
    have em : m' = m := Int.le_antisymm (hx m' h1) (h2 m hm)
    rw [em]
    exact q _ H2 e2 (.int _)
theorem dv_min {ms : List Int} {m : Int} (h : Lw K te σ H (ms.map .int)) (hm : m ∈ ms) (hx : ∀ y ∈ ms, m ≤ y) : Dv K (tCB (rMin K) (tCons te tNil)) σ H (.int m) := fun H1 e Q q =>
  h H1 e _ fun p xs H2 e2 hp dl => by
    have ex := dl.of_ints
    subst ex
    refine ⟨p, ms, rfl, .inl (.inl hp), List.length_pos_of_mem hm, fun m' h1 h2 => ?_⟩
    have em : m' = m := Int.le_antisymm (h2 m hm) (hx m' h1)
    rw [em]
    exact q _ H2 e2 (.int _)
theorem DtAll.of_bools : ∀ {bs : List Bool} {vs : List V}, DtAll K H vs (bs.map PyData.bool) → vs = bs.map V.bl
  | [], _, h => by cases h; rfl
  | n :: ns, _, h => by
    cases h with
    | cons a t => cases a; rw [DtAll.of_bools t]; rfl
theorem dv_all {bs : List Bool} (h : Lw K te σ H (bs.map .bool)) : Dv K (tCB (rAll K) (tCons te tNil)) σ H (.bool (bs.all id)) := fun H1 e Q q =>
  h H1 e _ fun p xs H2 e2 hp dl => by
    have ex := dl.of_bools
    subst ex
    exact ⟨p, bs, rfl, .inl (.inl hp), q _ H2 e2 (.bl _)⟩
/-! ### isinstance -/
theorem Dt.tyT (h : Dt K H v (.tuple ds)) : TyX K H v (.type "tuple") := by
  obtain ⟨a, xs, rfl, sq, _⟩ := h.tup_of
  rcases sq with (sq | ⟨o, sq⟩) | ⟨o, its, n, h1, h2, _⟩
  · exact .base (.tup sq)
  · exact .fTuple sq
  · exact .kTuple h1 h2
theorem dv_isTup (h : Dv K te σ H (.tuple ds)) : Dv K (tCB (rIsi K) (tCons te (tCons (tC (.ty "tuple")) tNil))) σ H (.bool true) := fun H1 e Q q =>
  h H1 e _ fun v H2 e2 dv => ⟨v, .ty "tuple", .type "tuple", .type "tuple", true, rfl, .ty _, dv.tyT, kit_ty (by decide +kernel), q _ H2 e2 (.bl _)⟩
theorem dv_isInt {n : Int} (h : Dv K te σ H (.int n)) : Dv K (tCB (rIsi K) (tCons te (tCons (tC (.ty "int")) tNil))) σ H (.bool true) := fun H1 e Q q =>
  h H1 e _ fun v H2 e2 dv => ⟨v, .ty "int", .type "int", .type "int", true, rfl, .ty _, by rw [dv.int_of]; exact .base (.int n), kit_ty (by decide +kernel), q _ H2 e2 (.bl _)⟩
theorem dv_isBool {n : Int} (h : Dv K te σ H (.int n)) : Dv K (tCB (rIsi K) (tCons te (tCons (tC (.ty "bool")) tNil))) σ H (.bool false) := fun H1 e Q q =>
  h H1 e _ fun v H2 e2 dv => ⟨v, .ty "bool", .type "int", .type "bool", false, rfl, .ty _, by rw [dv.int_of]; exact .base (.int n), kit_ty (by decide +kernel), q _ H2 e2 (.bl _)⟩
/-! ### tuples put together, cut -/
theorem dv_catA (ha : Dv K ta σ H (.tuple ds)) (hb : Dv K tb σ H (.tuple es)) (hl : ds.length + es.length ≤ 1000000) : Dv K (tOp (rCatA K) ta tb) σ H (.tuple (ds ++ es)) := fun H1 e Q q =>
  ha H1 e _ fun v H2 e2 dv => hb H2 (e.trans e2) _ fun w H3 e3 dw => by
    obtain ⟨a, xs, rfl, sq, dl⟩ := (dv.ex e3).tup_of
    obtain ⟨b, ys, rfl, sq2, dl2⟩ := dw.tup_of
    refine ⟨a, b, xs, ys, rfl, rfl, sq, sq2, by rw [dl.length, dl2.length, sizeLine_eq]; omega, fun z => ?_, fun _ z => ?_, fun _ _ p hp => q _ _ ((e2.trans e3).trans (.new hp)) (.tup (.inl (.inl upd_same)) ((dl.append dl2).ex (.new hp)))⟩
    · subst z
      cases dl
      exact q _ H3 (e2.trans e3) dw
    · subst z
      cases dl2
      refine q _ H3 (e2.trans e3) ?_
      show Dt K H3 (.ref a) (.tuple (ds ++ []))
      rw [List.append_nil]
      exact .tup sq dl
theorem dv_cut {lo hi : Option Int} {tl th : TO} (ha : Dv K ta σ H (.tuple ds)) (hl : Evl.EvO tl σ H lo) (hh : Evl.EvO th σ H hi) {es : List PyData}
    (he : (ds.drop (HT.sIx ds.length 0 lo)).take (HT.sIx ds.length ds.length hi - HT.sIx ds.length 0 lo) = es) : Dv K (tSl (rSlA K) ta tl th) σ H (.tuple es) := fun H1 e Q q =>
  ha H1 e _ fun v H2 e2 dv => hl H2 (e.trans e2) _ fun H3 e3 => hh H3 ((e.trans e2).trans e3) _ fun H4 e4 => by
    obtain ⟨a, xs, rfl, sq, dl⟩ := (dv.ex (e3.trans e4)).tup_of
    refine ⟨a, xs, rfl, sq, fun ⟨z1, z2⟩ => ?_, fun _ p hp => q _ _ ((e2.trans (e3.trans e4)).trans (.new hp)) (.tup (.inl (.inl upd_same)) ?_)⟩
    · refine q _ H4 (e2.trans (e3.trans e4)) (.tup sq ?_)
      rw [dl.length] at z1 z2
      rw [z1, z2, List.drop_zero, Nat.sub_zero, List.take_length] at he
      subst he
      exact dl
    · unfold cutV
      rw [dl.length, ← he]
      exact ((dl.drop _).take _).ex (.new hp)
theorem av_star (h : Dv K te σ H (.tuple ds)) (ht : Av K t σ H es) : Av K (StX.tStar K te t) σ H (ds ++ es) := fun H1 e Q q =>
  h H1 e _ fun v H2 e2 dv => by
    obtain ⟨a, xs, rfl, sq, dl⟩ := dv.tup_of
    exact ⟨a, xs, rfl, .inl sq, ht H2 (e.trans e2) _ fun ys H3 e3 dys => q _ H3 (e2.trans e3) ((dl.ex e3).append dys)⟩
/-! ### the list that stands in a variable -/
theorem q_append {l : Addr} {xs : List V} (hl : H l = some (.lst xs)) (ha : Rv ta σ H (fun v _ => v = .ref l)) (h : Dv K te σ H d) (hz : xs.length < 1000000) (k : ∀ v H1, Ex H H1 → Dt K H1 v d → tz D σ (upd H1 l (.lst (xs ++ [v])))) :
    tSeq (tDrop (tBM K "list" rAppend ta (tCons te tNil))) tz D σ H := ha H (.refl H) _ fun v H1 e1 ev => by
  subst ev
  exact ⟨.inl ⟨rfl, _, .inl (.inl (e1 _ _ hl))⟩, h H1 e1 _ fun v H2 e2 dv => ⟨l, xs, v, rfl, rfl, e2 _ _ (e1 _ _ hl), by rw [sizeLine_eq]; omega, k v H2 (e1.trans e2) dv⟩⟩
theorem s_append {l : Addr} {xs : List V} (hl : H l = some (.lst xs)) (ha : Rv ta σ H (fun v _ => v = .ref l)) (h : Dv K te σ H d) (hz : xs.length < 1000000) (k : ∀ v H1, Ex H H1 → Dt K H1 v d → D.nx σ (upd H1 l (.lst (xs ++ [v])))) :
    tDrop (tBM K "list" rAppend ta (tCons te tNil)) D σ H := ha H (.refl H) _ fun v H1 e1 ev => by
  subst ev
  exact ⟨.inl ⟨rfl, _, .inl (.inl (e1 _ _ hl))⟩, h H1 e1 _ fun v H2 e2 dv => ⟨l, xs, v, rfl, rfl, e2 _ _ (e1 _ _ hl), by rw [sizeLine_eq]; omega, k v H2 (e1.trans e2) dv⟩⟩
theorem rv_var {j : Nat} {w : V} (h : σ[j]? = some (some w)) : Rv (tVar j) σ H (fun v _ => v = w) := fun H1 _ _ q => ⟨w, h, q w H1 (.refl _) rfl⟩
/-- a new list from two lists -/
theorem lv_cat (ha : Lw K ta σ H ds) (hb : Lw K tb σ H es) (hl : ds.length + es.length ≤ 1000000) : Lv K (tOp rCat ta tb) σ H (ds ++ es) := fun H1 e Q q =>
  ha H1 e _ fun p xs H2 e2 hp dl => hb H2 (e.trans e2) _ fun r ys H3 e3 hr dl2 =>
    ⟨p, r, xs, ys, rfl, rfl, e3 _ _ hp, hr, by rw [dl.length, dl2.length, sizeLine_eq]; omega, fun u hu => q u _ _ (Evl.fresh_back (e2.trans e3) hu) ((e2.trans e3).trans (.new hu)) upd_same (((dl.ex e3).append dl2).ex (.new hu))⟩
/-- list(xs) -/
theorem lv_list (h : Lw K te σ H ds) : Lv K (tCB (Evl.rListS K) (tCons te tNil)) σ H ds := fun H1 e Q q =>
  h H1 e _ fun p xs H2 e2 hp dl => ⟨p, xs, rfl, .inl (.inl (.inl hp)), fun l hl => q l xs _ (Evl.fresh_back e2 hl) (e2.trans (.new hl)) upd_same (dl.ex (.new hl))⟩
/-- an expression that is never reached -/
def tNo : TE := fun _ _ _ => False
theorem pe_no {X : Cx} {e : Expr} : PE X e tNo := ⟨fun _ _ _ _ _ _ h => h.elim⟩
theorem pt_no {X : Cx} {e : Expr} : PT X e (fun _ _ _ => False) := ⟨fun _ _ _ _ _ _ h => h.elim⟩
/-- data == data -/
theorem dv_eqD {e : PyData} (ha : Dv K ta σ H d) (hb : Dv K tb σ H e) (h1 : SeqAt.shaped d = true) (h2 : SeqAt.shaped e = true) : Dv K (tOp (rEqD K) ta tb) σ H (.bool (PyData.eqv d e)) := fun H1 ee Q q =>
  ha H1 ee _ fun v H2 e2 dv => hb H2 (ee.trans e2) _ fun w H3 e3 dw => ⟨d, e, (dv.ex e3).dp, dw.dp, h1, h2, q _ H3 (e2.trans e3) (.bl _)⟩
theorem dv_neD {e : PyData} (ha : Dv K ta σ H d) (hb : Dv K tb σ H e) (h1 : SeqAt.shaped d = true) (h2 : SeqAt.shaped e = true) : Dv K (tOp (rNeD K) ta tb) σ H (.bool (!PyData.eqv d e)) := fun H1 ee Q q =>
  ha H1 ee _ fun v H2 e2 dv => hb H2 (ee.trans e2) _ fun w H3 e3 dw => ⟨d, e, (dv.ex e3).dp, dw.dp, h1, h2, q _ H3 (e2.trans e3) (.bl _)⟩
/-! ### int(..) -/
theorem dv_intI {n : Int} (h : Dv K te σ H (.int n)) : Dv K (tCB (fun xs H Q => (∃ i, xs = [.int i] ∧ Q (.int i) H) ∨ ∃ k, xs = [.bl k] ∧ Q (.int (if k then 1 else 0)) H) (tCons te tNil)) σ H (.int n) := fun H1 e Q q =>
  h H1 e _ fun v H2 e2 dv => .inl ⟨n, by rw [dv.int_of], q _ H2 e2 (.int _)⟩
/-! ### pairs of names -/
theorem qd_par {i j : Nat} {d1 d2 : PyData} (h : Av K t σ H [d1, d2]) (k : ∀ v w H1, Ex H H1 → Dt K H1 v d1 → Dt K H1 w d2 → tz D ((σ.set i (some v)).set j (some w)) H1) : tSeq (tPar i j t) tz D σ H := h H (.refl H) _ fun vs H1 e dvs => by
  obtain ⟨x1, x2, rfl, h1, h2⟩ := dvs.two
  exact ⟨x1, x2, rfl, k x1 x2 H1 e h1 h2⟩
end
end Wok
namespace Wok
open PySem PySem.Spec PyProof.Rows L2
open Evl (Ex EvT)

/-- the built-in names stand as they are -/
structure Fr (mg : Str → Option Value) : Prop where
  isinstance : mg "isinstance" = none
  int : mg "int" = none
  bool : mg "bool" = none
  tuple : mg "tuple" = none
  len : mg "len" = none
  all : mg "all" = none
  enumerate : mg "enumerate" = none
  sorted : mg "sorted" = none
  set : mg "set" = none
  range : mg "range" = none
  min : mg "min" = none
  max : mg "max" = none
  repr : mg "repr" = none
  list : mg "list" = none
/-- the def x stands behind the top -/
structure HasD (K : PySem.W.Frag) (mg : Str → Option Value) (x : Str) (st : Stmt) (dvs : List V) (kws : List (Str × V)) : Prop where
  ex : ∃ f fd, FunD K x x (defArgs st) (defBody st) (defScope st) dvs kws f fd ∧ mg x = some (.ref f)
/-- a def that may be called -/
structure Cal (P : Program) (w : World) (K : PySem.W.Frag) (mg : Str → Option Value) (base : Heap) (k : Nat) (x : Str) (ps : List Str) (dvs : List V) (sp : Sp) : Prop where
  ex : ∃ f fd ds, FnOk P w K mg base CX0 k f fd ps sp ∧ mg x = some (.ref f) ∧ PySem.W.keepIn K (.ref f) = true ∧ Binds K fd ps ds ∧ Vals dvs ds
section
variable {X : Cx} {j k : Nat} {x : Str} {ps : List Str} {dvs : List V} {sp : Sp} {p pos : Pos} {e : Expr} {es : List Expr} {t : TA}
theorem pe_cal (C : Cal X.prog X.w X.K X.mg X.base k x ps dvs sp) (hr : Room j X.A) (hj : k ≤ j) (ha : PA X (e :: es) t) (hg : Gl X x := by rfl)
    (hdb : (x == ("__debug__" : Str)) = false := by decide) (he : starEach (e :: es) X.env = (false, eval e X.env) :: starEach es X.env := by rfl) (hpl : (backTo pos (starEach es X.env)).any (·.1) = false := by rfl) :
    PE X (.Call (.Name x p) (e :: es) [] pos) (tCall sp dvs E0 t) := by
  obtain ⟨f, fd, ds, h1, h2, h3, h4, h5⟩ := C.ex
  exact pe_call h1 (hr.mono hj) hg h2 h3 h4 h5 pass0 ha hdb he hpl
end
section
variable {P : Program} {w : World} {K : PySem.W.Frag} {mg : Str → Option Value} {base : Heap} {x : Str} {st : Stmt} {N ps : List Str} {k : Nat} {sp : Sp} {kws : List (Str × V)} {dvs : List V}
/-- a def without defaults, by any promise -/
theorem calS (D : HasD K mg x st [] kws) (S : FnScope N ps (defScope st)) (len : ∀ vs H Q E, sp vs H Q E → vs.length = ps.length)
    (hb : ∀ (kV doc pm : Value) (an : Option Addr) (cdv ct : Value) (us : List Value), us.length = ps.length → bindArgs (PySem.W.fnOf x x (defArgs st) (defBody st) (defScope st) .none kV doc pm an cdv ct) ⟨us, []⟩ = pure (ps.zip us))
    (hbody : ∀ (f : Addr) (cdv : Value) (A : Around) (outer : List Env) (s : Shared) (H : Hp) (vs : List V) (Q : VK) (E : XK), Room k (A.deeper (envOfC x (defScope st) s.heap.objs.size f cdv)) → sp vs H Q E →
      ∃ t, PSs (cxOf CX0 P w K mg base N x (defScope st) f cdv A outer s H E).nox (defBody st) t ∧ t { nx := fun _ H' => Q .non H', rt := Q } (start N vs) H) : Cal P w K mg base (k + 1) x ps [] sp := by
  obtain ⟨f, fd, F, hm⟩ := D.ex
  exact ⟨f, fd, [], F.ok S len fun cdv A outer s H vs Q E hr h => (hbody f cdv A outer s H vs Q E hr h).imp fun t z => ⟨PSs.nox z.1, z.2⟩, hm, F.kp, F.bindsN hb, .nil⟩
/-- by a promise over data -/
theorem calR {dom : List PyData → Prop} {R : List PyData → PyData → Prop} (D : HasD K mg x st [] kws) (S : FnScope N ps (defScope st)) (len : ∀ ds, dom ds → ds.length = ps.length)
    (hb : ∀ (kV doc pm : Value) (an : Option Addr) (cdv ct : Value) (us : List Value), us.length = ps.length → bindArgs (PySem.W.fnOf x x (defArgs st) (defBody st) (defScope st) .none kV doc pm an cdv ct) ⟨us, []⟩ = pure (ps.zip us))
    (hbody : ∀ (f : Addr) (cdv : Value) (A : Around) (outer : List Env) (s : Shared) (H : Hp) (vs : List V) (ds : List PyData) (Q : VK) (E : XK), Room k (A.deeper (envOfC x (defScope st) s.heap.objs.size f cdv)) → DtAll K H vs ds → dom ds →
      (∀ d v H', R ds d → Ex H H' → Dt K H' v d → Q v H') →
      ∃ t, PSs (cxOf CX0 P w K mg base N x (defScope st) f cdv A outer s H E).nox (defBody st) t ∧ t { nx := fun _ H' => Q .non H', rt := Q } (start N vs) H) : Cal P w K mg base (k + 1) x ps [] (SpR K dom R) :=
  calS D S (fun vs H Q E ⟨ds, h1, h2, _⟩ => h1.length.trans (len ds h2)) hb fun f cdv A outer s H vs Q E hr ⟨ds, h1, h2, q⟩ => hbody f cdv A outer s H vs ds Q E hr h1 h2 q
end
section
variable {K : PySem.W.Frag} {σ : St} {H H' : Hp} {te : TE} {t : TA} {d : PyData} {ds es : List PyData} {v : V} {vs : List V} {dom : List PyData → Prop} {R : List PyData → PyData → Prop} {E : XK}
theorem dv_callD {dvs : List V} {dd : List PyData} (hD : ∀ H, DtAll K H dvs dd) (ht : Av K t σ H ds) (hd : dom (ds ++ dd)) : Rv (tCall (SpR K dom R) dvs E t) σ H (fun v H' => ∃ d, R (ds ++ dd) d ∧ Dt K H' v d) := fun H1 e Q q =>
  ht H1 e _ fun vs H2 e2 dvs => ⟨ds ++ dd, dvs.append (hD H2), hd, fun d v H' r e3 dv => q v H' (e2.trans e3) ⟨d, r, dv⟩⟩
/-- a def's promise over data: a new list -/
def SpL (K : PySem.W.Frag) (dom : List PyData → Prop) (R : List PyData → List PyData → Prop) : Sp := fun vs H Q _ => ∃ ds, DtAll K H vs ds ∧ dom ds ∧ ∀ es p xs H', R ds es → H p = none → Ex H H' → H' p = some (.lst xs) → DtAll K H' xs es → Q (.ref p) H'
theorem lv_call {RL : List PyData → List PyData → Prop} (ht : Av K t σ H ds) (hd : dom ds) (h1 : ∀ es', RL ds es' → es' = es) : Lv K (tCall (SpL K dom RL) [] E t) σ H es := fun H1 e Q q =>
  ht H1 e _ fun vs H2 e2 dvs => ⟨ds, by rw [List.append_nil]; exact dvs, hd, fun es' p xs H' r np e3 hp dl => q p xs H' (Evl.fresh_back e2 np) (e2.trans e3) hp (by rw [← h1 es' r]; exact dl)⟩
/-- one argument, a new list -/
def SpN (K : PySem.W.Frag) (dom : List PyData → Prop) (R : List PyData → PyData → Prop) : Sp := fun vs H Q _ => ∃ p xs ds, vs = [.ref p] ∧ H p = some (.lst xs) ∧ DtAll K H xs ds ∧ dom ds ∧ ∀ d v H', R ds d → Ex H H' → Dt K H' v d → Q v H'
theorem dv_callN (ht : Lv K te σ H ds) (hd : dom ds) : Rv (tCall (SpN K dom R) [] E (tCons te tNil)) σ H (fun v H' => ∃ d, R ds d ∧ Dt K H' v d) := fun H1 e Q q =>
  ht H1 e _ fun p xs H2 np e2 hp dl => ⟨p, xs, ds, rfl, hp, dl, hd, fun d v H' r e3 dv => q v H' (e2.trans e3) ⟨d, r, dv⟩⟩
theorem dv_callP {p : Addr} {xs : List V} {j : Nat} (hj : σ[j]? = some (some (.ref p))) (hp : H p = some (.lst xs)) (dl : DtAll K H xs ds) (hd : dom ds) : Rv (tCall (SpN K dom R) [] E (tCons (tVar j) tNil)) σ H (fun v H' => ∃ d, R ds d ∧ Dt K H' v d) := fun H1 e Q q =>
  ⟨_, hj, p, xs, ds, rfl, e _ _ hp, dl.ex e, hd, fun d v H' r e3 dv => q v H' e3 ⟨d, r, dv⟩⟩
theorem rv_dv {P : V → Hp → Prop} (h : Rv te σ H P) (k : ∀ v H', P v H' → Dt K H' v d) : Dv K te σ H d := fun H1 e Q q => h H1 e Q fun v H2 e2 p => q v H2 e2 (k v H2 p)
theorem dv_rv (h : Dv K te σ H d) : Rv te σ H (fun _ _ => True) := fun H1 e Q q => h H1 e Q fun v H2 e2 _ => q v H2 e2 trivial
theorem DtAll.one (h : DtAll K H vs [d]) : ∃ v, vs = [v] ∧ Dt K H v d := by
  cases h with
  | cons h t => cases t; exact ⟨_, rfl, h⟩
theorem DtAll.three {d2 d3 : PyData} (h : DtAll K H vs [d, d2, d3]) : ∃ v v2 v3, vs = [v, v2, v3] ∧ Dt K H v d ∧ Dt K H v2 d2 ∧ Dt K H v3 d3 := by
  cases h with
  | cons h t => obtain ⟨a, b, rfl, h1, h2⟩ := t.two; exact ⟨_, _, _, rfl, h, h1, h2⟩
theorem DtAll.four {d2 d3 d4 : PyData} (h : DtAll K H vs [d, d2, d3, d4]) : ∃ v v2 v3 v4, vs = [v, v2, v3, v4] ∧ Dt K H v d ∧ Dt K H v2 d2 ∧ Dt K H v3 d3 ∧ Dt K H v4 d4 := by
  cases h with
  | cons h t => obtain ⟨a, b, c, rfl, h1, h2, h3⟩ := t.three; exact ⟨_, _, _, _, rfl, h, h1, h2, h3⟩
end
/-! ### rules with the written part named -/
section
variable {X : Cx} {K : PySem.W.Frag} {e a : Expr} {ta tl : TE} {p pos : Pos} {tg l : Expr}
theorem ix_tupK (h : X.K = K) : IxR X (rIxT K) := by subst h; exact ix_tup
theorem ix_listK (h : X.K = K) : IxR X (rIxL K) := by subst h; exact ix_list
theorem call_lenK (h : X.K = K) : CallR X (.builtin "len") (Evl.rLenS K) := by subst h; exact call_len_seq
theorem pi_tupK (h : X.K = K) (hl : PE X l tl) : PI X tg l (iTup K tl) := by subst h; exact pi_tup hl
theorem pi_listK (h : X.K = K) (hl : PE X l tl) : PI X tg l (iList K tl) := by subst h; exact pi_list hl
theorem pe_tupleOfK (h : X.K = K) (hg : Gl X "tuple") (hm : X.mg "tuple" = none) (ha : PE X a ta) (na : starEach [a] X.env = (false, eval a X.env) :: starEach [] X.env := by rfl) : PE X (.Call (.Name "tuple" p) [a] [] pos) (tThen ta (kTup K)) := by
  subst h; exact pe_tupleOf hg hm ha na
end
section
variable {K : PySem.W.Frag} {σ : St} {H H' : Hp} {te : TE} {ds es : List PyData} {c : TT} {tu : TS} {D : Ends}
theorem lv_to (h : Lv K te σ H ds) (e : ds = es) : Lv K te σ H es := e ▸ h
/-- an if that isn't taken, the last -/
theorem sd_no (h : EvT c σ H false) (h2 : ∀ H1, Ex H H1 → D.nx σ H1) : tIfS c tu tNext D σ H := sd_if h (fun q => nomatch q) fun _ H1 e => h2 H1 e
end
def yes (_ : List PyData) (d : PyData) : Prop := d = .bool true
def noneR (_ : List PyData) (d : PyData) : Prop := d = .none
section
variable {K : PySem.W.Frag} {σ : St} {H H' : Hp} {t : TA} {ds : List PyData} {dom : List PyData → Prop} {E : XK}
theorem dv_yes (ht : Av K t σ H ds) (hd : dom ds) : Dv K (tCall (SpR K dom yes) [] E t) σ H (.bool true) := dv_call1 ht hd fun _ h => h
theorem dv_nonR (ht : Av K t σ H ds) (hd : dom ds) : Dv K (tCall (SpR K dom noneR) [] E t) σ H .none := dv_call1 ht hd fun _ h => h
end
section
variable {P : Program} {w : World} {K : PySem.W.Frag} {mg : Str → Option Value} {base : Heap} {x : Str} {st : Stmt} {N ps : List Str} {k : Nat} {sp : Sp} {kws : List (Str × V)} {dvs dv2 : List V}
/-- a def with defaults, by its binding -/
theorem calB (D : HasD K mg x st dvs kws) (S : FnScope N ps (defScope st)) (len : ∀ vs H Q E, sp vs H Q E → vs.length = ps.length)
    (hb : ∀ f fd, FunD K x x (defArgs st) (defBody st) (defScope st) dvs kws f fd → ∃ ds, Vals dv2 ds ∧ Binds K fd ps ds)
    (hbody : ∀ (f : Addr) (cdv : Value) (A : Around) (outer : List Env) (s : Shared) (H : Hp) (vs : List V) (Q : VK) (E : XK), Room k (A.deeper (envOfC x (defScope st) s.heap.objs.size f cdv)) → sp vs H Q E →
      ∃ t, PSs (cxOf CX0 P w K mg base N x (defScope st) f cdv A outer s H E).nox (defBody st) t ∧ t { nx := fun _ H' => Q .non H', rt := Q } (start N vs) H) : Cal P w K mg base (k + 1) x ps dv2 sp := by
  obtain ⟨f, fd, F, hm⟩ := D.ex
  obtain ⟨ds, h1, h2⟩ := hb f fd F
  exact ⟨f, fd, ds, F.ok S len fun cdv A outer s H vs Q E hr h => (hbody f cdv A outer s H vs Q E hr h).imp fun t z => ⟨PSs.nox z.1, z.2⟩, hm, F.kp, h2, h1⟩
theorem calRB {dom : List PyData → Prop} {R : List PyData → PyData → Prop} (D : HasD K mg x st dvs kws) (S : FnScope N ps (defScope st)) (len : ∀ ds, dom ds → ds.length = ps.length)
    (hb : ∀ f fd, FunD K x x (defArgs st) (defBody st) (defScope st) dvs kws f fd → ∃ ds, Vals dv2 ds ∧ Binds K fd ps ds)
    (hbody : ∀ (f : Addr) (cdv : Value) (A : Around) (outer : List Env) (s : Shared) (H : Hp) (vs : List V) (ds : List PyData) (Q : VK) (E : XK), Room k (A.deeper (envOfC x (defScope st) s.heap.objs.size f cdv)) → DtAll K H vs ds → dom ds →
      (∀ d v H', R ds d → Ex H H' → Dt K H' v d → Q v H') →
      ∃ t, PSs (cxOf CX0 P w K mg base N x (defScope st) f cdv A outer s H E).nox (defBody st) t ∧ t { nx := fun _ H' => Q .non H', rt := Q } (start N vs) H) : Cal P w K mg base (k + 1) x ps dv2 (SpR K dom R) :=
  calB D S (fun vs H Q E ⟨ds, h1, h2, _⟩ => h1.length.trans (len ds h2)) hb fun f cdv A outer s H vs Q E hr ⟨ds, h1, h2, q⟩ => hbody f cdv A outer s H vs ds Q E hr h1 h2 q
/-- a new list -/
theorem calL {dom : List PyData → Prop} {R : List PyData → List PyData → Prop} (D : HasD K mg x st [] kws) (S : FnScope N ps (defScope st)) (len : ∀ ds, dom ds → ds.length = ps.length)
    (hb : ∀ (kV doc pm : Value) (an : Option Addr) (cdv ct : Value) (us : List Value), us.length = ps.length → bindArgs (PySem.W.fnOf x x (defArgs st) (defBody st) (defScope st) .none kV doc pm an cdv ct) ⟨us, []⟩ = pure (ps.zip us))
    (hbody : ∀ (f : Addr) (cdv : Value) (A : Around) (outer : List Env) (s : Shared) (H : Hp) (vs : List V) (ds : List PyData) (Q : VK) (E : XK), Room k (A.deeper (envOfC x (defScope st) s.heap.objs.size f cdv)) → DtAll K H vs ds → dom ds →
      (∀ es p xs H', R ds es → H p = none → Ex H H' → H' p = some (.lst xs) → DtAll K H' xs es → Q (.ref p) H') →
      ∃ t, PSs (cxOf CX0 P w K mg base N x (defScope st) f cdv A outer s H E).nox (defBody st) t ∧ t { nx := fun _ H' => Q .non H', rt := Q } (start N vs) H) : Cal P w K mg base (k + 1) x ps [] (SpL K dom R) :=
  calS D S (fun vs H Q E ⟨ds, h1, h2, _⟩ => h1.length.trans (len ds h2)) hb fun f cdv A outer s H vs Q E hr ⟨ds, h1, h2, q⟩ => hbody f cdv A outer s H vs ds Q E hr h1 h2 q
/-- from a new list -/
theorem calN {dom : List PyData → Prop} {R : List PyData → PyData → Prop} {y : Str} (D : HasD K mg x st [] kws) (S : FnScope N [y] (defScope st))
    (hb : ∀ (kV doc pm : Value) (an : Option Addr) (cdv ct : Value) (us : List Value), us.length = 1 → bindArgs (PySem.W.fnOf x x (defArgs st) (defBody st) (defScope st) .none kV doc pm an cdv ct) ⟨us, []⟩ = pure ([y].zip us))
    (hbody : ∀ (f : Addr) (cdv : Value) (A : Around) (outer : List Env) (s : Shared) (H : Hp) (p : Addr) (xs : List V) (ds : List PyData) (Q : VK) (E : XK), Room k (A.deeper (envOfC x (defScope st) s.heap.objs.size f cdv)) → H p = some (.lst xs) → DtAll K H xs ds → dom ds →
      (∀ d v H', R ds d → Ex H H' → Dt K H' v d → Q v H') →
      ∃ t, PSs (cxOf CX0 P w K mg base N x (defScope st) f cdv A outer s H E).nox (defBody st) t ∧ t { nx := fun _ H' => Q .non H', rt := Q } (start N [.ref p]) H) : Cal P w K mg base (k + 1) x [y] [] (SpN K dom R) :=
  calS D S (fun vs H Q E ⟨p, xs, ds, e, _⟩ => by rw [e]; rfl) hb fun f cdv A outer s H vs Q E hr ⟨p, xs, ds, e, h1, h2, h3, q⟩ => by subst e; exact hbody f cdv A outer s H p xs ds Q E hr h1 h2 h3 q
end
section
variable {K : PySem.W.Frag} {σ : St} {H H' : Hp} {te : TE} {ds : List PyData} {D : Ends} {tz : TS}
theorem sl_ret (h : Lv K te σ H ds) (k : ∀ p xs H1, H p = none → Ex H H1 → H1 p = some (.lst xs) → DtAll K H1 xs ds → D.rt (.ref p) H1) : tRet te D σ H := h H (.refl H) _ fun p xs H1 n e hp dv => k p xs H1 n e hp dv
/-- sets of whole numbers, in order -/
theorem lv_sortedI {w : World} {ns : List Int} (h : Lw K te σ H (ns.map .int)) (hn : ns.length < 64) (Qq : ∀ ms : List Int, ms.Pairwise (· < ·) → (∀ k, k ∈ ms ↔ k ∈ ns) → ds = ms.map .int) : Lv K (tCB (rSortedSet w) (tCons (tCB (rSetI K w) (tCons te tNil)) tNil)) σ H ds := fun H1 e Q q =>
  h H1 e _ fun p xs H2 e2 hp dl => by
    have ex := dl.of_ints
    subst ex
    refine ⟨p, ns, rfl, .inl (.inl hp), by omega, fun a c na hc => ?_⟩
    refine ⟨a, _, c, rfl, upd_same, by omega, fun ms r h1 h2 _ nr => ?_⟩
    rw [Qq ms h1 (fun k => by rw [h2 k]; simp)] at q
    have er : Ex H2 (upd (upd H2 a (SetO w a (fun j => decide (j ∈ ns)) c)) r (.lst (ms.map V.int))) := (Ex.new na).trans (.new nr)
    exact q r _ _ (Evl.fresh_back (e2.trans (.new na)) nr) (e2.trans er) upd_same (.ints ms)
/-- sets of keys, in order -/
theorem lv_sortedN {w : World} (h : Lw K te σ H ds) (hn : ds.length ≤ 1000) (hk : ∀ d ∈ ds, KeyD d) (hal : ∀ d ∈ ds, ∀ e ∈ ds, PySem.W.alike d e = true) (H1 : Hp) (e : Ex H H1) (Q : VK)
    (q : ∀ p xs es H2, H1 p = none → Ex H1 H2 → H2 p = some (.lst xs) → DtAll K H2 xs es → (∀ d ∈ es, d ∈ ds) → (∀ d ∈ ds, d ∈ es) → es.length ≤ ds.length → Q (.ref p) H2) : tCB (rSortedN K w) (tCons (tCB (rSetN K w) (tCons te tNil)) tNil) σ H1 Q :=
  h H1 e _ fun p xs H2 e2 hp dl => by
    refine ⟨p, xs, ds, rfl, .inl (.inl hp), dl, hn, hk, fun a vs na h1 h2 h3 fu => ?_⟩
    have back : ∀ v ∈ vs, ∃ d ∈ ds, Dt K H2 v d := fun v hv => by
      obtain ⟨i, hi, ei⟩ := List.getElem_of_mem (h1 v hv)
      obtain ⟨d, hd, dv⟩ := dl.at (List.getElem?_eq_getElem hi)
      rw [ei] at dv
      exact ⟨d, List.mem_of_getElem? hd, dv⟩
    refine ⟨a, vs, fun d => d ∈ ds, rfl, upd_same, fun v hv => ?_, fun d d' hd hd' => hal d hd d' hd', fun ys r pm nr => ?_⟩
    · obtain ⟨d, m, dv⟩ := back v hv
      exact ⟨d, dv.ex (.new na), hk d m, m⟩
    · have er : Ex H2 (upd (upd H2 a (SetNO w a vs)) r (.lst ys)) := (Ex.new na).trans (.new nr)
      have pick : ∀ zs : List V, (∀ v ∈ zs, v ∈ vs) → ∃ es, DtAll K H2 zs es ∧ (∀ d ∈ es, d ∈ ds) := by
        intro zs
        induction zs with
        | nil => intro _; exact ⟨[], .nil, fun d hd => by cases hd⟩
        | cons v zs ih =>
          intro hz
          obtain ⟨es, e1, e2⟩ := ih fun x hx => hz x (List.mem_cons_of_mem _ hx)
          obtain ⟨d, m, dv⟩ := back v (hz v List.mem_cons_self)
          refine ⟨d :: es, .cons dv e1, fun x hx => ?_⟩
          rcases List.mem_cons.mp hx with z | z
          · rw [z]; exact m
          · exact e2 x z
      obtain ⟨es, e1, e3⟩ := pick ys fun v hv => pm.mem_iff.mp hv
      refine q r ys es _ (Evl.fresh_back (e2.trans (.new na)) nr) (e2.trans er) upd_same (e1.ex er) e3 (fun d hd => ?_) ?_
      · obtain ⟨v, hv, dv⟩ := h2 d hd
        obtain ⟨i, hi, ei⟩ := List.getElem_of_mem (pm.mem_iff.mpr hv)
        obtain ⟨d', hd', dv'⟩ := e1.at (List.getElem?_eq_getElem hi)
        rw [ei] at dv'
        rw [fu v d d' (hk d hd) (hk d' (e3 d' (List.mem_of_getElem? hd'))) dv dv']
        exact List.mem_of_getElem? hd'
      · rw [← e1.length, pm.length_eq, ← dl.length]
        exact h3
end
def isNo : PyData → Bool
  | .none => true
  | _ => false
section
variable {K : PySem.W.Frag} {σ : St} {H H' : Hp} {te : TE} {d : PyData} {v : V}
theorem Dt.isNo (h : Dt K H v d) : decide (v = .non) = isNo d := by
  cases h <;> simp [Wok.isNo]
theorem dv_isD (h : Dv K te σ H d) : Dv K (tOp (fun x y H Q => y = .non ∧ Q (.bl (decide (x = .non))) H) te (tC .non)) σ H (.bool (isNo d)) := fun H1 e Q q =>
  h H1 e _ fun v H2 e2 dv => ⟨rfl, by rw [dv.isNo]; exact q _ H2 e2 (.bl _)⟩
theorem dv_notD (h : Dv K te σ H d) : Dv K (tOp (fun x y H Q => y = .non ∧ Q (.bl (!decide (x = .non))) H) te (tC .non)) σ H (.bool (!isNo d)) := fun H1 e Q q =>
  h H1 e _ fun v H2 e2 dv => ⟨rfl, by rw [dv.isNo]; exact q _ H2 e2 (.bl _)⟩
end
end Wok
namespace Wok
open PySem

/-! ### machines as plain lists, as data -/
abbrev Mach := List (List (Nat × Nat))
def eI (n : Nat) : PyData := .int n
def eP (p : Nat × Nat) : PyData := .tuple [eI p.1, eI p.2]
def eR (r : List (Nat × Nat)) : PyData := .tuple (r.map eP)
def eM (m : Mach) : PyData := .tuple (m.map eR)
def eS (s : List Nat) : PyData := .tuple (s.map eI)
/-- a well-formed machine of width w -/
structure OkM (m : Mach) (w : Nat) : Prop where
  ne : 0 < m.length
  wd : 0 < w
  len : ∀ r ∈ m, r.length = w
  nx : ∀ r ∈ m, ∀ p ∈ r, p.1 < m.length
  few : m.length ≤ 100000
  fw : w ≤ 100000
theorem eM_get {m : Mach} {i : Nat} {r : List (Nat × Nat)} (h : m[i]? = some r) : (m.map eR)[i]? = some (eR r) := by rw [List.getElem?_map, h]; rfl
theorem eR_get {r : List (Nat × Nat)} {i : Nat} {p : Nat × Nat} (h : r[i]? = some p) : (r.map eP)[i]? = some (eP p) := by rw [List.getElem?_map, h]; rfl
theorem of_eM {m : Mach} {i : Nat} {d : PyData} (h : (m.map eR)[i]? = some d) : ∃ r, m[i]? = some r ∧ d = eR r := by
  rw [List.getElem?_map] at h
  obtain ⟨r, a, b⟩ := Option.map_eq_some_iff.mp h
  exact ⟨r, a, b.symm⟩
theorem of_eR {r : List (Nat × Nat)} {i : Nat} {d : PyData} (h : (r.map eP)[i]? = some d) : ∃ p, r[i]? = some p ∧ d = eP p := by
  rw [List.getElem?_map] at h
  obtain ⟨p, a, b⟩ := Option.map_eq_some_iff.mp h
  exact ⟨p, a, b.symm⟩
theorem of_eS {s : List Nat} {i : Nat} {d : PyData} (h : (s.map eI)[i]? = some d) : ∃ n, s[i]? = some n ∧ d = eI n := by
  rw [List.getElem?_map] at h
  obtain ⟨p, a, b⟩ := Option.map_eq_some_iff.mp h
  exact ⟨p, a, b.symm⟩
/-! ### the states left by a letter and an answer -/
def canon (n : Nat) (l : List Nat) : List Nat := (List.range n).filter fun i => decide (i ∈ l)
theorem canon_mem {n : Nat} {l : List Nat} {i : Nat} : i ∈ canon n l ↔ i < n ∧ i ∈ l := by
  unfold canon
  rw [List.mem_filter, List.mem_range]
  simp
theorem canon_sorted (n : Nat) (l : List Nat) : (canon n l).Pairwise (· < ·) := List.Pairwise.filter _ List.pairwise_lt_range
theorem canon_len (n : Nat) (l : List Nat) : (canon n l).length ≤ n := by
  have h := List.length_filter_le (fun i => decide (i ∈ l)) (List.range n)
  rw [List.length_range] at h
  exact h
theorem sorted_uniq : ∀ {xs ys : List Nat}, xs.Pairwise (· < ·) → ys.Pairwise (· < ·) → (∀ i, i ∈ xs ↔ i ∈ ys) → xs = ys
  | [], [], _, _, _ => rfl
  | [], y :: ys, _, _, h => by have := (h y).mpr List.mem_cons_self; cases this
  | x :: xs, [], _, _, h => by have := (h x).mp List.mem_cons_self; cases this
  | x :: xs, y :: ys, hx, hy, h => by
    obtain ⟨hx1, hx2⟩ := List.pairwise_cons.mp hx
    obtain ⟨hy1, hy2⟩ := List.pairwise_cons.mp hy
    have e : x = y := by
      rcases List.mem_cons.mp ((h x).mp List.mem_cons_self) with e | m
      · exact e
      · rcases List.mem_cons.mp ((h y).mpr List.mem_cons_self) with e2 | m2
        · exact e2.symm
        · have a := hy1 x m
          have b := hx1 y m2
          omega
    subst e
    rw [sorted_uniq hx2 hy2 fun i => ⟨fun m => ?_, fun m => ?_⟩]
    · rcases List.mem_cons.mp ((h i).mp (List.mem_cons_of_mem _ m)) with e | q
      · have := hx1 i m; omega
      · exact q
    · rcases List.mem_cons.mp ((h i).mpr (List.mem_cons_of_mem _ m)) with e | q
      · have := hy1 i m; omega
      · exact q
theorem canon_of {n : Nat} {l xs : List Nat} (hs : xs.Pairwise (· < ·)) (h : ∀ i, i ∈ xs ↔ i ∈ l) (hn : ∀ i ∈ l, i < n) : xs = canon n l :=
  sorted_uniq hs (canon_sorted n l) fun i => by
    rw [canon_mem, h i]
    exact ⟨fun m => ⟨hn i m, m⟩, fun m => m.2⟩
/-- the step of a state by a letter -/
def stepM (m : Mach) (t x : Nat) : Option (Nat × Nat) := (m[t]?).bind (·[x]?)
def movesM (m : Mach) (s : List Nat) (x a : Nat) : List Nat := s.filterMap fun t => (stepM m t x).bind fun p => if p.2 = a then some p.1 else none
def leftOf (m : Mach) (s : List Nat) (x a : Nat) : List Nat := canon m.length (movesM m s x a)
theorem mem_moves {m : Mach} {s : List Nat} {x a i : Nat} : i ∈ movesM m s x a ↔ ∃ t ∈ s, stepM m t x = some (i, a) := by
  unfold movesM
  rw [List.mem_filterMap]
  constructor
  · rintro ⟨t, ht, h⟩
    obtain ⟨p, hp, h⟩ := Option.bind_eq_some_iff.mp h
    split at h
    · rename_i e
      cases h
      exact ⟨t, ht, by rw [hp, ← e]⟩
    · cases h
  · rintro ⟨t, ht, h⟩
    exact ⟨t, ht, by rw [h]; simp⟩
theorem OkM.step {m : Mach} {w : Nat} (o : OkM m w) {t x : Nat} (ht : t < m.length) (hx : x < w) : ∃ p, stepM m t x = some p ∧ p.1 < m.length := by
  have hl := o.len m[t] (List.getElem_mem ht)
  have hx' : x < m[t].length := by rw [hl]; exact hx
  refine ⟨m[t][x], ?_, o.nx m[t] (List.getElem_mem ht) _ (List.getElem_mem hx')⟩
  unfold stepM
  rw [List.getElem?_eq_getElem ht]
  show m[t][x]? = _
  rw [List.getElem?_eq_getElem hx']
theorem OkM.step_lt {m : Mach} {w : Nat} (o : OkM m w) {t x : Nat} {p : Nat × Nat} (h : stepM m t x = some p) : p.1 < m.length := by
  unfold stepM at h
  obtain ⟨r, hr, hp⟩ := Option.bind_eq_some_iff.mp h
  exact o.nx r (List.mem_of_getElem? hr) p (List.mem_of_getElem? hp)
theorem mem_left {m : Mach} {w : Nat} (o : OkM m w) {s : List Nat} {x a i : Nat} : i ∈ leftOf m s x a ↔ ∃ t ∈ s, stepM m t x = some (i, a) := by
  unfold leftOf
  rw [canon_mem, mem_moves]
  exact ⟨fun h => h.2, fun h => ⟨by obtain ⟨t, _, q⟩ := h; exact o.step_lt q, h⟩⟩
theorem left_lt {m : Mach} {s : List Nat} {x a i : Nat} (h : i ∈ leftOf m s x a) : i < m.length := (canon_mem.mp h).1
theorem left_len (m : Mach) (s : List Nat) (x a : Nat) : (leftOf m s x a).length ≤ m.length := canon_len _ _
/-- a search's state: where the one stands, where the other may -/
abbrev Sta := Nat × List Nat
def eSt (q : Sta) : PyData := .tuple [eI 0, eI q.1, eS q.2]
def eNext (m2 : Mach) (s : List Nat) (x : Nat) (p : Nat × Nat) : PyData := .tuple [eI x, eSt (p.1, leftOf m2 s x p.2)]
def behindD (m1 m2 : Mach) (q : Sta) : List PyData := (m1.getD q.1 []).mapIdx (eNext m2 q.2)
theorem fm_congr {α β : Type} {f g : α → Option β} : ∀ {l : List α}, (∀ x ∈ l, f x = g x) → l.filterMap f = l.filterMap g
  | [], _ => rfl
  | x :: l, h => by
    rw [List.filterMap_cons, List.filterMap_cons, h x List.mem_cons_self, fm_congr fun y hy => h y (List.mem_cons_of_mem _ hy)]
end Wok
namespace Wok
open PySem

/-! ### the search -/
def stepS (m1 m2 : Mach) (q : Sta) (x : Nat) : Option Sta := (stepM m1 q.1 x).map fun p => (p.1, leftOf m2 q.2 x p.2)
def runW (m1 m2 : Mach) : Sta → List Nat → Option Sta
  | q, [] => some q
  | q, x :: l => (stepS m1 m2 q x).bind fun q' => runW m1 m2 q' l
def st0 (m2 : Mach) (b : Nat) : Sta := (b, List.range m2.length)
section
variable {m1 m2 : Mach} {q q' : Sta} {k w : Nat}
theorem runW_snoc : ∀ (l : List Nat) (q : Sta) (x : Nat), runW m1 m2 q (l ++ [x]) = (runW m1 m2 q l).bind fun q' => stepS m1 m2 q' x
  | [], q, x => by
    show (stepS m1 m2 q x).bind (fun q' => some q') = stepS m1 m2 q x
    cases stepS m1 m2 q x <;> rfl
  | y :: l, q, x => by
    show (stepS m1 m2 q y).bind (fun q' => runW m1 m2 q' (l ++ [x])) = ((stepS m1 m2 q y).bind fun q' => runW m1 m2 q' l).bind fun q' => stepS m1 m2 q' x
    cases h : stepS m1 m2 q y with
    | none => rfl
    | some q2 => exact runW_snoc l q2 x
def RN (m1 m2 : Mach) (k : Nat) (q : Sta) : Prop := ∃ b l, b < m1.length ∧ l.length = k ∧ runW m1 m2 (st0 m2 b) l = some q
def Succ (m1 m2 : Mach) (q q' : Sta) : Prop := ∃ x, stepS m1 m2 q x = some q'
theorem RN.succ (h : RN m1 m2 k q) (s : Succ m1 m2 q q') : RN m1 m2 (k + 1) q' := by
  obtain ⟨b, l, h1, h2, h3⟩ := h
  obtain ⟨x, hx⟩ := s
  exact ⟨b, l ++ [x], h1, by rw [List.length_append, h2]; rfl, by rw [runW_snoc, h3]; exact hx⟩
theorem RN.pred (h : RN m1 m2 (k + 1) q') : ∃ q, RN m1 m2 k q ∧ Succ m1 m2 q q' := by
  obtain ⟨b, l, h1, h2, h3⟩ := h
  have hne : l ≠ [] := fun z => by rw [z] at h2; cases h2
  rw [← List.dropLast_concat_getLast hne, runW_snoc] at h3
  obtain ⟨q, e1, e2⟩ := Option.bind_eq_some_iff.mp h3
  exact ⟨q, ⟨b, l.dropLast, h1, by rw [List.length_dropLast, h2]; rfl, e1⟩, _, e2⟩
structure Lev (m1 m2 : Mach) (k : Nat) (level vis : List Sta) : Prop where
  e : ∀ q ∈ level, RN m1 m2 k q
  v : ∀ q ∈ vis, q.2 ≠ []
  s : ∀ j, j ≤ k → ∀ q, RN m1 m2 j q → q ∈ vis
  p : ∀ q ∈ vis, q ∈ level ∨ ∀ q', Succ m1 m2 q q' → q' ∈ vis
variable {level level' vis vis' : List Sta}
theorem Lev.next (h : Lev m1 m2 k level vis) (h1 : ∀ q' ∈ level', ∃ q ∈ level, Succ m1 m2 q q') (h2 : ∀ q ∈ level, ∀ q', Succ m1 m2 q q' → q' ∈ vis') (h3 : ∀ q ∈ vis', q ∈ vis ∨ q ∈ level') (h4 : ∀ q ∈ vis, q ∈ vis') (h5 : ∀ q ∈ vis', q.2 ≠ []) :
    Lev m1 m2 (k + 1) level' vis' where
  e := fun q' hq => let ⟨q, a, b⟩ := h1 q' hq; (h.e q a).succ b
  v := h5
  s := fun j hj q' hq => by
    by_cases c : j ≤ k
    · exact h4 _ (h.s j c q' hq)
    · have e : j = k + 1 := by omega
      subst e
      obtain ⟨q, a, b⟩ := hq.pred
      rcases h.p q (h.s k (Nat.le_refl _) q a) with z | z
      · exact h2 q z q' b
      · exact h4 _ (z q' b)
  p := fun q hq => by
    rcases h3 q hq with z | z
    · rcases h.p q z with y | y
      · exact .inr (h2 q y)
      · exact .inr fun q' s => h4 _ (y q' s)
    · exact .inl z
theorem Lev.stop (h : Lev m1 m2 k [] vis) : ∀ j q, RN m1 m2 j q → q.2 ≠ [] := by
  have hv : ∀ j q, RN m1 m2 j q → q ∈ vis := by
    intro j
    induction j with
    | zero => exact fun q hq => h.s 0 (Nat.zero_le _) q hq
    | succ j ih =>
      intro q' hq
      obtain ⟨q, a, b⟩ := hq.pred
      rcases h.p q (ih q a) with z | z
      · cases z
      · exact z q' b
  exact fun j q hq => h.v q (hv j q hq)
theorem Lev.none (h : Lev m1 m2 k level vis) {j : Nat} (hj : j ≤ k) (hq : RN m1 m2 j q) : q.2 ≠ [] := h.v q (h.s j hj q hq)

theorem Lev.cast {lev2 : List Sta} (h : Lev m1 m2 k level vis) (e : level = lev2) : Lev m1 m2 k lev2 vis := e ▸ h
theorem Lev.cast2 {vis2 : List Sta} (h : Lev m1 m2 k level vis) (e : vis = vis2) : Lev m1 m2 k level vis2 := e ▸ h
/-! ### how many states there are -/
def subs : List Nat → List (List Nat)
  | [] => [[]]
  | x :: l => subs l ++ (subs l).map (x :: ·)
theorem subs_len : ∀ l : List Nat, (subs l).length = 2 ^ l.length
  | [] => rfl
  | x :: l => by
    unfold subs
    rw [List.length_append, List.length_map, subs_len l, List.length_cons, Nat.pow_succ]
    omega
theorem filter_subs (p : Nat → Bool) : ∀ l : List Nat, l.filter p ∈ subs l
  | [] => by simp [subs]
  | x :: l => by
    unfold subs
    rw [List.mem_append]
    cases h : p x with
    | true =>
      rw [List.filter_cons_of_pos h]
      exact .inr (List.mem_map.mpr ⟨_, filter_subs p l, rfl⟩)
    | false =>
      rw [List.filter_cons_of_neg (by rw [h]; decide)]
      exact .inl (filter_subs p l)
def uni (n1 n2 : Nat) : List Sta := (List.range n1).flatMap fun t => (subs (List.range n2)).map fun s => (t, s)
theorem flatMap_len {α β : Type} {f : α → List β} {c : Nat} : ∀ l : List α, (∀ x ∈ l, (f x).length = c) → (l.flatMap f).length = l.length * c
  | [], _ => by simp
  | x :: l, h => by
    rw [List.flatMap_cons, List.length_append, h x List.mem_cons_self, flatMap_len l fun y hy => h y (List.mem_cons_of_mem _ hy), List.length_cons, Nat.add_mul]
    omega
theorem uni_len (n1 n2 : Nat) : (uni n1 n2).length = n1 * 2 ^ n2 := by
  unfold uni
  rw [flatMap_len (c := 2 ^ n2) _ fun t _ => by rw [List.length_map, subs_len, List.length_range], List.length_range]
theorem nodup_le {α : Type} [DecidableEq α] : ∀ {l m : List α}, l.Nodup → (∀ x ∈ l, x ∈ m) → l.length ≤ m.length
  | [], _, _, _ => Nat.zero_le _
  | x :: l, m, h, hs => by
    obtain ⟨h1, h2⟩ := List.nodup_cons.mp h
    have hx := hs x List.mem_cons_self
    have z := nodup_le (l := l) (m := m.erase x) h2 fun y hy => (List.mem_erase_of_ne (fun e => h1 (by rw [← e]; exact hy))).mpr (hs y (List.mem_cons_of_mem _ hy))
    rw [List.length_erase_of_mem hx] at z
    have := List.length_pos_of_mem hx
    rw [List.length_cons]
    omega
def Uni (m1 m2 : Mach) (q : Sta) : Prop := q.1 < m1.length ∧ q.2 ∈ subs (List.range m2.length)
theorem uni_mem (h : Uni m1 m2 q) : q ∈ uni m1.length m2.length := by
  unfold uni
  rw [List.mem_flatMap]
  exact ⟨q.1, List.mem_range.mpr h.1, List.mem_map.mpr ⟨q.2, h.2, rfl⟩⟩
theorem uni_st0 {b : Nat} (h : b < m1.length) : Uni m1 m2 (st0 m2 b) := ⟨h, by
  have z := filter_subs (fun _ => true) (List.range m2.length)
  rw [List.filter_eq_self.mpr (fun _ _ => rfl)] at z
  exact z⟩
theorem stepS_some (h : stepS m1 m2 q w = some q') : ∃ p, stepM m1 q.1 w = some p ∧ q' = (p.1, leftOf m2 q.2 w p.2) := by
  obtain ⟨p, a, b⟩ := Option.map_eq_some_iff.mp h
  exact ⟨p, a, b.symm⟩
theorem uni_step (ok : OkM m1 w) {x : Nat} (h : stepS m1 m2 q x = some q') : Uni m1 m2 q' := by
  obtain ⟨p, a, rfl⟩ := stepS_some h
  exact ⟨ok.step_lt a, filter_subs _ _⟩
theorem uni_run (ok : OkM m1 w) : ∀ (l : List Nat) (q : Sta), Uni m1 m2 q → runW m1 m2 q l = some q' → Uni m1 m2 q'
  | [], q, h, e => by cases e; exact h
  | x :: l, q, _, e => by
    obtain ⟨q2, e1, e2⟩ := Option.bind_eq_some_iff.mp e
    exact uni_run ok l q2 (uni_step ok e1) e2
theorem RN.uni (h : RN m1 m2 k q) (ok : OkM m1 w) : Uni m1 m2 q := let ⟨_, l, h1, _, h3⟩ := h; uni_run ok l _ (uni_st0 h1) h3
theorem subs_mem : ∀ {l s : List Nat}, s ∈ subs l → ∀ i ∈ s, i ∈ l
  | [], s, h, i, hi => by simp [subs] at h; subst h; cases hi
  | x :: l, s, h, i, hi => by
    unfold subs at h
    rcases List.mem_append.mp h with z | z
    · exact List.mem_cons_of_mem _ (subs_mem z i hi)
    · obtain ⟨s', a, b⟩ := List.mem_map.mp z
      subst b
      rcases List.mem_cons.mp hi with y | y
      · rw [y]; exact List.mem_cons_self
      · exact List.mem_cons_of_mem _ (subs_mem a i y)
theorem subs_slen : ∀ {l s : List Nat}, s ∈ subs l → s.length ≤ l.length
  | [], s, h => by simp [subs] at h; subst h; exact Nat.le_refl _
  | x :: l, s, h => by
    unfold subs at h
    rcases List.mem_append.mp h with z | z
    · exact Nat.le_succ_of_le (subs_slen z)
    · obtain ⟨s', a, b⟩ := List.mem_map.mp z
      subst b
      exact Nat.succ_le_succ (subs_slen a)
theorem Uni.lt (h : Uni m1 m2 q) : ∀ i ∈ q.2, i < m2.length := fun i hi => List.mem_range.mp (subs_mem h.2 i hi)
theorem Uni.len (h : Uni m1 m2 q) : q.2.length ≤ m2.length := by have z := subs_slen h.2; rwa [List.length_range] at z
theorem count_le {l : List Sta} (h : l.Nodup) (hu : ∀ q ∈ l, Uni m1 m2 q) : l.length ≤ m1.length * 2 ^ m2.length := by
  rw [← uni_len]
  exact nodup_le h fun q hq => uni_mem (hu q hq)

/-! ### what stands in a level: the letters, the beginning, the state -/
abbrev Item := List Nat × Nat × Sta
def eIt (t : Item) : PyData := .tuple [eS t.1, eI t.2.1, eSt t.2.2]
def lateOf (m1 m2 : Mach) (t : Item) : List Item := (m1.getD t.2.2.1 []).mapIdx fun x p => (t.1 ++ [x], t.2.1, (p.1, leftOf m2 t.2.2.2 x p.2))
theorem mem_late {t u : Item} : u ∈ lateOf m1 m2 t ↔ ∃ x, stepS m1 m2 t.2.2 x = some u.2.2 ∧ u.1 = t.1 ++ [x] ∧ u.2.1 = t.2.1 := by
  unfold lateOf
  rw [List.mem_mapIdx]
  have row : ∀ x (p : Nat × Nat), (m1.getD t.2.2.1 [])[x]? = some p ↔ stepM m1 t.2.2.1 x = some p := fun x p => by
    unfold stepM
    rw [List.getD_eq_getElem?_getD]
    cases m1[t.2.2.1]? with
    | none => simp
    | some r => rfl
  constructor
  · rintro ⟨x, hx, rfl⟩
    exact ⟨x, by unfold stepS; rw [(row x _).mp (List.getElem?_eq_getElem hx)]; rfl, rfl, rfl⟩
  · rintro ⟨x, h1, h2, h3⟩
    obtain ⟨p, a, b⟩ := stepS_some h1
    have a' := (row x p).mpr a
    obtain ⟨hx, hp⟩ := List.getElem?_eq_some_iff.mp a'
    refine ⟨x, hx, ?_⟩
    rw [hp]
    refine Prod.ext h2.symm (Prod.ext h3.symm b.symm)
/-- an item comes from its beginning by its letters -/
def ItOk (m1 m2 : Mach) (k : Nat) (t : Item) : Prop := t.2.1 < m1.length ∧ t.1.length = k ∧ runW m1 m2 (st0 m2 t.2.1) t.1 = some t.2.2
theorem ItOk.rn {t : Item} (h : ItOk m1 m2 k t) : RN m1 m2 k t.2.2 := ⟨t.2.1, t.1, h.1, h.2.1, h.2.2⟩
theorem ItOk.late {t u : Item} (h : ItOk m1 m2 k t) (hu : u ∈ lateOf m1 m2 t) : ItOk m1 m2 (k + 1) u := by
  obtain ⟨x, h1, h2, h3⟩ := mem_late.mp hu
  refine ⟨by rw [h3]; exact h.1, by rw [h2, List.length_append, h.2.1]; rfl, ?_⟩
  rw [h2, h3, runW_snoc, h.2.2]
  exact h1
theorem late_len (ok : OkM m1 w) {t : Item} (h : t.2.2.1 < m1.length) : (lateOf m1 m2 t).length = w := by
  unfold lateOf
  rw [List.length_mapIdx, List.getD_eq_getElem?_getD, List.getElem?_eq_getElem h]
  exact ok.len _ (List.getElem_mem h)
/-- letters that can be read are letters -/
theorem run_letters (ok : OkM m1 w) : ∀ (l : List Nat) (q : Sta), runW m1 m2 q l = some q' → ∀ x ∈ l, x < w
  | [], _, _, x, hx => by cases hx
  | y :: l, q, e, x, hx => by
    obtain ⟨q2, e1, e2⟩ := Option.bind_eq_some_iff.mp e
    rcases List.mem_cons.mp hx with z | z
    · subst z
      obtain ⟨p, a, _⟩ := stepS_some e1
      unfold stepM at a
      obtain ⟨r, hr, hp⟩ := Option.bind_eq_some_iff.mp a
      have := (List.getElem?_eq_some_iff.mp hp).1
      rwa [ok.len r (List.mem_of_getElem? hr)] at this
    · exact run_letters ok l q2 e2 x z
end
end Wok
namespace Wok
open PySem PySem.Spec PyProof.Rows L2
open Evl (Ex EvT)

/-! ### keys -/
theorem goods_eS : ∀ s : List Nat, goods (s.map eI) = true
  | [] => rfl
  | x :: s => by
    rw [List.map_cons]
    unfold goods
    rw [goods_eS s]
    rfl
theorem depth_eS : ∀ s : List Nat, NestedKey.depthAll (keyDs (s.map eI)) = 0
  | [] => rfl
  | x :: s => by
    rw [List.map_cons]
    show max 0 (NestedKey.depthAll (keyDs (s.map eI))) = 0
    rw [depth_eS s]
    rfl
theorem good_eS (s : List Nat) : good (eS s) = true := by unfold eS good; exact goods_eS s
theorem dep_eS (s : List Nat) : (keyD (eS s)).depth = 1 := by
  show NestedKey.depthAll (keyDs (s.map eI)) + 1 = 1
  rw [depth_eS]
theorem keyD_st (q : Sta) : KeyD (eSt q) where
  good := by
    show (good (eI 0) && (good (eI q.1) && (good (eS q.2) && true))) = true
    rw [good_eS]; rfl
  depth := by
    show max 0 (max 0 (max (keyD (eS q.2)).depth 0)) + 1 ≤ 8
    rw [dep_eS]; decide
  tup := ⟨_, _, rfl⟩
theorem keyD_it (t : Item) : KeyD (eIt t) where
  good := by
    show (good (eS t.1) && (good (eI t.2.1) && (good (eSt t.2.2) && true))) = true
    rw [good_eS, (keyD_st t.2.2).good]; rfl
  depth := by
    show max (keyD (eS t.1)).depth (max 0 (max (keyD (eSt t.2.2)).depth 0)) + 1 ≤ 8
    have e : (keyD (eSt t.2.2)).depth = 2 := by
      show max 0 (max 0 (max (keyD (eS t.2.2.2)).depth 0)) + 1 = 2
      rw [dep_eS]; rfl
    rw [dep_eS, e]; decide
  tup := ⟨_, _, rfl⟩
def eQ (q : Sta) : PyData := .tuple [eI q.1, eS q.2]
theorem keyD_q (q : Sta) : KeyD (eQ q) where
  good := by
    show (good (eI q.1) && (good (eS q.2) && true)) = true
    rw [good_eS]; rfl
  depth := by
    show max 0 (max (keyD (eS q.2)).depth 0) + 1 ≤ 8
    rw [dep_eS]; decide
  tup := ⟨_, _, rfl⟩
theorem alike_eS : ∀ s s' : List Nat, PySem.W.alikeAll (s.map eI) (s'.map eI) = true
  | [], _ => by cases ‹List Nat› <;> rfl
  | _ :: _, [] => rfl
  | x :: s, y :: s' => by
    rw [List.map_cons, List.map_cons]
    show (true && PySem.W.alikeAll (s.map eI) (s'.map eI)) = true
    rw [alike_eS s s']; rfl
theorem alike_it (t u : Item) : PySem.W.alike (eIt t) (eIt u) = true := by
  show (PySem.W.alikeAll (t.1.map eI) (u.1.map eI) && (true && ((true && (true && (PySem.W.alikeAll (t.2.2.2.map eI) (u.2.2.2.map eI) && true))) && true))) = true
  rw [alike_eS, alike_eS]; rfl
theorem eI_inj {a b : Nat} (h : eI a = eI b) : a = b := by have := PyData.int.inj h; omega
theorem eS_inj {s s' : List Nat} (h : eS s = eS s') : s = s' := (List.map_inj_right fun a b h => eI_inj h).mp (PyData.tuple.inj h)
theorem eSt_inj {q q' : Sta} (h : eSt q = eSt q') : q = q' := by
  have h := PyData.tuple.inj h
  injection h with _ h
  injection h with h1 h
  injection h with h2 _
  exact Prod.ext (eI_inj h1) (eS_inj h2)
theorem eQ_inj {q q' : Sta} (h : eQ q = eQ q') : q = q' := by
  have h := PyData.tuple.inj h
  injection h with h1 h
  injection h with h2 _
  exact Prod.ext (eI_inj h1) (eS_inj h2)
theorem eIt_inj {t u : Item} (h : eIt t = eIt u) : t = u := by
  have h := PyData.tuple.inj h
  injection h with h1 h
  injection h with h2 h
  injection h with h3 _
  exact Prod.ext (eS_inj h1) (Prod.ext (eI_inj h2) (eSt_inj h3))
theorem mem_map_inj {α β : Type} {f : α → β} (inj : ∀ a b, f a = f b → a = b) {a : α} {l : List α} : f a ∈ l.map f ↔ a ∈ l := by
  rw [List.mem_map]
  exact ⟨fun ⟨b, h, e⟩ => by rw [← inj b a e]; exact h, fun h => ⟨a, h, rfl⟩⟩
theorem map_nodup {α β : Type} {f : α → β} (inj : ∀ a b, f a = f b → a = b) : ∀ {l : List α}, l.Nodup → (l.map f).Nodup
  | [], _ => List.nodup_nil
  | x :: l, h => by
    obtain ⟨h1, h2⟩ := List.nodup_cons.mp h
    rw [List.map_cons]
    exact List.nodup_cons.mpr ⟨fun z => h1 ((mem_map_inj inj).mp z), map_nodup inj h2⟩
/-- data within an image -/
theorem of_image {α : Type} {f : α → PyData} {l : List α} : ∀ {es : List PyData}, (∀ e ∈ es, e ∈ l.map f) → ∃ ts : List α, es = ts.map f ∧ ∀ t ∈ ts, t ∈ l
  | [], _ => ⟨[], rfl, fun _ h => by cases h⟩
  | e :: es, h => by
    obtain ⟨t, ht, e1⟩ := List.mem_map.mp (h e List.mem_cons_self)
    obtain ⟨ts, e2, h2⟩ := of_image (es := es) fun x hx => h x (List.mem_cons_of_mem _ hx)
    refine ⟨t :: ts, by rw [List.map_cons, e1, e2], fun x hx => ?_⟩
    rcases List.mem_cons.mp hx with z | z
    · rw [z]; exact ht
    · exact h2 x z

/-! ### dicts of keys, read -/
section
variable {P : Program} {w : World} {K : PySem.W.Frag} {σ : St} {H H' : Hp} {te to ti : TE} {d : PyData} {ds : List PyData} {Da : Addr} {xs : List (PyData × Addr)} {D : Ends} {tz : TS}
theorem dv_notin (hi : Dv K ti σ H d) (ho : Rv to σ H (fun v _ => v = .ref Da)) (hD : H Da = some (DNO P w Da xs)) (hk : KeysIn K H xs) (kd : KeyD d) {b : Bool} (hb : b = true ↔ d ∈ xs.map (·.1)) : Dv K (tOp (rNotInN K P w) ti to) σ H (.bool (!b)) := fun H1 e Q q =>
  hi H1 e _ fun v H2 e2 dv => ho H2 (e.trans e2) _ fun u H3 e3 eu => ⟨Da, xs, d, eu, e3 _ _ (e2 _ _ (e _ _ hD)), hk.mono (.ex ((e.trans e2).trans e3)), dv.ex e3, kd, fun c hc => by
    have ec : c = b := by
      cases c <;> cases b <;> simp_all
    rw [ec]
    exact q _ H3 (e2.trans e3) (.bl _)⟩
theorem q_put (hv : Dv K te σ H (.bool true)) (ho : Rv to σ H (fun v _ => v = .ref Da)) (hi : Dv K ti σ H d) (hD : H Da = some (DNO P w Da xs)) (hk : KeysIn K H xs) (kd : KeyD d) (hl : xs.length < 1000000)
    (k : ∀ b xs' H1, Ex H H1 → Dt K H1 (.ref b) d → AddK xs xs' d b → tz D σ (upd H1 Da (DNO P w Da xs'))) : tSeq (tAsg te (gSub to ti (rPutN K P w))) tz D σ H :=
  hv H (.refl H) _ fun v H1 e1 dv => ho H1 e1 _ fun u H2 e2 eu => hi H2 (e1.trans e2) _ fun y H3 e3 dy => by
    obtain ⟨x, r, ed⟩ := kd.tup
    have dy' := dy
    rw [ed] at dy'
    obtain ⟨b, _, rfl, _, _⟩ := dy'.tup_of
    have e := (e1.trans e2).trans e3
    exact ⟨Da, xs, d, b, eu, rfl, dv.bl_of, e _ _ hD, hk.mono (.ex e), dy, kd, hl, fun xs' ad => k b xs' H3 e dy ad⟩
theorem s_put (hv : Dv K te σ H (.bool true)) (ho : Rv to σ H (fun v _ => v = .ref Da)) (hi : Dv K ti σ H d) (hD : H Da = some (DNO P w Da xs)) (hk : KeysIn K H xs) (kd : KeyD d) (hl : xs.length < 1000000)
    (k : ∀ b xs' H1, Ex H H1 → Dt K H1 (.ref b) d → AddK xs xs' d b → D.nx σ (upd H1 Da (DNO P w Da xs'))) : tAsg te (gSub to ti (rPutN K P w)) D σ H := q_put (tz := tNext) hv ho hi hD hk kd hl k
/-- the dict of a comprehension -/
theorem dn_dc {wi : TI} {g : TG} {tk tv : TE} {ns : List Nat} (hw : Iv K [] wi σ H ds) (hk : ∀ d ∈ ds, KeyD d) (hl : ds.length ≤ 100000) (hn : ds.Nodup)
    (hs : ∀ (i : Nat) d x H1, ds[i]? = some d → Ex H H1 → Dt K H1 x d → ∀ R : St → Hp → Prop, (∀ σ2, wipe σ2 ns = wipe σ ns → Dv K tk σ2 H1 d → Dv K tv σ2 H1 (.bool true) → R σ2 H1) → g x (wipe σ ns) H1 R)
    (Q : VK) (q : ∀ Da xs H2, H Da = none → Ex H H2 → H2 Da = some (DNO P w Da xs) → KeysIn K H2 xs → xs.map (·.1) = ds → Q (.ref Da) H2) : tDcN K P w wi g tk tv ns σ H Q := by
  refine hw H (.refl H) _ fun J H2 e2 wk Da nD => ?_
  refine ⟨fun i m H' => i + m = ds.length ∧ Ex H2 H' ∧ ∃ xs, H' Da = some (DNO P w Da xs) ∧ KeysIn K H' xs ∧ xs.map (·.1) = ds.take i, ⟨ds.length, Nat.zero_add _, .new nD, [], upd_same, (fun p hp => by cases hp), rfl⟩, fun i m H' ⟨em, mu, xs, hx, hki, hm⟩ => ?_⟩
  obtain ⟨w1, w2⟩ := wk i H' (.ex mu)
  by_cases hi : i < ds.length
  · obtain ⟨g1, g2⟩ := w1 _ (List.getElem?_eq_getElem hi)
    refine .inr ⟨g1, fun H4 => Ex H2 H4 ∧ ∃ xs, H4 Da = some (DNO P w Da xs) ∧ KeysIn K H4 xs ∧ xs.map (·.1) = ds.take (i + 1), fun H4 ⟨z1, z2⟩ => ⟨m - 1, by omega, by omega, z1, z2⟩, fun x H3 y => ?_⟩
    obtain ⟨e3, dx⟩ := g2 x H3 y
    refine hs i _ x H3 (List.getElem?_eq_getElem hi) (e2.trans (mu.trans e3)) dx _ fun σ2 hwp hkk hvv => ⟨hwp, hkk H3 (.refl _) _ fun u H4 e4 du => hvv H4 e4 _ fun u2 H5 e5 du2 => ?_⟩
    have kd := hk ds[i] (List.getElem_mem hi)
    obtain ⟨x0, r0, ed⟩ := kd.tup
    have du' := du
    rw [ed] at du'
    obtain ⟨b, _, rfl, _, _⟩ := du'.tup_of
    have e35 := e3.trans (e4.trans e5)
    have lx : xs.length = i := by
      have := congrArg List.length hm
      rw [List.length_map, List.length_take] at this
      omega
    refine ⟨du2.bl_of, xs, ds[i], b, rfl, e35 _ _ hx, hki.mono (.ex e35), du.ex e5, kd, by omega, fun xs' ad => ?_⟩
    have kpu : Kp K H5 (upd H5 Da (DNO P w Da xs')) := .upd (e35 _ _ hx) trivial
    have hni : ds[i] ∉ xs.map (·.1) := by
      rw [hm]
      intro z
      obtain ⟨j, hj, ej⟩ := List.getElem_of_mem z
      rw [List.length_take] at hj
      rw [List.getElem_take] at ej
      exact absurd ((List.getElem_inj hn).mp ej) (by omega)
    rcases ad with ⟨z, _⟩ | ⟨_, rfl⟩
    · exact absurd z hni
    · refine ⟨(mu.trans e35).mut nD, xs ++ [(ds[i], b)], upd_same, ((hki.mono (.ex e35)).snoc (du.ex e5) kd).mono kpu, ?_⟩
      rw [List.map_append, hm, List.take_add_one, List.getElem?_eq_getElem hi]
      rfl
  · have ei : i = ds.length := by omega
    rw [ei, List.take_length] at hm
    exact .inl ⟨w2 ei.symm, q Da xs H' (Evl.fresh_back e2 nD) (e2.trans mu) hx hki hm⟩
theorem q_te {j : Nat} (h : te σ H fun x H1 => tz D (σ.set j (some x)) H1) : tSeq (tAsg te (gName j)) tz D σ H := h
theorem dv_c {v : V} (h : Dt K H v d) : Dv K (tC v) σ H d := fun H1 e Q q => q v H1 (.refl _) (h.ex e)
/-- a walk over a tuple that is told by what is true of it -/
theorem s_forE {R : List PyData → Prop} {g : TG} {tu : TS} (h : Rv te σ H (fun v H' => ∃ ds, R ds ∧ Dt K H' v (.tuple ds))) (k : ∀ ds H1 te', R ds → Ex H H1 → (∀ H', Ex H1 H' → Dv K te' σ H' (.tuple ds)) → tFor (iTup K te') g tu D σ H1) : tFor (iTup K te) g tu D σ H :=
  h H (.refl H) _ fun v H1 e ⟨ds, r, dv⟩ => k ds H1 (tC v) r e fun H' e' => dv_c (dv.ex e')
theorem Dt.ixs {v : V} (h : Dt K H v (.tuple ds)) : True := trivial
end
end Wok
namespace Wok
open PySem PySem.Spec PyProof.Rows L2
open Evl (Ex EvT)
section
variable {K : PySem.W.Frag} {σ : St} {H H' : Hp} {te : TE} {ds : List PyData} {wi wi1 : TI} {g g1 : TG} {ns ns1 : List Nat}
/-- [e for a in x for b in y] -/
theorem lv_lc2 (hw : Iv K [] wi σ H ds) (hd : ds.length ≤ 10000) (h : PyData → List PyData) (hlen : ∀ d ∈ ds, (h d).length ≤ 50) (f : PyData → PyData → PyData)
    (hs : ∀ (i : Nat) d x H1, ds[i]? = some d → Ex H H1 → Dt K H1 x d → ∀ R : St → Hp → Prop, (∀ σ2, wipe σ2 ns = wipe σ ns → (∀ S H3, Ex H1 H3 → Sok S H3 → Iv K S wi1 σ2 H3 (h d)) →
      (∀ (j : Nat) e y H3, (h d)[j]? = some e → Ex H H3 → Kp K H1 H3 → Dt K H3 y e → ∀ R1 : St → Hp → Prop, (∀ σ3, wipe σ3 ns1 = wipe σ2 ns1 → Dv K te σ3 H3 (f d e) → R1 σ3 H3) → g1 y (wipe σ2 ns1) H3 R1) → R σ2 H1) → g x (wipe σ ns) H1 R) :
    Lv K (tLc2 wi g tYes wi1 g1 tYes te ns ns1) σ H (ds.flatMap fun d => (h d).map (f d)) := fun H1 e Q q => by
  refine hw H1 e _ fun J H2 e2 wk Dl nD => ?_
  refine ⟨fun i m H' => i + m = ds.length ∧ Ex H2 H' ∧ ∃ xs, H' Dl = some (.lst xs) ∧ DtAll K H' xs ((ds.take i).flatMap fun d => (h d).map (f d)) ∧ xs.length ≤ i * 50, ⟨ds.length, Nat.zero_add _, .new nD, [], upd_same, .nil, by simp⟩, fun i m H' ⟨em, mu, xs, hx, dl, hl⟩ => ?_⟩
  obtain ⟨w1, w2⟩ := wk i H' (.ex mu)
  by_cases hi : i < ds.length
  · obtain ⟨g1', g2⟩ := w1 _ (List.getElem?_eq_getElem hi)
    refine .inr ⟨g1', fun H4 => Ex H2 H4 ∧ ∃ xs, H4 Dl = some (.lst xs) ∧ DtAll K H4 xs ((ds.take (i + 1)).flatMap fun d => (h d).map (f d)) ∧ xs.length ≤ (i + 1) * 50, fun H4 ⟨z1, z2⟩ => ⟨m - 1, by omega, by omega, z1, z2⟩, fun x H3 y => ?_⟩
    obtain ⟨e3, dx⟩ := g2 x H3 y
    refine hs i _ x H3 (List.getElem?_eq_getElem hi) ((e.trans e2).trans (mu.trans e3)) dx _ fun σ2 hwp hiv hin => ⟨hwp, et_yes H3 (.refl _) _ fun H4 e4 => ?_⟩
    show wi1 σ2 H4 _
    have hxD := e4 _ _ (e3 _ _ hx)
    have so : Sok [Dl] H4 := .cons hxD trivial .nil
    refine hiv [Dl] H4 e4 so H4 (.refl _) _ fun J1 H5 e5 wk1 => ?_
    have e35 := e3.trans (e4.trans e5)
    have hl50 := hlen ds[i] (List.getElem_mem hi)
    refine ⟨fun j k H6 => j + k = (h ds[i]).length ∧ Ex H2 H6 ∧ ∃ xs, H6 Dl = some (.lst xs) ∧ DtAll K H6 xs (((ds.take i).flatMap fun d => (h d).map (f d)) ++ ((h ds[i]).take j).map (f ds[i])) ∧ xs.length ≤ i * 50 + j ∧ Mu [Dl] H5 H6, ⟨(h ds[i]).length, Nat.zero_add _, mu.trans e35, xs, e35 _ _ hx, by simpa using dl.ex e35, hl, .refl _ _⟩, fun j k H6 ⟨ej, mu6, xs6, hx6, dl6, hl6, m56⟩ => ?_⟩
    obtain ⟨w3, w4⟩ := wk1 j H6 m56
    by_cases hj : j < (h ds[i]).length
    · obtain ⟨g3, g4⟩ := w3 _ (List.getElem?_eq_getElem hj)
      refine .inr ⟨g3, fun H7 => Ex H2 H7 ∧ ∃ xs, H7 Dl = some (.lst xs) ∧ DtAll K H7 xs (((ds.take i).flatMap fun d => (h d).map (f d)) ++ ((h ds[i]).take (j + 1)).map (f ds[i])) ∧ xs.length ≤ i * 50 + (j + 1) ∧ Mu [Dl] H5 H7, fun H7 ⟨z1, z2⟩ => ⟨k - 1, by omega, by omega, z1, z2⟩, fun y2 H7 yy => ?_⟩
      obtain ⟨e7, dy⟩ := g4 y2 H7 yy
      have hm37 : Mu [Dl] H3 H7 := (Mu.ex (e4.trans e5)).trans (m56.trans (.ex e7))
      have so3 : Sok [Dl] H3 := .cons (e3 _ _ hx) trivial .nil
      have ex7 : Ex H H7 := (e.trans e2).trans (mu6.trans e7)
      refine hin j _ y2 H7 (List.getElem?_eq_getElem hj) ex7 (hm37.kp so3) dy _ fun σ3 hwp3 hv => ⟨hwp3, et_yes H7 (.refl _) _ fun H8 e8 => ?_⟩
      show te σ3 H8 _
      refine hv H8 e8 _ fun y3 H9 e9 dy3 => ⟨xs6, e9 _ _ (e8 _ _ (e7 _ _ hx6)), ?_, ?_, xs6 ++ [y3], upd_same, ?_, ?_, ?_⟩
      · rw [sizeLine_eq]; omega
      · exact (((mu6.trans e7).trans e8).trans e9).mut nD
      · have kp : Kp K H9 (upd H9 Dl (.lst (xs6 ++ [y3]))) := .upd (e9 _ _ (e8 _ _ (e7 _ _ hx6))) trivial
        rw [List.take_add_one, List.getElem?_eq_getElem hj, List.map_append, ← List.append_assoc]
        exact ((((dl6.ex e7).ex e8).ex e9).mono kp).snoc (dy3.mono kp)
      · rw [List.length_append]; exact Nat.succ_le_succ hl6
      · exact (m56.trans (.ex (e7.trans (e8.trans e9)))).trans (.upd List.mem_cons_self)
    · have ej' : j = (h ds[i]).length := by omega
      rw [ej', List.take_length] at dl6
      refine .inl ⟨w4 ej'.symm, mu6, xs6, hx6, ?_, by omega⟩
      rw [List.take_add_one, List.getElem?_eq_getElem hi, List.flatMap_append]
      show DtAll K H6 xs6 (((ds.take i).flatMap fun d => (h d).map (f d)) ++ [ds[i]].flatMap fun d => (h d).map (f d))
      rw [List.flatMap_singleton]
      exact dl6
  · have ei : i = ds.length := by omega
    refine .inl ⟨w2 ei.symm, q Dl xs H' (Evl.fresh_back e2 nD) (e2.trans mu) hx ?_⟩
    rw [ei, List.take_length] at dl
    exact dl
end
end Wok
namespace Wok
open PySem PySem.Spec PyProof.Rows L2
open Evl (Ex EvT)
section
variable {K : PySem.W.Frag} {σ : St} {H H' : Hp} {te tb : TE} {d : PyData} {ds es : List PyData} {D : Ends} {tz : TS} {i j : Nat}
theorem q_parL (h1 : Dv K te σ H d) (h2 : Lv K tb σ H ds) (k : ∀ v p xs H1, H p = none → Ex H H1 → Dt K H1 v d → H1 p = some (.lst xs) → DtAll K H1 xs ds → tz D ((σ.set i (some v)).set j (some (.ref p))) H1) : tSeq (tPar i j (tCons te (tCons tb tNil))) tz D σ H :=
  h1 H (.refl H) _ fun v H1 e1 dv => h2 H1 e1 _ fun p xs H2 np e2 hp dl => ⟨v, .ref p, rfl, k v p xs H2 (Evl.fresh_back e1 np) (e1.trans e2) (dv.ex e2) hp dl⟩
/-- the first one new, no data (a dict) -/
theorem q_parR {P : V → Hp → Prop} (h1 : ∀ Q : VK, (∀ v H1, Ex H H1 → P v H1 → Q v H1) → te σ H Q) (h2 : ∀ H1, Ex H H1 → Dv K tb σ H1 d) (k : ∀ v w H1 H2, Ex H H1 → P v H1 → Ex H1 H2 → Dt K H2 w d → tz D ((σ.set i (some v)).set j (some w)) H2) : tSeq (tPar i j (tCons te (tCons tb tNil))) tz D σ H :=
  h1 _ fun v H1 e1 p => h2 H1 e1 H1 (.refl _) _ fun w H2 e2 dw => ⟨v, w, rfl, k v w H1 H2 e1 p e2 dw⟩
theorem mul_ok {x y : Int} (h1 : 0 ≤ x) (h2 : x ≤ 1000000) : CMul x y := .inl ⟨by omega, by omega⟩
theorem dv_ifD {c : TT} {ta tb : TE} {b : Bool} {d1 d2 : PyData} (h : EvT c σ H b) (h1 : b = true → Dv K ta σ H d1) (h2 : b = false → Dv K tb σ H d2) : Dv K (tIf c ta tb) σ H (if b = true then d1 else d2) :=
  dv_if h (fun e => by rw [if_pos e]; exact h1 e) (fun e => by rw [if_neg (by rw [e]; decide)]; exact h2 e)
theorem sl_asg {te : TE} (h : Lv K te σ H ds) (k : ∀ p xs H1, H p = none → Ex H H1 → H1 p = some (.lst xs) → DtAll K H1 xs ds → D.nx (σ.set j (some (.ref p))) H1) : tAsg te (gName j) D σ H :=
  h H (.refl H) _ fun p xs H1 n e hp dv => k p xs H1 n e hp dv
end
end Wok
namespace Wok
open PySem PySem.Spec PyProof.Rows L2
open Evl (Ex EvT)
/-! ### data that can be compared -/
theorem depth_good (d : PyData) : good d = true → d.depth = (keyD d).depth := by
  refine PyData.rec (motive_1 := fun d => good d = true → d.depth = (keyD d).depth) (motive_2 := fun ds => goods ds = true → PyData.depthAll ds = NestedKey.depthAll (keyDs ds)) (motive_3 := fun _ => True) (motive_4 := fun _ => True) ?_ ?_ ?_ ?_ ?_ ?_ ?_ ?_ ?_ ?_ ?_ ?_ d
  · intro h; simp [good] at h
  · intro b h; simp [good] at h
  · intro i _; simp [PyData.depth, keyD, NestedKey.depth]
  · intro x h; simp [good] at h
  · intro xs _ h; simp [good] at h
  · intro xs ih h
    simp only [PyData.depth, keyD, NestedKey.depth]
    rw [ih (by simpa [good] using h)]
  · intro kvs _ h; simp [good] at h
  · intro _; simp [PyData.depthAll, keyDs, NestedKey.depthAll]
  · intro d ds h1 h2 h
    simp only [goods, Bool.and_eq_true] at h
    simp only [PyData.depthAll, keyDs, NestedKey.depthAll]
    rw [h1 h.1, h2 h.2]
  · trivial
  · intros; trivial
  · intros; trivial
mutual
theorem lay_good : ∀ d : PyData, good d = true → d.canLay0 = true
  | .int _, _ => rfl
  | .tuple ds, h => by
    show PyData.canLayAll0 ds = true
    exact lay_goods ds (by simpa [good] using h)
  | .none, h => by simp [good] at h
  | .bool _, h => by simp [good] at h
  | .str _, h => by simp [good] at h
  | .list _, h => by simp [good] at h
  | .dict _, h => by simp [good] at h
theorem lay_goods : ∀ ds : List PyData, goods ds = true → PyData.canLayAll0 ds = true
  | [], _ => rfl
  | d :: ds, h => by
    simp only [goods, Bool.and_eq_true] at h
    show (d.canLay0 && PyData.canLayAll0 ds) = true
    rw [lay_good d h.1, lay_goods ds h.2]; rfl
end
theorem shaped_good {d : PyData} (h : good d = true) (h2 : (keyD d).depth ≤ 40) : SeqAt.shaped d = true := by
  unfold SeqAt.shaped
  rw [lay_good d h, depth_good d h]
  simp; omega
theorem goods_all : ∀ {ds : List PyData}, (∀ d ∈ ds, good d = true) → goods ds = true
  | [], _ => rfl
  | d :: ds, h => by
    unfold goods
    rw [h d List.mem_cons_self, goods_all fun e he => h e (List.mem_cons_of_mem _ he)]; rfl
theorem depth_all {c : Nat} : ∀ {ds : List PyData}, (∀ d ∈ ds, (keyD d).depth ≤ c) → NestedKey.depthAll (keyDs ds) ≤ c
  | [], _ => Nat.zero_le _
  | d :: ds, h => by
    show max (keyD d).depth (NestedKey.depthAll (keyDs ds)) ≤ c
    exact Nat.max_le.mpr ⟨h d List.mem_cons_self, depth_all fun e he => h e (List.mem_cons_of_mem _ he)⟩
theorem shaped_tup {ds : List PyData} (h : ∀ d ∈ ds, good d = true ∧ (keyD d).depth ≤ 30) : SeqAt.shaped (.tuple ds) = true := by
  refine shaped_good (by unfold good; exact goods_all fun d hd => (h d hd).1) ?_
  show NestedKey.depthAll (keyDs ds) + 1 ≤ 40
  have := depth_all (c := 30) fun d hd => (h d hd).2
  omega
theorem shaped_lst {ds : List PyData} (h : ∀ d ∈ ds, good d = true ∧ (keyD d).depth ≤ 30) : SeqAt.shaped (.list ds) = true := by
  have z := shaped_tup h
  unfold SeqAt.shaped at *
  exact z
theorem good_int (i : Int) : good (.int i) = true ∧ (keyD (.int i)).depth ≤ 30 := ⟨rfl, by show 0 ≤ 30; decide⟩
theorem good_key {d : PyData} (k : KeyD d) : good d = true ∧ (keyD d).depth ≤ 30 := ⟨k.good, by have := k.depth; omega⟩
section
variable {K : PySem.W.Frag} {σ : St} {H H' : Hp} {te : TE} {ds : List PyData}
theorem dv_eq0 (h : Dv K te σ H (.tuple ds)) (hs : SeqAt.shaped (.tuple ds) = true) : Dv K (tOp (rEqD K) te (tTup tNil)) σ H (.bool ds.isEmpty) :=
  dv_to (dv_eqD h (dv_tup av_nil (by simp)) hs (by decide)) (by cases ds <;> rfl)
theorem dl_eq0 (h : Lw K te σ H ds) (hs : SeqAt.shaped (.list ds) = true) : Dv K (tOp (rEqD K) te (tLst tNil)) σ H (.bool ds.isEmpty) := fun H1 e Q q =>
  h H1 e _ fun p xs H2 e2 hp dl => ⟨Nat.zero_le _, fun r hr => ⟨.list ds, .list [], .lst (.inl (.inl ((Ex.new hr) _ _ hp))) (dl.ex (.new hr)).dp, .lst (.inl (.inl upd_same)) .nil, hs, by decide, by
    have e4 : PyData.eqv (.list ds) (.list []) = ds.isEmpty := by cases ds <;> rfl
    rw [e4]
    exact q _ _ (e2.trans (.new hr)) (.bl _)⟩⟩
theorem dl_ne0 (h : Lw K te σ H ds) (hs : SeqAt.shaped (.list ds) = true) : Dv K (tOp (rNeD K) te (tLst tNil)) σ H (.bool (!ds.isEmpty)) := fun H1 e Q q =>
  h H1 e _ fun p xs H2 e2 hp dl => ⟨Nat.zero_le _, fun r hr => ⟨.list ds, .list [], .lst (.inl (.inl ((Ex.new hr) _ _ hp))) (dl.ex (.new hr)).dp, .lst (.inl (.inl upd_same)) .nil, hs, by decide, by
    have e4 : PyData.eqv (.list ds) (.list []) = ds.isEmpty := by cases ds <;> rfl
    rw [e4]
    exact q _ _ (e2.trans (.new hr)) (.bl _)⟩⟩
/-- the last of a list -/
theorem dv_last {n : Int} (h : Lw K te σ H (ds ++ [.int n])) : Dv K (tOp (rIxL K) te (tUn (rU fun i => .int (-i)) (tC (.int 1)))) σ H (.int n) := fun H1 e Q q =>
  h H1 e _ fun p xs H2 e2 hp dl => ⟨1, rfl, p, xs, -1, .int n, rfl, rfl, .inl (.inl hp), by
    have hl := dl.length
    rw [List.length_append] at hl
    obtain ⟨v, h1, h2⟩ := dl.get (i := ds.length) (d := .int n) (by simp)
    rw [h2.int_of] at h1
    have hne : xs ≠ [] := fun z => by rw [z] at hl; simp at hl
    have e5 : xs = xs.dropLast ++ [.int n] := by
      have e6 : xs.getLast hne = .int n := by
        rw [List.getLast_eq_getElem]
        have e7 : xs.length - 1 = ds.length := by simp at hl; omega
        have := (List.getElem?_eq_some_iff.mp h1).2
        simp only [e7]
        exact this
      rw [← e6]
      exact (List.dropLast_concat_getLast hne).symm
    rw [e5]
    exact atI_last _ _, q _ H2 e2 (.int _)⟩
end
end Wok
namespace Wok
open PySem PySem.Spec PyProof.Rows L2
open Evl (Ex EvT)
section
variable {P : Program} {w : World} {K : PySem.W.Frag} {mg : Str → Option Value} {base : Heap}
/-! ### what things are -/
theorem sc_is_integer : FnScope ["thing"] ["thing"] (defScope s_is_integer) := ⟨rfl, rfl, rfl, by decide +kernel, rfl, by decide +kernel, by decide +kernel⟩
def isIntD (ds : List PyData) : Prop := ∃ n : Nat, ds = [eI n]
theorem cal_is_integer (T : Fr mg) (D : HasD K mg "is_integer" s_is_integer [] []) : Cal P w K mg base 1 "is_integer" ["thing"] [] (SpR K isIntD yes) := by
  refine calR D sc_is_integer (fun ds ⟨n, e⟩ => by rw [e]; rfl) (fun _ _ _ _ _ _ us hl => match us, hl with | [_], _ => rfl) fun f cdv A outer s H vs ds Q E hr hd ⟨n, e⟩ q => ?_
  subst e
  obtain ⟨x, rfl, dx⟩ := hd.one
  refine ⟨_, (pss_one (ps_ret (pe_and (pe_callB call_isi (by rfl) T.isinstance (by decide +kernel) (pa_cons (pv 0) (pa_cons (pe_bltn (v := .ty "int") (by rfl) T.int (by decide +kernel) rfl) pa_nil))) (pe_one (pe_not (pe_callB call_isi (by rfl) T.isinstance (by decide +kernel) (pa_cons (pv 0) (pa_cons (pe_bltn (v := .ty "bool") (by rfl) T.bool (by decide +kernel) rfl) pa_nil)))))))), ?_⟩
  refine sd_ret (dv_and (dv_isInt (dv_var (j := 0) rfl dx)) fun _ => dv_not (dv_isBool (dv_var (j := 0) rfl dx))) fun v H1 e dv => q _ v H1 rfl e dv
theorem sc_is_number : FnScope ["thing"] ["thing"] (defScope s_is_number) := ⟨rfl, rfl, rfl, by decide +kernel, rfl, by decide +kernel, by decide +kernel⟩
theorem cal_is_number (T : Fr mg) (D : HasD K mg "is_number" s_is_number [] []) (C_is_integer : Cal P w K mg base 1 "is_integer" ["thing"] [] (SpR K isIntD yes)) : Cal P w K mg base 2 "is_number" ["thing"] [] (SpR K isIntD yes) := by
  refine calR D sc_is_number (fun ds ⟨n, e⟩ => by rw [e]; rfl) (fun _ _ _ _ _ _ us hl => match us, hl with | [_], _ => rfl) fun f cdv A outer s H vs ds Q E hr hd ⟨n, e⟩ q => ?_
  subst e
  obtain ⟨x, rfl, dx⟩ := hd.one
  refine ⟨_, (pss_one (ps_ret (pe_and (pe_cal C_is_integer hr (by decide) (pa_cons (pv 0) pa_nil)) (pe_one (pe_cmpR op_ge (pv 0) pe_int (nomark _)))))), ?_⟩
  refine sd_ret (dv_and (dv_call1 (av_cons (dv_var (j := 0) rfl dx) av_nil) ⟨n, rfl⟩ fun d h => h) fun _ => dv_opB (dv_var (j := 0) rfl dx) dv_int) fun v H1 e dv => q _ v H1 ?_ e dv
  show PyData.bool _ = _
  simp
theorem sc_is_pair : FnScope ["thing"] ["thing"] (defScope s_is_pair) := ⟨rfl, rfl, rfl, by decide +kernel, rfl, by decide +kernel, by decide +kernel⟩
def isPairD (ds : List PyData) : Prop := ∃ a b, ds = [.tuple [a, b]]
theorem cal_is_pair (T : Fr mg) (D : HasD K mg "is_pair" s_is_pair [] []) : Cal P w K mg base 1 "is_pair" ["thing"] [] (SpR K isPairD yes) := by
  refine calR D sc_is_pair (fun ds ⟨a, b, e⟩ => by rw [e]; rfl) (fun _ _ _ _ _ _ us hl => match us, hl with | [_], _ => rfl) fun f cdv A outer s H vs ds Q E hr hd ⟨a, b, e⟩ q => ?_
  subst e
  obtain ⟨x, rfl, dx⟩ := hd.one
  refine ⟨_, (pss_one (ps_ret (pe_and (pe_callB call_isi (by rfl) T.isinstance (by decide +kernel) (pa_cons (pv 0) (pa_cons (pe_bltn (v := .ty "tuple") (by rfl) T.tuple (by decide +kernel) rfl) pa_nil))) (pe_one (pe_cmpR op_eq (pe_callB (call_lenK (K := K) rfl) (by rfl) T.len (by decide +kernel) (pa_cons (pv 0) pa_nil)) pe_int (nomark _)))))), ?_⟩
  exact sd_ret (dv_and (dv_isTup (dv_var (j := 0) rfl dx)) fun _ => dv_eqI (dv_len (dv_var (j := 0) rfl dx)) dv_int) fun v H1 e dv => q _ v H1 rfl e dv
theorem sc_is_by_form : FnScope ["thing", "one"] ["thing"] (defScope s_is_by_form) := ⟨rfl, rfl, rfl, by decide +kernel, rfl, by decide +kernel, by decide +kernel⟩
def isRowD (ds : List PyData) : Prop := ∃ r : List (Nat × Nat), ds = [eR r] ∧ 0 < r.length ∧ r.length ≤ 100000
theorem cal_is_by_form (T : Fr mg) (D : HasD K mg "is_by_form" s_is_by_form [] []) (C_is_pair : Cal P w K mg base 1 "is_pair" ["thing"] [] (SpR K isPairD yes)) (C_is_number : Cal P w K mg base 2 "is_number" ["thing"] [] (SpR K isIntD yes)) :
    Cal P w K mg base 3 "is_by_form" ["thing"] [] (SpR K isRowD yes) := by
  refine calR D sc_is_by_form (fun ds ⟨n, e, _⟩ => by rw [e]; rfl) (fun _ _ _ _ _ _ us hl => match us, hl with | [_], _ => rfl) fun f cdv A outer s H vs ds Q E hr hd ⟨r, e, h0, h1⟩ q => ?_
  subst e
  obtain ⟨x, rfl, dx⟩ := hd.one
  refine ⟨_, (pss_cons (ps_if (PW.pt (pw_or (pt_not (pt_val (pe_callB call_isi (by rfl) T.isinstance (by decide +kernel) (pa_cons (pv 0) (pa_cons (pe_bltn (v := .ty "tuple") (by rfl) T.tuple (by decide +kernel) rfl) pa_nil))))) (pw_or1 (pt_cmpR op_eq (pe_callB (call_lenK (K := K) rfl) (by rfl) T.len (by decide +kernel) (pa_cons (pv 0) pa_nil)) pe_int (nomark _))))) (pss_one ps_never) pss_nil)
      (pss_one (ps_ret (pe_callB (cr_all rfl) (by rfl) T.all (by decide +kernel) (pa_cons (pe_lc (own := [("one", 1)]) (g := gName 1) (by rfl) sc_is_by_form.nd (pi_tupK (K := K) rfl (pv 0)) (blkOk_by (N := ["thing", "one"]) (sc := defScope s_is_by_form) (by decide +kernel)) (fun _ _ _ _ _ => (pg_name (i := 1) sc_is_by_form.nd rfl (Or.inl rfl))) (fun _ _ _ _ _ => pts_nil) (fun _ _ _ _ _ => (pe_and (pe_cal C_is_pair hr (by decide) (pa_cons (pv 1) pa_nil)) (pe_and (pe_cal C_is_number hr (by decide) (pa_cons (pe_ix (ix_tupK (K := K) rfl) (pv 1) pe_int (fun _ _ => rfl)) pa_nil)) (pe_one (pe_cal C_is_number hr (by decide) (pa_cons (pe_ix (ix_tupK (K := K) rfl) (pv 1) pe_int (fun _ _ => rfl)) pa_nil))))))) pa_nil))))), ?_⟩
  have lenR : (r.map eP).length = r.length := List.length_map ..
  refine qd_no (et_to (Evl.et_or (Evl.et_not (et_val (dv_isTup (dv_var (j := 0) rfl dx)))) fun _ => et_of (dv_eqI (dv_len (dv_var (j := 0) rfl dx)) dv_int)) ?_) fun H1 e1 => ?_
  · simp; intro z; subst z; simp at h0
  · refine sd_ret (dv_all (bs := r.map fun _ => true) (lv_to (lv_map (iv_tup .nil (dv_var (j := 0) rfl (dx.ex e1))) (by rw [lenR]; omega) (fun _ => .bool true) fun i d y H2 hdd e2 dy R k => ?_) (by simp)).w) fun v H2 e dv => q _ v H2 ?_ (e1.trans e) dv
    · obtain ⟨p, _, rfl⟩ := of_eR hdd
      refine k _ rfl ?_
      exact dv_to (dv_and (dv_yes (av_cons (dv_var (j := 1) rfl dy) av_nil) ⟨_, _, rfl⟩) fun _ => dv_and (dv_yes (av_cons (dv_ix (i := 0) (d := eI p.1) (dv_var (j := 1) rfl dy) dv_int rfl) av_nil) ⟨_, rfl⟩) fun _ => dv_yes (av_cons (dv_ix (i := 1) (d := eI p.2) (dv_var (j := 1) rfl dy) dv_int rfl) av_nil) ⟨_, rfl⟩) rfl
    · show PyData.bool _ = _
      simp
theorem sc_machine_fault : FnScope ["thing", "k", "standing", "x", "late", "answer"] ["thing"] (defScope s_machine_fault) := ⟨rfl, rfl, rfl, by decide +kernel, rfl, by decide +kernel, by decide +kernel⟩
def isMachD (ds : List PyData) : Prop := ∃ m w, ds = [eM m] ∧ OkM m w
theorem eM_len {m : Mach} : (m.map eR).length = m.length := List.length_map ..
theorem OkM.row {m : Mach} {w : Nat} (o : OkM m w) {i : Nat} {r : List (Nat × Nat)} (h : m[i]? = some r) : r.length = w := o.len r (List.mem_of_getElem? h)
theorem cal_machine_fault (T : Fr mg) (D : HasD K mg "machine_fault" s_machine_fault [] []) (C_is_by_form : Cal P w K mg base 3 "is_by_form" ["thing"] [] (SpR K isRowD yes)) :
    Cal P w K mg base 4 "machine_fault" ["thing"] [] (SpR K isMachD noneR) := by
  refine calR D sc_machine_fault (fun ds ⟨n, _, e, _⟩ => by rw [e]; rfl) (fun _ _ _ _ _ _ us hl => match us, hl with | [_], _ => rfl) fun f cdv A outer s H vs ds Q E hr hd ⟨m, wd, e, ok⟩ q => ?_
  subst e
  obtain ⟨x, rfl, dx⟩ := hd.one
  have ne := ok.ne
  refine ⟨_, (pss_cons (ps_if (PW.pt (pw_or (pt_not (pt_val (pe_callB call_isi (by rfl) T.isinstance (by decide +kernel) (pa_cons (pv 0) (pa_cons (pe_bltn (v := .ty "tuple") (by rfl) T.tuple (by decide +kernel) rfl) pa_nil))))) (pw_or1 (pt_cmpR op_eq (pe_callB (call_lenK (K := K) rfl) (by rfl) T.len (by decide +kernel) (pa_cons (pv 0) pa_nil)) pe_int (nomark _))))) (pss_one ps_never) pss_nil)
      (pss_cons (ps_for PassesOwn.never rfl (pi_enumT (by rfl) T.enumerate (pa_cons (pv 0) pa_nil)) (pg_tup (by rfl) (pgs_cons (pg_name (i := 1) sc_machine_fault.nd rfl (Or.inl rfl)) (pgs_cons (pg_name (i := 2) sc_machine_fault.nd rfl (Or.inl rfl)) pgs_nil)))
      (pss_cons (ps_if (pt_not (pt_val (pe_cal C_is_by_form hr (by decide) (pa_cons (pv 2) pa_nil)))) (pss_one ps_never) pss_nil)
      (pss_one (ps_if (pt_cmpR op_ne (pe_callB (call_lenK (K := K) rfl) (by rfl) T.len (by decide +kernel) (pa_cons (pv 2) pa_nil)) (pe_callB (call_lenK (K := K) rfl) (by rfl) T.len (by decide +kernel) (pa_cons (pe_ix (ix_tupK (K := K) rfl) (pv 0) pe_int (fun _ _ => rfl)) pa_nil)) (nomark _)) (pss_one ps_never) pss_nil))))
      (pss_cons (ps_for PassesOwn.never rfl (pi_enumT (by rfl) T.enumerate (pa_cons (pv 0) pa_nil)) (pg_tup (by rfl) (pgs_cons (pg_name (i := 1) sc_machine_fault.nd rfl (Or.inl rfl)) (pgs_cons (pg_name (i := 2) sc_machine_fault.nd rfl (Or.inl rfl)) pgs_nil)))
      (pss_one (ps_for PassesOwn.never rfl (pi_enumT (by rfl) T.enumerate (pa_cons (pv 2) pa_nil)) (pg_tup (by rfl) (pgs_cons (pg_name (i := 3) sc_machine_fault.nd rfl (Or.inl rfl)) (pgs_cons (pg_tup (by rfl) (pgs_cons (pg_name (i := 4) sc_machine_fault.nd rfl (Or.inl rfl)) (pgs_cons (pg_name (i := 5) sc_machine_fault.nd rfl (Or.inl rfl)) pgs_nil))) pgs_nil)))
      (pss_one (ps_if (pt_cmpR op_ge (pv 4) (pe_callB (call_lenK (K := K) rfl) (by rfl) T.len (by decide +kernel) (pa_cons (pv 0) pa_nil)) (nomark _)) (pss_one ps_never) pss_nil)))))
      (pss_one (ps_ret pe_non))))), ?_⟩
  refine qd_no (et_to (Evl.et_or (Evl.et_not (et_val (dv_isTup (dv_var (j := 0) rfl dx)))) fun _ => et_of (dv_eqI (dv_len (dv_var (j := 0) rfl dx)) dv_int)) ?_) fun H1 e1 => ?_
  · simp; intro z; subst z; simp at ne
  refine q_forD (S := []) (iv_enum .nil (dv_var (j := 0) rfl (dx.ex e1))) (fun i σ' H' => ∃ y1 y2 y3 y4 y5, σ' = [some x, y1, y2, y3, y4, y5]) (fun H2 e2 => ⟨_, _, _, _, _, rfl⟩) (fun i d y σ' H2 H3 hdd mu hP e3 dy => ?_) (fun σ' H2 mu hP => ?_)
  · obtain ⟨y1, y2, y3, y4, y5, rfl⟩ := hP
    rw [enumD_get] at hdd
    obtain ⟨d0, h0, rfl⟩ := Option.map_eq_some_iff.mp hdd
    obtain ⟨r, hr', rfl⟩ := of_eM h0
    have lr := ok.row hr'
    have dx3 := (dx.ex e1).mono (K := K) ((mu.kp .nil).trans (.ex e3))
    refine g_two dy fun v1 v2 d1 d2 => ?_
    refine qd_no (et_to (Evl.et_not (et_val (dv_yes (av_cons (dv_var (j := 2) rfl d2) av_nil) ⟨r, rfl, by rw [lr]; exact ok.wd, by rw [lr]; exact ok.fw⟩))) rfl) fun H4 e4 => ?_
    refine sd_no (et_to (et_of (dv_neI (dv_len (dv_var (j := 2) rfl (d2.ex e4))) (dv_len (dv_ix (i := 0) (dv_var (j := 0) rfl (dx3.ex e4)) dv_int (eM_get (List.getElem?_eq_getElem ne)))))) ?_) fun H5 e5 => ⟨.ex (e3.trans (e4.trans e5)), _, _, _, _, _, rfl⟩
    have l0 := ok.row (List.getElem?_eq_getElem ne)
    simp [lr, l0]
  · obtain ⟨y1, y2, y3, y4, y5, rfl⟩ := hP
    have dx2 := (dx.ex e1).mono (K := K) (mu.kp .nil)
    refine q_forD (S := []) (iv_enum .nil (dv_var (j := 0) rfl dx2)) (fun i σ' H' => ∃ y1 y2 y3 y4 y5, σ' = [some x, y1, y2, y3, y4, y5]) (fun H2 e2 => ⟨_, _, _, _, _, rfl⟩) (fun i d y σ' H3 H4 hdd mu2 hP e4 dy => ?_) (fun σ' H3 mu3 hP => ?_)
    · obtain ⟨y1, y2, y3, y4, y5, rfl⟩ := hP
      rw [enumD_get] at hdd
      obtain ⟨d0, h0, rfl⟩ := Option.map_eq_some_iff.mp hdd
      obtain ⟨r, hr', rfl⟩ := of_eM h0
      have dx4 := dx2.mono (K := K) ((mu2.kp .nil).trans (.ex e4))
      refine g_two dy fun v1 v2 d1 d2 => ?_
      refine s_forD (S := []) (iv_enum .nil (dv_var (j := 2) rfl d2)) (fun i σ' H' => ∃ y1 y2 y3 y4 y5, σ' = [some x, y1, y2, y3, y4, y5]) (fun H2 e2 => ⟨_, _, _, _, _, rfl⟩) (fun i' d' y' σ' H5 H6 hdd' mu5 hP e6 dy' => ?_) (fun σ' H5 mu5 hP => ⟨(Mu.ex e4).trans mu5, hP⟩)
      obtain ⟨y1, y2, y3, y4, y5, rfl⟩ := hP
      rw [enumD_get] at hdd'
      obtain ⟨d0, h0, rfl⟩ := Option.map_eq_some_iff.mp hdd'
      obtain ⟨p, hp, rfl⟩ := of_eR h0
      refine g_pair dy' fun w1 w2 dw1 dw2 => ?_
      refine g_two dw2 fun u1 u2 du1 du2 => ?_
      refine sd_no (et_to (et_of (dv_opB (dv_var (j := 4) rfl du1) (dv_len (dv_var (j := 0) rfl (dx4.mono (K := K) ((mu5.kp .nil).trans (.ex e6))))))) ?_) fun H7 e7 => ⟨.ex (e6.trans e7), _, _, _, _, _, rfl⟩
      have := ok.nx r (List.mem_of_getElem? hr') p (List.mem_of_getElem? hp)
      simp [eM_len]; omega
    · obtain ⟨y1, y2, y3, y4, y5, rfl⟩ := hP
      exact sd_ret dv_non fun v H4 e4 dv => q _ v H4 rfl (e1.trans (mu.to_ex.trans (mu3.to_ex.trans e4))) dv
theorem sc_is_machine : FnScope ["thing"] ["thing"] (defScope s_is_machine) := ⟨rfl, rfl, rfl, by decide +kernel, rfl, by decide +kernel, by decide +kernel⟩
theorem cal_is_machine (T : Fr mg) (D : HasD K mg "is_machine" s_is_machine [] []) (C_machine_fault : Cal P w K mg base 4 "machine_fault" ["thing"] [] (SpR K isMachD noneR)) :
    Cal P w K mg base 5 "is_machine" ["thing"] [] (SpR K isMachD yes) := by
  refine calR D sc_is_machine (fun ds ⟨n, _, e, _⟩ => by rw [e]; rfl) (fun _ _ _ _ _ _ us hl => match us, hl with | [_], _ => rfl) fun f cdv A outer s H vs ds Q E hr hd ⟨m, wd, e, ok⟩ q => ?_
  subst e
  obtain ⟨x, rfl, dx⟩ := hd.one
  refine ⟨_, (pss_one (ps_ret (pe_cmpR op_isN (pe_cal C_machine_fault hr (by decide) (pa_cons (pv 0) pa_nil)) pe_non (nomark _)))), ?_⟩
  refine sd_ret (dv_isN (dv_call (av_cons (dv_var (j := 0) rfl dx) av_nil) ⟨m, wd, rfl, ok⟩)) fun v H1 e ⟨u, ⟨d, hd, du⟩, ev⟩ => ?_
  rw [ev]
  have hd' : d = .none := hd
  subst hd'
  rw [du.non_of]
  exact q _ _ H1 rfl e (.bl true)
end
end Wok
namespace Wok
open PySem PySem.Spec PyProof.Rows L2
open Evl (Ex EvT)
section
variable {P : Program} {w : World} {K : PySem.W.Frag} {mg : Str → Option Value} {base : Heap}
/-! ### what is wanted -/
theorem sc_want : FnScope ["is_right", "word", "at"] ["is_right", "word", "at"] (defScope s_want) := ⟨rfl, rfl, rfl, by decide +kernel, rfl, by decide +kernel, by decide +kernel⟩
def wantD (ds : List PyData) : Prop := ∃ a b, ds = [.bool true, a, b]
theorem cal_want (T : Fr mg) (D : HasD K mg "want" s_want [.int (-1)] []) : Cal P w K mg base 1 "want" ["is_right", "word", "at"] [.int (-1)] (SpR K wantD noneR) := by
  refine calRB D sc_want (fun ds ⟨a, b, e⟩ => by rw [e]; rfl) (fun f fd F => FunD.binds1 F 2 0 (by simp) rfl fun T kV doc pm an cdv ct us its hu hi => match us, its, hu, hi with | [_, _], [_], _, _ => ⟨_, rfl, rfl⟩) fun f cdv A outer s H vs ds Q E hr hd ⟨a, b, e⟩ q => ?_
  subst e
  obtain ⟨x, x2, x3, rfl, dx, d2, d3⟩ := hd.three
  refine ⟨_, (pss_one (ps_if (pt_not (pt_val (pv 0))) (pss_one ps_never) pss_nil)), ?_⟩
  exact sd_no (et_to (Evl.et_not (et_val (dv_var (j := 0) rfl dx))) rfl) fun H1 e1 => q _ _ H1 rfl e1 .non
theorem sc_want_machine : FnScope ["machine", "word"] ["machine", "word"] (defScope s_want_machine) := ⟨rfl, rfl, rfl, by decide +kernel, rfl, by decide +kernel, by decide +kernel⟩
def wantMD (ds : List PyData) : Prop := ∃ m wd x, ds = [eM m, .str x] ∧ OkM m wd
theorem cal_want_machine (T : Fr mg) (D : HasD K mg "want_machine" s_want_machine [.str "machine"] []) (C_want : Cal P w K mg base 1 "want" ["is_right", "word", "at"] [.int (-1)] (SpR K wantD noneR))
    (C_is_machine : Cal P w K mg base 5 "is_machine" ["thing"] [] (SpR K isMachD yes)) : Cal P w K mg base 6 "want_machine" ["machine", "word"] [] (SpR K wantMD noneR) := by
  refine calRB D sc_want_machine (fun ds ⟨a, b, _, e, _⟩ => by rw [e]; rfl) (fun f fd F => FunD.binds1 F 2 1 (by simp) rfl fun T kV doc pm an cdv ct us its hu hi => match us, its, hu, hi with | [_, _], [_], _, _ => ⟨_, rfl, rfl⟩) fun f cdv A outer s H vs ds Q E hr hd ⟨m, wd, y, e, ok⟩ q => ?_
  subst e
  obtain ⟨x, x2, rfl, dx, d2⟩ := hd.two
  refine ⟨_, (pss_one (ps_expr (pe_cal C_want hr (by decide) (pa_cons (pe_cal C_is_machine hr (by decide) (pa_cons (pv 0) pa_nil)) (pa_cons (pv 1) pa_nil))))), ?_⟩
  exact sd_drop (dv_callD (dd := [.int (-1)]) (fun H => .cons (.int _) .nil) (av_cons (dv_yes (av_cons (dv_var (j := 0) rfl dx) av_nil) ⟨m, wd, rfl, ok⟩) (av_cons (dv_var (j := 1) rfl d2) av_nil)) ⟨_, _, rfl⟩) fun H1 e1 => q _ _ H1 rfl e1 .non
def bothD (ds : List PyData) : Prop := ∃ m1 m2 wd, ds = [eM m1, eM m2] ∧ OkM m1 wd ∧ OkM m2 wd
theorem sc_want_both : FnScope ["one", "other"] ["one", "other"] (defScope s_want_both) := ⟨rfl, rfl, rfl, by decide +kernel, rfl, by decide +kernel, by decide +kernel⟩
theorem cal_want_both (T : Fr mg) (D : HasD K mg "want_both" s_want_both [] []) (C_want : Cal P w K mg base 1 "want" ["is_right", "word", "at"] [.int (-1)] (SpR K wantD noneR))
    (C_is_machine : Cal P w K mg base 5 "is_machine" ["thing"] [] (SpR K isMachD yes)) (C_want_machine : Cal P w K mg base 6 "want_machine" ["machine", "word"] [] (SpR K wantMD noneR)) : Cal P w K mg base 7 "want_both" ["one", "other"] [] (SpR K bothD noneR) := by
  refine calR D sc_want_both (fun ds ⟨a, b, _, e, _⟩ => by rw [e]; rfl) (fun _ _ _ _ _ _ us hl => match us, hl with | [_, _], _ => rfl) fun f cdv A outer s H vs ds Q E hr hd ⟨m1, m2, wd, e, ok1, ok2⟩ q => ?_
  subst e
  obtain ⟨x, x2, rfl, dx, d2⟩ := hd.two
  refine ⟨_, (pss_cons (ps_expr (pe_cal C_want_machine hr (by decide) (pa_cons (pv 0) (pa_cons pe_str pa_nil))))
      (pss_one (ps_expr (pe_cal C_want hr (by decide) (pa_cons (pe_and (pe_cal C_is_machine hr (by decide) (pa_cons (pv 1) pa_nil)) (pe_one (pe_cmpR op_eq (pe_callB (call_lenK (K := K) rfl) (by rfl) T.len (by decide +kernel) (pa_cons (pe_ix (ix_tupK (K := K) rfl) (pv 1) pe_int (fun _ _ => rfl)) pa_nil)) (pe_callB (call_lenK (K := K) rfl) (by rfl) T.len (by decide +kernel) (pa_cons (pe_ix (ix_tupK (K := K) rfl) (pv 0) pe_int (fun _ _ => rfl)) pa_nil)) (nomark _)))) (pa_cons pe_str pa_nil)))))), ?_⟩
  refine qd_drop (dv_nonR (av_cons (dv_var (j := 0) rfl dx) (av_cons dv_str av_nil)) ⟨m1, wd, _, rfl, ok1⟩) fun H1 e1 => ?_
  refine sd_drop (dv_callD (dd := [.int (-1)]) (fun H => .cons (.int _) .nil) (av_cons (d := .bool true) (dv_to (dv_and (dv_yes (av_cons (dv_var (j := 1) rfl (d2.ex e1)) av_nil) ⟨m2, wd, rfl, ok2⟩) fun _ => dv_eqI (dv_len (dv_ix (i := 0) (dv_var (j := 1) rfl (d2.ex e1)) dv_int (eM_get (List.getElem?_eq_getElem ok2.ne)))) (dv_len (dv_ix (i := 0) (dv_var (j := 0) rfl (dx.ex e1)) dv_int (eM_get (List.getElem?_eq_getElem ok1.ne))))) ?_) (av_cons dv_str av_nil)) ⟨_, _, rfl⟩) fun H2 e2 => q _ _ H2 rfl (e1.trans e2) .non
  simp [ok1.row (List.getElem?_eq_getElem ok1.ne), ok2.row (List.getElem?_eq_getElem ok2.ne)]
theorem sc_want_case : FnScope ["one", "other", "beats", "guard"] ["one", "other", "beats", "guard"] (defScope s_want_case) := ⟨rfl, rfl, rfl, by decide +kernel, rfl, by decide +kernel, by decide +kernel⟩
def caseD (ds : List PyData) : Prop := ∃ m1 m2 wd, ds = [eM m1, eM m2, eI 0, .none] ∧ OkM m1 wd ∧ OkM m2 wd
theorem cal_want_case (T : Fr mg) (D : HasD K mg "want_case" s_want_case [] []) (C_want : Cal P w K mg base 1 "want" ["is_right", "word", "at"] [.int (-1)] (SpR K wantD noneR))
    (C_is_number : Cal P w K mg base 2 "is_number" ["thing"] [] (SpR K isIntD yes)) (C_want_both : Cal P w K mg base 7 "want_both" ["one", "other"] [] (SpR K bothD noneR)) : Cal P w K mg base 8 "want_case" ["one", "other", "beats", "guard"] [] (SpR K caseD noneR) := by
  refine calR D sc_want_case (fun ds ⟨a, b, _, e, _⟩ => by rw [e]; rfl) (fun _ _ _ _ _ _ us hl => match us, hl with | [_, _, _, _], _ => rfl) fun f cdv A outer s H vs ds Q E hr hd ⟨m1, m2, wd, e, ok1, ok2⟩ q => ?_
  subst e
  obtain ⟨x, x2, x3, x4, rfl, dx, d2, d3, d4⟩ := hd.four
  refine ⟨_, (pss_cons (ps_expr (pe_cal C_want_both hr (by decide) (pa_cons (pv 0) (pa_cons (pv 1) pa_nil))))
      (pss_cons (ps_expr (pe_cal C_want hr (by decide) (pa_cons (pe_cal C_is_number hr (by decide) (pa_cons (pv 2) pa_nil)) (pa_cons pe_str pa_nil))))
      (pss_one (ps_expr (pe_cal C_want hr (by decide) (pa_cons (pe_or (pe_cmpR op_isN (pv 3) pe_non (nomark _)) (pe_one pe_no)) (pa_cons pe_str pa_nil))))))), ?_⟩
  refine qd_drop (dv_nonR (av_cons (dv_var (j := 0) rfl dx) (av_cons (dv_var (j := 1) rfl d2) av_nil)) ⟨m1, m2, wd, rfl, ok1, ok2⟩) fun H1 e1 => ?_
  refine qd_drop (dv_callD (dd := [.int (-1)]) (fun H => .cons (.int _) .nil) (av_cons (dv_yes (av_cons (dv_var (j := 2) rfl (d3.ex e1)) av_nil) ⟨_, rfl⟩) (av_cons dv_str av_nil)) ⟨_, _, rfl⟩) fun H2 e2 => ?_
  have e4 := d4.non_of
  subst e4
  refine sd_drop (dv_callD (dd := [.int (-1)]) (fun H => .cons (.int _) .nil) (av_cons (d := .bool true) (dv_to (dv_or (b := true) (b' := true) (rv_dv (dv_isN (rv_var (j := 3) rfl)) fun v H' ⟨u, h1, h2⟩ => by subst h1; rw [h2]; exact .bl _) fun z => (nomatch z)) rfl) (av_cons dv_str av_nil)) ⟨_, _, rfl⟩) fun H3 e3 => q _ _ H3 rfl (e1.trans (e2.trans e3)) .non
/-! ### the work on machines -/
theorem sc_as_set : FnScope ["things"] ["things"] (defScope s_as_set) := ⟨rfl, rfl, rfl, by decide +kernel, rfl, by decide +kernel, by decide +kernel⟩
def setID (ds : List PyData) : Prop := ∃ ns : List Nat, ds = ns.map eI ∧ ns.length < 64
def setIR (ds : List PyData) (d : PyData) : Prop := ∃ ns ms : List Nat, ds = ns.map eI ∧ d = eS ms ∧ ms.Pairwise (· < ·) ∧ ∀ i, i ∈ ms ↔ i ∈ ns
theorem eI_map (ns : List Nat) : ns.map eI = (ns.map fun (n : Nat) => (n : Int)).map PyData.int := by rw [List.map_map]; rfl
theorem nat_sorted {ns : List Nat} {ms : List Int} (h : ms.Pairwise (· < ·)) (hm : ∀ k, k ∈ ms ↔ k ∈ ns.map fun (n : Nat) => (n : Int)) : ∃ rs : List Nat, ms = rs.map (fun (n : Nat) => (n : Int)) ∧ rs.Pairwise (· < ·) ∧ ∀ i, i ∈ rs ↔ i ∈ ns := by
  have hp : ∀ k ∈ ms, ∃ n : Nat, k = n := fun k hk => by
    obtain ⟨n, _, e⟩ := List.mem_map.mp ((hm k).mp hk)
    exact ⟨n, e.symm⟩
  have e : ms = (ms.map Int.toNat).map (fun n : Nat => (n : Int)) := by
    rw [List.map_map]
    refine (List.map_id ms).symm.trans (List.map_congr_left fun k hk => ?_)
    obtain ⟨n, rfl⟩ := hp k hk
    rfl
  refine ⟨ms.map Int.toNat, e, ?_, fun i => ?_⟩
  · rw [e] at h
    rw [List.pairwise_map] at h
    exact h.imp fun q => by omega
  · have z := hm (i : Int)
    rw [e] at z
    have inj : ∀ l : List Nat, ((i : Int) ∈ l.map fun (n : Nat) => (n : Int)) ↔ i ∈ l := fun l => by
      rw [List.mem_map]
      exact ⟨fun ⟨n, h1, h2⟩ => by rw [show i = n by omega]; exact h1, fun h => ⟨i, h, rfl⟩⟩
    rw [inj, inj] at z
    exact z
theorem cal_as_setI (T : Fr mg) (D : HasD K mg "as_set" s_as_set [] []) : Cal P w K mg base 1 "as_set" ["things"] [] (SpN K setID setIR) := by
  refine calN D sc_as_set (fun _ _ _ _ _ _ us hl => match us, hl with | [_], _ => rfl) fun f cdv A outer s H p xs ds Q E hr hp dl ⟨ns, e, hn⟩ q => ?_
  subst e
  refine ⟨_, (pss_one (ps_ret (pe_tupleOfK (K := K) rfl (by rfl) T.tuple (pe_callB (L2.cr_sortedSet rfl) (by rfl) T.sorted (by decide +kernel) (pa_cons (pe_callTy (cr_setI rfl) (by rfl) T.set (by decide +kernel) (pa_cons (pv 0) pa_nil)) pa_nil))))), ?_⟩
  refine sd_ret (P := fun v H' => ∃ ms : List Nat, Dt K H' v (eS ms) ∧ ms.Pairwise (· < ·) ∧ ∀ i, i ∈ ms ↔ i ∈ ns) (fun H1 e1 Q1 q1 => ?_) fun v H1 e1 ⟨ms, dv, h1, h2⟩ => q (eS ms) v H1 ⟨ns, ms, rfl, rfl, h1, h2⟩ e1 dv
  rw [eI_map] at dl
  have ex := dl.of_ints
  subst ex
  refine ⟨.ref p, rfl, p, _, rfl, .inl (.inl (e1 _ _ hp)), by simpa using (by omega : ns.length ≤ 1000), fun a c na hc => ?_⟩
  refine ⟨a, _, c, rfl, upd_same, by simp at hc; omega, fun ms r h1 h2 _ nr => ?_⟩
  obtain ⟨rs, rfl, h3, h4⟩ := nat_sorted (ns := ns) h1 (fun k => by rw [h2 k]; simp)
  refine .inl ⟨r, _, rfl, .inl (.inl upd_same), fun u nu => q1 _ _ ((Ex.new na).trans ((Ex.new nr).trans (.new nu))) ⟨rs, ?_, h3, h4⟩⟩
  refine .tup (.inl (.inl upd_same)) ?_
  rw [eI_map]
  exact .ints _
def setKD (ds : List PyData) : Prop := ds.length ≤ 1000 ∧ (∀ d ∈ ds, KeyD d) ∧ ∀ d ∈ ds, ∀ e ∈ ds, PySem.W.alike d e = true
def setKR (ds : List PyData) (d : PyData) : Prop := ∃ es, d = .tuple es ∧ (∀ d ∈ es, d ∈ ds) ∧ (∀ d ∈ ds, d ∈ es) ∧ es.length ≤ ds.length
theorem cal_as_setK (T : Fr mg) (D : HasD K mg "as_set" s_as_set [] []) : Cal P w K mg base 1 "as_set" ["things"] [] (SpN K setKD setKR) := by
  refine calN D sc_as_set (fun _ _ _ _ _ _ us hl => match us, hl with | [_], _ => rfl) fun f cdv A outer s H p xs ds Q E hr hp dl ⟨hn, hk, hal⟩ q => ?_
  refine ⟨_, (pss_one (ps_ret (pe_tupleOfK (K := K) rfl (by rfl) T.tuple (pe_callB (cr_sortedN rfl hr.units) (by rfl) T.sorted (by decide +kernel) (pa_cons (pe_callTy (cr_setN rfl hr.units) (by rfl) T.set (by decide +kernel) (pa_cons (pv 0) pa_nil)) pa_nil))))), ?_⟩
  refine sd_ret (P := fun v H' => ∃ es, Dt K H' v (.tuple es) ∧ (∀ d ∈ es, d ∈ ds) ∧ (∀ d ∈ ds, d ∈ es) ∧ es.length ≤ ds.length) (fun H1 e1 Q1 q1 => ?_) fun v H1 e1 ⟨es, dv, h1, h2, h3⟩ => q _ v H1 ⟨es, rfl, h1, h2, h3⟩ e1 dv
  refine lv_sortedN (w := w) (lw_var (j := 0) rfl hp dl) hn hk hal H1 e1 _ fun r ys es H2 nr e2 hr2 dl2 h1 h2 h3 => ?_
  exact .inl ⟨r, ys, rfl, .inl (.inl hr2), fun u nu => q1 _ _ (e2.trans (.new nu)) ⟨es, .tup (.inl (.inl upd_same)) (dl2.ex (.new nu)), h1, h2, h3⟩⟩
end
end Wok
namespace Wok
open PySem PySem.Spec PyProof.Rows L2
open Evl (Ex EvT)
theorem sort_range (n : Nat) : (List.range n).map (fun (i : Nat) => PyData.int i) = (List.range n).map eI := rfl
theorem rangeD_eq (n : Nat) : rangeD (n : Nat) = (List.range n).map eI := rfl
section
variable {P : Program} {w : World} {K : PySem.W.Frag} {mg : Str → Option Value} {base : Heap}
theorem sc_all_standings : FnScope ["machine"] ["machine"] (defScope s_all_standings) := ⟨rfl, rfl, rfl, by decide +kernel, rfl, by decide +kernel, by decide +kernel⟩
def machD (ds : List PyData) : Prop := ∃ m wd, ds = [eM m] ∧ OkM m wd
def allR (ds : List PyData) (d : PyData) : Prop := ∃ m, ds = [eM m] ∧ d = eS (List.range m.length)
theorem eM_inj {m m' : Mach} (h : eM m = eM m') : m = m' := by
  have e1 := PyData.tuple.inj h
  have inj : ∀ p q : Nat × Nat, eP p = eP q → p = q := fun p q h => by
    have h1 := PyData.tuple.inj h
    simp [eI] at h1
    exact Prod.ext (by omega) (by omega)
  have injR : ∀ r r' : List (Nat × Nat), eR r = eR r' → r = r' := fun r r' h => (List.map_inj_right inj).mp (PyData.tuple.inj h)
  exact (List.map_inj_right injR).mp e1
theorem cal_all_standings (T : Fr mg) (D : HasD K mg "all_standings" s_all_standings [] []) : Cal P w K mg base 1 "all_standings" ["machine"] [] (SpR K machD allR) := by
  refine calR D sc_all_standings (fun ds ⟨a, b, e, _⟩ => by rw [e]; rfl) (fun _ _ _ _ _ _ us hl => match us, hl with | [_], _ => rfl) fun f cdv A outer s H vs ds Q E hr hd ⟨m, wd, e, ok⟩ q => ?_
  subst e
  obtain ⟨x, rfl, dx⟩ := hd.one
  refine ⟨_, (pss_one (ps_ret (pe_tupRg rfl (by rfl) T.tuple (prg_1 (by rfl) T.range (pe_callB (call_lenK (K := K) rfl) (by rfl) T.len (by decide +kernel) (pa_cons (pv 0) pa_nil)))))), ?_⟩
  have fw := ok.few
  refine sd_ret (dv_tupRg (dv_len (dv_var (j := 0) rfl dx)) (by omega) (by rw [eM_len]; omega)) fun v H1 e dv => q _ v H1 ⟨m, rfl, ?_⟩ e dv
  rw [rangeD_eq, eM_len]
  rfl
theorem dv_allS {σ : St} {H : Hp} {t : TA} {E : XK} {m : Mach} {wd : Nat} (ht : Av K t σ H [eM m]) (ok : OkM m wd) : Dv K (tCall (SpR K machD allR) [] E t) σ H (eS (List.range m.length)) := dv_call1 ht ⟨m, wd, rfl, ok⟩ fun d ⟨m', e1, e2⟩ => by
  rw [e2, eM_inj (List.cons.inj e1).1]
theorem sc_goal_by : FnScope ["guard", "place", "letter"] ["guard", "place", "letter"] (defScope s_goal_by) := ⟨rfl, rfl, rfl, by decide +kernel, rfl, by decide +kernel, by decide +kernel⟩
def goalD (ds : List PyData) : Prop := ∃ a b, ds = [.none, a, b]
def zeroR (_ : List PyData) (d : PyData) : Prop := d = eI 0
theorem cal_goal_by (T : Fr mg) (D : HasD K mg "goal_by" s_goal_by [] []) : Cal P w K mg base 1 "goal_by" ["guard", "place", "letter"] [] (SpR K goalD zeroR) := by
  refine calR D sc_goal_by (fun ds ⟨a, b, e⟩ => by rw [e]; rfl) (fun _ _ _ _ _ _ us hl => match us, hl with | [_, _, _], _ => rfl) fun f cdv A outer s H vs ds Q E hr hd ⟨a, b, e⟩ q => ?_
  subst e
  obtain ⟨x, x2, x3, rfl, dx, d2, d3⟩ := hd.three
  refine ⟨_, (pss_one (ps_ret (pe_ifExp (pt_cmpR op_isN (pv 0) pe_non (nomark _)) pe_int (pe_ix (ix_tupK (K := K) rfl) (pe_ix (ix_tupK (K := K) rfl) (pv 0) (pv 1) (fun _ _ => rfl)) (pv 2) (fun _ _ => rfl))))), ?_⟩
  have e4 := dx.non_of
  subst e4
  exact sd_ret (dv_if (b := true) (et_of (dv_isD (dv_var (j := 0) rfl dx))) (fun _ => dv_int) fun z => (nomatch z)) fun v H1 e dv => q _ v H1 rfl e dv
theorem sc_left_by : FnScope ["machine", "standings", "letter", "answer", "pairs", "standing", "late", "told"] ["machine", "standings", "letter", "answer"] (defScope s_left_by) := ⟨rfl, rfl, rfl, by decide +kernel, rfl, by decide +kernel, by decide +kernel⟩
def leftD (ds : List PyData) : Prop := ∃ m wd s x a, ds = [eM m, eS s, eI x, eI a] ∧ OkM m wd ∧ x < wd ∧ (∀ t ∈ s, t < m.length) ∧ s.length < 64
def leftR (ds : List PyData) (d : PyData) : Prop := ∃ m s x a, ds = [eM m, eS s, eI x, eI a] ∧ d = eS (leftOf m s x a)
theorem cal_left_by (T : Fr mg) (D : HasD K mg "left_by" s_left_by [] []) (C_as_set : Cal P w K mg base 1 "as_set" ["things"] [] (SpN K setID setIR)) :
    Cal P w K mg base 2 "left_by" ["machine", "standings", "letter", "answer"] [] (SpR K leftD leftR) := by
  refine calR D sc_left_by (fun ds ⟨_, _, _, _, _, e, _⟩ => by rw [e]; rfl) (fun _ _ _ _ _ _ us hl => match us, hl with | [_, _, _, _], _ => rfl) fun f cdv A outer s H vs ds Q E hr hd ⟨m, wd, ss, x, a, e, ok, hx, hs, hl⟩ q => ?_
  subst e
  obtain ⟨x1, x2, x3, x4, rfl, d1, d2, d3, d4⟩ := hd.four
  refine ⟨_, (pss_cons (ps_setLc (i := 4) (own := [("standing", 5)]) (g := gName 5) (by rfl) sc_left_by.nd rfl rfl (sw_true rfl rfl rfl (by decide +kernel)) (pi_tupK (K := K) rfl (pv 1)) (blkOk_by (N := ["machine", "standings", "letter", "answer", "pairs", "standing", "late", "told"]) (sc := defScope s_left_by) (by decide +kernel)) (fun _ _ _ _ _ => (pg_name (i := 5) sc_left_by.nd rfl (Or.inl rfl))) (fun _ _ _ _ _ => pts_nil) (fun _ _ _ _ _ => (pe_ix (ix_tupK (K := K) rfl) (pe_ix (ix_tupK (K := K) rfl) (pv 0) (pv 5) (fun _ _ => rfl)) (pv 2) (fun _ _ => rfl))))
      (pss_one (ps_ret (pe_cal C_as_set hr (by decide) (pa_cons (pe_lc (own := [("late", 6), ("told", 7)]) (g := gTup K 2 (gCons (gName 6) (gCons (gName 7) gNil))) (by rfl) sc_left_by.nd (pi_listK (K := K) rfl (pv 4)) (blkOk_by (N := ["machine", "standings", "letter", "answer", "pairs", "standing", "late", "told"]) (sc := defScope s_left_by) (by decide +kernel)) (fun _ _ _ _ _ => (pg_tup (by rfl) (pgs_cons (pg_name (i := 6) sc_left_by.nd rfl (Or.inl rfl)) (pgs_cons (pg_name (i := 7) sc_left_by.nd rfl (Or.inl rfl)) pgs_nil)))) (fun _ _ _ _ _ => (pts_one (pt_cmpR op_eq (pv 7) (pv 3) (nomark _)))) (fun _ _ _ _ _ => (pv 6))) pa_nil))))), ?_⟩
  have lS : (ss.map eI).length = ss.length := List.length_map ..
  have stp : ∀ t ∈ ss, ∃ p, stepM m t x = some p := fun t ht => let ⟨p, h, _⟩ := ok.step (hs t ht) hx; ⟨p, h⟩
  have l1 : Lv K _ (start _ [x1, x2, x3, x4]) H (ss.map fun t => eP ((stepM m t x).getD (0, 0))) := lv_to (lv_map (ns := [5]) (g := gName 5) (te := tOp (rIxT K) (tOp (rIxT K) (tVar 0) (tVar 5)) (tVar 2)) (iv_tup (te := tVar 1) .nil (dv_var (j := 1) (σ := start ["machine", "standings", "letter", "answer", "pairs", "standing", "late", "told"] [x1, x2, x3, x4]) rfl d2)) (by rw [lS]; omega) (fun d => match d with | .int t => eP ((stepM m t.toNat x).getD (0, 0)) | _ => .none) fun i d y H2 hdd e2 dy R k => by
      obtain ⟨t, ht, rfl⟩ := of_eS hdd
      obtain ⟨p, hp⟩ := stp t (List.mem_of_getElem? ht)
      refine k _ rfl ?_
      have hp' := hp
      unfold stepM at hp'
      obtain ⟨r, hr', hpp⟩ := Option.bind_eq_some_iff.mp hp'
      have z : eP ((stepM m ((t : Int)).toNat x).getD (0, 0)) = eP p := by rw [Int.toNat_natCast, hp]; rfl
      show Dv K _ _ H2 (eP ((stepM m ((t : Int)).toNat x).getD (0, 0)))
      rw [z]
      exact dv_ix (i := x) (dv_ix (i := t) (dv_var (j := 0) rfl (d1.ex e2)) (dv_var (j := 5) rfl dy) (eM_get hr')) (dv_var (j := 2) rfl (d3.ex e2)) (eR_get hpp)) (by rw [List.map_map]; rfl)
  refine ql_asg l1 fun p xs H1 np e1 hp dl => ?_
  refine sd_ret (dv_callN (ds := (movesM m ss x a).map eI) (lv_to (lv_lc (iv_var .nil (j := 4) rfl hp dl (by simp)) (by rw [List.length_map]; omega) (fun d => match d with | .tuple [.int j, .int b] => if b = (a : Int) then some (.int j) else none | _ => none) fun i d y H2 hdd e2 dy R k => ?_) ?_) ⟨movesM m ss x a, rfl, ?_⟩) fun v H2 e2 ⟨d, ⟨ns, ms, h1, h2, h3, h4⟩, dv⟩ => q d v H2 ⟨m, ss, x, a, rfl, ?_⟩ (e1.trans e2) dv
  · rw [List.getElem?_map] at hdd
    obtain ⟨t, ht, rfl⟩ := Option.map_eq_some_iff.mp hdd
    obtain ⟨pp, hpp⟩ := stp t (List.mem_of_getElem? ht)
    rw [hpp] at dy
    refine g_two dy fun v1 v2 dd1 dd2 => k _ rfl ⟨decide ((pp.2 : Int) = a), et_of (dv_eqI (dv_var (j := 7) rfl dd2) (dv_var (j := 3) rfl (d4.ex (e1.trans e2)))), fun hb => ?_, fun hb => ⟨eI pp.1, ?_, dv_var (j := 6) rfl dd1⟩⟩
    · rw [hpp]
      show (if ((pp.2 : Nat) : Int) = (a : Int) then some (PyData.int (pp.1 : Nat)) else none) = none
      rw [if_neg (of_decide_eq_false hb)]
    · rw [hpp]
      show (if ((pp.2 : Nat) : Int) = (a : Int) then some (PyData.int (pp.1 : Nat)) else none) = _
      rw [if_pos (of_decide_eq_true hb)]
      rfl
  · rw [List.filterMap_map]
    unfold movesM
    rw [List.map_filterMap]
    refine fm_congr fun t ht => ?_
    obtain ⟨pp, hpp⟩ := stp t ht
    show (match eP ((stepM m t x).getD (0, 0)) with | .tuple [.int j, .int b] => if b = (a : Int) then some (PyData.int j) else none | _ => none) = _
    rw [hpp]
    show (if ((pp.2 : Nat) : Int) = (a : Int) then some (PyData.int (pp.1 : Nat)) else none) = Option.map eI (if pp.2 = a then some pp.1 else none)
    by_cases c : pp.2 = a
    · rw [if_pos (by omega), if_pos c]; rfl
    · rw [if_neg (by omega), if_neg c]; rfl
  · have h := List.length_filterMap_le (fun t => (stepM m t x).bind fun p => if p.2 = a then some p.1 else none) ss
    unfold movesM
    omega
  · rw [h2]
    have en : ns = movesM m ss x a := (List.map_inj_right fun a b h => by have := PyData.int.inj h; omega).mp h1.symm
    subst en
    rw [canon_of (n := m.length) h3 h4 fun i hi => ?_]
    · rfl
    · obtain ⟨t, _, hq⟩ := mem_moves.mp hi
      exact ok.step_lt hq
theorem dv_left {σ : St} {H : Hp} {t : TA} {E : XK} {m : Mach} {wd x a : Nat} {s : List Nat} (ht : Av K t σ H [eM m, eS s, eI x, eI a]) (ok : OkM m wd) (hx : x < wd) (hs : ∀ t ∈ s, t < m.length) (hl : s.length < 64) :
    Dv K (tCall (SpR K leftD leftR) [] E t) σ H (eS (leftOf m s x a)) := dv_call1 ht ⟨m, wd, s, x, a, rfl, ok, hx, hs, hl⟩ fun d ⟨m', s', x', a', e1, e2⟩ => by
  injection e1 with h1 e1
  injection e1 with h2 e1
  injection e1 with h3 e1
  injection e1 with h4 e1
  rw [e2, eM_inj h1, eS_inj h2, eI_inj h3, eI_inj h4]
theorem sc_after_by : FnScope ["machine", "beats", "found", "lap"] ["machine", "beats"] (defScope s_after_by) := ⟨rfl, rfl, rfl, by decide +kernel, rfl, by decide +kernel, by decide +kernel⟩
def afterD (ds : List PyData) : Prop := ∃ m wd, ds = [eM m, eI 0] ∧ OkM m wd
def afterR (ds : List PyData) (d : PyData) : Prop := ∃ m, ds = [eM m, eI 0] ∧ d = eS (List.range m.length)
theorem cal_after_by (T : Fr mg) (D : HasD K mg "after_by" s_after_by [] []) (C_all_standings : Cal P w K mg base 1 "all_standings" ["machine"] [] (SpR K machD allR)) :
    Cal P w K mg base 2 "after_by" ["machine", "beats"] [] (SpR K afterD afterR) := by
  refine calR D sc_after_by (fun ds ⟨_, _, e, _⟩ => by rw [e]; rfl) (fun _ _ _ _ _ _ us hl => match us, hl with | [_, _], _ => rfl) fun f cdv A outer s H vs ds Q E hr hd ⟨m, wd, e, ok⟩ q => ?_
  subst e
  obtain ⟨x1, x2, rfl, d1, d2⟩ := hd.two
  refine ⟨_, (pss_cons (ps_set (i := 2) sc_after_by.nd rfl (Or.inl rfl) (pe_cal C_all_standings hr (by decide) (pa_cons (pv 0) pa_nil)))
      (pss_cons (ps_for PassesOwn.never rfl (pi_range1 (by rfl) T.range (pa_cons (pe_callB (cr_min rfl) (by rfl) T.min (by decide +kernel) (pa_cons (pe_lst (pa_cons (pv 1) (pa_cons (pe_callB (call_lenK (K := K) rfl) (by rfl) T.len (by decide +kernel) (pa_cons (pv 0) pa_nil)) pa_nil))) pa_nil)) pa_nil)) (pg_name (i := 3) sc_after_by.nd rfl (Or.inl rfl))
      (pss_one ps_never))
      (pss_one (ps_ret (pv 2))))), ?_⟩
  refine qd_asg (dv_allS (av_cons (dv_var (j := 0) rfl d1) av_nil) ok) fun v H1 e1 dv => ?_
  refine q_forD (S := []) (iv_rng (n := 0) (dv_min (ms := [0, m.length]) (lv_lst (av_cons (dv_var (j := 1) rfl (d2.ex e1)) (av_cons (dv_to (dv_len (dv_var (j := 0) rfl (d1.ex e1))) (by rw [eM_len])) av_nil)) (by simp)).w (by simp) (fun y hy => by simp at hy; omega)) (by decide) (by decide)) (fun i σ' H' => σ' = [some x1, some x2, some v, none] ∧ Ex H1 H') (fun H2 e2 => ⟨rfl, e2⟩) (fun i d y σ' H2 H3 hdd _ _ _ _ => ?_) (fun σ' H2 mu hP => ?_)
  · exact absurd hdd (by simp [rangeD])
  · obtain ⟨rfl, e2⟩ := hP
    exact sd_ret (dv_var (j := 2) rfl (dv.ex e2)) fun u H3 e3 du => q _ u H3 ⟨m, rfl, rfl⟩ (e1.trans (e2.trans e3)) du
theorem sc_states_begun : FnScope ["one", "other", "beats", "standing"] ["one", "other", "beats"] (defScope s_states_begun) := ⟨rfl, rfl, rfl, by decide +kernel, rfl, by decide +kernel, by decide +kernel⟩
def begunD (ds : List PyData) : Prop := ∃ m1 m2 wd, ds = [eM m1, eM m2, eI 0] ∧ OkM m1 wd ∧ OkM m2 wd
def begunL (m1 m2 : Mach) : List Sta := (List.range m1.length).map fun t => (t, List.range m2.length)
def begunR (ds : List PyData) (es : List PyData) : Prop := ∃ m1 m2, ds = [eM m1, eM m2, eI 0] ∧ es = (begunL m1 m2).map eSt
theorem cal_states_begun (T : Fr mg) (D : HasD K mg "states_begun" s_states_begun [] []) (C_all_standings : Cal P w K mg base 1 "all_standings" ["machine"] [] (SpR K machD allR)) (C_after_by : Cal P w K mg base 2 "after_by" ["machine", "beats"] [] (SpR K afterD afterR)) :
    Cal P w K mg base 3 "states_begun" ["one", "other", "beats"] [] (SpL K begunD begunR) := by
  refine calL D sc_states_begun (fun ds ⟨_, _, _, e, _⟩ => by rw [e]; rfl) (fun _ _ _ _ _ _ us hl => match us, hl with | [_, _, _], _ => rfl) fun f cdv A outer s H vs ds Q E hr hd ⟨m1, m2, wd, e, ok1, ok2⟩ q => ?_
  subst e
  obtain ⟨x1, x2, x3, rfl, d1, d2, d3⟩ := hd.three
  refine ⟨_, (pss_one (ps_ret (pe_lc (own := [("standing", 3)]) (g := gName 3) (by rfl) sc_states_begun.nd (pi_tupK (K := K) rfl (pe_cal C_after_by hr (by decide) (pa_cons (pv 0) (pa_cons (pv 2) pa_nil)))) (blkOk_by (N := ["one", "other", "beats", "standing"]) (sc := defScope s_states_begun) (by decide +kernel)) (fun _ _ _ _ _ => (pg_name (i := 3) sc_states_begun.nd rfl (Or.inl rfl))) (fun _ _ _ _ _ => pts_nil) (fun _ _ _ _ _ => (pe_tup (pa_cons pe_int (pa_cons (pv 3) (pa_cons (pe_cal C_all_standings hr (by decide) (pa_cons (pv 1) pa_nil)) pa_nil)))))))), ?_⟩
  have fw := ok1.few
  refine sl_ret (lv_map (ns := [3]) (iv_tup .nil (dv_call1 (d := eS (List.range m1.length)) (av_cons (dv_var (j := 0) rfl d1) (av_cons (dv_var (j := 2) rfl d3) av_nil)) ⟨m1, wd, rfl, ok1⟩ fun d ⟨m', h1, h2⟩ => by rw [h2, eM_inj (List.cons.inj h1).1])) (by simp; omega) (fun d => .tuple [eI 0, d, eS (List.range m2.length)]) fun i d y H2 hdd e2 dy R k => ?_) fun p xs H1 np e1 hp dl => q _ p xs H1 ⟨m1, m2, rfl, ?_⟩ np e1 hp dl
  · exact k _ rfl (dv_tup (av_cons dv_int (av_cons (dv_var (j := 3) rfl dy) (av_cons (dv_allS (av_cons (dv_var (j := 1) rfl (d2.ex e2)) av_nil) ok2) av_nil))) (by simp))
  · unfold begunL
    rw [List.map_map, List.map_map]
    rfl
theorem sc_states_behind : FnScope ["one", "other", "guard", "state", "place", "standing", "standings", "found", "letter", "late", "answer", "goal"] ["one", "other", "guard", "state"] (defScope s_states_behind) := ⟨rfl, rfl, rfl, by decide +kernel, rfl, by decide +kernel, by decide +kernel⟩
def stD (m1 m2 : Mach) (t : Sta) : Prop := t.1 < m1.length ∧ (∀ i ∈ t.2, i < m2.length) ∧ t.2.length < 64
def behD (ds : List PyData) : Prop := ∃ m1 m2 wd t, ds = [eM m1, eM m2, .none, eSt t] ∧ OkM m1 wd ∧ OkM m2 wd ∧ stD m1 m2 t
def behR (ds : List PyData) (es : List PyData) : Prop := ∃ m1 m2 t, ds = [eM m1, eM m2, .none, eSt t] ∧ es = behindD m1 m2 t
theorem cal_states_behind (T : Fr mg) (D : HasD K mg "states_behind" s_states_behind [] []) (C_goal_by : Cal P w K mg base 1 "goal_by" ["guard", "place", "letter"] [] (SpR K goalD zeroR)) (C_left_by : Cal P w K mg base 2 "left_by" ["machine", "standings", "letter", "answer"] [] (SpR K leftD leftR)) :
    Cal P w K mg base 3 "states_behind" ["one", "other", "guard", "state"] [] (SpL K behD behR) := by
  refine calL D sc_states_behind (fun ds ⟨_, _, _, _, e, _⟩ => by rw [e]; rfl) (fun _ _ _ _ _ _ us hl => match us, hl with | [_, _, _, _], _ => rfl) fun f cdv A outer s H vs ds Q E hr hd ⟨m1, m2, wd, t, e, ok1, ok2, ht1, ht2, ht3⟩ q => ?_
  subst e
  obtain ⟨x1, x2, x3, x4, rfl, d1, d2, d3, d4⟩ := hd.four
  have hrow := List.getElem?_eq_getElem ht1
  have lrow := ok1.row hrow
  have fw := ok1.fw
  refine ⟨_, (pss_cons (ps_asg (pv 3) (pg_tup (by rfl) (pgs_cons (pg_name (i := 4) sc_states_behind.nd rfl (Or.inl rfl)) (pgs_cons (pg_name (i := 5) sc_states_behind.nd rfl (Or.inl rfl)) (pgs_cons (pg_name (i := 6) sc_states_behind.nd rfl (Or.inl rfl)) pgs_nil)))))
      (pss_cons (ps_set (i := 7) sc_states_behind.nd rfl (Or.inl rfl) (pe_lst pa_nil))
      (pss_cons (ps_for PassesOwn.never rfl (pi_enumT (by rfl) T.enumerate (pa_cons (pe_ix (ix_tupK (K := K) rfl) (pv 0) (pv 5) (fun _ _ => rfl)) pa_nil)) (pg_tup (by rfl) (pgs_cons (pg_name (i := 8) sc_states_behind.nd rfl (Or.inl rfl)) (pgs_cons (pg_tup (by rfl) (pgs_cons (pg_name (i := 9) sc_states_behind.nd rfl (Or.inl rfl)) (pgs_cons (pg_name (i := 10) sc_states_behind.nd rfl (Or.inl rfl)) pgs_nil))) pgs_nil)))
      (pss_cons (ps_set (i := 11) sc_states_behind.nd rfl (Or.inl rfl) (pe_cal C_goal_by hr (by decide) (pa_cons (pv 2) (pa_cons (pv 4) (pa_cons (pv 8) pa_nil)))))
      (pss_one (ps_if (pt_cmpR op_notN (pv 11) pe_non (nomark _)) (pss_one (ps_expr (pe_bm PySem.F.plainAttrs_list PySem.F.slot_list_append PySem.F.type_list_append mt_append (pv 7) (pa_cons (pe_tup (pa_cons (pv 8) (pa_cons (pe_tup (pa_cons (pv 11) (pa_cons (pv 9) (pa_cons (pe_cal C_left_by hr (by decide) (pa_cons (pv 1) (pa_cons (pv 6) (pa_cons (pv 8) (pa_cons (pv 10) pa_nil))))) pa_nil)))) pa_nil))) pa_nil)))) pss_nil))))
      (pss_one (ps_ret (pv 7)))))), ?_⟩
  refine qd_asgG (dv_var (j := 3) rfl d4) fun v H1 e1 dv => g_three dv fun v1 v2 v3 dd1 dd2 dd3 => ?_
  refine ql_asg (K := K) (ds := []) (lv_lst av_nil (by simp)) fun l xs H2 nl e2 hl dl => ?_
  cases dl
  have d1' := (d1.ex e1).ex e2
  have d2' := (d2.ex e1).ex e2
  have d3' := (d3.ex e1).ex e2
  have dd1' := dd1.ex e2
  have dd2' := dd2.ex e2
  have dd3' := dd3.ex e2
  have so : Sok [l] H2 := .cons hl trivial .nil
  refine q_forD (S := [l]) (iv_enum so (dv_ix (i := t.1) (dv_var (j := 0) rfl d1') (dv_var (j := 5) rfl dd2') (eM_get hrow)))
    (fun i σ' H' => ∃ y1 y2 y3 y4 ys, σ' = [some x1, some x2, some x3, some x4, some v1, some v2, some v3, some (.ref l), y1, y2, y3, y4] ∧ H' l = some (.lst ys) ∧ DtAll K H' ys ((behindD m1 m2 t).take i) ∧ ys.length = i)
    (fun H3 e3 => ⟨_, _, _, _, [], rfl, e3 _ _ hl, .nil, rfl⟩) (fun i d y σ' H3 H4 hdd mu hP e4 dy => ?_) (fun σ' H3 mu hP => ?_)
  · obtain ⟨y1, y2, y3, y4, ys, rfl, hl3, dl3, ly⟩ := hP
    rw [enumD_get] at hdd
    obtain ⟨d0, h0, rfl⟩ := Option.map_eq_some_iff.mp hdd
    obtain ⟨p, hp, rfl⟩ := of_eR h0
    have hi : i < wd := by rw [← lrow]; exact (List.getElem?_eq_some_iff.mp hp).1
    have kp : Kp K H2 H4 := (mu.kp so).trans (.ex e4)
    refine g_pair dy fun w1 w2 dw1 dw2 => g_two dw2 fun u1 u2 du1 du2 => ?_
    refine qd_asg (d := eI 0) (dv_call1 (av_cons (dv_var (j := 2) rfl (d3'.mono kp)) (av_cons (dv_var (j := 4) rfl (dd1'.mono kp)) (av_cons (dv_var (j := 8) rfl dw1) av_nil))) ⟨_, _, rfl⟩ fun d h => h) fun g H5 e5 dg => ?_
    refine sd_if (b := true) (et_of (dv_notD (dv_var (j := 11) rfl dg))) (fun _ H6 e6 => ?_) fun z => (nomatch z)
    have kp6 : Kp K H2 H6 := kp.trans (.ex (e5.trans e6))
    have e46 := e5.trans e6
    refine s_append (xs := ys) (d := eNext m2 t.2 i p) ((e46 _ _ (e4 _ _ hl3))) (rv_var (j := 7) rfl) ?_ (by omega) fun v H7 e7 dvv => ?_
    · exact dv_tup (av_cons (dv_var (j := 8) rfl (dw1.ex e46)) (av_cons (dv_tup (av_cons (dv_var (j := 11) rfl (dg.ex e6)) (av_cons (dv_var (j := 9) rfl (du1.ex e46)) (av_cons (dv_left (av_cons (dv_var (j := 1) rfl (d2'.mono kp6)) (av_cons (dv_var (j := 6) rfl (dd3'.mono kp6)) (av_cons (dv_var (j := 8) rfl (dw1.ex e46)) (av_cons (dv_var (j := 10) rfl (du2.ex e46)) av_nil)))) ok2 hi ht2 ht3) av_nil))) (by simp)) av_nil)) (by simp)
    · have e37 : Ex H3 H7 := e4.trans (e46.trans e7)
      have kpu : Kp K H7 (upd H7 l (.lst (ys ++ [v]))) := .upd (e37 _ _ hl3) trivial
      refine ⟨(Mu.ex e37).trans (.upd List.mem_cons_self), _, _, _, _, ys ++ [v], rfl, upd_same, ?_, by rw [List.length_append, ly]; rfl⟩
      have eb : (behindD m1 m2 t)[i]? = some (eNext m2 t.2 i p) := by
        unfold behindD
        rw [List.getElem?_mapIdx, List.getD_eq_getElem?_getD, hrow]
        show Option.map _ (m1[t.1][i]?) = _
        rw [hp]
        rfl
      rw [List.take_add_one, eb]
      exact ((dl3.ex e37).mono kpu).snoc (dvv.mono kpu)
  · obtain ⟨y1, y2, y3, y4, ys, rfl, hl3, dl3, ly⟩ := hP
    have eL : (behindD m1 m2 t).take (enumD (m1[t.1].map eP)).length = behindD m1 m2 t := by
      refine List.take_of_length_le ?_
      unfold behindD
      rw [List.length_mapIdx, enumD_len, List.length_map, List.getD_eq_getElem?_getD, hrow]
      exact Nat.le_refl _
    rw [eL] at dl3
    refine ⟨_, rfl, q _ l ys H3 ⟨m1, m2, t, rfl, rfl⟩ (Evl.fresh_back e1 nl) ?_ hl3 dl3⟩
    exact fun a o ha => mu a o (fun z => by rw [List.mem_singleton.mp z] at ha; rw [e1 _ _ ha] at nl; cases nl) (e2 _ _ (e1 _ _ ha))
end
end Wok
namespace Wok
open PySem PySem.Spec PyProof.Rows L2
open Evl (Ex EvT)
/-! ### the program's search -/
def Small (m1 m2 : Mach) (wd : Nat) : Prop := OkM m1 wd ∧ OkM m2 wd ∧ m1.length ≤ 5 ∧ m2.length ≤ 5 ∧ wd ≤ 2
def FailR (m1 m2 : Mach) (d : PyData) : Prop := (d = .none ∧ ∀ k q, RN m1 m2 k q → q.2 ≠ []) ∨
  ∃ b l q, d = .tuple [eI b, eS l] ∧ b < m1.length ∧ runW m1 m2 (st0 m2 b) l = some q ∧ q.2 = [] ∧ 0 < l.length ∧ l.length ≤ 160 ∧ ∀ j, j < l.length → ∀ q, RN m1 m2 j q → q.2 ≠ []
theorem small_count {m1 m2 : Mach} {wd : Nat} (h : Small m1 m2 wd) : m1.length * 2 ^ m2.length ≤ 160 := by
  have h1 : 2 ^ m2.length ≤ 2 ^ 5 := Nat.pow_le_pow_right (by decide) h.2.2.2.1
  exact Nat.le_trans (Nat.mul_le_mul h.2.2.1 h1) (by decide)
theorem begun_lev {m1 m2 : Mach} {wd : Nat} (h : Small m1 m2 wd) : Lev m1 m2 0 (begunL m1 m2) (begunL m1 m2) where
  e := fun q hq => by
    obtain ⟨t, ht, rfl⟩ := List.mem_map.mp hq
    exact ⟨t, [], List.mem_range.mp ht, rfl, rfl⟩
  v := fun q hq => by
    obtain ⟨t, ht, rfl⟩ := List.mem_map.mp hq
    intro z
    have z2 : m2.length = 0 := List.range_eq_nil.mp z
    have := h.2.1.ne
    omega
  s := fun j hj q hq => by
    obtain ⟨b, l, h1, h2, h3⟩ := hq
    have e : l = [] := List.length_eq_zero_iff.mp (by omega)
    subst e
    cases h3
    exact List.mem_map.mpr ⟨b, List.mem_range.mpr h1, rfl⟩
  p := fun q hq => .inl hq
theorem begun_nodup (m1 m2 : Mach) : (begunL m1 m2).Nodup := map_nodup (fun a b h => (Prod.mk.inj h).1) List.nodup_range
section
variable {P : Program} {w : World} {K : PySem.W.Frag} {mg : Str → Option Value} {base : Heap}
def spFF (K : PySem.W.Frag) : Sp := fun vs H Q _ => ∃ v1 v2 v3 p xs m1 m2 wd, vs = [v1, v2, v3, .ref p] ∧ Dt K H v1 (eM m1) ∧ Dt K H v2 (eM m2) ∧ Dt K H v3 .none ∧ H p = some (.lst xs) ∧ DtAll K H xs ((begunL m1 m2).map eSt) ∧ Small m1 m2 wd ∧
  ∀ d v H', FailR m1 m2 d → Ex H H' → Dt K H' v d → Q v H'
theorem sc_failing_from : FnScope ["one", "other", "guard", "states", "level", "seen", "late", "letters", "begun", "state", "letter", "behind"] ["one", "other", "guard", "states"] (defScope s_failing_from) := ⟨rfl, rfl, rfl, by decide +kernel, rfl, by decide +kernel, by decide +kernel⟩
def item0 (q : Sta) : Item := ([], q.1, q)
def stOf (d : PyData) : PyData := match d with | .tuple [_, t, _] => .tuple [.tuple [], t, d] | _ => .none
theorem cal_failing_from (T : Fr mg) (D : HasD K mg "failing_from" s_failing_from [] []) (C_as_set : Cal P w K mg base 1 "as_set" ["things"] [] (SpN K setKD setKR)) (C_states_behind : Cal P w K mg base 3 "states_behind" ["one", "other", "guard", "state"] [] (SpL K behD behR)) :
    Cal P w K mg base 4 "failing_from" ["one", "other", "guard", "states"] [] (spFF K) := by
  refine calS D sc_failing_from (fun vs H Q E ⟨_, _, _, _, _, _, _, _, e, _⟩ => by rw [e]; rfl) (fun _ _ _ _ _ _ us hl => match us, hl with | [_, _, _, _], _ => rfl) fun f cdv A outer s H vs Q E hr ⟨x1, x2, x3, p, xs, m1, m2, wd, e, d1, d2, d3, hp, dl, sm, q⟩ => ?_
  subst e
  have ok1 := sm.1
  have ok2 := sm.2.1
  have cnt := small_count sm
  have lenB : (begunL m1 m2).length = m1.length := by unfold begunL; rw [List.length_map, List.length_range]
  have n5 := sm.2.2.1
  have w2 := sm.2.2.2.2
  refine ⟨_, (pss_cons (ps_setLc (i := 4) (own := [("state", 9)]) (g := gName 9) (by rfl) sc_failing_from.nd rfl rfl (sw_true rfl rfl rfl (by decide +kernel)) (pi_listK (K := K) rfl (pv 3)) (blkOk_by (N := ["one", "other", "guard", "states", "level", "seen", "late", "letters", "begun", "state", "letter", "behind"]) (sc := defScope s_failing_from) (by decide +kernel)) (fun _ _ _ _ _ => (pg_name (i := 9) sc_failing_from.nd rfl (Or.inl rfl))) (fun _ _ _ _ _ => pts_nil) (fun _ _ _ _ _ => (pe_tup (pa_cons (pe_tup pa_nil) (pa_cons (pe_ix (ix_tupK (K := K) rfl) (pv 9) pe_int (fun _ _ => rfl)) (pa_cons (pv 9) pa_nil))))))
      (pss_cons (ps_setDcN (i := 5) (own := [("state", 9)]) (g := gName 9) hr.units (by rfl) sc_failing_from.nd rfl rfl (swD_true rfl rfl rfl (by decide +kernel)) (pi_listK (K := K) rfl (pv 3)) (blkOk_by (N := ["one", "other", "guard", "states", "level", "seen", "late", "letters", "begun", "state", "letter", "behind"]) (sc := defScope s_failing_from) (by decide +kernel)) (fun _ _ _ _ _ => (pg_name (i := 9) sc_failing_from.nd rfl (Or.inl rfl))) (fun _ _ _ _ _ => (pv 9)) (fun _ _ _ _ _ => pe_bl))
      (pss_cons (ps_while PassesOwn.never (pt_cmpR op_gt (pe_callB (call_lenK (K := K) rfl) (by rfl) T.len (by decide +kernel) (pa_cons (pv 4) pa_nil)) pe_int (nomark _))
      (pss_cons (ps_set (i := 6) sc_failing_from.nd rfl (Or.inl rfl) (pe_lst pa_nil))
      (pss_cons (ps_for PassesOwn.never rfl (pi_listK (K := K) rfl (pv 4)) (pg_tup (by rfl) (pgs_cons (pg_name (i := 7) sc_failing_from.nd rfl (Or.inl rfl)) (pgs_cons (pg_name (i := 8) sc_failing_from.nd rfl (Or.inl rfl)) (pgs_cons (pg_name (i := 9) sc_failing_from.nd rfl (Or.inl rfl)) pgs_nil))))
      (pss_one (ps_for PassesOwn.never rfl (pi_listK (K := K) rfl (pe_cal C_states_behind hr (by decide) (pa_cons (pv 0) (pa_cons (pv 1) (pa_cons (pv 2) (pa_cons (pv 9) pa_nil)))))) (pg_tup (by rfl) (pgs_cons (pg_name (i := 10) sc_failing_from.nd rfl (Or.inl rfl)) (pgs_cons (pg_name (i := 11) sc_failing_from.nd rfl (Or.inl rfl)) pgs_nil)))
      (pss_one (ps_expr (pe_bm PySem.F.plainAttrs_list PySem.F.slot_list_append PySem.F.type_list_append mt_append (pv 6) (pa_cons (pe_tup (pa_cons (pe_tup (StX.pa_star (pv 7) (pa_cons (pv 10) pa_nil))) (pa_cons (pv 8) (pa_cons (pv 11) pa_nil)))) pa_nil)))))))
      (pss_cons (ps_set (i := 4) sc_failing_from.nd rfl (Or.inl rfl) (pe_lst pa_nil))
      (pss_one (ps_for PassesOwn.never rfl (pi_tupK (K := K) rfl (pe_cal C_as_set hr (by decide) (pa_cons (pv 6) pa_nil))) (pg_tup (by rfl) (pgs_cons (pg_name (i := 7) sc_failing_from.nd rfl (Or.inl rfl)) (pgs_cons (pg_name (i := 8) sc_failing_from.nd rfl (Or.inl rfl)) (pgs_cons (pg_name (i := 9) sc_failing_from.nd rfl (Or.inl rfl)) pgs_nil))))
      (pss_cons (ps_if (pt_cmpR op_eq (pe_callB (call_lenK (K := K) rfl) (by rfl) T.len (by decide +kernel) (pa_cons (pe_ix (ix_tupK (K := K) rfl) (pv 9) pe_int (fun _ _ => rfl)) pa_nil)) pe_int (nomark _)) (pss_one (ps_ret (pe_tup (pa_cons (pv 8) (pa_cons (pv 7) pa_nil))))) pss_nil)
      (pss_one (ps_if (pt_cmpR (op_notInN hr.units) (pv 9) (pv 5) (by rfl)) (pss_cons (ps_asg pe_bl (pg_sub (pv 5) (pv 9) (set_N hr.units)))
      (pss_one (ps_expr (pe_bm PySem.F.plainAttrs_list PySem.F.slot_list_append PySem.F.type_list_append mt_append (pv 4) (pa_cons (pe_tup (pa_cons (pv 7) (pa_cons (pv 8) (pa_cons (pv 9) pa_nil)))) pa_nil))))) pss_nil)))))))))
      (pss_one (ps_ret pe_non))))), ?_⟩
  refine ql_asg (lv_to (lv_map (ns := [9]) (iv_var .nil (j := 3) rfl hp dl (by simp)) (by rw [List.length_map]; omega) stOf fun i d y H2 hdd e2 dy R k => ?_) (es := ((begunL m1 m2).map item0).map eIt) (by rw [List.map_map, List.map_map]; rfl)) fun l ys H1 nl e1 hl dly => ?_
  · rw [List.getElem?_map] at hdd
    obtain ⟨t, ht, rfl⟩ := Option.map_eq_some_iff.mp hdd
    refine k _ rfl ?_
    exact dv_tup (av_cons (dv_tup av_nil (by simp)) (av_cons (dv_ix (i := 1) (d := eI t.1) (dv_var (j := 9) rfl dy) dv_int rfl) (av_cons (dv_var (j := 9) rfl dy) av_nil))) (by simp)
  refine q_te (dn_dc (w := w) (iv_var .nil (j := 3) rfl (e1 _ _ hp) (dl.ex e1) (by simp)) (fun d hd => ?_) (by rw [List.length_map]; omega) (map_nodup (fun _ _ => eSt_inj) (begun_nodup m1 m2)) (fun i d y H2 hdd e2 dy R k => by refine k _ ?_ ?_ dv_bl; exact rfl; exact dv_var (j := 9) rfl dy) _ fun Da kxs H2 nD e2 hD hk hkk => ?_)
  · obtain ⟨t, _, rfl⟩ := List.mem_map.mp hd
    exact keyD_st t
  have hlm1 : m1.length ≤ 5 := n5
  have w160 : (begunL m1 m2).length ≤ 160 := by omega
  -- the levels
  refine Evl.q_while (fun m σ' H' => ∃ (k : Nat) (items : List Item) (vis : List Sta) (l : Addr) (ys : List V) (kxs : List (PyData × Addr)) (y6 y7 y8 y9 y10 y11 : Option V), σ' = [some x1, some x2, some x3, some (.ref p), some (.ref l), some (.ref Da), y6, y7, y8, y9, y10, y11] ∧ Ex H H' ∧ H l = none ∧ H Da = none ∧ H' l = some (.lst ys) ∧ DtAll K H' ys (items.map eIt) ∧
      H' Da = some (DNO P w Da kxs) ∧ KeysIn K H' kxs ∧ kxs.map (·.1) = vis.map eSt ∧ vis.Nodup ∧ (∀ q ∈ vis, Uni m1 m2 q) ∧ Lev m1 m2 k (items.map fun t => t.2.2) vis ∧ (∀ t ∈ items, ItOk m1 m2 k t) ∧ items.length ≤ vis.length ∧ k + 1 ≤ vis.length + (if items = [] then 1 else 0) ∧ m = 2 * (161 - vis.length) + (if items = [] then 0 else 1))
    _ ⟨0, (begunL m1 m2).map item0, begunL m1 m2, l, ys, kxs, _, _, _, _, _, _, rfl, e1.trans e2, nl, Evl.fresh_back e1 nD, e2 _ _ hl, dly.ex e2, hD, hk, hkk, begun_nodup m1 m2, fun q hq => (begun_lev sm).e q hq |>.uni ok1, by rw [List.map_map]; exact (begun_lev sm).cast (List.map_id _).symm, fun t ht => ?_, by rw [List.length_map]; exact Nat.le_refl _, ?_, rfl⟩ fun m σ' H3 hW => ?_
  · obtain ⟨q0, hq0, rfl⟩ := List.mem_map.mp ht
    obtain ⟨b, hb, rfl⟩ := List.mem_map.mp hq0
    exact ⟨List.mem_range.mp hb, rfl, rfl⟩
  · have := ok1.ne
    omega
  obtain ⟨k, items, vis, l, ys, kxs, y6, y7, y8, y9, y10, y11, rfl, e3, nl, nDH, hl, dly, hD, hk, hkk, vnd, vun, lev, iok, hlen, hkl, hm⟩ := hW
  have vc : vis.length ≤ 160 := Nat.le_trans (count_le vnd vun) cnt
  have d1' := d1.ex e3
  have d2' := d2.ex e3
  have d3' := d3.ex e3
  have lys : ys.length = items.length := by rw [dly.length, List.length_map]
  refine ⟨decide (0 < items.length), et_to (et_of (dv_opB (dv_lenP (j := 4) rfl hl) dv_int)) (by rw [lys]; simp), fun hb H4 e4 => ?_, fun hb H4 e4 => ?_⟩
  · have hpos := of_decide_eq_true hb
    have hne : items ≠ [] := fun z => by rw [z] at hpos; cases hpos
    rw [if_neg hne] at hkl hm
    have e34 := e3.trans e4
    refine ⟨fun σ2 H2 => ∃ m', m' < m ∧ ∃ (k : Nat) (items : List Item) (vis : List Sta) (l : Addr) (ys : List V) (kxs : List (PyData × Addr)) (y6 y7 y8 y9 y10 y11 : Option V), σ2 = [some x1, some x2, some x3, some (.ref p), some (.ref l), some (.ref Da), y6, y7, y8, y9, y10, y11] ∧ Ex H H2 ∧ H l = none ∧ H Da = none ∧ H2 l = some (.lst ys) ∧ DtAll K H2 ys (items.map eIt) ∧
      H2 Da = some (DNO P w Da kxs) ∧ KeysIn K H2 kxs ∧ kxs.map (·.1) = vis.map eSt ∧ vis.Nodup ∧ (∀ q ∈ vis, Uni m1 m2 q) ∧ Lev m1 m2 k (items.map fun t => t.2.2) vis ∧ (∀ t ∈ items, ItOk m1 m2 k t) ∧ items.length ≤ vis.length ∧ k + 1 ≤ vis.length + (if items = [] then 1 else 0) ∧ m' = 2 * (161 - vis.length) + (if items = [] then 0 else 1), fun σ2 H2 h => h, ?_⟩
    -- late = []
    refine ql_asg (K := K) (ds := []) (lv_lst av_nil (by simp)) fun l2 zs H5 nl2 e5 hl2 dz => ?_
    cases dz
    have hl5 := e5 _ _ (e4 _ _ hl)
    have dly5 := (dly.ex e4).ex e5
    have so : Sok [l2] H5 := .cons hl2 trivial .nil
    have nll2 : l ≠ l2 := ne_of_none (e4 _ _ hl) nl2
    have nDl2 : Da ≠ l2 := ne_of_none (e4 _ _ hD) nl2
    have ilen : items.length ≤ 160 := Nat.le_trans hlen vc
    have itu : ∀ t ∈ items, Uni m1 m2 t.2.2 := fun t ht => (iok t ht).rn.uni ok1
    have e35 := e34.trans e5
    refine q_forD (S := [l2]) (iv_var so (j := 4) rfl hl5 dly5 (by simp [nll2]))
      (fun i σ' H' => ∃ (zs : List V) (y7 y8 y9 y10 y11 : Option V), σ' = [some x1, some x2, some x3, some (.ref p), some (.ref l), some (.ref Da), some (.ref l2), y7, y8, y9, y10, y11] ∧ H' l2 = some (.lst zs) ∧ DtAll K H' zs (((items.take i).flatMap (lateOf m1 m2)).map eIt) ∧ zs.length = i * wd)
      (fun H6 e6 => ⟨[], _, _, _, _, _, rfl, e6 _ _ hl2, .nil, by simp⟩) (fun i d y σ' H6 H7 hdd mu hP e7 dy => ?_) (fun σ' H6 mu hP => ?_)
    · obtain ⟨zs, y7, y8, y9, y10, y11, rfl, hz, dz, lz⟩ := hP
      rw [List.getElem?_map] at hdd
      obtain ⟨it, hit, rfl⟩ := Option.map_eq_some_iff.mp hdd
      have hil : i < items.length := (List.getElem?_eq_some_iff.mp hit).1
      have itm := List.mem_of_getElem? hit
      have iu := itu it itm
      have kp7 : Kp K H5 H7 := (mu.kp so).trans (.ex e7)
      have so7 : Sok [l2] H7 := .cons (e7 _ _ hz) trivial .nil
      have iw : i * wd ≤ 160 * 2 := Nat.mul_le_mul (by omega) w2
      refine g_three dy fun v1 v2 v3 dd1 dd2 dd3 => ?_
      refine s_forD (S := [l2]) (iv_lst so7 (lv_call (es := behindD m1 m2 it.2.2) (av_cons (dv_var (j := 0) rfl ((d1.ex e35).mono kp7)) (av_cons (dv_var (j := 1) rfl ((d2.ex e35).mono kp7)) (av_cons (dv_var (j := 2) rfl ((d3.ex e35).mono kp7)) (av_cons (dv_var (j := 9) rfl dd3) av_nil)))) ⟨m1, m2, wd, it.2.2, rfl, ok1, ok2, iu.1, iu.lt, by have := iu.len; have := sm.2.2.2.1; omega⟩ fun es' ⟨m1', m2', t', h1, h2⟩ => ?_))
        (fun j σ' H' => ∃ (zs : List V) (y10 y11 : Option V), σ' = [some x1, some x2, some x3, some (.ref p), some (.ref l), some (.ref Da), some (.ref l2), some v1, some v2, some v3, y10, y11] ∧ H' l2 = some (.lst zs) ∧ DtAll K H' zs (((items.take i).flatMap (lateOf m1 m2) ++ (lateOf m1 m2 it).take j).map eIt) ∧ zs.length = i * wd + j)
        (fun H8 e8 => ⟨zs, _, _, rfl, e8 _ _ (e7 _ _ hz), by rw [List.take_zero, List.append_nil]; exact (dz.ex e7).ex e8, by rw [lz]; rfl⟩) (fun j d y' σ' H8 H9 hdd' mu8 hP e9 dy' => ?_) (fun σ' H8 mu8 hP => ?_)
      · injection h1 with h11 h1
        injection h1 with h12 h1
        injection h1 with _ h1
        injection h1 with h13 _
        rw [h2, eM_inj h11, eM_inj h12, eSt_inj h13]
      · obtain ⟨zs, y10, y11, rfl, hz8, dz8, lz8⟩ := hP
        have hj : j < (behindD m1 m2 it.2.2).length := (List.getElem?_eq_some_iff.mp hdd').1
        have lb : (behindD m1 m2 it.2.2).length = wd := by
          unfold behindD
          rw [List.length_mapIdx, List.getD_eq_getElem?_getD, List.getElem?_eq_getElem iu.1]
          exact ok1.len _ (List.getElem_mem iu.1)
        unfold behindD at hdd'
        rw [List.getElem?_mapIdx] at hdd'
        obtain ⟨pp, hpp, rfl⟩ := Option.map_eq_some_iff.mp hdd'
        have kp9 : Kp K H7 H9 := (mu8.kp so7).trans (.ex e9)
        refine g_two dy' fun u1 u2 du1 du2 => ?_
        have hlt : (lateOf m1 m2 it)[j]? = some (it.1 ++ [j], it.2.1, (pp.1, leftOf m2 it.2.2.2 j pp.2)) := by
          unfold lateOf
          rw [List.getElem?_mapIdx, hpp]
          rfl
        refine s_append (xs := zs) (d := eIt (it.1 ++ [j], it.2.1, (pp.1, leftOf m2 it.2.2.2 j pp.2))) (e9 _ _ hz8) (rv_var (j := 6) rfl) ?_ (by omega) fun v H10 e10 dvv => ?_
        · refine dv_tup (av_cons (dv_to (dv_tup (av_star (dv_var (j := 7) rfl (dd1.mono kp9)) (av_cons (dv_var (j := 10) rfl du1) av_nil)) ?_) ?_) (av_cons (dv_var (j := 8) rfl (dd2.mono kp9)) (av_cons (dv_var (j := 11) rfl du2) av_nil))) (by simp)
          · rw [List.length_append, List.length_map, (iok it itm).2.1]
            show k + 1 ≤ 1000000
            omega
          · show PyData.tuple _ = PyData.tuple _
            rw [List.map_append]
            rfl
        · have e810 : Ex H8 H10 := e9.trans e10
          have kpu : Kp K H10 (upd H10 l2 (.lst (zs ++ [v]))) := .upd (e810 _ _ hz8) trivial
          refine ⟨(Mu.ex e810).trans (.upd List.mem_cons_self), zs ++ [v], _, _, rfl, upd_same, ?_, by rw [List.length_append, lz8]; rfl⟩
          rw [List.take_add_one, hlt]
          show DtAll K _ _ (((items.take i).flatMap (lateOf m1 m2) ++ ((lateOf m1 m2 it).take j ++ [_])).map eIt)
          rw [← List.append_assoc, List.map_append]
          exact ((dz8.ex e810).mono kpu).snoc (dvv.mono kpu)
      · obtain ⟨zs, y10, y11, rfl, hz8, dz8, lz8⟩ := hP
        refine ⟨(Mu.ex e7).trans mu8, zs, _, _, _, _, _, rfl, hz8, ?_, ?_⟩
        · have hb2 : (behindD m1 m2 it.2.2).length = (lateOf m1 m2 it).length := by unfold behindD lateOf; rw [List.length_mapIdx, List.length_mapIdx]
          rw [hb2, List.take_length] at dz8
          rw [List.take_add_one, hit, List.flatMap_append]
          show DtAll K _ _ (((items.take i).flatMap (lateOf m1 m2) ++ ([it].flatMap (lateOf m1 m2))).map eIt)
          rw [List.flatMap_singleton]
          exact dz8
        · have hb2 : (behindD m1 m2 it.2.2).length = wd := by
            unfold behindD
            rw [List.length_mapIdx, List.getD_eq_getElem?_getD, List.getElem?_eq_getElem iu.1]
            exact ok1.len _ (List.getElem_mem iu.1)
          rw [lz8, hb2, Nat.add_mul, Nat.one_mul]
    · obtain ⟨zs, y7, y8, y9, y10, y11, rfl, hz, dz, lz⟩ := hP
      have tk : items.take (items.map eIt).length = items := by rw [List.length_map, List.take_length]
      rw [tk] at dz
      have e3H6 : Ex H H6 := fun a o ha => mu a o (fun z => by rw [List.mem_singleton.mp z] at ha; rw [e34 _ _ ha] at nl2; cases nl2) (e35 _ _ ha)
      have hD6 : H6 Da = some (DNO P w Da kxs) := mu _ _ (by simp [nDl2]) (e5 _ _ (e4 _ _ hD))
      have kp36 : Kp K H3 H6 := (Kp.ex (e4.trans e5)).trans (mu.kp so)
      -- level = []
      refine ql_asg (K := K) (ds := []) (lv_lst av_nil (by simp)) fun l3 zs3 H7 nl3 e7 hl3 dz3 => ?_
      cases dz3
      have hz7 := e7 _ _ hz
      have dz7 := dz.ex e7
      have hD7 := e7 _ _ hD6
      have nH : H l3 = none := Evl.fresh_back e3H6 nl3
      have nD3 : Da ≠ l3 := ne_of_none hD6 nl3
      have lz' : zs.length ≤ 160 * 2 := by
        rw [lz, List.length_map]
        exact Nat.mul_le_mul ilen w2
      have lzL : zs.length = (items.flatMap (lateOf m1 m2)).length := by rw [dz.length, List.length_map]
      have eH7 : Ex H H7 := e3H6.trans e7
      refine s_forE (K := K) (R := fun es => setKR ((items.flatMap (lateOf m1 m2)).map eIt) (.tuple es)) (g := _) (tu := _) ?_ fun ds8 H8 te' hR e8 hte => ?_
      · intro HH eHH Qq qq
        refine dv_callP (K := K) (dom := setKD) (R := setKR) (E := E0) (j := 6) rfl hz7 dz7 ⟨by rw [List.length_map]; omega, fun d hd => ?_, fun d hd e he => ?_⟩ HH eHH Qq fun v HH2 eH2 ⟨d, hd, dv⟩ => qq v HH2 eH2 ?_
        · obtain ⟨t, _, rfl⟩ := List.mem_map.mp hd
          exact keyD_it t
        · obtain ⟨t, _, rfl⟩ := List.mem_map.mp hd
          obtain ⟨u, _, rfl⟩ := List.mem_map.mp he
          exact alike_it t u
        · obtain ⟨es, rfl, h⟩ := hd
          exact ⟨es, ⟨es, rfl, h⟩, dv⟩
      obtain ⟨es, eds, hsub, hall, hel⟩ := hR
      obtain ⟨ts, rfl, hts⟩ := of_image (f := eIt) hsub
      have eds' : ds8 = ts.map eIt := PyData.tuple.inj eds ▸ rfl
      subst eds'
      have hall' : ∀ t ∈ items.flatMap (lateOf m1 m2), t ∈ ts := fun t ht => (mem_map_inj (fun _ _ => eIt_inj)).mp (hall _ (List.mem_map_of_mem ht))
      have tsl : ts.length ≤ 320 := by
        rw [List.length_map, List.length_map] at hel
        omega
      have tok : ∀ t ∈ ts, ItOk m1 m2 (k + 1) t := fun t ht => by
        obtain ⟨it, a, b⟩ := List.mem_flatMap.mp (hts t ht)
        exact (iok it a).late b
      have so3 : Sok [l3, Da] H8 := .cons (e8 _ _ hl3) trivial (.cons (e8 _ _ hD7) trivial .nil)
      have kp38 : Kp K H3 H8 := kp36.trans (.ex (e7.trans e8))
      refine s_forD (S := [l3, Da]) (iv_tup so3 (hte H8 (.refl _)))
        (fun i σ' H' => ∃ (items2 : List Item) (ys2 : List V) (kxs2 : List (PyData × Addr)) (y7 y8 y9 y10 y11 : Option V), σ' = [some x1, some x2, some x3, some (.ref p), some (.ref l3), some (.ref Da), some (.ref l2), y7, y8, y9, y10, y11] ∧ H' l3 = some (.lst ys2) ∧ DtAll K H' ys2 (items2.map eIt) ∧
          H' Da = some (DNO P w Da kxs2) ∧ KeysIn K H' kxs2 ∧ kxs2.map (·.1) = (vis ++ items2.map fun t => t.2.2).map eSt ∧ (vis ++ items2.map fun t => t.2.2).Nodup ∧ (∀ t ∈ items2, t ∈ ts.take i) ∧ (∀ t ∈ ts.take i, t.2.2 ∈ (vis ++ items2.map fun t => t.2.2) ∧ t.2.2.2 ≠ []))
        (fun H9 e9 => ⟨[], [], kxs, _, _, _, _, _, rfl, e9 _ _ (e8 _ _ hl3), .nil, e9 _ _ (e8 _ _ hD7), hk.mono (kp38.trans (.ex e9)), by simpa using hkk, by simpa using vnd, (fun t ht => by cases ht), (fun t ht => by cases ht)⟩) (fun i d y σ' H9 H10 hdd mu9 hP e10 dy => ?_) (fun σ' H9 mu9 hP => ?_)
      · obtain ⟨items2, ys2, kxs2, y7, y8, y9, y10, y11, rfl, hl9, dl9, hD9, hk9, hkk9, nd9, sub9, all9⟩ := hP
        rw [List.getElem?_map] at hdd
        obtain ⟨t, ht, rfl⟩ := Option.map_eq_some_iff.mp hdd
        have htm := List.mem_of_getElem? ht
        have eH9 : Ex H H9 := fun a o ha => mu9 a o (fun z => by
          rcases List.mem_cons.mp z with z | z
          · rw [z, nH] at ha; cases ha
          · rw [List.mem_singleton.mp z, nDH] at ha
            cases ha) (e8 _ _ (eH7 _ _ ha))
        refine g_three dy fun v1 v2 v3 dd1 dd2 dd3 => ?_
        refine qd_if (et_of (dv_eqI (dv_len (dv_ix (i := 2) (d := eS t.2.2.2) (dv_var (j := 9) rfl dd3) dv_int rfl)) dv_int)) (fun hb H11 e11 => ?_) fun hb H11 e11 => ?_
        · have ez : t.2.2.2 = [] := by
            have z := of_decide_eq_true hb
            rw [List.length_map] at z
            exact List.length_eq_zero_iff.mp (by omega)
          refine sd_ret (dv_tup (av_cons (dv_var (j := 8) rfl (dd2.ex e11)) (av_cons (dv_var (j := 7) rfl (dd1.ex e11)) av_nil)) (by simp)) fun v H12 e12 dv => q _ v H12 (.inr ⟨t.2.1, t.1, t.2.2, rfl, (tok t htm).1, (tok t htm).2.2, ez, ?_, ?_, fun j hj qq hq => ?_⟩) (eH9.trans (e10.trans (e11.trans e12))) dv
          · rw [(tok t htm).2.1]; exact Nat.succ_pos _
          · rw [(tok t htm).2.1]; omega
          · rw [(tok t htm).2.1] at hj
            exact lev.none (by omega) hq
        · have nz : t.2.2.2 ≠ [] := fun z => by
            have z2 := of_decide_eq_false hb
            rw [z] at z2
            exact z2 rfl
          have e911 := e10.trans e11
          have hk11 := hk9.mono (.ex e911)
          have kl2 : kxs2.length = (vis ++ items2.map fun t => t.2.2).length := by rw [← List.length_map (f := fun p : PyData × Addr => p.1), hkk9, List.length_map]
          have i2l : (vis ++ items2.map fun t => t.2.2).length ≤ 160 := Nat.le_trans (count_le nd9 fun u hu => by
            rcases List.mem_append.mp hu with z | z
            · exact vun u z
            · obtain ⟨t2, h2, rfl⟩ := List.mem_map.mp z
              exact (tok t2 (List.mem_of_mem_take (sub9 t2 h2))).rn.uni ok1) cnt
          rw [List.length_append, List.length_map] at i2l
          have tke : ts.take (i + 1) = ts.take i ++ [t] := by rw [List.take_add_one, ht]; rfl
          by_cases hin : t.2.2 ∈ (vis ++ items2.map fun t => t.2.2)
          · refine sd_no (et_to (et_of (dv_notin (b := true) (dv_var (j := 9) rfl (dd3.ex e11)) (rv_var (j := 5) rfl) (e11 _ _ (e10 _ _ hD9)) hk11 (keyD_st _) (by rw [hkk9, mem_map_inj (fun _ _ => eSt_inj)]; simp [hin]))) rfl) fun H12 e12 => ?_
            have e912 := e911.trans e12
            refine ⟨.ex e912, items2, ys2, kxs2, _, _, _, _, _, rfl, e912 _ _ hl9, dl9.ex e912, e912 _ _ hD9, hk9.mono (.ex e912), hkk9, nd9, fun u hu => ?_, fun u hu => ?_⟩
            · rw [tke]; exact List.mem_append_left _ (sub9 u hu)
            · rw [tke] at hu
              rcases List.mem_append.mp hu with z | z
              · exact all9 u z
              · rw [List.mem_singleton.mp z]; exact ⟨hin, nz⟩
          · refine sd_if (et_of (dv_notin (b := false) (dv_var (j := 9) rfl (dd3.ex e11)) (rv_var (j := 5) rfl) (e11 _ _ (e10 _ _ hD9)) hk11 (keyD_st _) (by rw [hkk9, mem_map_inj (fun _ _ => eSt_inj)]; simp [hin]))) (fun _ H12 e12 => ?_) fun z => (nomatch z)
            have e912 := e911.trans e12
            have dd3' := (dd3.ex e11).ex e12
            refine q_put (d := eSt t.2.2) dv_bl (rv_var (j := 5) rfl) (dv_var (j := 9) rfl dd3') (e912 _ _ hD9) (hk9.mono (.ex e912)) (keyD_st _) (by rw [kl2, List.length_append, List.length_map]; omega) fun bb kxs3 H13 e13 dbb ad => ?_
            have e913 := e912.trans e13
            have hnin : eSt t.2.2 ∉ kxs2.map (·.1) := fun z => hin ((mem_map_inj (fun _ _ => eSt_inj)).mp (by rw [← hkk9]; exact z))
            rcases ad with ⟨z, _⟩ | ⟨_, rfl⟩
            · exact absurd z hnin
            · have kpu : Kp K H13 (upd H13 Da (DNO P w Da (kxs2 ++ [(eSt t.2.2, bb)]))) := .upd (e913 _ _ hD9) trivial
              have n3D : l3 ≠ Da := fun z => nD3 z.symm
              refine s_append (xs := ys2) (d := eIt t) (by rw [upd_ne n3D]; exact e913 _ _ hl9) (rv_var (j := 4) rfl) (dv_tup (av_cons (dv_var (j := 7) rfl ((((dd1.ex e11).ex e12).ex e13).mono kpu)) (av_cons (dv_var (j := 8) rfl ((((dd2.ex e11).ex e12).ex e13).mono kpu)) (av_cons (dv_var (j := 9) rfl ((dd3'.ex e13).mono kpu)) av_nil))) (by simp)) (by rw [dl9.length, List.length_map]; omega) fun v H14 e14 dvv => ?_
              have hl14 : H14 l3 = some (.lst ys2) := e14 _ _ (by rw [upd_ne n3D]; exact e913 _ _ hl9)
              have kpv : Kp K H14 (upd H14 l3 (.lst (ys2 ++ [v]))) := .upd hl14 trivial
              have kp914 : Kp K H9 H14 := (Kp.ex e913).trans (kpu.trans (.ex e14))
              have e1 : vis ++ (items2 ++ [t]).map (fun t => t.2.2) = (vis ++ items2.map fun t => t.2.2) ++ [t.2.2] := by rw [List.map_append, List.append_assoc]; rfl
              refine ⟨?_, items2 ++ [t], ys2 ++ [v], kxs2 ++ [(eSt t.2.2, bb)], _, _, _, _, _, rfl, upd_same, ?_, by rw [upd_ne nD3]; exact e14 _ _ upd_same, ?_, ?_, ?_, fun u hu => ?_, fun u hu => ?_⟩
              · exact ((Mu.ex e913).trans (.upd (by simp))).trans ((Mu.ex e14).trans (.upd (by simp)))
              · rw [List.map_append]
                exact ((dl9.mono kp914).mono kpv).snoc (dvv.mono kpv)
              · exact (((hk9.mono (.ex e913)).snoc dbb (keyD_st _)).mono kpu).mono ((Kp.ex e14).trans kpv)
              · rw [e1, List.map_append, List.map_append, hkk9]
                rfl
              · rw [e1]
                exact List.nodup_append.mpr ⟨nd9, by simp, fun a ha b hb z => hin (by rw [← List.mem_singleton.mp hb, ← z]; exact ha)⟩
              · rw [tke]
                rcases List.mem_append.mp hu with z | z
                · exact List.mem_append_left _ (sub9 u z)
                · exact List.mem_append_right _ z
              · rw [e1]
                rw [tke] at hu
                rcases List.mem_append.mp hu with z | z
                · exact ⟨List.mem_append_left _ (all9 u z).1, (all9 u z).2⟩
                · rw [List.mem_singleton.mp z]
                  exact ⟨List.mem_append_right _ List.mem_cons_self, nz⟩
      · obtain ⟨items2, ys2, kxs2, y7, y8, y9, y10, y11, rfl, hl9, dl9, hD9, hk9, hkk9, nd9, sub9, all9⟩ := hP
        have eH9 : Ex H H9 := fun a o ha => mu9 a o (fun z => by
          rcases List.mem_cons.mp z with z | z
          · rw [z, nH] at ha; cases ha
          · rw [List.mem_singleton.mp z, nDH] at ha
            cases ha) (e8 _ _ (eH7 _ _ ha))
        have tkl : ts.take (ts.map eIt).length = ts := by rw [List.length_map, List.take_length]
        rw [tkl] at sub9 all9
        have vun9 : ∀ q ∈ (vis ++ items2.map fun t => t.2.2), Uni m1 m2 q := fun u hu => by
          rcases List.mem_append.mp hu with z | z
          · exact vun u z
          · obtain ⟨t2, h2, rfl⟩ := List.mem_map.mp z
            exact (tok t2 (sub9 t2 h2)).rn.uni ok1
        have hlev : Lev m1 m2 (k + 1) (items2.map fun t => t.2.2) (vis ++ items2.map fun t => t.2.2) := lev.next (fun q' hq' => ?_) (fun q0 hq0 q' hs => ?_) (fun q0 hq0 => List.mem_append.mp hq0) (fun q0 hq0 => List.mem_append_left _ hq0) (fun q0 hq0 => ?_)
        · have c9 := Nat.le_trans (count_le nd9 vun9) cnt
          rw [List.length_append, List.length_map] at c9
          refine ⟨2 * (161 - (vis ++ items2.map fun t => t.2.2).length) + (if items2 = [] then 0 else 1), ?_, k + 1, items2, _, l3, ys2, kxs2, _, _, _, _, _, _, rfl, eH9, nH, nDH, hl9, dl9, hD9, hk9, hkk9, nd9, vun9, hlev, fun t ht => tok t (sub9 t ht), ?_, ?_, rfl⟩
          · rw [List.length_append, List.length_map, hm]
            by_cases c : items2 = []
            · rw [if_pos c, c]; simp
            · rw [if_neg c]
              have := List.length_pos_iff.mpr c
              omega
          · rw [List.length_append, List.length_map]; omega
          · rw [List.length_append, List.length_map]
            by_cases c : items2 = []
            · rw [if_pos c, c]; simp; omega
            · rw [if_neg c]
              have := List.length_pos_iff.mpr c
              omega
        · obtain ⟨t2, h2, rfl⟩ := List.mem_map.mp hq'
          obtain ⟨it, a, b⟩ := List.mem_flatMap.mp (hts t2 (sub9 t2 h2))
          obtain ⟨x, hx, _⟩ := mem_late.mp b
          exact ⟨it.2.2, List.mem_map_of_mem a, x, hx⟩
        · obtain ⟨it, a, rfl⟩ := List.mem_map.mp hq0
          obtain ⟨x, hx⟩ := hs
          exact (all9 (it.1 ++ [x], it.2.1, q') (hall' _ (List.mem_flatMap.mpr ⟨it, a, mem_late.mpr ⟨x, hx, rfl, rfl⟩⟩))).1
        · rcases List.mem_append.mp hq0 with z | z
          · exact lev.v q0 z
          · obtain ⟨t2, h2, rfl⟩ := List.mem_map.mp z
            exact (all9 t2 (sub9 t2 h2)).2
  · have ei : items = [] := List.length_eq_zero_iff.mp (by have := of_decide_eq_false hb; omega)
    subst ei
    exact sd_ret dv_non fun v H5 e5 dv => q _ v H5 (.inl ⟨rfl, lev.stop⟩) (e3.trans (e4.trans e5)) dv
end
end Wok
namespace Wok
open PySem PySem.Spec PyProof.Rows L2
open Evl (Ex EvT)
section
variable {P : Program} {w : World} {K : PySem.W.Frag} {mg : Str → Option Value} {base : Heap}
theorem sc_failing_by : FnScope ["one", "other", "beats", "guard"] ["one", "other", "beats", "guard"] (defScope s_failing_by) := ⟨rfl, rfl, rfl, by decide +kernel, rfl, by decide +kernel, by decide +kernel⟩
def ffD (ds : List PyData) : Prop := ∃ m1 m2 wd, ds = [eM m1, eM m2, eI 0, .none] ∧ Small m1 m2 wd
def ffR (ds : List PyData) (d : PyData) : Prop := ∃ m1 m2, ds = [eM m1, eM m2, eI 0, .none] ∧ FailR m1 m2 d
theorem cal_failing_by (T : Fr mg) (D : HasD K mg "failing_by" s_failing_by [] []) (C_failing_from : Cal P w K mg base 4 "failing_from" ["one", "other", "guard", "states"] [] (spFF K)) (C_states_begun : Cal P w K mg base 3 "states_begun" ["one", "other", "beats"] [] (SpL K begunD begunR)) :
    Cal P w K mg base 5 "failing_by" ["one", "other", "beats", "guard"] [] (SpR K ffD ffR) := by
  refine calR D sc_failing_by (fun ds ⟨_, _, _, e, _⟩ => by rw [e]; rfl) (fun _ _ _ _ _ _ us hl => match us, hl with | [_, _, _, _], _ => rfl) fun f cdv A outer s H vs ds Q E hr hd ⟨m1, m2, wd, e, sm⟩ q => ?_
  subst e
  obtain ⟨x1, x2, x3, x4, rfl, d1, d2, d3, d4⟩ := hd.four
  refine ⟨_, (pss_one (ps_ret (pe_cal C_failing_from hr (by decide) (pa_cons (pv 0) (pa_cons (pv 1) (pa_cons (pv 3) (pa_cons (pe_cal C_states_begun hr (by decide) (pa_cons (pv 0) (pa_cons (pv 1) (pa_cons (pv 2) pa_nil)))) pa_nil))))))), ?_⟩
  refine sd_ret (P := fun v H' => ∃ d, FailR m1 m2 d ∧ Dt K H' v d) (fun H1 e1 Q1 q1 => ?_) fun v H1 e1 ⟨d, h, dv⟩ => q d v H1 ⟨m1, m2, rfl, h⟩ e1 dv
  refine ⟨x1, rfl, x2, rfl, x4, rfl, ?_⟩
  refine lv_call (E := E0) (K := K) (dom := begunD) (RL := begunR) (es := (begunL m1 m2).map eSt) (av_cons (dv_var (j := 0) rfl d1) (av_cons (dv_var (j := 1) rfl d2) (av_cons (dv_var (j := 2) rfl d3) av_nil))) ⟨m1, m2, wd, rfl, sm.1, sm.2.1⟩ (fun es' ⟨m1', m2', h1, h2⟩ => ?_) H1 e1 _ fun p xs H2 np e2 hp dl => ?_
  · injection h1 with h11 h1
    injection h1 with h12 _
    rw [h2, eM_inj h11, eM_inj h12]
  · exact ⟨x1, x2, x4, p, xs, m1, m2, wd, rfl, d1.ex (e1.trans e2), d2.ex (e1.trans e2), d4.ex (e1.trans e2), hp, dl, sm, fun d v H3 h e3 dv => q1 v H3 (e2.trans e3) ⟨d, h, dv⟩⟩
theorem sc_failing : FnScope ["one", "other", "beats", "guard"] ["one", "other", "beats", "guard"] (defScope s_failing) := ⟨rfl, rfl, rfl, by decide +kernel, rfl, by decide +kernel, by decide +kernel⟩
theorem cal_failing (T : Fr mg) (D : HasD K mg "failing" s_failing [] [("beats", .int 0), ("guard", .non)]) (C_want_case : Cal P w K mg base 8 "want_case" ["one", "other", "beats", "guard"] [] (SpR K caseD noneR)) (C_failing_by : Cal P w K mg base 5 "failing_by" ["one", "other", "beats", "guard"] [] (SpR K ffD ffR)) :
    Cal P w K mg base 9 "failing" ["one", "other", "beats", "guard"] [.int 0, .non] (SpR K ffD ffR) := by
  refine calRB D sc_failing (fun ds ⟨_, _, _, e, _⟩ => by rw [e]; rfl) (fun f fd F => FunD.binds0 F 2 (by simp) rfl fun Da doc pm an cdv ct us ks hu hk => match us, ks, hu, hk with | [_, _], [_, _], _, _ => ⟨_, _, _, _, _, _, rfl, rfl, ⟨_, _, _, _, _, _, rfl, rfl, rfl⟩⟩) fun f cdv A outer s H vs ds Q E hr hd ⟨m1, m2, wd, e, sm⟩ q => ?_
  subst e
  obtain ⟨x1, x2, x3, x4, rfl, d1, d2, d3, d4⟩ := hd.four
  refine ⟨_, (pss_cons (ps_expr (pe_cal C_want_case hr (by decide) (pa_cons (pv 0) (pa_cons (pv 1) (pa_cons (pv 2) (pa_cons (pv 3) pa_nil))))))
      (pss_one (ps_ret (pe_cal C_failing_by hr (by decide) (pa_cons (pv 0) (pa_cons (pv 1) (pa_cons (pv 2) (pa_cons (pv 3) pa_nil)))))))), ?_⟩
  refine qd_drop (dv_nonR (av_cons (dv_var (j := 0) rfl d1) (av_cons (dv_var (j := 1) rfl d2) (av_cons (dv_var (j := 2) rfl d3) (av_cons (dv_var (j := 3) rfl d4) av_nil)))) ⟨m1, m2, wd, rfl, sm.1, sm.2.1⟩) fun H1 e1 => ?_
  exact sd_ret (dv_call (av_cons (dv_var (j := 0) rfl (d1.ex e1)) (av_cons (dv_var (j := 1) rfl (d2.ex e1)) (av_cons (dv_var (j := 2) rfl (d3.ex e1)) (av_cons (dv_var (j := 3) rfl (d4.ex e1)) av_nil)))) ⟨m1, m2, wd, rfl, sm⟩) fun v H2 e2 ⟨d, h, dv⟩ => q d v H2 h (e1.trans e2) dv
theorem sc_feeding : FnScope ["letters", "answers", "many", "found", "k", "letter", "goal", "moves", "answer"] ["letters", "answers"] (defScope s_feeding) := ⟨rfl, rfl, rfl, by decide +kernel, rfl, by decide +kernel, by decide +kernel⟩
def moveD (n : Nat) (K : Nat) (k : Nat) : PyData := .tuple ((List.range K).map fun a => .tuple [eI (if k + 1 < n then k + 1 else 0), eI (k * K + a)])
def placeD (n K : Nat) (k x : Nat) : PyData := .tuple [.tuple [eI x, moveD n K k]]
def feedD (l : List Nat) (K : Nat) : PyData := .tuple (l.mapIdx (placeD l.length K))
def feedDom (ds : List PyData) : Prop := ∃ l K, ds = [eS l, eI K] ∧ l.length ≤ 1000 ∧ K ≤ 1000
def feedRes (ds : List PyData) (d : PyData) : Prop := ∃ l K, ds = [eS l, eI K] ∧ d = feedD l K
theorem cal_feeding (T : Fr mg) (D : HasD K mg "feeding" s_feeding [] []) : Cal P w K mg base 1 "feeding" ["letters", "answers"] [] (SpR K feedDom feedRes) := by
  refine calR D sc_feeding (fun ds ⟨_, _, e, _⟩ => by rw [e]; rfl) (fun _ _ _ _ _ _ us hl => match us, hl with | [_, _], _ => rfl) fun f cdv A outer s H vs ds Q E hr hd ⟨l, kk, e, hl, hk⟩ q => ?_
  subst e
  obtain ⟨x1, x2, rfl, d1, d2⟩ := hd.two
  refine ⟨_, (pss_cons (ps_par (i := 2) (j := 3) (by rfl) sc_feeding.nd rfl rfl (by decide) rfl rfl (pa_cons (pe_callB (call_lenK (K := K) rfl) (by rfl) T.len (by decide +kernel) (pa_cons (pv 0) pa_nil)) (pa_cons (pe_lst pa_nil) pa_nil)) (by rfl))
      (pss_cons (ps_for PassesOwn.never rfl (pi_enumT (by rfl) T.enumerate (pa_cons (pv 0) pa_nil)) (pg_tup (by rfl) (pgs_cons (pg_name (i := 4) sc_feeding.nd rfl (Or.inr rfl)) (pgs_cons (pg_name (i := 5) sc_feeding.nd rfl (Or.inl rfl)) pgs_nil)))
      (pss_cons (ps_set (i := 6) sc_feeding.nd rfl (Or.inr rfl) (pe_ifExp (pt_cmpR op_lt (pe_op op_add (pv 4) pe_int) (pv 2) (nomark _)) (pe_op op_add (pv 4) pe_int) pe_int))
      (pss_cons (ps_setLc (i := 7) (own := [("answer", 8)]) (g := gName 8) (by rfl) sc_feeding.nd rfl rfl (sw_true rfl rfl rfl (by decide +kernel)) (pi_range1 (by rfl) T.range (pa_cons (pv 1) pa_nil)) (blkOk_by (N := ["letters", "answers", "many", "found", "k", "letter", "goal", "moves", "answer"]) (sc := defScope s_feeding) (by decide +kernel)) (fun _ _ _ _ _ => (pg_name (i := 8) sc_feeding.nd rfl (Or.inl rfl))) (fun _ _ _ _ _ => pts_nil) (fun _ _ _ _ _ => (pe_tup (pa_cons (pv 6) (pa_cons (pe_op op_add (pe_op op_mul (pv 4) (pv 1)) (pv 8)) pa_nil)))))
      (pss_one (ps_expr (pe_bm PySem.F.plainAttrs_list PySem.F.slot_list_append PySem.F.type_list_append mt_append (pv 3) (pa_cons (pe_tup (pa_cons (pe_tup (pa_cons (pv 5) (pa_cons (pe_tupleOfK (K := K) rfl (by rfl) T.tuple (pv 7)) pa_nil))) pa_nil)) pa_nil)))))))
      (pss_one (ps_ret (pe_tupleOfK (K := K) rfl (by rfl) T.tuple (pv 3)))))), ?_⟩
  have ll : (l.map eI).length = l.length := List.length_map ..
  refine q_parL (dv_len (dv_var (j := 0) rfl d1)) (lv_lst av_nil (by simp)) fun v fl xs H1 nf e1 dv hf dz => ?_
  cases dz
  have ev := dv.int_of
  subst ev
  rw [ll]
  have so : Sok [fl] H1 := .cons hf trivial .nil
  have d1' := d1.ex e1
  have d2' := d2.ex e1
  refine q_forD (S := [fl]) (iv_enum so (dv_var (j := 0) rfl d1')) (fun i σ' H' => ∃ (ys : List V) (y4 y5 y6 y7 : Option V), σ' = [some x1, some x2, some (.int (l.length : Nat)), some (.ref fl), y4, y5, y6, y7, none] ∧ H' fl = some (.lst ys) ∧ DtAll K H' ys ((l.mapIdx (placeD l.length kk)).take i) ∧ ys.length = i)
    (fun H2 e2 => ⟨[], _, _, _, _, rfl, e2 _ _ hf, .nil, rfl⟩) (fun i d y σ' H2 H3 hdd mu hP e3 dy => ?_) (fun σ' H2 mu hP => ?_)
  · obtain ⟨ys, y4, y5, y6, y7, rfl, hf2, dl2, ly⟩ := hP
    rw [enumD_get] at hdd
    obtain ⟨d0, h0, rfl⟩ := Option.map_eq_some_iff.mp hdd
    obtain ⟨x, hx, rfl⟩ := of_eS h0
    have hi : i < l.length := (List.getElem?_eq_some_iff.mp hx).1
    have kp : Kp K H1 H3 := (mu.kp so).trans (.ex e3)
    refine g_two dy fun v1 v2 dd1 dd2 => ?_
    have e1' := dd1.int_of
    subst e1'
    refine qd_asg (d := eI (if i + 1 < l.length then i + 1 else 0)) (dv_to (dv_ifD (b := decide (((i : Nat) : Int) + 1 < (l.length : Nat))) (et_of (dv_opB (dv_op (dv_var (j := 4) rfl dd1) dv_int) (dv_var (j := 2) rfl (.int _)))) (d1 := .int ((i : Nat) + 1)) (d2 := .int 0) (fun _ => dv_op (dv_var (j := 4) rfl dd1) dv_int) (fun _ => dv_int)) ?_) fun g H4 e4 dg => ?_
    · by_cases c : i + 1 < l.length
      · rw [if_pos c, if_pos (decide_eq_true (by omega))]; rfl
      · rw [if_neg c, if_neg (by simp; omega)]; rfl
    refine ql_asg (lv_to (lv_map (ns := [8]) (iv_rng (S := []) (dv_var (j := 1) rfl ((d2'.mono kp).ex e4)) (by omega) (by omega)) (by unfold rangeD; rw [List.length_map, List.length_range]; omega) (fun d => match d with | .int a => .tuple [eI (if i + 1 < l.length then i + 1 else 0), .int ((i : Int) * kk + a)] | _ => .none) fun j d y H5 hd5 e5 dy5 R k => ?_)
        (es := (List.range kk).map fun a => .tuple [eI (if i + 1 < l.length then i + 1 else 0), eI (i * kk + a)]) ?_) fun p zs H5 np e5 hp dzs => ?_
    · unfold rangeD at hd5
      rw [List.getElem?_map] at hd5
      obtain ⟨a, _, rfl⟩ := Option.map_eq_some_iff.mp hd5
      refine k _ rfl ?_
      exact dv_tup (av_cons (dv_var (j := 6) rfl (dg.ex e5)) (av_cons (dv_op (dv_opC (dv_var (j := 4) rfl ((dd1.ex e4).ex e5)) (dv_var (j := 1) rfl (((d2'.mono kp).ex e4).ex e5)) (mul_ok (by omega) (by omega))) (dv_var (j := 8) rfl dy5)) av_nil)) (by simp)
    · unfold rangeD
      rw [List.map_map]
      refine List.map_congr_left fun a _ => ?_
      show PyData.tuple [_, PyData.int _] = PyData.tuple [_, PyData.int _]
      simp
    have e35 : Ex H3 H5 := e4.trans e5
    refine s_append (xs := ys) (d := placeD l.length kk i x) (e35 _ _ (e3 _ _ hf2)) (rv_var (j := 3) rfl) (dv_tup (av_cons (dv_tup (av_cons (dv_var (j := 5) rfl (dd2.ex e35)) (av_cons (dv_tuple (lw_var (j := 7) rfl hp dzs)) av_nil)) (by simp)) av_nil) (by simp)) (by omega) fun v H6 e6 dvv => ?_
    have e26 : Ex H2 H6 := e3.trans (e35.trans e6)
    have kpu : Kp K H6 (upd H6 fl (.lst (ys ++ [v]))) := .upd (e26 _ _ hf2) trivial
    refine ⟨(Mu.ex e26).trans (.upd List.mem_cons_self), ys ++ [v], _, _, _, _, rfl, upd_same, ?_, by rw [List.length_append, ly]; rfl⟩
    rw [List.take_add_one, List.getElem?_mapIdx, hx]
    exact ((dl2.ex e26).mono kpu).snoc (dvv.mono kpu)
  · obtain ⟨ys, y4, y5, y6, y7, rfl, hf2, dl2, ly⟩ := hP
    have tk : (l.mapIdx (placeD l.length kk)).take (enumD (l.map eI)).length = l.mapIdx (placeD l.length kk) := List.take_of_length_le (by rw [List.length_mapIdx, enumD_len, ll]; exact Nat.le_refl _)
    rw [tk] at dl2
    have e02 : Ex H H2 := fun a o ha => mu a o (fun z => by rw [List.mem_singleton.mp z, nf] at ha; cases ha) (e1 _ _ ha)
    exact sd_ret (dv_tuple (lw_var (j := 3) rfl hf2 dl2)) fun v H3 e3 dv => q _ v H3 ⟨l, kk, rfl, rfl⟩ (e02.trans e3) dv
theorem sc_greatest_answer : FnScope ["machine", "standing", "late", "answer"] ["machine"] (defScope s_greatest_answer) := ⟨rfl, rfl, rfl, by decide +kernel, rfl, by decide +kernel, by decide +kernel⟩
def ansL (m : Mach) : List Nat := m.flatMap fun r => r.map fun p => p.2
def gA (m : Mach) : Nat := (ansL m).foldl max 0
theorem gA_le (l : List Nat) (c : Nat) : c ≤ l.foldl max c ∧ ∀ x ∈ l, x ≤ l.foldl max c := by
  induction l generalizing c with
  | nil => exact ⟨Nat.le_refl _, fun x h => by cases h⟩
  | cons y l ih =>
    have z := ih (max c y)
    refine ⟨Nat.le_trans (Nat.le_max_left _ _) z.1, fun x hx => ?_⟩
    rcases List.mem_cons.mp hx with e | h
    · rw [e]; exact Nat.le_trans (Nat.le_max_right _ _) z.1
    · exact z.2 x h
theorem gA_mem (l : List Nat) (c : Nat) : l.foldl max c = c ∨ l.foldl max c ∈ l := by
  induction l generalizing c with
  | nil => exact .inl rfl
  | cons y l ih =>
    rcases ih (max c y) with z | z
    · show l.foldl max (max c y) = c ∨ l.foldl max (max c y) ∈ y :: l
      rw [z]
      rcases Nat.le_total c y with h | h
      · rw [Nat.max_eq_right h]; exact .inr List.mem_cons_self
      · rw [Nat.max_eq_left h]; exact .inl rfl
    · exact .inr (List.mem_cons_of_mem _ z)
def gADom (ds : List PyData) : Prop := ∃ m wd, ds = [eM m] ∧ OkM m wd ∧ m.length ≤ 10000 ∧ wd ≤ 50
def gARes (ds : List PyData) (d : PyData) : Prop := ∃ m, ds = [eM m] ∧ d = eI (gA m)
theorem cal_greatest_answer (T : Fr mg) (D : HasD K mg "greatest_answer" s_greatest_answer [] []) : Cal P w K mg base 1 "greatest_answer" ["machine"] [] (SpR K gADom gARes) := by
  refine calR D sc_greatest_answer (fun ds ⟨_, _, e, _⟩ => by rw [e]; rfl) (fun _ _ _ _ _ _ us hl => match us, hl with | [_], _ => rfl) fun f cdv A outer s H vs ds Q E hr hd ⟨m, wd, e, ok, h1, h2⟩ q => ?_
  subst e
  obtain ⟨x1, rfl, d1⟩ := hd.one
  refine ⟨_, (pss_one (ps_ret (pe_callB (cr_max rfl) (by rfl) T.max (by decide +kernel) (pa_cons (pe_lc2 (own := [("standing", 1), ("late", 2), ("answer", 3)]) (vs1 := [2, 3]) (g := gName 1) (g1 := gTup K 2 (gCons (gName 2) (gCons (gName 3) gNil))) (by rfl) sc_greatest_answer.nd (pi_tupK (K := K) rfl (pv 0)) (blkOk_by (N := ["machine", "standing", "late", "answer"]) (sc := defScope s_greatest_answer) (by decide +kernel)) (by decide) (fun _ _ _ _ _ => (pg_name (i := 1) sc_greatest_answer.nd rfl (Or.inl rfl))) (fun _ _ _ _ _ => pts_nil) (fun _ _ _ _ _ => (pi_tupK (K := K) rfl (pv 1))) (fun _ _ _ _ _ => (pg_tup (by rfl) (pgs_cons (pg_name (i := 2) sc_greatest_answer.nd rfl (Or.inl rfl)) (pgs_cons (pg_name (i := 3) sc_greatest_answer.nd rfl (Or.inl rfl)) pgs_nil)))) (fun _ _ _ _ _ => pts_nil) (fun _ _ _ _ _ => (pv 3))) pa_nil)))), ?_⟩
  have lM : (m.map eR).length = m.length := List.length_map ..
  have ne := ok.ne
  have hmem : gA m ∈ ansL m := by
    rcases gA_mem (ansL m) 0 with z | z
    · have hr := ok.len m[0] (List.getElem_mem ne)
      have hp : 0 < m[0].length := by rw [hr]; exact ok.wd
      have hin : m[0][0].2 ∈ ansL m := List.mem_flatMap.mpr ⟨m[0], List.getElem_mem ne, List.mem_map.mpr ⟨_, List.getElem_mem hp, rfl⟩⟩
      have hle := (gA_le (ansL m) 0).2 _ hin
      have : gA m = 0 := z
      unfold gA at *
      rw [z] at hle ⊢
      have e0 : m[0][0].2 = 0 := by omega
      rw [e0] at hin
      exact hin
    · exact z
  refine sd_ret (dv_max (ms := (ansL m).map fun (n : Nat) => (n : Int)) (m := (gA m : Nat)) (lv_to (lv_lc2 (ns := [1, 2, 3]) (ns1 := [2, 3]) (iv_tup .nil (dv_var (j := 0) rfl d1)) (by omega) (fun d => match d with | .tuple r => r | _ => []) (fun d hd => ?_) (fun _ e => match e with | .tuple [_, a] => a | _ => .none) fun i d y H2 hdd e2 dy R k => ?_) ?_).w ?_ ?_) fun v H1 e1 dv => q _ v H1 ⟨m, rfl, rfl⟩ e1 dv
  · obtain ⟨r, hr, rfl⟩ := List.mem_map.mp hd
    show (r.map eP).length ≤ 50
    rw [List.length_map, ok.len r hr]
    exact h2
  · obtain ⟨r, hr, rfl⟩ := of_eM hdd
    refine k _ rfl (fun S H3 e3 so => iv_tup so (dv_var (j := 1) rfl (dy.ex e3))) fun j e y3 H3 hje _ _ dy3 R1 k1 => ?_
    obtain ⟨p, hp, rfl⟩ := of_eR hje
    exact g_two dy3 fun v1 v2 dv1 dv2 => k1 _ rfl (dv_var (j := 3) rfl dv2)
  · unfold ansL
    rw [List.map_map, List.map_flatMap, List.flatMap_map]
    congr 1
    funext r
    show (r.map eP).map _ = (r.map fun p => p.2).map _
    rw [List.map_map, List.map_map]
    rfl
  · exact List.mem_map.mpr ⟨gA m, hmem, rfl⟩
  · intro y hy
    obtain ⟨n, hn, rfl⟩ := List.mem_map.mp hy
    have := (gA_le (ansL m) 0).2 n hn
    unfold gA
    omega
theorem sc_parting_surrounding : FnScope ["one", "other", "found"] ["one", "other"] (defScope s_parting_surrounding) := ⟨rfl, rfl, rfl, by decide +kernel, rfl, by decide +kernel, by decide +kernel⟩
def partDom (ds : List PyData) : Prop := ∃ m1 m2 wd, ds = [eM m1, eM m2] ∧ Small m1 m2 wd ∧ gA m1 ≤ 100 ∧ gA m2 ≤ 100
def ansK (m1 m2 : Mach) : Nat := 1 + max (gA m1) (gA m2)
def PartR (m1 m2 : Mach) (d : PyData) : Prop := (d = .none ∧ ∀ k q, RN m1 m2 k q → q.2 ≠ []) ∨
  ∃ b l q, d = feedD l (ansK m1 m2) ∧ b < m1.length ∧ runW m1 m2 (st0 m2 b) l = some q ∧ q.2 = [] ∧ 0 < l.length ∧ l.length ≤ 160 ∧ ∀ j, j < l.length → ∀ q, RN m1 m2 j q → q.2 ≠ []
def partRes (ds : List PyData) (d : PyData) : Prop := ∃ m1 m2, ds = [eM m1, eM m2] ∧ PartR m1 m2 d
/-- a def of two parameters that may be called by their names, too, the second one first -/
structure CalK (P : Program) (w : World) (K : PySem.W.Frag) (mg : Str → Option Value) (base : Heap) (k : Nat) (x p1 p2 : Str) (sp : Sp) : Prop where
  ex : ∃ f fd, FnOk P w K mg base CX0 k f fd [p1, p2] sp ∧ mg x = some (.ref f) ∧ PySem.W.keepIn K (.ref f) = true ∧ Binds K fd [p1, p2] [] ∧ ∀ (s : Shared) (a b : Value), BindsTo s fd ⟨[], [(p2, a), (p1, b)]⟩ [(p1, b), (p2, a)]
theorem CalK.cal {P : Program} {w : World} {K : PySem.W.Frag} {mg : Str → Option Value} {base : Heap} {k : Nat} {x p1 p2 : Str} {sp : Sp} (C : CalK P w K mg base k x p1 p2 sp) : Cal P w K mg base k x [p1, p2] [] sp :=
  let ⟨f, fd, h1, h2, h3, h4, _⟩ := C.ex
  ⟨f, fd, [], h1, h2, h3, h4, .nil⟩
theorem calRK {x p1 p2 : Str} {st : Stmt} {N : List Str} {k : Nat} {kws : List (Str × V)} {dom : List PyData → Prop} {R : List PyData → PyData → Prop} (D : HasD K mg x st [] kws) (S : FnScope N [p1, p2] (defScope st)) (len : ∀ ds, dom ds → ds.length = 2)
    (hb : ∀ (kV doc pm : Value) (an : Option Addr) (cdv ct : Value) (us : List Value), us.length = 2 → bindArgs (PySem.W.fnOf x x (defArgs st) (defBody st) (defScope st) .none kV doc pm an cdv ct) ⟨us, []⟩ = pure ([p1, p2].zip us))
    (hk : ∀ (kV doc pm : Value) (an : Option Addr) (cdv ct : Value) (a b : Value), bindArgs (PySem.W.fnOf x x (defArgs st) (defBody st) (defScope st) .none kV doc pm an cdv ct) ⟨[], [(p2, a), (p1, b)]⟩ = pure [(p1, b), (p2, a)])
    (hbody : ∀ (f : Addr) (cdv : Value) (A : Around) (outer : List Env) (s : Shared) (H : Hp) (vs : List V) (ds : List PyData) (Q : VK) (E : XK), Room k (A.deeper (envOfC x (defScope st) s.heap.objs.size f cdv)) → DtAll K H vs ds → dom ds →
      (∀ d v H', R ds d → Ex H H' → Dt K H' v d → Q v H') →
      ∃ t, PSs (cxOf CX0 P w K mg base N x (defScope st) f cdv A outer s H E).nox (defBody st) t ∧ t { nx := fun _ H' => Q .non H', rt := Q } (start N vs) H) : CalK P w K mg base (k + 1) x p1 p2 (SpR K dom R) := by
  obtain ⟨f, fd, F, hm⟩ := D.ex
  refine ⟨f, fd, F.ok S (fun vs H Q E ⟨ds, h1, h2, _⟩ => h1.length.trans (len ds h2)) fun cdv A outer s H vs Q E hr ⟨ds, h1, h2, q⟩ => (hbody f cdv A outer s H vs ds Q E hr h1 h2 q).imp fun t z => ⟨PSs.nox z.1, z.2⟩, hm, F.kp, F.bindsN hb, fun s a b => ?_⟩
  obtain ⟨oc, od, dV, kV, doc, pm, an, cdv, ct, osl, rfl, lk, hcd, hD, hK⟩ := F.ex
  rcases hD with ⟨_, rfl⟩ | ⟨e, _⟩
  · exact .of_eq (hk kV doc pm an cdv ct a b)
  · exact absurd rfl e
/-- what the def keeps, however it is called -/
theorem cal_parting (T : Fr mg) (D : HasD K mg "parting_surrounding" s_parting_surrounding [] []) (C_want : Cal P w K mg base 1 "want" ["is_right", "word", "at"] [.int (-1)] (SpR K wantD noneR)) (C_want_machine : Cal P w K mg base 6 "want_machine" ["machine", "word"] [] (SpR K wantMD noneR))
    (C_failing : Cal P w K mg base 9 "failing" ["one", "other", "beats", "guard"] [.int 0, .non] (SpR K ffD ffR)) (C_feeding : Cal P w K mg base 1 "feeding" ["letters", "answers"] [] (SpR K feedDom feedRes)) (C_greatest_answer : Cal P w K mg base 1 "greatest_answer" ["machine"] [] (SpR K gADom gARes)) :
    CalK P w K mg base 10 "parting_surrounding" "one" "other" (SpR K partDom partRes) := by
  refine calRK D sc_parting_surrounding (fun ds ⟨_, _, _, e, _⟩ => by rw [e]; rfl) (fun _ _ _ _ _ _ us hl => match us, hl with | [_, _], _ => rfl) (fun _ _ _ _ _ _ _ _ => rfl) fun f cdv A outer s H vs ds Q E hr hd ⟨m1, m2, wd, e, sm, a1, a2⟩ q => ?_
  subst e
  obtain ⟨x1, x2, rfl, d1, d2⟩ := hd.two
  have ok1 := sm.1
  have ok2 := sm.2.1
  have n5 := sm.2.2.1
  have n6 := sm.2.2.2.1
  have w2 := sm.2.2.2.2
  refine ⟨_, (pss_cons (ps_expr (pe_cal C_want_machine hr (by decide) (pa_cons (pv 0) (pa_cons pe_str pa_nil))))
      (pss_cons (ps_expr (pe_cal C_want_machine hr (by decide) (pa_cons (pv 1) (pa_cons pe_str pa_nil))))
      (pss_cons (ps_expr (pe_cal C_want hr (by decide) (pa_cons (pe_cmpR op_eq (pe_callB (call_lenK (K := K) rfl) (by rfl) T.len (by decide +kernel) (pa_cons (pe_ix (ix_tupK (K := K) rfl) (pv 0) pe_int (fun _ _ => rfl)) pa_nil)) (pe_callB (call_lenK (K := K) rfl) (by rfl) T.len (by decide +kernel) (pa_cons (pe_ix (ix_tupK (K := K) rfl) (pv 1) pe_int (fun _ _ => rfl)) pa_nil)) (nomark _)) (pa_cons pe_str pa_nil))))
      (pss_cons (ps_set (i := 2) sc_parting_surrounding.nd rfl (Or.inl rfl) (pe_cal C_failing hr (by decide) (pa_cons (pv 0) (pa_cons (pv 1) pa_nil))))
      (pss_cons (ps_if (pt_cmpR op_isN (pv 2) pe_non (nomark _)) (pss_one (ps_ret pe_non)) pss_nil)
      (pss_one (ps_ret (pe_cal C_feeding hr (by decide) (pa_cons (pe_ix (ix_tupK (K := K) rfl) (pv 2) pe_int (fun _ _ => rfl)) (pa_cons (pe_op op_add pe_int (pe_callB (cr_max rfl) (by rfl) T.max (by decide +kernel) (pa_cons (pe_lst (pa_cons (pe_cal C_greatest_answer hr (by decide) (pa_cons (pv 0) pa_nil)) (pa_cons (pe_cal C_greatest_answer hr (by decide) (pa_cons (pv 1) pa_nil)) pa_nil))) pa_nil))) pa_nil)))))))))), ?_⟩
  refine qd_drop (dv_nonR (av_cons (dv_var (j := 0) rfl d1) (av_cons dv_str av_nil)) ⟨m1, wd, _, rfl, ok1⟩) fun H1 e1 => ?_
  refine qd_drop (dv_nonR (av_cons (dv_var (j := 1) rfl (d2.ex e1)) (av_cons dv_str av_nil)) ⟨m2, wd, _, rfl, ok2⟩) fun H2 e2 => ?_
  have e12 := e1.trans e2
  refine qd_drop (dv_callD (dd := [.int (-1)]) (fun H => .cons (.int _) .nil) (av_cons (d := .bool true) (dv_to (dv_eqI (dv_len (dv_ix (i := 0) (dv_var (j := 0) rfl (d1.ex e12)) dv_int (eM_get (List.getElem?_eq_getElem ok1.ne)))) (dv_len (dv_ix (i := 0) (dv_var (j := 1) rfl (d2.ex e12)) dv_int (eM_get (List.getElem?_eq_getElem ok2.ne))))) ?_) (av_cons dv_str av_nil)) ⟨_, _, rfl⟩) fun H3 e3 => ?_
  · simp [ok1.row (List.getElem?_eq_getElem ok1.ne), ok2.row (List.getElem?_eq_getElem ok2.ne)]
  have e13 := e12.trans e3
  refine qr_asg (P := fun v H' => ∃ d, FailR m1 m2 d ∧ Dt K H' v d) (fun HH eHH Qq qq => dv_callD (dd := [.int 0, .none]) (dom := ffD) (R := ffR) (E := E0) (fun H => .cons (.int _) (.cons .non .nil)) (av_cons (dv_var (j := 0) rfl (d1.ex e13)) (av_cons (dv_var (j := 1) rfl (d2.ex e13)) av_nil)) ⟨m1, m2, wd, rfl, sm⟩ HH eHH Qq fun v H2 e2 ⟨d, ⟨m1', m2', h1, h⟩, dv⟩ => qq v H2 e2 ⟨d, ?_, dv⟩) fun v H4 e4 ⟨d, hF, dv⟩ => ?_
  · injection h1 with h11 h1
    injection h1 with h12 _
    rw [eM_inj h11, eM_inj h12]
    exact h
  have e14 := e13.trans e4
  rcases hF with ⟨rfl, hn⟩ | ⟨b, l, qq, rfl, hb, hrun, hq, hl0, hl, hsh⟩
  · exact qd_if (b := true) (et_of (dv_isD (dv_var (j := 2) rfl dv))) (fun _ H5 e5 => sd_ret dv_non fun v H6 e6 dv => q _ v H6 ⟨m1, m2, rfl, .inl ⟨rfl, hn⟩⟩ (e14.trans (e5.trans e6)) dv) fun z => (nomatch z)
  · refine qd_no (et_of (dv_isD (dv_var (j := 2) rfl dv))) fun H5 e5 => ?_
    have e15 := e14.trans e5
    have gcall : ∀ {σ : St} {H : Hp} {t : TA} {m : Mach}, OkM m wd → m.length ≤ 5 → Av K t σ H [eM m] → Dv K (tCall (SpR K gADom gARes) [] E0 t) σ H (eI (gA m)) := fun ok h5 ht => dv_call1 ht ⟨_, wd, rfl, ok, by omega, by omega⟩ fun d ⟨m', h1, h2⟩ => by
      injection h1 with h11 _
      rw [h2, eM_inj h11]
    refine sd_ret (dv_call1 (d := feedD l (ansK m1 m2)) (av_cons (dv_ix (i := 1) (d := eS l) (dv_var (j := 2) rfl (dv.ex e5)) dv_int rfl) (av_cons (d := eI (ansK m1 m2)) (dv_to (dv_op dv_int (dv_max (ms := [gA m1, gA m2]) (m := (max (gA m1) (gA m2) : Nat)) (lv_lst (av_cons (gcall ok1 n5 (av_cons (dv_var (j := 0) rfl (d1.ex e15)) av_nil)) (av_cons (gcall ok2 n6 (av_cons (dv_var (j := 1) rfl (d2.ex e15)) av_nil)) av_nil)) (by simp)).w ?_ ?_)) ?_) av_nil)) ⟨l, _, rfl, by omega, by unfold ansK; omega⟩ fun d ⟨l', k', h1, h2⟩ => ?_) fun v H6 e6 dv => q _ v H6 ⟨m1, m2, rfl, .inr ⟨b, l, qq, rfl, hb, hrun, hq, hl0, hl, hsh⟩⟩ (e15.trans e6) dv
    · simp; omega
    · intro y hy; simp at hy; omega
    · show PyData.int _ = PyData.int _
      unfold ansK
      simp
    · injection h1 with h11 h1
      injection h1 with h12 _
      rw [h2, eS_inj h11, eI_inj h12]
end
end Wok
namespace Wok
open PySem PySem.Spec PyProof.Rows L2
open Evl (Ex EvT)
section
variable {P : Program} {w : World} {K : PySem.W.Frag} {mg : Str → Option Value} {base : Heap}
theorem sc_law_every : FnScope ["_law_mach"] ["_law_mach"] (defScope s_law_every) := ⟨rfl, rfl, rfl, by decide +kernel, rfl, by decide +kernel, by decide +kernel⟩
def everyR (ds : List PyData) (es : List PyData) : Prop := ∃ m, ds = [eM m] ∧ es = rangeD (m.length : Nat)
theorem cal_law_every (T : Fr mg) (D : HasD K mg "_law_every" s_law_every [] []) : Cal P w K mg base 1 "_law_every" ["_law_mach"] [] (SpL K machD everyR) := by
  refine calL D sc_law_every (fun ds ⟨_, _, e, _⟩ => by rw [e]; rfl) (fun _ _ _ _ _ _ us hl => match us, hl with | [_], _ => rfl) fun f cdv A outer s H vs ds Q E hr hd ⟨m, wd, e, ok⟩ q => ?_
  subst e
  obtain ⟨x1, rfl, d1⟩ := hd.one
  have fw := ok.few
  refine ⟨_, (pss_one (ps_ret (pe_listRg rfl (by rfl) T.list (prg_1 (by rfl) T.range (pe_callB (call_lenK (K := K) rfl) (by rfl) T.len (by decide +kernel) (pa_cons (pv 0) pa_nil)))))), ?_⟩
  exact sl_ret (lv_lstRg (dv_to (dv_len (dv_var (j := 0) rfl d1)) (by rw [eM_len])) (by omega) (by omega)) fun p xs H1 np e1 hp dl => q _ p xs H1 ⟨m, rfl, rfl⟩ np e1 hp dl
theorem sc_law_is_number : FnScope ["_law_what"] ["_law_what"] (defScope s_law_is_number) := ⟨rfl, rfl, rfl, by decide +kernel, rfl, by decide +kernel, by decide +kernel⟩
theorem cal_law_is_number (T : Fr mg) (D : HasD K mg "_law_is_number" s_law_is_number [] []) : Cal P w K mg base 1 "_law_is_number" ["_law_what"] [] (SpR K isIntD yes) := by
  refine calR D sc_law_is_number (fun ds ⟨n, e⟩ => by rw [e]; rfl) (fun _ _ _ _ _ _ us hl => match us, hl with | [_], _ => rfl) fun f cdv A outer s H vs ds Q E hr hd ⟨n, e⟩ q => ?_
  subst e
  obtain ⟨x, rfl, dx⟩ := hd.one
  refine ⟨_, (pss_one (ps_ret (pe_and (pe_callB call_isi (by rfl) T.isinstance (by decide +kernel) (pa_cons (pv 0) (pa_cons (pe_bltn (v := .ty "int") (by rfl) T.int (by decide +kernel) rfl) pa_nil))) (pe_and (pe_not (pe_callB call_isi (by rfl) T.isinstance (by decide +kernel) (pa_cons (pv 0) (pa_cons (pe_bltn (v := .ty "bool") (by rfl) T.bool (by decide +kernel) rfl) pa_nil)))) (pe_one (pe_cmpR op_ge (pv 0) pe_int (nomark _))))))), ?_⟩
  refine sd_ret (dv_and (dv_isInt (dv_var (j := 0) rfl dx)) fun _ => dv_and (dv_not (dv_isBool (dv_var (j := 0) rfl dx))) fun _ => dv_opB (dv_var (j := 0) rfl dx) dv_int) fun v H1 e dv => q _ v H1 ?_ e dv
  show PyData.bool _ = _
  simp
theorem sc_law_is_pair : FnScope ["_law_what"] ["_law_what"] (defScope s_law_is_pair) := ⟨rfl, rfl, rfl, by decide +kernel, rfl, by decide +kernel, by decide +kernel⟩
theorem cal_law_is_pair (T : Fr mg) (D : HasD K mg "_law_is_pair" s_law_is_pair [] []) : Cal P w K mg base 1 "_law_is_pair" ["_law_what"] [] (SpR K isPairD yes) := by
  refine calR D sc_law_is_pair (fun ds ⟨a, b, e⟩ => by rw [e]; rfl) (fun _ _ _ _ _ _ us hl => match us, hl with | [_], _ => rfl) fun f cdv A outer s H vs ds Q E hr hd ⟨a, b, e⟩ q => ?_
  subst e
  obtain ⟨x, rfl, dx⟩ := hd.one
  refine ⟨_, (pss_one (ps_ret (pe_and (pe_callB call_isi (by rfl) T.isinstance (by decide +kernel) (pa_cons (pv 0) (pa_cons (pe_bltn (v := .ty "tuple") (by rfl) T.tuple (by decide +kernel) rfl) pa_nil))) (pe_one (pe_cmpR op_eq (pe_callB (call_lenK (K := K) rfl) (by rfl) T.len (by decide +kernel) (pa_cons (pv 0) pa_nil)) pe_int (nomark _)))))), ?_⟩
  exact sd_ret (dv_and (dv_isTup (dv_var (j := 0) rfl dx)) fun _ => dv_eqI (dv_len (dv_var (j := 0) rfl dx)) dv_int) fun v H1 e dv => q _ v H1 rfl e dv
theorem sc_law_move_fault : FnScope ["_law_moves", "_law_size", "_law_ans", "_law_move"] ["_law_moves", "_law_size"] (defScope s_law_move_fault) := ⟨rfl, rfl, rfl, by decide +kernel, rfl, by decide +kernel, by decide +kernel⟩
def mfDom (ds : List PyData) : Prop := ∃ (ms : List (Nat × Nat)) (n : Nat), ds = [eR ms, eI n] ∧ ∀ p ∈ ms, p.1 < n
theorem cal_law_move_fault (T : Fr mg) (D : HasD K mg "_law_move_fault" s_law_move_fault [] []) (C_law_is_pair : Cal P w K mg base 1 "_law_is_pair" ["_law_what"] [] (SpR K isPairD yes)) (C_law_is_number : Cal P w K mg base 1 "_law_is_number" ["_law_what"] [] (SpR K isIntD yes)) :
    Cal P w K mg base 2 "_law_move_fault" ["_law_moves", "_law_size"] [] (SpR K mfDom noneR) := by
  refine calR D sc_law_move_fault (fun ds ⟨_, _, e, _⟩ => by rw [e]; rfl) (fun _ _ _ _ _ _ us hl => match us, hl with | [_, _], _ => rfl) fun f cdv A outer s H vs ds Q E hr hd ⟨ms, n, e, hms⟩ q => ?_
  subst e
  obtain ⟨x1, x2, rfl, d1, d2⟩ := hd.two
  refine ⟨_, (pss_cons (ps_for PassesOwn.never rfl (pi_enumT (by rfl) T.enumerate (pa_cons (pv 0) pa_nil)) (pg_tup (by rfl) (pgs_cons (pg_name (i := 2) sc_law_move_fault.nd rfl (Or.inl rfl)) (pgs_cons (pg_name (i := 3) sc_law_move_fault.nd rfl (Or.inl rfl)) pgs_nil)))
      (pss_one (ps_if (PW.pt (pw_or (pt_not (pt_val (pe_cal C_law_is_pair hr (by decide) (pa_cons (pv 3) pa_nil)))) (pw_or (pt_not (pt_val (pe_cal C_law_is_number hr (by decide) (pa_cons (pe_ix (ix_tupK (K := K) rfl) (pv 3) pe_int (fun _ _ => rfl)) pa_nil)))) (pw_or (pt_not (pt_val (pe_cal C_law_is_number hr (by decide) (pa_cons (pe_ix (ix_tupK (K := K) rfl) (pv 3) pe_int (fun _ _ => rfl)) pa_nil)))) (pw_or1 (pt_cmpR op_ge (pe_ix (ix_tupK (K := K) rfl) (pv 3) pe_int (fun _ _ => rfl)) (pv 1) (nomark _))))))) (pss_one ps_never) pss_nil)))
      (pss_one (ps_ret pe_non))), ?_⟩
  refine q_forD (S := []) (iv_enum .nil (dv_var (j := 0) rfl d1)) (fun i σ' H' => ∃ y1 y2, σ' = [some x1, some x2, y1, y2]) (fun H2 e2 => ⟨_, _, rfl⟩) (fun i d y σ' H2 H3 hdd mu hP e3 dy => ?_) (fun σ' H2 mu hP => ?_)
  · obtain ⟨y1, y2, rfl⟩ := hP
    rw [enumD_get] at hdd
    obtain ⟨d0, h0, rfl⟩ := Option.map_eq_some_iff.mp hdd
    obtain ⟨p, hp, rfl⟩ := of_eR h0
    have hpn := hms p (List.mem_of_getElem? hp)
    refine g_two dy fun v1 v2 dd1 dd2 => ?_
    have d2' := (d2.mono (K := K) (mu.kp .nil)).ex e3
    refine sd_no (et_to (Evl.et_or (Evl.et_not (et_val (dv_yes (av_cons (dv_var (j := 3) rfl dd2) av_nil) ⟨_, _, rfl⟩))) fun _ => Evl.et_or (Evl.et_not (et_val (dv_yes (av_cons (dv_ix (i := 0) (d := eI p.1) (dv_var (j := 3) rfl dd2) dv_int rfl) av_nil) ⟨_, rfl⟩))) fun _ => Evl.et_or (Evl.et_not (et_val (dv_yes (av_cons (dv_ix (i := 1) (d := eI p.2) (dv_var (j := 3) rfl dd2) dv_int rfl) av_nil) ⟨_, rfl⟩))) fun _ => et_of (dv_opB (dv_ix (i := 0) (d := eI p.1) (dv_var (j := 3) rfl dd2) dv_int rfl) (dv_var (j := 1) rfl d2'))) ?_) fun H4 e4 => ⟨.ex (e3.trans e4), _, _, rfl⟩
    simp; omega
  · obtain ⟨y1, y2, rfl⟩ := hP
    exact sd_ret dv_non fun v H4 e4 dv => q _ v H4 rfl (mu.to_ex.trans e4) dv
theorem sc_law_around_judged : FnScope ["_law_wide", "_law_kinds_here", "_law_what", "_law_p", "_law_place", "_law_y", "_law_pair_here", "_law_fault"] ["_law_wide", "_law_kinds_here", "_law_what"] (defScope s_law_around_judged) := ⟨rfl, rfl, rfl, by decide +kernel, rfl, by decide +kernel, by decide +kernel⟩
def movesN (n K k : Nat) : List (Nat × Nat) := (List.range K).map fun a => ((if k + 1 < n then k + 1 else 0), k * K + a)
theorem moveD_eq (n K k : Nat) : moveD n K k = eR (movesN n K k) := by
  unfold moveD eR movesN
  rw [List.map_map]
  rfl
theorem movesN_len (n K k : Nat) : (movesN n K k).length = K := by unfold movesN; rw [List.length_map, List.length_range]
theorem movesN_lt {n K k : Nat} (h : 0 < n) : ∀ p ∈ movesN n K k, p.1 < n := fun p hp => by
  obtain ⟨a, _, rfl⟩ := List.mem_map.mp hp
  show (if k + 1 < n then k + 1 else 0) < n
  split <;> omega
theorem good_eR (r : List (Nat × Nat)) : good (eR r) = true ∧ (keyD (eR r)).depth ≤ 2 := by
  have h1 : ∀ d ∈ r.map eP, good d = true := fun d hd => by obtain ⟨p, _, rfl⟩ := List.mem_map.mp hd; rfl
  have h2 : ∀ d ∈ r.map eP, (keyD d).depth ≤ 1 := fun d hd => by obtain ⟨p, _, rfl⟩ := List.mem_map.mp hd; show max 0 (max 0 0) + 1 ≤ 1; decide
  refine ⟨by unfold eR good; exact goods_all h1, ?_⟩
  show NestedKey.depthAll (keyDs (r.map eP)) + 1 ≤ 2
  have := depth_all h2
  omega
theorem good_place (n K k x : Nat) : good (placeD n K k x) = true ∧ (keyD (placeD n K k x)).depth ≤ 30 := by
  have z := good_eR (movesN n K k)
  rw [← moveD_eq] at z
  constructor
  · show ((good (eI x) && (good (moveD n K k) && true)) && true) = true
    rw [z.1]; rfl
  · show max (max 0 (max (keyD (moveD n K k)).depth 0) + 1) 0 + 1 ≤ 30
    have := z.2
    omega
def judDom (ds : List PyData) : Prop := ∃ wide K l, ds = [eI wide, eI K, feedD l K] ∧ 0 < l.length ∧ ∀ x ∈ l, x < wide
def judRes (_ : List PyData) (d : PyData) : Prop := d = .tuple [.str "told", eI 1]
theorem feed_get {l : List Nat} {K i : Nat} {d : PyData} (h : (l.mapIdx (placeD l.length K))[i]? = some d) : ∃ x, l[i]? = some x ∧ d = placeD l.length K i x := by
  rw [List.getElem?_mapIdx] at h
  obtain ⟨x, a, b⟩ := Option.map_eq_some_iff.mp h
  exact ⟨x, a, b.symm⟩
theorem cal_law_around_judged (T : Fr mg) (D : HasD K mg "_law_around_judged" s_law_around_judged [] []) (C_law_is_pair : Cal P w K mg base 1 "_law_is_pair" ["_law_what"] [] (SpR K isPairD yes)) (C_law_is_number : Cal P w K mg base 1 "_law_is_number" ["_law_what"] [] (SpR K isIntD yes))
    (C_law_move_fault : Cal P w K mg base 2 "_law_move_fault" ["_law_moves", "_law_size"] [] (SpR K mfDom noneR)) : Cal P w K mg base 3 "_law_around_judged" ["_law_wide", "_law_kinds_here", "_law_what"] [] (SpR K judDom judRes) := by
  refine calR D sc_law_around_judged (fun ds ⟨_, _, _, e, _⟩ => by rw [e]; rfl) (fun _ _ _ _ _ _ us hl => match us, hl with | [_, _, _], _ => rfl) fun f cdv A outer s H vs ds Q E hr hd ⟨wide, kk, l, e, hl, hx⟩ q => ?_
  subst e
  obtain ⟨x1, x2, x3, rfl, d1, d2, d3⟩ := hd.three
  have lF : (l.mapIdx (placeD l.length kk)).length = l.length := List.length_mapIdx ..
  have ne0 : (l.mapIdx (placeD l.length kk)).isEmpty = false := by
    cases h : l.mapIdx (placeD l.length kk) with
    | nil => rw [h] at lF; simp at lF; omega
    | cons _ _ => rfl
  have first : (l.mapIdx (placeD l.length kk))[0]? = some (placeD l.length kk 0 l[0]) := by rw [List.getElem?_mapIdx, List.getElem?_eq_getElem hl]; rfl
  have shp : SeqAt.shaped (feedD l kk) = true := shaped_tup fun d hd => by
    obtain ⟨i, hi, rfl⟩ := List.getElem_of_mem hd
    obtain ⟨x, _, e⟩ := feed_get (List.getElem?_eq_getElem hi)
    rw [e]; exact good_place _ _ _ _
  refine ⟨_, (pss_cons (ps_if (PW.pt (pw_or (pt_not (pt_val (pe_callB call_isi (by rfl) T.isinstance (by decide +kernel) (pa_cons (pv 2) (pa_cons (pe_bltn (v := .ty "tuple") (by rfl) T.tuple (by decide +kernel) rfl) pa_nil))))) (pw_or1 (pt_cmpR (op_eqD hr.units) (pv 2) (pe_tup pa_nil) (nomark _))))) (pss_one ps_never) pss_nil)
      (pss_cons (ps_for PassesOwn.never rfl (pi_enumT (by rfl) T.enumerate (pa_cons (pv 2) pa_nil)) (pg_tup (by rfl) (pgs_cons (pg_name (i := 3) sc_law_around_judged.nd rfl (Or.inl rfl)) (pgs_cons (pg_name (i := 4) sc_law_around_judged.nd rfl (Or.inl rfl)) pgs_nil)))
      (pss_one (ps_if (PW.pt (pw_or (pt_not (pt_val (pe_callB call_isi (by rfl) T.isinstance (by decide +kernel) (pa_cons (pv 4) (pa_cons (pe_bltn (v := .ty "tuple") (by rfl) T.tuple (by decide +kernel) rfl) pa_nil))))) (pw_or (pt_cmpR (op_eqD hr.units) (pv 4) (pe_tup pa_nil) (nomark _)) (pw_or1 (pt_cmpR op_ne (pe_callB (call_lenK (K := K) rfl) (by rfl) T.len (by decide +kernel) (pa_cons (pv 4) pa_nil)) (pe_callB (call_lenK (K := K) rfl) (by rfl) T.len (by decide +kernel) (pa_cons (pe_ix (ix_tupK (K := K) rfl) (pv 2) pe_int (fun _ _ => rfl)) pa_nil)) (nomark _)))))) (pss_one ps_never) pss_nil)))
      (pss_cons (ps_for PassesOwn.never rfl (pi_enumT (by rfl) T.enumerate (pa_cons (pv 2) pa_nil)) (pg_tup (by rfl) (pgs_cons (pg_name (i := 3) sc_law_around_judged.nd rfl (Or.inl rfl)) (pgs_cons (pg_name (i := 4) sc_law_around_judged.nd rfl (Or.inl rfl)) pgs_nil)))
      (pss_one (ps_for PassesOwn.never rfl (pi_enumT (by rfl) T.enumerate (pa_cons (pv 4) pa_nil)) (pg_tup (by rfl) (pgs_cons (pg_name (i := 5) sc_law_around_judged.nd rfl (Or.inl rfl)) (pgs_cons (pg_name (i := 6) sc_law_around_judged.nd rfl (Or.inl rfl)) pgs_nil)))
      (pss_cons (ps_if (PW.pt (pw_or (pt_not (pt_val (pe_cal C_law_is_pair hr (by decide) (pa_cons (pv 6) pa_nil)))) (pw_or (pt_not (pt_val (pe_cal C_law_is_number hr (by decide) (pa_cons (pe_ix (ix_tupK (K := K) rfl) (pv 6) pe_int (fun _ _ => rfl)) pa_nil)))) (pw_or1 (pt_cmpR op_ge (pe_ix (ix_tupK (K := K) rfl) (pv 6) pe_int (fun _ _ => rfl)) (pv 0) (nomark _)))))) (pss_one ps_never) pss_nil)
      (pss_cons (ps_if (PW.pt (pw_or (pt_not (pt_val (pe_callB call_isi (by rfl) T.isinstance (by decide +kernel) (pa_cons (pe_ix (ix_tupK (K := K) rfl) (pv 6) pe_int (fun _ _ => rfl)) (pa_cons (pe_bltn (v := .ty "tuple") (by rfl) T.tuple (by decide +kernel) rfl) pa_nil))))) (pw_or1 (pt_cmpR op_ne (pe_callB (call_lenK (K := K) rfl) (by rfl) T.len (by decide +kernel) (pa_cons (pe_ix (ix_tupK (K := K) rfl) (pv 6) pe_int (fun _ _ => rfl)) pa_nil)) (pv 1) (nomark _))))) (pss_one ps_never) pss_nil)
      (pss_cons (ps_set (i := 7) sc_law_around_judged.nd rfl (Or.inl rfl) (pe_cal C_law_move_fault hr (by decide) (pa_cons (pe_ix (ix_tupK (K := K) rfl) (pv 6) pe_int (fun _ _ => rfl)) (pa_cons (pe_callB (call_lenK (K := K) rfl) (by rfl) T.len (by decide +kernel) (pa_cons (pv 2) pa_nil)) pa_nil))))
      (pss_one (ps_if (pt_cmpR op_notN (pv 7) pe_non (nomark _)) (pss_one ps_never) pss_nil))))))))
      (pss_one (ps_ret (pe_tup (pa_cons pe_str (pa_cons (pe_callB (call_lenK (K := K) rfl) (by rfl) T.len (by decide +kernel) (pa_cons (pe_ix (ix_tupK (K := K) rfl) (pv 2) pe_int (fun _ _ => rfl)) pa_nil)) pa_nil)))))))), ?_⟩
  refine qd_no (et_to (Evl.et_or (Evl.et_not (et_val (dv_isTup (dv_var (j := 2) rfl d3)))) fun _ => et_of (dv_eq0 (dv_var (j := 2) rfl d3) shp)) (by rw [ne0]; rfl)) fun H1 e1 => ?_
  refine q_forD (S := []) (iv_enum .nil (dv_var (j := 2) rfl (d3.ex e1))) (fun i σ' H' => ∃ y1 y2 y3 y4 y5, σ' = [some x1, some x2, some x3, y1, y2, y3, y4, y5]) (fun H2 e2 => ⟨_, _, _, _, _, rfl⟩) (fun i d y σ' H2 H3 hdd mu hP e3 dy => ?_) (fun σ' H2 mu hP => ?_)
  · obtain ⟨y1, y2, y3, y4, y5, rfl⟩ := hP
    rw [enumD_get] at hdd
    obtain ⟨d0, h0, rfl⟩ := Option.map_eq_some_iff.mp hdd
    obtain ⟨x, hxi, rfl⟩ := feed_get h0
    refine g_two dy fun v1 v2 dd1 dd2 => ?_
    have d3' := ((d3.ex e1).mono (K := K) (mu.kp .nil)).ex e3
    refine sd_no (et_to (Evl.et_or (Evl.et_not (et_val (dv_isTup (dv_var (j := 4) rfl dd2)))) fun _ => Evl.et_or (et_of (dv_eq0 (dv_var (j := 4) rfl dd2) (shaped_good (good_place _ _ _ _).1 (by have := (good_place l.length kk i x).2; unfold placeD at this; omega)))) fun _ => et_of (dv_neI (dv_len (dv_var (j := 4) rfl dd2)) (dv_len (dv_ix (i := 0) (dv_var (j := 2) rfl d3') dv_int first)))) rfl) fun H4 e4 => ⟨.ex (e3.trans e4), _, _, _, _, _, rfl⟩
  · obtain ⟨y1, y2, y3, y4, y5, rfl⟩ := hP
    have k12 : Kp K H H2 := (Kp.ex e1).trans (mu.kp .nil)
    refine q_forD (S := []) (iv_enum .nil (dv_var (j := 2) rfl (d3.mono k12))) (fun i σ' H' => ∃ y1 y2 y3 y4 y5, σ' = [some x1, some x2, some x3, y1, y2, y3, y4, y5]) (fun H2 e2 => ⟨_, _, _, _, _, rfl⟩) (fun i d y σ' H3 H4 hdd mu2 hP e4 dy => ?_) (fun σ' H3 mu2 hP => ?_)
    · obtain ⟨y1, y2, y3, y4, y5, rfl⟩ := hP
      rw [enumD_get] at hdd
      obtain ⟨d0, h0, rfl⟩ := Option.map_eq_some_iff.mp hdd
      obtain ⟨x, hxi, rfl⟩ := feed_get h0
      have hxw := hx x (List.mem_of_getElem? hxi)
      refine g_two dy fun v1 v2 dd1 dd2 => ?_
      have k14 : Kp K H H4 := k12.trans ((mu2.kp .nil).trans (.ex e4))
      refine s_forD (S := []) (iv_enum .nil (dv_var (j := 4) rfl dd2)) (fun i σ' H' => ∃ y3 y4 y5, σ' = [some x1, some x2, some x3, some v1, some v2, y3, y4, y5]) (fun H2 e2 => ⟨_, _, _, rfl⟩) (fun i2 d' y' σ' H5 H6 hdd' mu5 hP e6 dy' => ?_) (fun σ' H5 mu5 hP => ?_)
      · obtain ⟨y3, y4, y5, rfl⟩ := hP
        rw [enumD_get] at hdd'
        obtain ⟨d0, h0, rfl⟩ := Option.map_eq_some_iff.mp hdd'
        have e00 : d0 = .tuple [eI x, eR (movesN l.length kk i)] := by
          rw [← moveD_eq]
          match i2, h0 with
          | 0, h0 => exact (Option.some.inj h0).symm
        subst e00
        have k16 : Kp K H H6 := k14.trans ((mu5.kp .nil).trans (.ex e6))
        refine g_two dy' fun w1 w2 dw1 dw2 => ?_
        refine qd_no (et_to (Evl.et_or (Evl.et_not (et_val (dv_yes (av_cons (dv_var (j := 6) rfl dw2) av_nil) ⟨_, _, rfl⟩))) fun _ => Evl.et_or (Evl.et_not (et_val (dv_yes (av_cons (dv_ix (i := 0) (d := eI x) (dv_var (j := 6) rfl dw2) dv_int rfl) av_nil) ⟨_, rfl⟩))) fun _ => et_of (dv_opB (dv_ix (i := 0) (d := eI x) (dv_var (j := 6) rfl dw2) dv_int rfl) (dv_var (j := 0) rfl (d1.mono k16)))) ?_) fun H7 e7 => ?_
        · simp; omega
        have k17 := k16.trans (.ex e7)
        refine qd_no (et_to (Evl.et_or (Evl.et_not (et_val (dv_isTup (dv_ix (i := 1) (d := eR (movesN l.length kk i)) (dv_var (j := 6) rfl (dw2.ex e7)) dv_int rfl)))) fun _ => et_of (dv_neI (dv_len (dv_ix (i := 1) (d := eR (movesN l.length kk i)) (dv_var (j := 6) rfl (dw2.ex e7)) dv_int rfl)) (dv_var (j := 1) rfl (d2.mono k17)))) ?_) fun H8 e8 => ?_
        · simp [movesN_len]
        have k18 := k17.trans (.ex e8)
        refine qd_asg (dv_nonR (av_cons (dv_ix (i := 1) (d := eR (movesN l.length kk i)) (dv_var (j := 6) rfl ((dw2.ex e7).ex e8)) dv_int rfl) (av_cons (d := eI l.length) (dv_to (dv_len (dv_var (j := 2) rfl (d3.mono k18))) (by rw [lF]; rfl)) av_nil)) ⟨_, _, rfl, movesN_lt hl⟩) fun v H9 e9 dv => ?_
        exact sd_no (et_to (et_of (dv_notD (dv_var (j := 7) rfl dv))) rfl) fun H10 e10 => ⟨.ex (e6.trans (e7.trans (e8.trans (e9.trans e10)))), _, _, _, rfl⟩
      · obtain ⟨y3, y4, y5, rfl⟩ := hP
        exact ⟨(Mu.ex e4).trans mu5, _, _, _, _, _, rfl⟩
    · obtain ⟨y1, y2, y3, y4, y5, rfl⟩ := hP
      have e13 : Ex H H3 := e1.trans (mu.to_ex.trans mu2.to_ex)
      exact sd_ret (dv_tup (av_cons dv_str (av_cons (dv_len (dv_ix (i := 0) (dv_var (j := 2) rfl (d3.ex e13)) dv_int first)) av_nil)) (by simp)) fun v H4 e4 dv => q _ v H4 rfl (e13.trans e4) dv
end
end Wok
namespace Wok
open PySem PySem.Spec PyProof.Rows L2
open Evl (Ex EvT)
section
variable {P : Program} {w : World} {K : PySem.W.Frag} {mg : Str → Option Value} {base : Heap}
theorem sc_law_kinds : FnScope ["_law_low", "_law_high", "_law_found", "_law_row", "_law_nxt", "_law_ans"] ["_law_low", "_law_high"] (defScope s_law_kinds) := ⟨rfl, rfl, rfl, by decide +kernel, rfl, by decide +kernel, by decide +kernel⟩
def kinDom (ds : List PyData) : Prop := ∃ m1 m2 wd, ds = [eM m1, eM m2] ∧ Small m1 m2 wd
def kinRes (ds : List PyData) (d : PyData) : Prop := ∃ m1 m2, ds = [eM m1, eM m2] ∧ d = eI (ansK m1 m2)
theorem ansL_len {wd : Nat} : ∀ (m : Mach), (∀ r ∈ m, r.length = wd) → (ansL m).length = m.length * wd := fun m h => by
  unfold ansL
  exact flatMap_len m fun r hr => by rw [List.length_map, h r hr]
theorem ansL_append (a b : Mach) : ansL (a ++ b) = ansL a ++ ansL b := by unfold ansL; rw [List.flatMap_append]
theorem gA_max (m1 m2 : Mach) : ∀ x ∈ ansL (m1 ++ m2), x ≤ max (gA m1) (gA m2) := fun x hx => by
  rw [ansL_append] at hx
  rcases List.mem_append.mp hx with h | h
  · exact Nat.le_trans ((gA_le (ansL m1) 0).2 x h) (Nat.le_max_left _ _)
  · exact Nat.le_trans ((gA_le (ansL m2) 0).2 x h) (Nat.le_max_right _ _)
theorem gA_in (m1 m2 : Mach) : max (gA m1) (gA m2) ∈ 0 :: ansL (m1 ++ m2) := by
  rw [ansL_append]
  rcases Nat.le_total (gA m1) (gA m2) with h | h
  · rw [Nat.max_eq_right h]
    rcases gA_mem (ansL m2) 0 with z | z
    · unfold gA; rw [z]; exact List.mem_cons_self
    · exact List.mem_cons_of_mem _ (List.mem_append_right _ z)
  · rw [Nat.max_eq_left h]
    rcases gA_mem (ansL m1) 0 with z | z
    · unfold gA; rw [z]; exact List.mem_cons_self
    · exact List.mem_cons_of_mem _ (List.mem_append_left _ z)
theorem cal_law_kinds (T : Fr mg) (D : HasD K mg "_law_kinds" s_law_kinds [] []) : Cal P w K mg base 1 "_law_kinds" ["_law_low", "_law_high"] [] (SpR K kinDom kinRes) := by
  refine calR D sc_law_kinds (fun ds ⟨_, _, _, e, _⟩ => by rw [e]; rfl) (fun _ _ _ _ _ _ us hl => match us, hl with | [_, _], _ => rfl) fun f cdv A outer s H vs ds Q E hr hd ⟨m1, m2, wd, e, sm⟩ q => ?_
  subst e
  obtain ⟨x1, x2, rfl, d1, d2⟩ := hd.two
  have n5 := sm.2.2.1
  have n6 := sm.2.2.2.1
  have w2 := sm.2.2.2.2
  have rowl : ∀ r ∈ m1 ++ m2, r.length = wd := fun r hr => by
    rcases List.mem_append.mp hr with h | h
    · exact sm.1.len r h
    · exact sm.2.1.len r h
  have tot : (ansL (m1 ++ m2)).length ≤ 20 := by
    rw [ansL_len _ rowl, List.length_append]
    exact Nat.le_trans (Nat.mul_le_mul (by omega : m1.length + m2.length ≤ 10) w2) (by decide)
  have totk : ∀ i, (ansL ((m1 ++ m2).take i)).length ≤ 20 := fun i => by
    rw [ansL_len (wd := wd) _ fun r hr => rowl r (List.mem_of_mem_take hr)]
    refine Nat.le_trans (Nat.mul_le_mul (?_ : _ ≤ 10) w2) (by decide)
    rw [List.length_take, List.length_append]
    omega
  refine ⟨_, (pss_cons (ps_set (i := 2) sc_law_kinds.nd rfl (Or.inl rfl) (pe_lst (pa_cons pe_int pa_nil)))
      (pss_cons (ps_for PassesOwn.never rfl (pi_tupK (K := K) rfl (pe_op op_catA (pv 0) (pv 1))) (pg_name (i := 3) sc_law_kinds.nd rfl (Or.inl rfl))
      (pss_one (ps_set (i := 2) sc_law_kinds.nd rfl (Or.inl rfl) (pe_op op_cat (pv 2) (pe_lc (own := [("_law_nxt", 4), ("_law_ans", 5)]) (g := gTup K 2 (gCons (gName 4) (gCons (gName 5) gNil))) (by rfl) sc_law_kinds.nd (pi_tupK (K := K) rfl (pv 3)) (blkOk_by (N := ["_law_low", "_law_high", "_law_found", "_law_row", "_law_nxt", "_law_ans"]) (sc := defScope s_law_kinds) (by decide +kernel)) (fun _ _ _ _ _ => (pg_tup (by rfl) (pgs_cons (pg_name (i := 4) sc_law_kinds.nd rfl (Or.inl rfl)) (pgs_cons (pg_name (i := 5) sc_law_kinds.nd rfl (Or.inl rfl)) pgs_nil)))) (fun _ _ _ _ _ => pts_nil) (fun _ _ _ _ _ => (pv 5)))))))
      (pss_one (ps_ret (pe_op op_add (pe_ix (ix_listK (K := K) rfl) (pe_callB (L2.cr_sortedSet rfl) (by rfl) T.sorted (by decide +kernel) (pa_cons (pe_callTy (cr_setI rfl) (by rfl) T.set (by decide +kernel) (pa_cons (pv 2) pa_nil)) pa_nil)) (pe_un un_neg pe_int) (fun _ _ => rfl)) pe_int))))), ?_⟩
  refine ql_asg (K := K) (lv_lst (av_cons (dv_int (n := 0)) av_nil) (by simp)) fun p0 xs0 H1 np e1 hp0 dl0 => ?_
  refine q_forD (S := []) (iv_tup .nil (dv_catA (ds := m1.map eR) (es := m2.map eR) (dv_var (j := 0) rfl (d1.ex e1)) (dv_var (j := 1) rfl (d2.ex e1)) (by simp; omega)))
    (fun i σ' H' => ∃ (p : Addr) (ys : List V) (y3 y4 y5 : Option V), σ' = [some x1, some x2, some (.ref p), y3, y4, y5] ∧ H' p = some (.lst ys) ∧ DtAll K H' ys ((0 :: ansL ((m1 ++ m2).take i)).map eI))
    (fun H2 e2 => ⟨p0, xs0, _, _, _, rfl, e2 _ _ hp0, dl0.ex e2⟩) (fun i d y σ' H2 H3 hdd mu hP e3 dy => ?_) (fun σ' H2 mu hP => ?_)
  · obtain ⟨p, ys, y3, y4, y5, rfl, hp, dl⟩ := hP
    rw [← List.map_append] at hdd
    obtain ⟨r, hr', rfl⟩ := of_eM hdd
    have hrm := List.mem_of_getElem? hr'
    refine sl_asg (lv_cat (es := (r.map fun p => p.2).map eI) (lw_var (j := 2) rfl (e3 _ _ hp) (dl.ex e3)) (lv_to (lv_map (ns := [4, 5]) (iv_tup .nil (dv_var (j := 3) rfl dy)) (by rw [List.length_map, rowl r hrm]; omega) (fun e => match e with | .tuple [_, a] => a | _ => .none) fun j d y2 H4 hd4 e4 dy4 R k => ?_) ?_).w ?_) fun p2 ys2 H4 np2 e4 hp2 dl2 => ?_
    · obtain ⟨pp, hpp, rfl⟩ := of_eR hd4
      exact g_two dy4 fun v1 v2 dv1 dv2 => k _ rfl (dv_var (j := 5) rfl dv2)
    · rw [List.map_map, List.map_map]; rfl
    · have := totk i
      rw [List.length_map, List.length_cons, List.length_map, List.length_map, rowl r hrm]
      omega
    · refine ⟨.ex (e3.trans e4), p2, ys2, _, _, _, rfl, hp2, ?_⟩
      rw [List.take_add_one, hr', ansL_append]
      have e9 : ansL (some r).toList = r.map fun p => p.2 := by unfold ansL; simp
      rw [e9, ← List.cons_append, List.map_append]
      exact dl2
  · obtain ⟨p, ys, y3, y4, y5, rfl, hp, dl⟩ := hP
    have tk : (m1 ++ m2).take (m1.map eR ++ m2.map eR).length = m1 ++ m2 := List.take_of_length_le (by simp)
    rw [tk] at dl
    have e12 : Ex H H2 := e1.trans mu.to_ex
    refine sd_ret (dv_op (dv_last (ds := ((List.range (max (gA m1) (gA m2))).filter fun i => decide (i ∈ 0 :: ansL (m1 ++ m2))).map eI) (n := (max (gA m1) (gA m2) : Nat)) (lv_sortedI (ns := (0 :: ansL (m1 ++ m2)).map fun (n : Nat) => (n : Int)) (lw_var (j := 2) rfl hp (by rw [← eI_map]; exact dl)) (by simp; omega) fun ms h1 h2 => ?_).w) dv_int) fun v H3 e3 dv => q _ v H3 ⟨m1, m2, rfl, ?_⟩ (e12.trans e3) dv
    · obtain ⟨rs, rfl, h3, h4⟩ := nat_sorted h1 h2
      have hg := gA_in m1 m2
      rw [canon_of (n := max (gA m1) (gA m2) + 1) h3 h4 fun i hi => ?_]
      · unfold canon
        rw [List.range_succ, List.filter_append, ← eI_map, List.map_append]
        congr 1
        rw [List.filter_cons_of_pos (by simpa using hg)]
        rfl
      · rcases List.mem_cons.mp hi with z | z
        · omega
        · have := gA_max m1 m2 i z; omega
    · show PyData.int _ = PyData.int _
      unfold ansK
      congr 1
      omega
end
end Wok
namespace Wok
open PySem PySem.Spec PyProof.Rows L2
open Evl (Ex EvT)
/-! ### a machine placed in the surrounding -/
def gol (n k : Nat) : Nat := if k + 1 < n then k + 1 else 0
def rowP (n K s k x : Nat) (r : List (Nat × Nat)) : List (Nat × Nat) := [(gol n k * s + (r.getD x (0, 0)).1, k * K + (r.getD x (0, 0)).2)]
def placeR (n K : Nat) (m : Mach) (k x : Nat) : Mach := m.map (rowP n K m.length k x)
def placedM (l : List Nat) (K : Nat) (m : Mach) : Mach := (l.mapIdx (placeR l.length K m)).flatten
section
variable {P : Program} {w : World} {K : PySem.W.Frag} {mg : Str → Option Value} {base : Heap}
theorem sc_law_placed : FnScope ["_law_around", "_law_mach", "_law_size", "_law_out", "_law_place", "_law_row", "_law_new", "_law_inner", "_law_moves", "_law_nxt", "_law_ans"] ["_law_around", "_law_mach"] (defScope s_law_placed) := ⟨rfl, rfl, rfl, by decide +kernel, rfl, by decide +kernel, by decide +kernel⟩
def plaDom (ds : List PyData) : Prop := ∃ l kk m wd, ds = [feedD l kk, eM m] ∧ OkM m wd ∧ m.length ≤ 100 ∧ l.length ≤ 1000 ∧ kk ≤ 1000 ∧ (∀ x ∈ l, x < wd) ∧ ∀ r ∈ m, ∀ p ∈ r, p.2 < kk
def plaRes (ds : List PyData) (d : PyData) : Prop := ∃ l kk m, ds = [feedD l kk, eM m] ∧ d = eM (placedM l kk m)
theorem take_flatten_len {n K : Nat} {m : Mach} {l : List Nat} : ∀ i, i ≤ l.length → (((l.mapIdx (placeR n K m)).take i).flatten).length = i * m.length := by
  intro i
  induction i with
  | zero => intro _; simp
  | succ i ih =>
    intro h
    have hi : i < l.length := h
    rw [List.take_add_one, List.getElem?_mapIdx, List.getElem?_eq_getElem hi]
    show (((l.mapIdx (placeR n K m)).take i) ++ [placeR n K m i l[i]]).flatten.length = _
    rw [List.flatten_append, List.length_append, ih (by omega)]
    simp [placeR, Nat.add_mul]
theorem cal_law_placed (T : Fr mg) (D : HasD K mg "_law_placed" s_law_placed [] []) : Cal P w K mg base 1 "_law_placed" ["_law_around", "_law_mach"] [] (SpR K plaDom plaRes) := by
  refine calR D sc_law_placed (fun ds ⟨_, _, _, _, e, _⟩ => by rw [e]; rfl) (fun _ _ _ _ _ _ us hl => match us, hl with | [_, _], _ => rfl) fun f cdv A outer s H vs ds Q E hr hd ⟨l, kk, m, wd, e, ok, hm, hl, hk, hx, han⟩ q => ?_
  subst e
  obtain ⟨x1, x2, rfl, d1, d2⟩ := hd.two
  refine ⟨_, (pss_cons (ps_par (i := 2) (j := 3) (by rfl) sc_law_placed.nd rfl rfl (by decide) rfl rfl (pa_cons (pe_callB (call_lenK (K := K) rfl) (by rfl) T.len (by decide +kernel) (pa_cons (pv 1) pa_nil)) (pa_cons (pe_lst pa_nil) pa_nil)) (by rfl))
      (pss_cons (ps_for PassesOwn.never rfl (pi_tupK (K := K) rfl (pv 0)) (pg_name (i := 4) sc_law_placed.nd rfl (Or.inl rfl))
      (pss_one (ps_for PassesOwn.never rfl (pi_tupK (K := K) rfl (pv 1)) (pg_name (i := 5) sc_law_placed.nd rfl (Or.inl rfl))
      (pss_cons (ps_set (i := 6) sc_law_placed.nd rfl (Or.inl rfl) (pe_lst pa_nil))
      (pss_cons (ps_for PassesOwn.never rfl (pi_tupK (K := K) rfl (pv 4)) (pg_tup (by rfl) (pgs_cons (pg_name (i := 7) sc_law_placed.nd rfl (Or.inl rfl)) (pgs_cons (pg_name (i := 8) sc_law_placed.nd rfl (Or.inl rfl)) pgs_nil)))
      (pss_cons (ps_asg (pe_ix (ix_tupK (K := K) rfl) (pv 5) (pv 7) (fun _ _ => rfl)) (pg_tup (by rfl) (pgs_cons (pg_name (i := 9) sc_law_placed.nd rfl (Or.inl rfl)) (pgs_cons (pg_name (i := 10) sc_law_placed.nd rfl (Or.inl rfl)) pgs_nil))))
      (pss_one (ps_expr (pe_bm PySem.F.plainAttrs_list PySem.F.slot_list_append PySem.F.type_list_append mt_append (pv 6) (pa_cons (pe_tup (pa_cons (pe_op op_add (pe_op op_mul (pe_ix (ix_tupK (K := K) rfl) (pe_ix (ix_tupK (K := K) rfl) (pv 8) (pv 10) (fun _ _ => rfl)) pe_int (fun _ _ => rfl)) (pv 2)) (pv 9)) (pa_cons (pe_ix (ix_tupK (K := K) rfl) (pe_ix (ix_tupK (K := K) rfl) (pv 8) (pv 10) (fun _ _ => rfl)) pe_int (fun _ _ => rfl)) pa_nil))) pa_nil))))))
      (pss_one (ps_expr (pe_bm PySem.F.plainAttrs_list PySem.F.slot_list_append PySem.F.type_list_append mt_append (pv 3) (pa_cons (pe_tupleOfK (K := K) rfl (by rfl) T.tuple (pv 6)) pa_nil)))))))))
      (pss_one (ps_ret (pe_tupleOfK (K := K) rfl (by rfl) T.tuple (pv 3)))))), ?_⟩
  refine q_parL (dv_len (dv_var (j := 1) rfl d2)) (lv_lst av_nil (by simp)) fun v o xs H1 no e1 dv ho dz => ?_
  cases dz
  have ev := dv.int_of
  subst ev
  rw [eM_len]
  have so : Sok [o] H1 := .cons ho trivial .nil
  refine q_forD (S := [o]) (iv_tup so (dv_var (j := 0) rfl (d1.ex e1))) (fun i σ' H' => ∃ (ys : List V) (y4 y5 y6 y7 y8 y9 y10 : Option V), σ' = [some x1, some x2, some (.int (m.length : Nat)), some (.ref o), y4, y5, y6, y7, y8, y9, y10] ∧ H' o = some (.lst ys) ∧ DtAll K H' ys ((((l.mapIdx (placeR l.length kk m)).take i).flatten).map eR))
    (fun H2 e2 => ⟨[], _, _, _, _, _, _, _, rfl, e2 _ _ ho, .nil⟩) (fun i d y σ' H2 H3 hdd mu hP e3 dy => ?_) (fun σ' H2 mu hP => ?_)
  · obtain ⟨ys, y4, y5, y6, y7, y8, y9, y10, rfl, ho2, dl2⟩ := hP
    obtain ⟨x, hxi, rfl⟩ := feed_get hdd
    have hil : i < l.length := (List.getElem?_eq_some_iff.mp hxi).1
    have hxw := hx x (List.mem_of_getElem? hxi)
    have kp3 : Kp K H H3 := (Kp.ex e1).trans ((mu.kp so).trans (.ex e3))
    have so3 : Sok [o] H3 := .cons (e3 _ _ ho2) trivial .nil
    refine s_forD (S := [o]) (iv_tup so3 (dv_var (j := 1) rfl (d2.mono kp3))) (fun j σ' H' => ∃ (ys : List V) (y5 y6 y7 y8 y9 y10 : Option V), σ' = [some x1, some x2, some (.int (m.length : Nat)), some (.ref o), some y, y5, y6, y7, y8, y9, y10] ∧ H' o = some (.lst ys) ∧ DtAll K H' ys (((((l.mapIdx (placeR l.length kk m)).take i).flatten) ++ (placeR l.length kk m i x).take j).map eR))
      (fun H4 e4 => ⟨ys, _, _, _, _, _, _, rfl, e4 _ _ (e3 _ _ ho2), by rw [List.take_zero, List.append_nil]; exact (dl2.ex e3).ex e4⟩) (fun j d y5 σ' H4 H5 hd4 mu4 hP e5 dy5 => ?_) (fun σ' H4 mu4 hP => ?_)
    · obtain ⟨ys, z5, y6, y7, y8, y9, y10, rfl, ho4, dl4⟩ := hP
      obtain ⟨r, hr', rfl⟩ := of_eM hd4
      have hrm := List.mem_of_getElem? hr'
      have hjl : j < m.length := (List.getElem?_eq_some_iff.mp hr').1
      have lr := ok.len r hrm
      have hxr : x < r.length := by rw [lr]; exact hxw
      have kp5 : Kp K H3 H5 := (mu4.kp so3).trans (.ex e5)
      have ylen : ys.length = i * m.length + j := by
        rw [dl4.length, List.length_map, List.length_append, take_flatten_len i (by omega), List.length_take]
        simp [placeR]; omega
      refine ql_asg (K := K) (ds := []) (lv_lst av_nil (by simp)) fun nw zs H6 nn e6 hn dz => ?_
      cases dz
      have so6 : Sok [nw] H6 := .cons hn trivial .nil
      have one : nw ≠ o := (ne_of_none (e5 _ _ ho4) nn).symm
      have han' := han r hrm r[x] (List.getElem_mem hxr)
      refine q_forD (S := [nw]) (iv_tup so6 (ds := [.tuple [eI x, eR (movesN l.length kk i)]]) (dv_var (j := 4) rfl (by rw [← moveD_eq]; exact ((dy.mono kp5).ex e6)))) (fun u σ' H' => ∃ (zs : List V) (y7 y8 y9 y10 : Option V), σ' = [some x1, some x2, some (.int (m.length : Nat)), some (.ref o), some y, some y5, some (.ref nw), y7, y8, y9, y10] ∧ H' nw = some (.lst zs) ∧ DtAll K H' zs (((rowP l.length kk m.length i x r).take u).map eP))
        (fun H7 e7 => ⟨[], _, _, _, _, rfl, e7 _ _ hn, .nil⟩) (fun u d yy σ' H7 H8 hd7 mu7 hP e8 dyy => ?_) (fun σ' H7 mu7 hP => ?_)
      · obtain ⟨zs, z7, z8, z9, z10, rfl, hn7, dl7⟩ := hP
        have eu : u = 0 ∧ d = .tuple [eI x, eR (movesN l.length kk i)] := by
          match u, hd7 with
          | 0, h => exact ⟨rfl, (Option.some.inj h).symm⟩
        obtain ⟨rfl, rfl⟩ := eu
        cases dl7
        have kp8 : Kp K H5 H8 := (Kp.ex e6).trans ((mu7.kp so6).trans (.ex e8))
        refine g_two dyy fun v1 v2 dd1 dd2 => ?_
        refine qd_asgG (d := eP r[x]) (dv_ix (i := x) (dv_var (j := 5) rfl (dy5.mono kp8)) (dv_var (j := 7) rfl dd1) (eR_get (List.getElem?_eq_getElem hxr))) fun w1 H9 e9 dw1 => g_two dw1 fun w2 w3 dw2 dw3 => ?_
        have mv : ((movesN l.length kk i).map eP)[r[x].2]? = some (eP (gol l.length i, i * kk + r[x].2)) := by
          unfold movesN
          rw [List.map_map, List.getElem?_map, List.getElem?_range han']
          rfl
        refine s_append (xs := []) (d := eP (gol l.length i * m.length + r[x].1, i * kk + r[x].2)) (e9 _ _ (e8 _ _ hn7)) (rv_var (j := 6) rfl) (dv_to (dv_tup (av_cons (dv_op (dv_opC (dv_ix (i := 0) (d := eI (gol l.length i)) (dv_ix (i := r[x].2) (d := eP (gol l.length i, i * kk + r[x].2)) (dv_var (j := 8) rfl (dd2.ex e9)) (dv_var (j := 10) rfl dw3) mv) dv_int rfl) (dv_var (j := 2) rfl (.int _)) (mul_ok (by omega) (by unfold gol; split <;> omega))) (dv_var (j := 9) rfl dw2)) (av_cons (dv_ix (i := 1) (d := eI (i * kk + r[x].2)) (dv_ix (i := r[x].2) (d := eP (gol l.length i, i * kk + r[x].2)) (dv_var (j := 8) rfl (dd2.ex e9)) (dv_var (j := 10) rfl dw3) mv) dv_int rfl) av_nil)) (by simp)) ?_) (by simp) fun vv H10 e10 dvv => ?_
        · show PyData.tuple [PyData.int _, _] = PyData.tuple [PyData.int _, _]
          simp
        · have e710 := e8.trans (e9.trans e10)
          have kpu : Kp K H10 (upd H10 nw (.lst ([] ++ [vv]))) := .upd (e710 _ _ hn7) trivial
          refine ⟨(Mu.ex e710).trans (.upd List.mem_cons_self), [vv], _, _, _, _, rfl, upd_same, ?_⟩
          have er : ((rowP l.length kk m.length i x r).take 1).map eP = [eP (gol l.length i * m.length + r[x].1, i * kk + r[x].2)] := by
            unfold rowP
            rw [List.getD_eq_getElem?_getD, List.getElem?_eq_getElem hxr]
            rfl
          rw [er]
          exact .cons (dvv.mono kpu) .nil
      · obtain ⟨zs, z7, z8, z9, z10, rfl, hn7, dl7⟩ := hP
        have er : (rowP l.length kk m.length i x r).take [PyData.tuple [eI x, eR (movesN l.length kk i)]].length = rowP l.length kk m.length i x r := rfl
        rw [er] at dl7
        have ho7 := mu7 _ _ (by simpa using one.symm) (e6 _ _ (e5 _ _ ho4))
        have im : i * m.length ≤ 1000 * 100 := Nat.mul_le_mul (by omega) hm
        refine s_append (xs := ys) (d := eR (rowP l.length kk m.length i x r)) ho7 (rv_var (j := 3) rfl) (dv_tuple (lw_var (j := 6) rfl hn7 dl7)) (by rw [ylen]; omega) fun vv H8 e8 dvv => ?_
        have kp48 : Kp K H4 H8 := (Kp.ex (e5.trans e6)).trans ((mu7.kp so6).trans (.ex e8))
        have kpu : Kp K H8 (upd H8 o (.lst (ys ++ [vv]))) := .upd (e8 _ _ ho7) trivial
        refine ⟨?_, ys ++ [vv], _, _, _, _, _, _, rfl, upd_same, ?_⟩
        · refine Mu.trans (fun a ob hna ha => ?_) (.upd List.mem_cons_self)
          exact e8 _ _ (mu7 _ _ (fun z => by rw [List.mem_singleton.mp z] at ha; rw [e5 _ _ ha] at nn; cases nn) (e6 _ _ (e5 _ _ ha)))
        · have e10 : (placeR l.length kk m i x)[j]? = some (rowP l.length kk m.length i x r) := by
            unfold placeR
            rw [List.getElem?_map, hr']; rfl
          rw [List.take_add_one, e10]
          show DtAll K _ _ ((_ ++ ((placeR l.length kk m i x).take j ++ [_])).map eR)
          rw [← List.append_assoc, List.map_append]
          exact ((dl4.mono kp48).mono kpu).snoc (dvv.mono kpu)
    · obtain ⟨ys, z5, y6, y7, y8, y9, y10, rfl, ho4, dl4⟩ := hP
      refine ⟨(Mu.ex e3).trans mu4, ys, _, _, _, _, _, _, _, rfl, ho4, ?_⟩
      have e10 : (placeR l.length kk m i x).take (m.map eR).length = placeR l.length kk m i x := List.take_of_length_le (by simp [placeR])
      rw [e10] at dl4
      rw [List.take_add_one, List.getElem?_mapIdx, hxi, List.flatten_append]
      show DtAll K _ _ ((_ ++ [placeR l.length kk m i x].flatten).map eR)
      rw [List.flatten_singleton]
      exact dl4
  · obtain ⟨ys, y4, y5, y6, y7, y8, y9, y10, rfl, ho2, dl2⟩ := hP
    have tk : (l.mapIdx (placeR l.length kk m)).take (l.mapIdx (placeD l.length kk)).length = l.mapIdx (placeR l.length kk m) := List.take_of_length_le (by simp)
    rw [tk] at dl2
    have e02 : Ex H H2 := fun a ob ha => mu a ob (fun z => by rw [List.mem_singleton.mp z, no] at ha; cases ha) (e1 _ _ ha)
    exact sd_ret (dv_tuple (lw_var (j := 3) rfl ho2 dl2)) fun v H3 e3 dv => q _ v H3 ⟨l, kk, m, rfl, rfl⟩ (e02.trans e3) dv
end
end Wok
namespace Wok
open PySem PySem.Spec PyProof.Rows L2
open Evl (Ex EvT)
section
variable {P : Program} {w : World} {K : PySem.W.Frag} {mg : Str → Option Value} {base : Heap}
/-! ### what the law's searches share -/
section
variable {σ : St} {H : Hp}
abbrev tCell (K : PySem.W.Frag) (jh jt jx : Nat) (c : Int) : TE := tOp (rIxT K) (tOp (rIxT K) (tOp (rIxT K) (tVar jh) (tVar jt)) (tVar jx)) (tC (.int c))
theorem lv_moves {jh js jx ja jt : Nat} {m : Mach} {wd x a : Nat} {s : List Nat} {vh vs vx va : V} (ok : OkM m wd) (hx : x < wd) (hs : ∀ t ∈ s, t < m.length) (hl : s.length ≤ 100000)
    (e0 : σ[js]? = some (some vs)) (hL : ∀ y, ((wipe σ [jt]).set jt (some y))[jh]? = some (some vh) ∧ ((wipe σ [jt]).set jt (some y))[jx]? = some (some vx) ∧ ((wipe σ [jt]).set jt (some y))[ja]? = some (some va) ∧ ((wipe σ [jt]).set jt (some y))[jt]? = some (some y) ∧ wipe ((wipe σ [jt]).set jt (some y)) [jt] = wipe σ [jt])
    (dh : Dt K H vh (eM m)) (ds : Dt K H vs (eS s)) (dx : Dt K H vx (eI x)) (da : Dt K H va (eI a)) :
    Lv K (tLc (iTup K (tVar js)) (gName jt) (tTest (tOp rEq (tCell K jh jt jx 1) (tVar ja))) (tCell K jh jt jx 0) [jt]) σ H ((movesM m s x a).map eI) := by
  have stp : ∀ t ∈ s, ∃ p, stepM m t x = some p := fun t ht => let ⟨p, h, _⟩ := ok.step (hs t ht) hx; ⟨p, h⟩
  refine lv_to (lv_lc (iv_tup .nil (dv_var e0 ds)) (by rw [List.length_map]; omega) (fun d => match d with | .int t => (stepM m t.toNat x).bind fun p => if p.2 = a then some (eI p.1) else none | _ => none) fun i d y H2 hdd e2 dy R k => ?_) ?_
  · obtain ⟨t, ht, rfl⟩ := of_eS hdd
    obtain ⟨p, hp⟩ := stp t (List.mem_of_getElem? ht)
    obtain ⟨h1, h2, h3, h4, h5⟩ := hL y
    have hp' := hp
    unfold stepM at hp'
    obtain ⟨r, hr', hpp⟩ := Option.bind_eq_some_iff.mp hp'
    have cell : ∀ (c : Nat) (u : Nat), [eI p.1, eI p.2][c]? = some (eI u) → Dv K (tCell K jh jt jx c) ((wipe σ [jt]).set jt (some y)) H2 (eI u) := fun c u hc =>
      dv_ix (i := c) (dv_ix (i := x) (d := eP p) (dv_ix (i := t) (dv_var h1 (dh.ex e2)) (dv_var h4 dy) (eM_get hr')) (dv_var h2 (dx.ex e2)) (eR_get hpp)) dv_int hc
    have et : ((t : Nat) : Int).toNat = t := Int.toNat_natCast t
    refine k _ h5 ⟨decide (((p.2 : Nat) : Int) = (a : Nat)), et_of (dv_eqI (cell 1 p.2 rfl) (dv_var h3 (da.ex e2))), fun hb => ?_, fun hb => ⟨eI p.1, ?_, cell 0 p.1 rfl⟩⟩
    · show (stepM m ((t : Nat) : Int).toNat x).bind _ = none
      rw [et, hp]
      show (if p.2 = a then some (eI p.1) else none) = none
      rw [if_neg]
      have := of_decide_eq_false hb
      omega
    · show (stepM m ((t : Nat) : Int).toNat x).bind _ = _
      rw [et, hp]
      show (if p.2 = a then some (eI p.1) else none) = _
      rw [if_pos]
      have := of_decide_eq_true hb
      omega
  · rw [List.filterMap_map]
    unfold movesM
    rw [List.map_filterMap]
    refine fm_congr fun t ht => ?_
    show (stepM m ((t : Nat) : Int).toNat x).bind _ = _
    rw [Int.toNat_natCast]
    obtain ⟨p, hp⟩ := stp t ht
    rw [hp]
    show (if p.2 = a then some (eI p.1) else none) = Option.map eI (if p.2 = a then some p.1 else none)
    split <;> rfl
theorem lv_lefts {te : TE} {m : Mach} {wd x a : Nat} {s : List Nat} (ok : OkM m wd) (h : Lv K te σ H ((movesM m s x a).map eI)) (hn : (movesM m s x a).length < 64) :
    Lv K (tCB (rSortedSet w) (tCons (tCB (rSetI K w) (tCons te tNil)) tNil)) σ H ((leftOf m s x a).map eI) := by
  rw [eI_map] at h
  refine lv_sortedI h.w (by rw [List.length_map]; exact hn) fun ms h1 h2 => ?_
  obtain ⟨rs, rfl, h3, h4⟩ := nat_sorted h1 h2
  rw [canon_of (n := m.length) h3 h4 fun i hi => ?_, ← eI_map]
  · rfl
  · obtain ⟨t, _, hq⟩ := mem_moves.mp hi
    exact ok.step_lt hq
end
theorem moves_len (m : Mach) (s : List Nat) (x a : Nat) : (movesM m s x a).length ≤ s.length := List.length_filterMap_le _ _
theorem sc_law_short : FnScope ["_law_low", "_law_high", "_law_level", "_law_seen", "_law_size", "_law_late", "_law_spot", "_law_some", "_law_x", "_law_nxt", "_law_ans", "_law_left", "_law_t"] ["_law_low", "_law_high"] (defScope s_law_short) := ⟨rfl, rfl, rfl, by decide +kernel, rfl, by decide +kernel, by decide +kernel⟩
def shoDom (ds : List PyData) : Prop := ∃ m1 m2 wd, ds = [eM m1, eM m2] ∧ Small m1 m2 wd
def ShoR (m1 m2 : Mach) (d : PyData) : Prop := (d = .none ∧ ∀ k q, RN m1 m2 k q → q.2 ≠ []) ∨ ∃ n, d = eI n ∧ (∃ q, RN m1 m2 n q ∧ q.2 = []) ∧ ∀ j, j < n → ∀ q, RN m1 m2 j q → q.2 ≠ []
def shoRes (ds : List PyData) (d : PyData) : Prop := ∃ m1 m2, ds = [eM m1, eM m2] ∧ ShoR m1 m2 d
theorem cal_law_short (T : Fr mg) (D : HasD K mg "_law_short" s_law_short [] []) : Cal P w K mg base 1 "_law_short" ["_law_low", "_law_high"] [] (SpR K shoDom shoRes) := by
  refine calR D sc_law_short (fun ds ⟨_, _, _, e, _⟩ => by rw [e]; rfl) (fun _ _ _ _ _ _ us hl => match us, hl with | [_, _], _ => rfl) fun f cdv A outer s H vs ds Q E hr hd ⟨m1, m2, wd, e, sm⟩ q => ?_
  subst e
  obtain ⟨x1, x2, rfl, d1, d2⟩ := hd.two
  have ok1 := sm.1
  have ok2 := sm.2.1
  have cnt := small_count sm
  have n5 := sm.2.2.1
  have n6 := sm.2.2.2.1
  have w2 := sm.2.2.2.2
  refine ⟨_, (pss_cons (ps_setLc (i := 2) (own := [("_law_spot", 6)]) (g := gName 6) (by rfl) sc_law_short.nd rfl rfl (sw_true rfl rfl rfl (by decide +kernel)) (pi_range1 (by rfl) T.range (pa_cons (pe_callB (call_lenK (K := K) rfl) (by rfl) T.len (by decide +kernel) (pa_cons (pv 0) pa_nil)) pa_nil)) (blkOk_by (N := ["_law_low", "_law_high", "_law_level", "_law_seen", "_law_size", "_law_late", "_law_spot", "_law_some", "_law_x", "_law_nxt", "_law_ans", "_law_left", "_law_t"]) (sc := defScope s_law_short) (by decide +kernel)) (fun _ _ _ _ _ => (pg_name (i := 6) sc_law_short.nd rfl (Or.inl rfl))) (fun _ _ _ _ _ => pts_nil) (fun _ _ _ _ _ => (pe_tup (pa_cons (pv 6) (pa_cons (pe_tupleOfK (K := K) rfl (by rfl) T.tuple (pe_listRg rfl (by rfl) T.list (prg_1 (by rfl) T.range (pe_callB (call_lenK (K := K) rfl) (by rfl) T.len (by decide +kernel) (pa_cons (pv 1) pa_nil))))) pa_nil)))))
      (pss_cons (ps_par (i := 3) (j := 4) (by rfl) sc_law_short.nd rfl rfl (by decide) rfl rfl (pa_cons pe_dnewN (pa_cons pe_int pa_nil)) (by rfl))
      (pss_cons (ps_while PassesOwn.never (pt_cmpR (op_neD hr.units) (pv 2) (pe_lst pa_nil) (nomark _))
      (pss_cons (ps_par (i := 4) (j := 5) (by rfl) sc_law_short.nd rfl rfl (by decide) rfl rfl (pa_cons (pe_op op_add (pv 4) pe_int) (pa_cons (pe_lst pa_nil) pa_nil)) (by rfl))
      (pss_cons (ps_for PassesOwn.never rfl (pi_listK (K := K) rfl (pe_callTy call_list_of (by rfl) T.list (by decide +kernel) (pa_cons (pv 2) pa_nil))) (pg_tup (by rfl) (pgs_cons (pg_name (i := 6) sc_law_short.nd rfl (Or.inl rfl)) (pgs_cons (pg_name (i := 7) sc_law_short.nd rfl (Or.inl rfl)) pgs_nil)))
      (pss_one (ps_for PassesOwn.never rfl (pi_enumT (by rfl) T.enumerate (pa_cons (pe_ix (ix_tupK (K := K) rfl) (pv 0) (pv 6) (fun _ _ => rfl)) pa_nil)) (pg_tup (by rfl) (pgs_cons (pg_name (i := 8) sc_law_short.nd rfl (Or.inr rfl)) (pgs_cons (pg_tup (by rfl) (pgs_cons (pg_name (i := 9) sc_law_short.nd rfl (Or.inl rfl)) (pgs_cons (pg_name (i := 10) sc_law_short.nd rfl (Or.inr rfl)) pgs_nil))) pgs_nil)))
      (pss_cons (ps_set (i := 11) sc_law_short.nd rfl (Or.inl rfl) (pe_tupleOfK (K := K) rfl (by rfl) T.tuple (pe_callB (L2.cr_sortedSet rfl) (by rfl) T.sorted (by decide +kernel) (pa_cons (pe_callTy (cr_setI rfl) (by rfl) T.set (by decide +kernel) (pa_cons (pe_lc (own := [("_law_t", 12)]) (g := gName 12) (by rfl) sc_law_short.nd (pi_tupK (K := K) rfl (pv 7)) (blkOk_by (N := ["_law_low", "_law_high", "_law_level", "_law_seen", "_law_size", "_law_late", "_law_spot", "_law_some", "_law_x", "_law_nxt", "_law_ans", "_law_left", "_law_t"]) (sc := defScope s_law_short) (by decide +kernel)) (fun _ _ _ _ _ => (pg_name (i := 12) sc_law_short.nd rfl (Or.inl rfl))) (fun _ _ _ _ _ => (pts_one (pt_cmpR op_eq (pe_ix (ix_tupK (K := K) rfl) (pe_ix (ix_tupK (K := K) rfl) (pe_ix (ix_tupK (K := K) rfl) (pv 1) (pv 12) (fun _ _ => rfl)) (pv 8) (fun _ _ => rfl)) pe_int (fun _ _ => rfl)) (pv 10) (nomark _)))) (fun _ _ _ _ _ => (pe_ix (ix_tupK (K := K) rfl) (pe_ix (ix_tupK (K := K) rfl) (pe_ix (ix_tupK (K := K) rfl) (pv 1) (pv 12) (fun _ _ => rfl)) (pv 8) (fun _ _ => rfl)) pe_int (fun _ _ => rfl)))) pa_nil)) pa_nil))))
      (pss_cons (ps_if (pt_cmpR (op_eqD hr.units) (pv 11) (pe_tup pa_nil) (nomark _)) (pss_one (ps_ret (pv 4))) pss_nil)
      (pss_one (ps_if (pt_cmpR (op_notInN hr.units) (pe_tup (pa_cons (pv 9) (pa_cons (pv 11) pa_nil))) (pv 3) (by rfl)) (pss_cons (ps_asg pe_bl (pg_sub (pv 3) (pe_tup (pa_cons (pv 9) (pa_cons (pv 11) pa_nil))) (set_N hr.units)))
      (pss_one (ps_expr (pe_bm PySem.F.plainAttrs_list PySem.F.slot_list_append PySem.F.type_list_append mt_append (pv 5) (pa_cons (pe_tup (pa_cons (pv 9) (pa_cons (pv 11) pa_nil))) pa_nil))))) pss_nil)))))))
      (pss_one (ps_set (i := 2) sc_law_short.nd rfl (Or.inl rfl) (pv 5))))))
      (pss_one (ps_ret pe_non))))), ?_⟩
  refine ql_asg (lv_to (lv_map (ns := [6]) (iv_rng (S := []) (dv_to (dv_len (dv_var (j := 0) rfl d1)) (by rw [eM_len])) (by omega) (by omega)) (by unfold rangeD; simp; omega) (fun d => .tuple [d, eS (List.range m2.length)]) fun i d y H2 hdd e2 dy R k => ?_) (es := (begunL m1 m2).map eQ) ?_) fun l ys H1 nl e1 hl dl => ?_
  · refine k _ rfl (dv_tup (av_cons (dv_var (j := 6) rfl dy) (av_cons (dv_to (dv_tuple (lv_lstRg (dv_len (dv_var (j := 1) rfl (d2.ex e2))) (by omega) (by rw [eM_len]; omega)).w) (by rw [rangeD_eq, eM_len]; rfl)) av_nil)) (by simp))
  · unfold begunL rangeD
    rw [List.map_map, List.map_map]
    rfl
  refine q_parR (P := fun v H' => ∃ Da, v = .ref Da ∧ H1 Da = none ∧ H' Da = some (DNO P w Da [])) (K := K) (fun Qq qq => fun Da nD => qq _ _ (.new nD) ⟨Da, rfl, nD, upd_same⟩) (fun _ _ => dv_int) fun v u H2 H3 e2 ⟨Da, ev, nD, hD⟩ e3 du => ?_
  subst ev
  have eu := du.int_of
  subst eu
  have nDH : H Da = none := Evl.fresh_back e1 nD
  have e13 : Ex H H3 := (e1.trans e2).trans e3
  refine Evl.q_while (fun m σ' H' => ∃ (k : Nat) (lev sk : List Sta) (l : Addr) (ys : List V) (kxs : List (PyData × Addr)) (y5 y6 y7 y8 y9 y10 y11 : Option V), σ' = [some x1, some x2, some (.ref l), some (.ref Da), some (.int (k : Nat)), y5, y6, y7, y8, y9, y10, y11, none] ∧ Ex H H' ∧ H' l = some (.lst ys) ∧ DtAll K H' ys (lev.map eQ) ∧
      H' Da = some (DNO P w Da kxs) ∧ KeysIn K H' kxs ∧ kxs.map (·.1) = sk.map eQ ∧ sk.Nodup ∧ (∀ q ∈ sk, Uni m1 m2 q) ∧ Lev m1 m2 k lev (begunL m1 m2 ++ sk) ∧ lev.length ≤ 160 ∧ m = 2 * (161 - sk.length) + (if lev = [] then 0 else 1))
    _ ⟨0, begunL m1 m2, [], l, ys, [], _, _, _, _, _, _, _, rfl, e13, e3 _ _ (e2 _ _ hl), (dl.ex e2).ex e3, e3 _ _ hD, (fun p hp => by cases hp), rfl, List.nodup_nil, (fun q hq => by cases hq), (begun_lev sm).cast2 (by simp), (by unfold begunL; simp; omega), rfl⟩ fun m σ' H4 hW => ?_
  obtain ⟨k, lev, sk, l, ys, kxs, y5, y6, y7, y8, y9, y10, y11, rfl, e4, hl, dly, hD, hk, hkk, snd, sun, hlev, llen, hm⟩ := hW
  have vc : sk.length ≤ 160 := Nat.le_trans (count_le snd sun) cnt
  refine ⟨!lev.isEmpty, et_to (et_of (dl_ne0 (lw_var (j := 2) rfl hl dly) (shaped_lst fun d hd => by obtain ⟨u, _, rfl⟩ := List.mem_map.mp hd; exact good_key (keyD_q u)))) (by cases lev <;> rfl), fun hb H5 e5 => ?_, fun hb H5 e5 => ?_⟩
  · have hne : lev ≠ [] := fun z => by rw [z] at hb; cases hb
    rw [if_neg hne] at hm
    refine ⟨fun σ2 H2 => ∃ m', m' < m ∧ ∃ (k : Nat) (lev sk : List Sta) (l : Addr) (ys : List V) (kxs : List (PyData × Addr)) (y5 y6 y7 y8 y9 y10 y11 : Option V), σ2 = [some x1, some x2, some (.ref l), some (.ref Da), some (.int (k : Nat)), y5, y6, y7, y8, y9, y10, y11, none] ∧ Ex H H2 ∧ H2 l = some (.lst ys) ∧ DtAll K H2 ys (lev.map eQ) ∧
      H2 Da = some (DNO P w Da kxs) ∧ KeysIn K H2 kxs ∧ kxs.map (·.1) = sk.map eQ ∧ sk.Nodup ∧ (∀ q ∈ sk, Uni m1 m2 q) ∧ Lev m1 m2 k lev (begunL m1 m2 ++ sk) ∧ lev.length ≤ 160 ∧ m' = 2 * (161 - sk.length) + (if lev = [] then 0 else 1), fun σ2 H2 h => h, ?_⟩
    have e45 := e4.trans e5
    refine q_parL (K := K) (d := eI (k + 1)) (dv_to (dv_op (dv_var (j := 4) rfl (.int _)) dv_int) (by show PyData.int _ = PyData.int _; simp)) (lv_lst av_nil (by simp)) fun v la xs6 H6 nla e6 dv hla dz => ?_
    cases dz
    have ev := dv.int_of
    subst ev
    have e46 := e45.trans e6
    have hl6 := e6 _ _ (e5 _ _ hl)
    have dl6 := (dly.ex e5).ex e6
    have hD6 := e6 _ _ (e5 _ _ hD)
    have nHla : H la = none := Evl.fresh_back e45 nla
    have nlD : la ≠ Da := (ne_of_none (e5 _ _ hD) nla).symm
    have so : Sok [la, Da] H6 := .cons hla trivial (.cons hD6 trivial .nil)
    have lun : ∀ q ∈ lev, Uni m1 m2 q := fun q hq => (hlev.e q hq).uni ok1
    have exH : ∀ {H' : Hp}, Mu [la, Da] H6 H' → Ex H H' := fun {H'} mu a o ha => mu a o (fun z => by
      rcases List.mem_cons.mp z with z | z
      · rw [z, nHla] at ha; cases ha
      · rw [List.mem_singleton.mp z, nDH] at ha; cases ha) (e46 _ _ ha)
    refine q_forD (S := [la, Da]) (iv_lst so (lv_list (lw_var (j := 2) rfl hl6 dl6)))
      (fun i σ' H' => ∃ (nw : List Sta) (zs : List V) (kxs : List (PyData × Addr)) (y6 y7 y8 y9 y10 y11 : Option V), σ' = [some x1, some x2, some (.ref l), some (.ref Da), some (.int ((k + 1 : Nat) : Int)), some (.ref la), y6, y7, y8, y9, y10, y11, none] ∧ H' la = some (.lst zs) ∧ DtAll K H' zs (nw.map eQ) ∧
        H' Da = some (DNO P w Da kxs) ∧ KeysIn K H' kxs ∧ kxs.map (·.1) = (sk ++ nw).map eQ ∧ (sk ++ nw).Nodup ∧ (∀ q' ∈ nw, q'.2 ≠ [] ∧ ∃ q ∈ lev, Succ m1 m2 q q') ∧ (∀ q ∈ lev.take i, ∀ q', Succ m1 m2 q q' → q' ∈ sk ++ nw ∧ q'.2 ≠ []))
      (fun H7 e7 => ⟨[], [], kxs, _, _, _, _, _, _, rfl, e7 _ _ hla, .nil, e7 _ _ hD6, hk.mono (.ex (e5.trans (e6.trans e7))), by simpa using hkk, by simpa using snd, (fun q hq => by cases hq), (fun q hq => by cases hq)⟩) (fun i d y σ' H7 H8 hdd mu7 hP e8 dy => ?_) (fun σ' H7 mu7 hP => ?_)
    · obtain ⟨nw, zs, kxs, y6, y7, y8, y9, y10, y11, rfl, hz, dz, hDz, hkz, hkkz, ndz, nwz, allz⟩ := hP
      rw [List.getElem?_map] at hdd
      obtain ⟨qq, hqi, rfl⟩ := Option.map_eq_some_iff.mp hdd
      have hqm := List.mem_of_getElem? hqi
      have qun := lun qq hqm
      have lrow := ok1.row (List.getElem?_eq_getElem qun.1)
      have so8 : Sok [la, Da] H8 := .cons (e8 _ _ hz) trivial (.cons (e8 _ _ hDz) trivial .nil)
      have mu8 : Mu [la, Da] H6 H8 := mu7.trans (.ex e8)
      have dd1 := d1.ex (exH mu8)
      have dd2 := d2.ex (exH mu8)
      refine g_two dy fun v1 v2 dv1 dv2 => ?_
      refine s_forD (S := [la, Da]) (iv_enum so8 (dv_ix (i := qq.1) (dv_var (j := 0) rfl dd1) (dv_var (j := 6) rfl dv1) (eM_get (List.getElem?_eq_getElem qun.1))))
        (fun j σ' H' => ∃ (nw : List Sta) (zs : List V) (kxs : List (PyData × Addr)) (y8 y9 y10 y11 : Option V), σ' = [some x1, some x2, some (.ref l), some (.ref Da), some (.int ((k + 1 : Nat) : Int)), some (.ref la), some v1, some v2, y8, y9, y10, y11, none] ∧ H' la = some (.lst zs) ∧ DtAll K H' zs (nw.map eQ) ∧
          H' Da = some (DNO P w Da kxs) ∧ KeysIn K H' kxs ∧ kxs.map (·.1) = (sk ++ nw).map eQ ∧ (sk ++ nw).Nodup ∧ (∀ q' ∈ nw, q'.2 ≠ [] ∧ ∃ q ∈ lev, Succ m1 m2 q q') ∧ (∀ q ∈ lev.take i, ∀ q', Succ m1 m2 q q' → q' ∈ sk ++ nw ∧ q'.2 ≠ []) ∧ (∀ x, x < j → ∀ q', stepS m1 m2 qq x = some q' → q' ∈ sk ++ nw ∧ q'.2 ≠ []))
        (fun H9 e9 => ⟨nw, zs, kxs, _, _, _, _, rfl, e9 _ _ (e8 _ _ hz), (dz.ex e8).ex e9, e9 _ _ (e8 _ _ hDz), hkz.mono (.ex (e8.trans e9)), hkkz, ndz, nwz, allz, fun x hx => absurd hx (Nat.not_lt_zero x)⟩) (fun j d y' σ' H9 H10 hd9 mu9 hP e10 dy' => ?_) (fun σ' H9 mu9 hP => ?_)
      · obtain ⟨nw, zs, kxs, y8, y9, y10, y11, rfl, hz, dz, hDz, hkz, hkkz, ndz, nwz, allz, thz⟩ := hP
        rw [enumD_get] at hd9
        obtain ⟨d0, h0, rfl⟩ := Option.map_eq_some_iff.mp hd9
        obtain ⟨p, hp, rfl⟩ := of_eR h0
        have hjw : j < wd := by rw [← lrow]; exact (List.getElem?_eq_some_iff.mp hp).1
        have hst : stepM m1 qq.1 j = some p := by
          unfold stepM
          rw [List.getElem?_eq_getElem qun.1]
          exact hp
        have hss : stepS m1 m2 qq j = some (p.1, leftOf m2 qq.2 j p.2) := by unfold stepS; rw [hst]; rfl
        have kp10 : Kp K H8 H10 := (mu9.kp so8).trans (.ex e10)
        have mu10 : Mu [la, Da] H6 H10 := mu8.trans (mu9.trans (.ex e10))
        have dd2' := d2.ex (exH mu10)
        have ql : qq.2.length ≤ 5 := Nat.le_trans qun.len n6
        refine g_pair dy' fun u1 u2 du1 du2 => g_two du2 fun w1 w3 dw1 dw2 => ?_
        refine qd_asg (d := eS (leftOf m2 qq.2 j p.2)) (dv_tuple (lv_lefts ok2 (lv_moves (jh := 1) (js := 7) (jx := 8) (ja := 10) (jt := 12) ok2 hjw qun.lt (by omega) rfl (fun y => ⟨rfl, rfl, rfl, rfl, rfl⟩) dd2' (dv2.mono kp10) du1 dw2) (by have := moves_len m2 qq.2 j p.2; omega)).w) fun v11 H11 e11 dv11 => ?_
        refine qd_if (et_of (dv_eq0 (dv_var (j := 11) rfl dv11) (shaped_tup fun d hd => by obtain ⟨u, _, rfl⟩ := List.mem_map.mp hd; exact good_int _))) (fun hb2 H12 e12 => ?_) (fun hb2 H12 e12 => ?_)
        · have ez : leftOf m2 qq.2 j p.2 = [] := by
            cases hz2 : leftOf m2 qq.2 j p.2 with
            | nil => rfl
            | cons a b => rw [hz2] at hb2; cases hb2
          refine sd_ret (dv_var (K := K) (d := eI (k + 1)) (j := 4) rfl (.int _)) fun v H13 e13 dv => q (eI (k + 1)) v H13 ⟨m1, m2, rfl, .inr ⟨k + 1, rfl, ⟨_, (hlev.e qq hqm).succ ⟨j, hss⟩, ez⟩, fun j' hj' q' hq' => hlev.none (by omega) hq'⟩⟩ ((exH mu10).trans (e11.trans (e12.trans e13))) dv
        · have nz : leftOf m2 qq.2 j p.2 ≠ [] := fun z => by rw [z] at hb2; cases hb2
          have e912 := e10.trans (e11.trans e12)
          have e1012 := e11.trans e12
          have hk12 := hkz.mono (.ex e912)
          have kl2 : kxs.length = (sk ++ nw).length := by rw [← List.length_map (f := fun p : PyData × Addr => p.1), hkkz, List.length_map]
          have nun : ∀ q ∈ (sk ++ nw), Uni m1 m2 q := fun u hu => by
            rcases List.mem_append.mp hu with z | z
            · exact sun u z
            · obtain ⟨_, q0, h0, x0, hx0⟩ := nwz u z
              exact uni_step ok1 hx0
          have c9 := Nat.le_trans (count_le ndz nun) cnt
          have tupd : ∀ {H' : Hp}, Ex H12 H' → ∀ {σ' : St}, σ'[9]? = some (some w1) → σ'[11]? = some (some v11) → Dv K (tTup (tCons (tVar 9) (tCons (tVar 11) tNil))) σ' H' (eQ (p.1, leftOf m2 qq.2 j p.2)) := fun {H'} e' {σ'} h9 h11 => dv_tup (av_cons (dv_var h9 (dw1.ex (e1012.trans e'))) (av_cons (dv_var h11 ((dv11.ex e12).ex e')) av_nil)) (by simp)
          have next : ∀ nw2 : List Sta, (∀ u ∈ nw, u ∈ nw2) → (p.1, leftOf m2 qq.2 j p.2) ∈ sk ++ nw2 → (∀ q ∈ lev.take i, ∀ q', Succ m1 m2 q q' → q' ∈ sk ++ nw2 ∧ q'.2 ≠ []) ∧ (∀ x, x < j + 1 → ∀ q', stepS m1 m2 qq x = some q' → q' ∈ sk ++ nw2 ∧ q'.2 ≠ []) := fun nw2 hsub hin => by
            have up : ∀ u, u ∈ sk ++ nw → u ∈ sk ++ nw2 := fun u hu => by
              rcases List.mem_append.mp hu with z | z
              · exact List.mem_append_left _ z
              · exact List.mem_append_right _ (hsub u z)
            refine ⟨fun q hq q' hs => ⟨up _ (allz q hq q' hs).1, (allz q hq q' hs).2⟩, fun x hx q' hs => ?_⟩
            rcases Nat.lt_succ_iff_lt_or_eq.mp hx with z | z
            · exact ⟨up _ (thz x z q' hs).1, (thz x z q' hs).2⟩
            · subst z
              rw [hss] at hs
              cases hs
              exact ⟨hin, nz⟩
          by_cases hin : (p.1, leftOf m2 qq.2 j p.2) ∈ sk ++ nw
          · refine sd_no (et_to (et_of (dv_notin (b := true) (tupd (.refl _) rfl rfl) (rv_var (j := 3) rfl) (e912 _ _ hDz) hk12 (keyD_q _) (by rw [hkkz, mem_map_inj (fun _ _ => eQ_inj)]; simp [hin]))) rfl) fun H13 e13 => ?_
            have e913 := e912.trans e13
            obtain ⟨nx1, nx2⟩ := next nw (fun u hu => hu) hin
            exact ⟨.ex e913, nw, zs, kxs, _, _, _, _, rfl, e913 _ _ hz, dz.ex e913, e913 _ _ hDz, hkz.mono (.ex e913), hkkz, ndz, nwz, nx1, nx2⟩
          · refine sd_if (et_of (dv_notin (b := false) (tupd (.refl _) rfl rfl) (rv_var (j := 3) rfl) (e912 _ _ hDz) hk12 (keyD_q _) (by rw [hkkz, mem_map_inj (fun _ _ => eQ_inj)]; simp [hin]))) (fun _ H13 e13 => ?_) fun z => (nomatch z)
            have e913 := e912.trans e13
            refine q_put (d := eQ (p.1, leftOf m2 qq.2 j p.2)) dv_bl (rv_var (j := 3) rfl) (tupd e13 rfl rfl) (e913 _ _ hDz) (hkz.mono (.ex e913)) (keyD_q _) (by rw [kl2]; omega) fun bb kxs3 H14 e14 dbb ad => ?_
            have e914 := e913.trans e14
            have hnin : eQ (p.1, leftOf m2 qq.2 j p.2) ∉ kxs.map (·.1) := fun z => hin ((mem_map_inj (fun _ _ => eQ_inj)).mp (by rw [← hkkz]; exact z))
            rcases ad with ⟨z, _⟩ | ⟨_, rfl⟩
            · exact absurd z hnin
            · have kpu : Kp K H14 (upd H14 Da (DNO P w Da (kxs ++ [(eQ (p.1, leftOf m2 qq.2 j p.2), bb)]))) := .upd (e914 _ _ hDz) trivial
              have e1214 := e13.trans e14
              refine s_append (xs := zs) (d := eQ (p.1, leftOf m2 qq.2 j p.2)) (by rw [upd_ne nlD]; exact e914 _ _ hz) (rv_var (j := 5) rfl) (dv_tup (av_cons (dv_var (j := 9) rfl ((dw1.ex (e1012.trans e1214)).mono kpu)) (av_cons (dv_var (j := 11) rfl (((dv11.ex e12).ex e1214).mono kpu)) av_nil)) (by simp)) (by rw [dz.length, List.length_map]; rw [List.length_append] at c9; omega) fun vv H15 e15 dvv => ?_
              have hz15 : H15 la = some (.lst zs) := e15 _ _ (by rw [upd_ne nlD]; exact e914 _ _ hz)
              have kpv : Kp K H15 (upd H15 la (.lst (zs ++ [vv]))) := .upd hz15 trivial
              have kp915 : Kp K H9 H15 := (Kp.ex e914).trans (kpu.trans (.ex e15))
              obtain ⟨nx1, nx2⟩ := next (nw ++ [(p.1, leftOf m2 qq.2 j p.2)]) (fun u hu => List.mem_append_left _ hu) (List.mem_append_right _ (List.mem_append_right _ List.mem_cons_self))
              refine ⟨((Mu.ex e914).trans (.upd (by simp))).trans ((Mu.ex e15).trans (.upd (by simp))), nw ++ [(p.1, leftOf m2 qq.2 j p.2)], zs ++ [vv], kxs ++ [(eQ (p.1, leftOf m2 qq.2 j p.2), bb)], _, _, _, _, rfl, upd_same, ?_, by rw [upd_ne nlD.symm]; exact e15 _ _ upd_same, ?_, ?_, ?_, fun u hu => ?_, nx1, nx2⟩
              · rw [List.map_append]
                exact ((dz.mono kp915).mono kpv).snoc (dvv.mono kpv)
              · exact (((hkz.mono (.ex e914)).snoc dbb (keyD_q _)).mono kpu).mono ((Kp.ex e15).trans kpv)
              · rw [List.map_append, hkkz, ← List.append_assoc, List.map_append (l₁ := sk ++ nw)]
                rfl
              · rw [← List.append_assoc]
                exact List.nodup_append.mpr ⟨ndz, by simp, fun a ha b hb z => hin (by rw [← List.mem_singleton.mp hb, ← z]; exact ha)⟩
              · rcases List.mem_append.mp hu with z | z
                · exact nwz u z
                · rw [List.mem_singleton.mp z]
                  exact ⟨nz, qq, hqm, j, hss⟩
      · obtain ⟨nw, zs, kxs, y8, y9, y10, y11, rfl, hz, dz, hDz, hkz, hkkz, ndz, nwz, allz, thz⟩ := hP
        refine ⟨(Mu.ex e8).trans mu9, nw, zs, kxs, _, _, _, _, _, _, rfl, hz, dz, hDz, hkz, hkkz, ndz, nwz, fun q0 hq0 q' hs => ?_⟩
        rw [List.take_add_one, hqi] at hq0
        rcases List.mem_append.mp hq0 with z | z
        · exact allz q0 z q' hs
        · have ez : q0 = qq := List.mem_singleton.mp z
          subst ez
          obtain ⟨x, hx⟩ := hs
          refine thz x ?_ q' hx
          rw [enumD_len, List.length_map]
          obtain ⟨p, hp, _⟩ := stepS_some hx
          unfold stepM at hp
          rw [List.getElem?_eq_getElem qun.1] at hp
          exact (List.getElem?_eq_some_iff.mp hp).1
    · obtain ⟨nw, zs, kxs, y6, y7, y8, y9, y10, y11, rfl, hz, dz, hDz, hkz, hkkz, ndz, nwz, allz⟩ := hP
      have tk : lev.take (lev.map eQ).length = lev := by rw [List.length_map, List.take_length]
      rw [tk] at allz
      have nun : ∀ q ∈ (sk ++ nw), Uni m1 m2 q := fun u hu => by
        rcases List.mem_append.mp hu with z | z
        · exact sun u z
        · obtain ⟨_, q0, h0, x0, hx0⟩ := nwz u z
          exact uni_step ok1 hx0
      have c9 := Nat.le_trans (count_le ndz nun) cnt
      rw [List.length_append] at c9
      have hnext : Lev m1 m2 (k + 1) nw (begunL m1 m2 ++ (sk ++ nw)) := hlev.next (fun q' hq' => (nwz q' hq').2) (fun q0 hq0 q' hs => List.mem_append_right _ (allz q0 hq0 q' hs).1) (fun q0 hq0 => by
          rcases List.mem_append.mp hq0 with z | z
          · exact .inl (List.mem_append_left _ z)
          · rcases List.mem_append.mp z with y | y
            · exact .inl (List.mem_append_right _ y)
            · exact .inr y) (fun q0 hq0 => by
          rcases List.mem_append.mp hq0 with z | z
          · exact List.mem_append_left _ z
          · exact List.mem_append_right _ (List.mem_append_left _ z)) (fun q0 hq0 => by
          rcases List.mem_append.mp hq0 with z | z
          · exact hlev.v q0 (List.mem_append_left _ z)
          · rcases List.mem_append.mp z with y | y
            · exact hlev.v q0 (List.mem_append_right _ y)
            · exact (nwz q0 y).1)
      refine ⟨_, rfl, 2 * (161 - (sk ++ nw).length) + (if nw = [] then 0 else 1), ?_, k + 1, nw, sk ++ nw, la, zs, kxs, _, _, _, _, _, _, _, rfl, exH mu7, hz, dz, hDz, hkz, hkkz, ndz, nun, hnext, by omega, rfl⟩
      rw [List.length_append, hm]
      by_cases c : nw = []
      · rw [if_pos c, c]; simp
      · rw [if_neg c]
        have := List.length_pos_iff.mpr c
        omega
  · have ei : lev = [] := by
      cases lev with
      | nil => rfl
      | cons a b => cases hb
    subst ei
    exact sd_ret dv_non fun v H6 e6 dv => q _ v H6 ⟨m1, m2, rfl, .inl ⟨rfl, hlev.stop⟩⟩ (e4.trans (e5.trans e6)) dv
end
end Wok
namespace Wok
open PySem PySem.Spec PyProof.Rows L2
open Evl (Ex EvT)
section
variable {K : PySem.W.Frag} {σ : St} {H H' : Hp} {te tb : TE} {d : PyData} {ds : List PyData}
theorem dv_ixL {i : Nat} (ha : Lw K te σ H ds) (hb : Dv K tb σ H (.int (i : Nat))) (hi : ds[i]? = some d) : Dv K (tOp (rIxL K) te tb) σ H d := fun H1 e Q q =>
  ha H1 e _ fun p xs H2 e2 hp dl => hb H2 (e.trans e2) _ fun y H3 e3 dy => by
    obtain ⟨v, hv, dv⟩ := (dl.ex e3).get hi
    exact ⟨p, xs, (i : Int), v, rfl, dy.int_of, .inl (.inl (e3 _ _ hp)), atI_nat hv, q v H3 (e2.trans e3) dv⟩
end
section
variable {P : Program} {w : World} {K : PySem.W.Frag} {mg : Str → Option Value} {base : Heap}
/-- a finite world of states that a search from all beginnings doesn't leave -/
structure World1 (m1 m2 : Mach) (U : List Sta) : Prop where
  st : ∀ b, b < m1.length → st0 m2 b ∈ U
  lt : ∀ q ∈ U, q.1 < m1.length
  in2 : ∀ q ∈ U, ∀ i ∈ q.2, i < m2.length
  len : ∀ q ∈ U, q.2.length ≤ 10000
  few : ∀ q ∈ U, ∀ x p, stepM m1 q.1 x = some p → (movesM m2 q.2 x p.2).length < 64
  nxt : ∀ q ∈ U, ∀ x q', stepS m1 m2 q x = some q' → q' ∈ U
  size : U.length ≤ 900000
def spMay (K : PySem.W.Frag) : Sp := fun vs H Q _ => ∃ v1 v2 p xs m1 m2 wd U, vs = [v1, v2, .ref p] ∧ Dt K H v1 (eM m1) ∧ Dt K H v2 (eM m2) ∧ H p = some (.lst xs) ∧ DtAll K H xs (rangeD (m1.length : Nat)) ∧ OkM m1 wd ∧ OkM m2 wd ∧ m1.length ≤ 10000 ∧ m2.length ≤ 10000 ∧ World1 m1 m2 U ∧
  ∀ b H', (b = true → ∀ k q, RN m1 m2 k q → q.2 ≠ []) → Ex H H' → Q (.bl b) H'
theorem sc_law_may : FnScope ["_law_low", "_law_high", "_law_begins", "_law_row", "_law_seen", "_law_at_now", "_law_pair_here", "_law_spot", "_law_some", "_law_x", "_law_nxt", "_law_ans", "_law_left", "_law_late"] ["_law_low", "_law_high", "_law_begins"] (defScope s_law_may) := ⟨rfl, rfl, rfl, by decide +kernel, rfl, by decide +kernel, by decide +kernel⟩
theorem cal_law_may (T : Fr mg) (D : HasD K mg "_law_may" s_law_may [] []) : Cal P w K mg base 1 "_law_may" ["_law_low", "_law_high", "_law_begins"] [] (spMay K) := by
  refine calS D sc_law_may (fun vs H Q E ⟨_, _, _, _, _, _, _, _, e, _⟩ => by rw [e]; rfl) (fun _ _ _ _ _ _ us hl => match us, hl with | [_, _, _], _ => rfl) fun f cdv A outer s H vs Q E hr ⟨x1, x2, pb, xb, m1, m2, wd, U, e, d1, d2, hpb, dlb, ok1, ok2, l1, l2, wo, q⟩ => ?_
  subst e
  refine ⟨_, (pss_cons (ps_setLc (i := 3) (own := [("_law_spot", 7)]) (g := gName 7) (by rfl) sc_law_may.nd rfl rfl (sw_true rfl rfl rfl (by decide +kernel)) (pi_listK (K := K) rfl (pv 2)) (blkOk_by (N := ["_law_low", "_law_high", "_law_begins", "_law_row", "_law_seen", "_law_at_now", "_law_pair_here", "_law_spot", "_law_some", "_law_x", "_law_nxt", "_law_ans", "_law_left", "_law_late"]) (sc := defScope s_law_may) (by decide +kernel)) (fun _ _ _ _ _ => (pg_name (i := 7) sc_law_may.nd rfl (Or.inl rfl))) (fun _ _ _ _ _ => pts_nil) (fun _ _ _ _ _ => (pe_tup (pa_cons (pv 7) (pa_cons (pe_tupleOfK (K := K) rfl (by rfl) T.tuple (pe_listRg rfl (by rfl) T.list (prg_1 (by rfl) T.range (pe_callB (call_lenK (K := K) rfl) (by rfl) T.len (by decide +kernel) (pa_cons (pv 1) pa_nil))))) pa_nil)))))
      (pss_cons (ps_par (i := 4) (j := 5) (by rfl) sc_law_may.nd rfl rfl (by decide) rfl rfl (pa_cons pe_dnewN (pa_cons pe_int pa_nil)) (by rfl))
      (pss_cons (ps_for PassesOwn.never rfl (pi_listK (K := K) rfl (pv 3)) (pg_name (i := 6) sc_law_may.nd rfl (Or.inl rfl))
      (pss_one (ps_asg pe_bl (pg_sub (pv 4) (pv 6) (set_N hr.units)))))
      (pss_cons (ps_while PassesOwn.never (pt_cmpR op_lt (pv 5) (pe_callB (call_lenK (K := K) rfl) (by rfl) T.len (by decide +kernel) (pa_cons (pv 3) pa_nil)) (nomark _))
      (pss_cons (ps_asg (pe_ix (ix_listK (K := K) rfl) (pv 3) (pv 5) (fun _ _ => rfl)) (pg_tup (by rfl) (pgs_cons (pg_name (i := 7) sc_law_may.nd rfl (Or.inl rfl)) (pgs_cons (pg_name (i := 8) sc_law_may.nd rfl (Or.inl rfl)) pgs_nil))))
      (pss_cons (ps_set (i := 5) sc_law_may.nd rfl (Or.inl rfl) (pe_op op_add (pv 5) pe_int))
      (pss_one (ps_for PassesOwn.never rfl (pi_enumT (by rfl) T.enumerate (pa_cons (pe_ix (ix_tupK (K := K) rfl) (pv 0) (pv 7) (fun _ _ => rfl)) pa_nil)) (pg_tup (by rfl) (pgs_cons (pg_name (i := 9) sc_law_may.nd rfl (Or.inr rfl)) (pgs_cons (pg_tup (by rfl) (pgs_cons (pg_name (i := 10) sc_law_may.nd rfl (Or.inl rfl)) (pgs_cons (pg_name (i := 11) sc_law_may.nd rfl (Or.inr rfl)) pgs_nil))) pgs_nil)))
      (pss_cons (ps_set (i := 12) sc_law_may.nd rfl (Or.inl rfl) (pe_callB (L2.cr_sortedSet rfl) (by rfl) T.sorted (by decide +kernel) (pa_cons (pe_callTy (cr_setI rfl) (by rfl) T.set (by decide +kernel) (pa_cons (pe_lc (own := [("_law_late", 13)]) (g := gName 13) (by rfl) sc_law_may.nd (pi_tupK (K := K) rfl (pv 8)) (blkOk_by (N := ["_law_low", "_law_high", "_law_begins", "_law_row", "_law_seen", "_law_at_now", "_law_pair_here", "_law_spot", "_law_some", "_law_x", "_law_nxt", "_law_ans", "_law_left", "_law_late"]) (sc := defScope s_law_may) (by decide +kernel)) (fun _ _ _ _ _ => (pg_name (i := 13) sc_law_may.nd rfl (Or.inl rfl))) (fun _ _ _ _ _ => (pts_one (pt_cmpR op_eq (pe_ix (ix_tupK (K := K) rfl) (pe_ix (ix_tupK (K := K) rfl) (pe_ix (ix_tupK (K := K) rfl) (pv 1) (pv 13) (fun _ _ => rfl)) (pv 9) (fun _ _ => rfl)) pe_int (fun _ _ => rfl)) (pv 11) (nomark _)))) (fun _ _ _ _ _ => (pe_ix (ix_tupK (K := K) rfl) (pe_ix (ix_tupK (K := K) rfl) (pe_ix (ix_tupK (K := K) rfl) (pv 1) (pv 13) (fun _ _ => rfl)) (pv 9) (fun _ _ => rfl)) pe_int (fun _ _ => rfl)))) pa_nil)) pa_nil)))
      (pss_cons (ps_if (pt_cmpR (op_eqD hr.units) (pv 12) (pe_lst pa_nil) (nomark _)) (pss_one (ps_ret pe_bl)) pss_nil)
      (pss_one (ps_if (pt_cmpR (op_notInN hr.units) (pe_tup (pa_cons (pv 10) (pa_cons (pe_tupleOfK (K := K) rfl (by rfl) T.tuple (pv 12)) pa_nil))) (pv 4) (by rfl)) (pss_cons (ps_asg pe_bl (pg_sub (pv 4) (pe_tup (pa_cons (pv 10) (pa_cons (pe_tupleOfK (K := K) rfl (by rfl) T.tuple (pv 12)) pa_nil))) (set_N hr.units)))
      (pss_one (ps_expr (pe_bm PySem.F.plainAttrs_list PySem.F.slot_list_append PySem.F.type_list_append mt_append (pv 3) (pa_cons (pe_tup (pa_cons (pv 10) (pa_cons (pe_tupleOfK (K := K) rfl (by rfl) T.tuple (pv 12)) pa_nil))) pa_nil))))) pss_nil)))))))))
      (pss_one (ps_ret pe_bl)))))), ?_⟩
  have lenB : (begunL m1 m2).length = m1.length := by unfold begunL; rw [List.length_map, List.length_range]
  have usz := wo.size
  refine ql_asg (lv_to (lv_map (ns := [7]) (iv_var .nil (j := 2) rfl hpb dlb (by simp)) (by unfold rangeD; simp; omega) (fun d => .tuple [d, eS (List.range m2.length)]) fun i d y H2 hdd e2 dy R k => ?_) (es := (begunL m1 m2).map eQ) ?_) fun l ys H1 nl e1 hl dl => ?_
  · refine k _ rfl (dv_tup (av_cons (dv_var (j := 7) rfl dy) (av_cons (dv_to (dv_tuple (lv_lstRg (dv_len (dv_var (j := 1) rfl (d2.ex e2))) (by omega) (by rw [eM_len]; omega)).w) (by rw [rangeD_eq, eM_len]; rfl)) av_nil)) (by simp))
  · unfold begunL rangeD
    rw [List.map_map, List.map_map]
    rfl
  refine q_parR (P := fun v H' => ∃ Da, v = .ref Da ∧ H1 Da = none ∧ H' Da = some (DNO P w Da [])) (K := K) (fun Qq qq => fun Da nD => qq _ _ (.new nD) ⟨Da, rfl, nD, upd_same⟩) (fun _ _ => dv_int) fun v u H2 H3 e2 ⟨Da, ev, nD, hD⟩ e3 du => ?_
  subst ev
  have eu := du.int_of
  subst eu
  have nDH : H Da = none := Evl.fresh_back e1 nD
  have e13 : Ex H H3 := (e1.trans e2).trans e3
  have hD3 := e3 _ _ hD
  have hl3 := e3 _ _ (e2 _ _ hl)
  have nlD : l ≠ Da := ne_of_none hl nD
  have so3 : Sok [Da] H3 := .cons hD3 trivial .nil
  refine q_forD (S := [Da]) (iv_var so3 (j := 3) rfl hl3 ((dl.ex e2).ex e3) (by simp [nlD])) (fun i σ' H' => ∃ (kxs : List (PyData × Addr)) (y6 : Option V), σ' = [some x1, some x2, some (.ref pb), some (.ref l), some (.ref Da), some (.int 0), y6, none, none, none, none, none, none, none] ∧ H' Da = some (DNO P w Da kxs) ∧ KeysIn K H' kxs ∧ kxs.map (·.1) = ((begunL m1 m2).take i).map eQ)
    (fun H4 e4 => ⟨[], _, rfl, e4 _ _ hD3, (fun p hp => by cases hp), rfl⟩) (fun i d y σ' H4 H5 hdd mu hP e5 dy => ?_) (fun σ' H4 mu4 hP => ?_)
  · obtain ⟨kxs, y6, rfl, hD4, hk4, hkk4⟩ := hP
    rw [List.getElem?_map] at hdd
    obtain ⟨qq, hqi, rfl⟩ := Option.map_eq_some_iff.mp hdd
    have hil : i < (begunL m1 m2).length := (List.getElem?_eq_some_iff.mp hqi).1
    have kl : kxs.length = i := by
      have := congrArg List.length hkk4
      rw [List.length_map, List.length_map, List.length_take] at this
      omega
    refine s_put (d := eQ qq) dv_bl (rv_var (j := 4) rfl) (dv_var (j := 6) rfl dy) (e5 _ _ hD4) (hk4.mono (.ex e5)) (keyD_q _) (by omega) fun bb kxs2 H6 e6 dbb ad => ?_
    have e46 := e5.trans e6
    have kpu : Kp K H6 (upd H6 Da (DNO P w Da kxs2)) := .upd (e46 _ _ hD4) trivial
    have hni : eQ qq ∉ kxs.map (·.1) := by
      rw [hkk4, mem_map_inj (fun _ _ => eQ_inj)]
      intro z
      obtain ⟨j, hj, ej⟩ := List.getElem_of_mem z
      rw [List.length_take] at hj
      rw [List.getElem_take] at ej
      have e9 := (List.getElem?_eq_some_iff.mp hqi).2
      rw [← e9] at ej
      exact absurd ((List.getElem_inj (begun_nodup m1 m2)).mp ej) (by omega)
    rcases ad with ⟨z, _⟩ | ⟨_, rfl⟩
    · exact absurd z hni
    · refine ⟨(Mu.ex e46).trans (.upd List.mem_cons_self), kxs ++ [(eQ qq, bb)], _, rfl, upd_same, ((hk4.mono (.ex e46)).snoc dbb (keyD_q _)).mono kpu, ?_⟩
      rw [List.map_append, hkk4, List.take_add_one, hqi, List.map_append]
      rfl
  obtain ⟨kxs, y6, rfl, hD4, hk4, hkk4⟩ := hP
  have tkb : (begunL m1 m2).take ((begunL m1 m2).map eQ).length = begunL m1 m2 := by rw [List.length_map, List.take_length]
  rw [tkb] at hkk4
  have e04 : Ex H H4 := fun a o ha => mu4 a o (fun z => by rw [List.mem_singleton.mp z, nDH] at ha; cases ha) (e13 _ _ ha)
  have hl4 : H4 l = some (.lst ys) := mu4 _ _ (by simp [nlD]) hl3
  have dl4 : DtAll K H4 ys ((begunL m1 m2).map eQ) := ((dl.ex e2).ex e3).mono (mu4.kp so3)
  have hbU : ∀ q ∈ begunL m1 m2, q ∈ U := fun q0 hq => by
    obtain ⟨t, ht, rfl⟩ := List.mem_map.mp hq
    exact wo.st t (List.mem_range.mp ht)
  have hb0 : ∀ q ∈ begunL m1 m2, q.2 ≠ [] := fun q0 hq => by
    obtain ⟨t, ht, rfl⟩ := List.mem_map.mp hq
    intro z
    have z2 : m2.length = 0 := List.range_eq_nil.mp z
    have := ok2.ne
    omega
  refine Evl.q_while (fun m σ' H' => ∃ (i : Nat) (rs : List Sta) (ys : List V) (kxs : List (PyData × Addr)) (y6 y7 y8 y9 y10 y11 y12 : Option V), σ' = [some x1, some x2, some (.ref pb), some (.ref l), some (.ref Da), some (.int (i : Nat)), y6, y7, y8, y9, y10, y11, y12, none] ∧ Ex H H' ∧ H' l = some (.lst ys) ∧ DtAll K H' ys (rs.map eQ) ∧
      H' Da = some (DNO P w Da kxs) ∧ KeysIn K H' kxs ∧ kxs.map (·.1) = rs.map eQ ∧ rs.Nodup ∧ (∀ q ∈ rs, q ∈ U ∧ q.2 ≠ []) ∧ (∀ q ∈ begunL m1 m2, q ∈ rs) ∧ (∀ q ∈ rs.take i, ∀ q', Succ m1 m2 q q' → q' ∈ rs) ∧ i ≤ rs.length ∧ m = U.length + 1 - i)
    _ ⟨0, begunL m1 m2, ys, kxs, _, _, _, _, _, _, _, rfl, e04, hl4, dl4, hD4, hk4, hkk4, begun_nodup m1 m2, fun q0 hq => ⟨hbU q0 hq, hb0 q0 hq⟩, fun q0 hq => hq, (fun q0 hq => by cases hq), Nat.zero_le _, rfl⟩ fun m σ' H5 hW => ?_
  obtain ⟨i, rs, ys, kxs, y6, y7, y8, y9, y10, y11, y12, rfl, e5, hl5, dl5, hD5, hk5, hkk5, rnd, rU, rb, rcl, hi, hm⟩ := hW
  have rlen : rs.length ≤ U.length := nodup_le rnd fun q0 hq => (rU q0 hq).1
  have lys : ys.length = rs.length := by rw [dl5.length, List.length_map]
  have nlH : H l = none := nl
  refine ⟨decide (i < rs.length), et_to (et_of (dv_opB (dv_var (j := 5) rfl (.int _)) (dv_lenP (j := 3) rfl hl5))) (by rw [lys]; simp), fun hb H6 e6 => ?_, fun hb H6 e6 => ?_⟩
  · have hil := of_decide_eq_true hb
    have hri : rs[i]? = some rs[i] := List.getElem?_eq_getElem hil
    have hU := (rU rs[i] (List.getElem_mem hil)).1
    refine ⟨fun σ2 H2 => ∃ m', m' < m ∧ ∃ (i : Nat) (rs : List Sta) (ys : List V) (kxs : List (PyData × Addr)) (y6 y7 y8 y9 y10 y11 y12 : Option V), σ2 = [some x1, some x2, some (.ref pb), some (.ref l), some (.ref Da), some (.int (i : Nat)), y6, y7, y8, y9, y10, y11, y12, none] ∧ Ex H H2 ∧ H2 l = some (.lst ys) ∧ DtAll K H2 ys (rs.map eQ) ∧
      H2 Da = some (DNO P w Da kxs) ∧ KeysIn K H2 kxs ∧ kxs.map (·.1) = rs.map eQ ∧ rs.Nodup ∧ (∀ q ∈ rs, q ∈ U ∧ q.2 ≠ []) ∧ (∀ q ∈ begunL m1 m2, q ∈ rs) ∧ (∀ q ∈ rs.take i, ∀ q', Succ m1 m2 q q' → q' ∈ rs) ∧ i ≤ rs.length ∧ m' = U.length + 1 - i, fun σ2 H2 h => h, ?_⟩
    have e56 := e5.trans e6
    refine qd_asgG (d := eQ rs[i]) (dv_ixL (lw_var (j := 3) rfl (e6 _ _ hl5) (dl5.ex e6)) (dv_var (j := 5) rfl (.int _)) (by rw [List.getElem?_map, hri]; rfl)) fun v0 H7 e7 dv0 => g_two dv0 fun v1 v2 dv1 dv2 => ?_
    refine qd_asg (d := eI (i + 1)) (dv_to (dv_op (dv_var (j := 5) rfl (.int _)) (dv_int (K := K))) (by show PyData.int _ = PyData.int _; simp)) fun u8 H8 e8 du8 => ?_
    have eu := du8.int_of
    subst eu
    have e58 := e6.trans (e7.trans e8)
    have eH8 := e5.trans e58
    have so8 : Sok [l, Da] H8 := .cons (e58 _ _ hl5) trivial (.cons (e58 _ _ hD5) trivial .nil)
    have hq1 := wo.lt _ hU
    have lrow := ok1.row (List.getElem?_eq_getElem hq1)
    have exH : ∀ {H' : Hp}, Mu [l, Da] H8 H' → Ex H H' := fun {H'} mu a o ha => mu a o (fun z => by
      rcases List.mem_cons.mp z with z | z
      · rw [z, nlH] at ha; cases ha
      · rw [List.mem_singleton.mp z, nDH] at ha; cases ha) (eH8 _ _ ha)
    refine s_forD (S := [l, Da]) (iv_enum so8 (dv_ix (i := rs[i].1) (dv_var (j := 0) rfl (d1.ex eH8)) (dv_var (j := 7) rfl (dv1.ex e8)) (eM_get (List.getElem?_eq_getElem hq1))))
      (fun j σ' H' => ∃ (nw : List Sta) (zs : List V) (kxs : List (PyData × Addr)) (y9 y10 y11 y12 : Option V), σ' = [some x1, some x2, some (.ref pb), some (.ref l), some (.ref Da), some (.int ((i + 1 : Nat) : Int)), y6, some v1, some v2, y9, y10, y11, y12, none] ∧ H' l = some (.lst zs) ∧ DtAll K H' zs ((rs ++ nw).map eQ) ∧
        H' Da = some (DNO P w Da kxs) ∧ KeysIn K H' kxs ∧ kxs.map (·.1) = (rs ++ nw).map eQ ∧ (rs ++ nw).Nodup ∧ (∀ q' ∈ nw, q' ∈ U ∧ q'.2 ≠ []) ∧ (∀ x, x < j → ∀ q', stepS m1 m2 rs[i] x = some q' → q' ∈ rs ++ nw))
      (fun H9 e9 => ⟨[], ys, kxs, _, _, _, _, rfl, e9 _ _ (e58 _ _ hl5), by simpa using (dl5.ex e58).ex e9, e9 _ _ (e58 _ _ hD5), hk5.mono (.ex (e58.trans e9)), by simpa using hkk5, by simpa using rnd, (fun q0 hq => by cases hq), fun x hx => absurd hx (Nat.not_lt_zero x)⟩) (fun j d y' σ' H9 H10 hd9 mu9 hP e10 dy' => ?_) (fun σ' H9 mu9 hP => ?_)
    · obtain ⟨nw, zs, kxs, y9, y10, y11, y12, rfl, hz, dz, hDz, hkz, hkkz, ndz, nwz, thz⟩ := hP
      rw [enumD_get] at hd9
      obtain ⟨d0, h0, rfl⟩ := Option.map_eq_some_iff.mp hd9
      obtain ⟨p, hp, rfl⟩ := of_eR h0
      have hjw : j < wd := by rw [← lrow]; exact (List.getElem?_eq_some_iff.mp hp).1
      have hst : stepM m1 rs[i].1 j = some p := by
        unfold stepM
        rw [List.getElem?_eq_getElem hq1]
        exact hp
      have hss : stepS m1 m2 rs[i] j = some (p.1, leftOf m2 rs[i].2 j p.2) := by unfold stepS; rw [hst]; rfl
      have hU' := wo.nxt _ hU j _ hss
      have kp10 : Kp K H8 H10 := (mu9.kp so8).trans (.ex e10)
      have mu10 : Mu [l, Da] H8 H10 := mu9.trans (.ex e10)
      have dd2' := d2.ex (exH mu10)
      have ql := wo.len _ hU
      refine g_pair dy' fun u1 u2 du1 du2 => g_two du2 fun w1 w3 dw1 dw2 => ?_
      refine ql_asg (lv_lefts ok2 (lv_moves (jh := 1) (js := 8) (jx := 9) (ja := 11) (jt := 13) ok2 hjw (wo.in2 _ hU) (by omega) rfl (fun y => ⟨rfl, rfl, rfl, rfl, rfl⟩) dd2' ((dv2.ex e8).mono kp10) du1 dw2) (wo.few _ hU j p hst)) fun p12 ls H11 np12 e11 hp12 dl12 => ?_
      have nplD : p12 ≠ Da := (ne_of_none (e10 _ _ hDz) np12).symm
      refine qd_if (et_of (dl_eq0 (lw_var (j := 12) rfl hp12 dl12) (shaped_lst fun d hd => by obtain ⟨u, _, rfl⟩ := List.mem_map.mp hd; exact good_int _))) (fun hb2 H12 e12 => ?_) (fun hb2 H12 e12 => ?_)
      · exact sd_ret (dv_bl (K := K)) fun v H13 e13 dv => by
          rw [dv.bl_of]
          exact q false H13 (fun z => (nomatch z)) ((exH mu10).trans (e11.trans (e12.trans e13)))
      · have nz : leftOf m2 rs[i].2 j p.2 ≠ [] := fun z => by rw [z] at hb2; cases hb2
        have e912 := e10.trans (e11.trans e12)
        have e1012 := e11.trans e12
        have hk12 := hkz.mono (.ex e912)
        have kl2 : kxs.length = (rs ++ nw).length := by rw [← List.length_map (f := fun p : PyData × Addr => p.1), hkkz, List.length_map]
        have c9 : (rs ++ nw).length ≤ U.length := nodup_le ndz fun u hu => by
          rcases List.mem_append.mp hu with z | z
          · exact (rU u z).1
          · exact (nwz u z).1
        have lz : zs.length = (rs ++ nw).length := by rw [dz.length, List.length_map]
        have tupd : ∀ {H' : Hp}, Kp K H12 H' → H' p12 = some (.lst ls) → ∀ {σ' : St}, σ'[10]? = some (some w1) → σ'[12]? = some (some (.ref p12)) → Dv K (tTup (tCons (tVar 10) (tCons (tThen (tVar 12) (kTup K)) tNil))) σ' H' (eQ (p.1, leftOf m2 rs[i].2 j p.2)) := fun {H'} kp hp' {σ'} h9 h11 => dv_tup (av_cons (dv_var h9 ((dw1.ex e1012).mono kp)) (av_cons (dv_tuple (lw_var h11 hp' ((dl12.ex e12).mono kp))) av_nil)) (by simp)
        have next : ∀ nw2 : List Sta, (∀ u ∈ nw, u ∈ nw2) → (p.1, leftOf m2 rs[i].2 j p.2) ∈ rs ++ nw2 → (∀ x, x < j + 1 → ∀ q', stepS m1 m2 rs[i] x = some q' → q' ∈ rs ++ nw2) := fun nw2 hsub hin x hx q' hs => by
          rcases Nat.lt_succ_iff_lt_or_eq.mp hx with z | z
          · rcases List.mem_append.mp (thz x z q' hs) with y | y
            · exact List.mem_append_left _ y
            · exact List.mem_append_right _ (hsub q' y)
          · subst z
            rw [hss] at hs
            cases hs
            exact hin
        by_cases hin : (p.1, leftOf m2 rs[i].2 j p.2) ∈ rs ++ nw
        · refine sd_no (et_to (et_of (dv_notin (b := true) (tupd (.refl _ _) (e12 _ _ hp12) rfl rfl) (rv_var (j := 4) rfl) (e912 _ _ hDz) hk12 (keyD_q _) (by rw [hkkz, mem_map_inj (fun _ _ => eQ_inj)]; simp [hin]))) rfl) fun H13 e13 => ?_
          have e913 := e912.trans e13
          exact ⟨.ex e913, nw, zs, kxs, _, _, _, _, rfl, e913 _ _ hz, dz.ex e913, e913 _ _ hDz, hkz.mono (.ex e913), hkkz, ndz, nwz, next nw (fun u hu => hu) hin⟩
        · refine sd_if (et_of (dv_notin (b := false) (tupd (.refl _ _) (e12 _ _ hp12) rfl rfl) (rv_var (j := 4) rfl) (e912 _ _ hDz) hk12 (keyD_q _) (by rw [hkkz, mem_map_inj (fun _ _ => eQ_inj)]; simp [hin]))) (fun _ H13 e13 => ?_) fun z => (nomatch z)
          have e913 := e912.trans e13
          refine q_put (d := eQ (p.1, leftOf m2 rs[i].2 j p.2)) dv_bl (rv_var (j := 4) rfl) (tupd (.ex e13) (e13 _ _ (e12 _ _ hp12)) rfl rfl) (e913 _ _ hDz) (hkz.mono (.ex e913)) (keyD_q _) (by rw [kl2]; omega) fun bb kxs3 H14 e14 dbb ad => ?_
          have e914 := e913.trans e14
          have hnin : eQ (p.1, leftOf m2 rs[i].2 j p.2) ∉ kxs.map (·.1) := fun z => hin ((mem_map_inj (fun _ _ => eQ_inj)).mp (by rw [← hkkz]; exact z))
          rcases ad with ⟨z, _⟩ | ⟨_, rfl⟩
          · exact absurd z hnin
          · have kpu : Kp K H14 (upd H14 Da (DNO P w Da (kxs ++ [(eQ (p.1, leftOf m2 rs[i].2 j p.2), bb)]))) := .upd (e914 _ _ hDz) trivial
            have e1214 := e13.trans e14
            refine s_append (xs := zs) (d := eQ (p.1, leftOf m2 rs[i].2 j p.2)) (by rw [upd_ne nlD]; exact e914 _ _ hz) (rv_var (j := 3) rfl) (tupd ((Kp.ex e1214).trans kpu) (by rw [upd_ne nplD]; exact e1214 _ _ (e12 _ _ hp12)) rfl rfl) (by rw [lz]; omega) fun vv H15 e15 dvv => ?_
            have hz15 : H15 l = some (.lst zs) := e15 _ _ (by rw [upd_ne nlD]; exact e914 _ _ hz)
            have kpv : Kp K H15 (upd H15 l (.lst (zs ++ [vv]))) := .upd hz15 trivial
            have kp915 : Kp K H9 H15 := (Kp.ex e914).trans (kpu.trans (.ex e15))
            refine ⟨((Mu.ex e914).trans (.upd (by simp))).trans ((Mu.ex e15).trans (.upd (by simp))), nw ++ [(p.1, leftOf m2 rs[i].2 j p.2)], zs ++ [vv], kxs ++ [(eQ (p.1, leftOf m2 rs[i].2 j p.2), bb)], _, _, _, _, rfl, upd_same, ?_, by rw [upd_ne nlD.symm]; exact e15 _ _ upd_same, ?_, ?_, ?_, fun u hu => ?_, next _ (fun u hu => List.mem_append_left _ hu) (List.mem_append_right _ (List.mem_append_right _ List.mem_cons_self))⟩
            · rw [← List.append_assoc, List.map_append]
              exact ((dz.mono kp915).mono kpv).snoc (dvv.mono kpv)
            · exact (((hkz.mono (.ex e914)).snoc dbb (keyD_q _)).mono kpu).mono ((Kp.ex e15).trans kpv)
            · rw [List.map_append, hkkz, ← List.append_assoc, List.map_append (l₁ := rs ++ nw)]
              rfl
            · rw [← List.append_assoc]
              exact List.nodup_append.mpr ⟨ndz, by simp, fun a ha b hb z => hin (by rw [← List.mem_singleton.mp hb, ← z]; exact ha)⟩
            · rcases List.mem_append.mp hu with z | z
              · exact nwz u z
              · rw [List.mem_singleton.mp z]
                exact ⟨hU', nz⟩
    · obtain ⟨nw, zs, kxs, y9, y10, y11, y12, rfl, hz, dz, hDz, hkz, hkkz, ndz, nwz, thz⟩ := hP
      refine ⟨U.length + 1 - (i + 1), by omega, i + 1, rs ++ nw, zs, kxs, _, _, _, _, _, _, _, rfl, exH mu9, hz, dz, hDz, hkz, hkkz, ndz, fun u hu => ?_, fun u hu => List.mem_append_left _ (rb u hu), fun u hu q' hs => ?_, by rw [List.length_append]; omega, rfl⟩
      · rcases List.mem_append.mp hu with z | z
        · exact rU u z
        · exact nwz u z
      · have etk : (rs ++ nw).take (i + 1) = rs.take i ++ [rs[i]] := by
          rw [List.take_append_of_le_length (by omega), List.take_add_one, hri]; rfl
        rw [etk] at hu
        rcases List.mem_append.mp hu with z | z
        · exact List.mem_append_left _ (rcl u z q' hs)
        · rw [List.mem_singleton.mp z] at hs
          obtain ⟨x, hx⟩ := hs
          refine thz x ?_ q' hx
          rw [enumD_len, List.length_map]
          obtain ⟨p, hp, _⟩ := stepS_some hx
          unfold stepM at hp
          rw [List.getElem?_eq_getElem hq1] at hp
          exact (List.getElem?_eq_some_iff.mp hp).1
  · have ei : i = rs.length := by have := of_decide_eq_false hb; omega
    subst ei
    rw [List.take_length] at rcl
    have hin : ∀ k q, RN m1 m2 k q → q ∈ rs := by
      intro k
      induction k with
      | zero =>
        intro q0 ⟨b, l0, h1, h2, h3⟩
        have e0 : l0 = [] := List.length_eq_zero_iff.mp h2
        subst e0
        cases h3
        exact rb _ (List.mem_map.mpr ⟨b, List.mem_range.mpr h1, rfl⟩)
      | succ k ih =>
        intro q0 h0
        obtain ⟨q1, a, b⟩ := h0.pred
        exact rcl q1 (ih q1 a) q0 b
    exact sd_ret (dv_bl (K := K)) fun v H7 e7 dv => by
      rw [dv.bl_of]
      exact q true H7 (fun _ k q0 h0 => (rU q0 (hin k q0 h0)).2) (e5.trans (e6.trans e7))
end
end Wok
namespace Wok
open PySem PySem.Spec PyProof.Rows L2
open Evl (Ex EvT)
/-! ### the law's source of numbers -/
def kvS (cl : Addr) (spot rest turn : Int) : List (Key × V) := [(Sum.inr "cells", .ref cl), (Sum.inr "spot", .int spot), (Sum.inr "rest", .int rest), (Sum.inr "turn", .int turn)]
section
variable {cl : Addr} {spot rest turn n : Int}
theorem get_cells : valV (kvS cl spot rest turn) (Sum.inr "cells") = some (.ref cl) := rfl
theorem get_spot : valV (kvS cl spot rest turn) (Sum.inr "spot") = some (.int spot) := rfl
theorem get_rest : valV (kvS cl spot rest turn) (Sum.inr "rest") = some (.int rest) := rfl
theorem get_turn : valV (kvS cl spot rest turn) (Sum.inr "turn") = some (.int turn) := rfl
theorem put_spot : putK (kvS cl spot rest turn) (Sum.inr "spot") (.int n) = kvS cl n rest turn := rfl
theorem put_rest : putK (kvS cl spot rest turn) (Sum.inr "rest") (.int n) = kvS cl spot n turn := rfl
theorem put_turn : putK (kvS cl spot rest turn) (Sum.inr "turn") (.int n) = kvS cl spot rest n := rfl
theorem merge_kvS : mergeK [] (kvS cl spot rest turn) = kvS cl spot rest turn := rfl
end
theorem tC_in {v : V} {σ : St} {H : Hp} {Q : VK} (h : Q v H) : tC v σ H Q := h
def SrcAt (H : Hp) (src cl : Addr) (cells : List Int) (spot rest turn : Int) : Prop := H src = some (.dK (kvS cl spot rest turn)) ∧ H cl = some (.lst (cells.map V.int))
def SrcC (H : Hp) (src cl : Addr) (cells : List Int) : Prop := ∃ spot rest turn, SrcAt H src cl cells spot rest turn
theorem SrcAt.ne {H : Hp} {src cl : Addr} {cells : List Int} {spot rest turn : Int} (h : SrcAt H src cl cells spot rest turn) : cl ≠ src := fun z => by
  have h1 := h.1
  rw [← z, h.2] at h1
  cases h1
theorem SrcAt.ex {H H' : Hp} {src cl : Addr} {cells : List Int} {spot rest turn : Int} (h : SrcAt H src cl cells spot rest turn) (e : Ex H H') : SrcAt H' src cl cells spot rest turn := ⟨e _ _ h.1, e _ _ h.2⟩
theorem SrcC.ex {H H' : Hp} {src cl : Addr} {cells : List Int} (h : SrcC H src cl cells) (e : Ex H H') : SrcC H' src cl cells := let ⟨a, b, c, h⟩ := h; ⟨a, b, c, h.ex e⟩
theorem SrcC.sok {H : Hp} {src cl : Addr} {cells : List Int} (h : SrcC H src cl cells) : Sok [src] H := let ⟨_, _, _, h⟩ := h; .cons h.1 trivial .nil
/-- another object changes -/
theorem SrcC.upd {H : Hp} {src cl l : Addr} {cells : List Int} {o : HO} (h : SrcC H src cl cells) (h1 : l ≠ src) (h2 : l ≠ cl) : SrcC (L2.upd H l o) src cl cells := by
  obtain ⟨a, b, c, h⟩ := h
  exact ⟨a, b, c, by rw [upd_ne h1.symm]; exact h.1, by rw [upd_ne h2.symm]; exact h.2⟩
theorem SrcC.some {H : Hp} {src cl : Addr} {cells : List Int} (h : SrcC H src cl cells) : (∃ o, H src = some o) ∧ ∃ o, H cl = some o := let ⟨_, _, _, h⟩ := h; ⟨⟨_, h.1⟩, ⟨_, h.2⟩⟩
theorem SrcAt.put {H : Hp} {src cl : Addr} {cells : List Int} {spot rest turn s' r' t' : Int} (h : SrcAt H src cl cells spot rest turn) : SrcAt (L2.upd H src (.dK (kvS cl s' r' t'))) src cl cells s' r' t' := ⟨upd_same, by rw [upd_ne h.ne]; exact h.2⟩
section
variable {K : PySem.W.Frag} {σ : St} {H H' : Hp} {te : TE} {D : Ends} {tz : TS} {src cl : Addr} {cells : List Int} {spot rest turn : Int}
theorem dv_getI {j : Nat} {z : Str} {kvs : List (Key × V)} {n : Int} (hj : σ[j]? = some (some (.ref src))) (h : H src = some (.dK kvs)) (hv : valV kvs (Sum.inr z) = some (.int n)) : Dv K (tDGet (tVar j) (tC (.str z))) σ H (.int n) := fun H1 e Q q =>
  ⟨_, hj, src, .int n, rfl, by rw [← hv]; exact DGet.k (k := Sum.inr z) (e _ _ h), q _ H1 (.refl _) (.int n)⟩
theorem rv_getL {j : Nat} {z : Str} {kvs : List (Key × V)} {p : Addr} (hj : σ[j]? = some (some (.ref src))) (h : H src = some (.dK kvs)) (hv : valV kvs (Sum.inr z) = some (.ref p)) : Rv (tDGet (tVar j) (tC (.str z))) σ H (fun v _ => v = .ref p) := fun H1 e Q q =>
  ⟨_, hj, src, .ref p, rfl, by rw [← hv]; exact DGet.k (k := Sum.inr z) (e _ _ h), q _ H1 (.refl _) rfl⟩
theorem q_dput {j : Nat} {z : Str} {kvs : List (Key × V)} {n : Int} (hj : σ[j]? = some (some (.ref src))) (h : H src = some (.dK kvs)) (hl : kvs.length < 1000) (hv : Dv K te σ H (.int n)) (k : ∀ H1, Ex H H1 → tz D σ (L2.upd H1 src (.dK (putK kvs (Sum.inr z) (.int n))))) : tSeq (sDPut (tVar j) (tC (.str z)) te) tz D σ H :=
  hv H (.refl H) _ fun v H1 e dv => ⟨_, hj, src, _, rfl, by rw [dv.int_of]; exact DPut.k (k := Sum.inr z) (e _ _ h) (Nat.lt_of_lt_of_le hl (by decide)), k H1 e⟩
end
section
variable {P : Program} {w : World} {K : PySem.W.Frag} {mg : Str → Option Value} {base : Heap}
theorem sc_law_feed : FnScope ["_law_script", "_law_cell"] ["_law_script"] (defScope s_law_feed) := ⟨rfl, rfl, rfl, by decide +kernel, rfl, by decide +kernel, by decide +kernel⟩
def spFeed (K : PySem.W.Frag) : Sp := fun vs H Q _ => ∃ (a : Addr) (ns : List Int), vs = [.ref a] ∧ SqL K H a (ns.map V.int) ∧ ns.length ≤ 1000 ∧ ∀ src cl cells H', SrcC H' src cl cells → Ex H H' → H src = none → Q (.ref src) H'
theorem cal_law_feed (T : Fr mg) (D : HasD K mg "_law_feed" s_law_feed [] []) : Cal P w K mg base 1 "_law_feed" ["_law_script"] [] (spFeed K) := by
  refine calS D sc_law_feed (fun vs H Q E ⟨_, _, e, _⟩ => by rw [e]; rfl) (fun _ _ _ _ _ _ us hl => match us, hl with | [_], _ => rfl) fun f cdv A outer s H vs Q E hr ⟨a, ns, e, hs, hn, q⟩ => ?_
  subst e
  refine ⟨_, (pss_one (ps_ret (pe_disp (pps_cons pe_str (pe_lc (own := [("_law_cell", 1)]) (g := gName 1) (by rfl) sc_law_feed.nd (pi_listK (K := K) rfl (pe_slice sl_list (pv 0) po_none (po_some pe_int))) (blkOk_by (N := ["_law_script", "_law_cell"]) (sc := defScope s_law_feed) (by decide +kernel)) (fun _ _ _ _ _ => (pg_name (i := 1) sc_law_feed.nd rfl (Or.inl rfl))) (fun _ _ _ _ _ => pts_nil) (fun _ _ _ _ _ => (pe_callTy call_int1 (by rfl) T.int (by decide +kernel) (pa_cons (pv 1) pa_nil)))) (pps_cons pe_str pe_int (pps_cons pe_str pe_int (pps_cons pe_str pe_int pps_nil)))) (by rfl) (by rfl) (fun z => by cases z) (by decide)))), ?_⟩
  intro p np
  have eH := Ex.new (o := .dK []) np
  unfold tPairs tPairs tPairs tPairs tPairs
  refine tC_in ?_
  refine lv_map (ds := (ns.take 63).map .int) (iv_lst .nil ?_) (by simp; omega) (fun d => d) (fun i d y H2 hdd e2 dy R k => ?_) (L2.upd H p (.dK [])) (.refl _) _ fun lc xs H2 nlc e2 hlc dlc => ?_
  · intro H1 e1 Q1 q1
    refine ⟨.ref a, rfl, 63, rfl, a, ns.map V.int, rfl, Evl.ex_l (eH.trans e1) hs, fun r hr => q1 r _ _ hr (.new hr) upd_same ?_⟩
    have ec : cutV (ns.map V.int) none (some 63) = (ns.take 63).map V.int := by
      unfold cutV
      rw [show HT.sIx (ns.map V.int).length 0 none = 0 from HT.sIx_none _ _, show HT.sIx (ns.map V.int).length (ns.map V.int).length (some 63) = min 63 (ns.map V.int).length from HT.sIx_nat _ _ 63]
      rw [List.drop_zero, Nat.sub_zero, List.map_take]
      rcases Nat.le_total 63 (ns.map V.int).length with h | h
      · rw [Nat.min_eq_left h]
      · rw [Nat.min_eq_right h, List.take_of_length_le (Nat.le_refl _), List.take_of_length_le h]
    rw [ec]
    exact .ints _
  · rw [List.getElem?_map] at hdd
    obtain ⟨n, _, rfl⟩ := Option.map_eq_some_iff.mp hdd
    exact k _ rfl (dv_intI (dv_var (j := 1) rfl dy))
  · rw [List.map_id'] at dlc
    have ex := dlc.of_ints
    subst ex
    refine ⟨e2 _ _ upd_same, kvS lc 0 0 0, rfl, by show 4 ≤ 15; decide, ?_⟩
    rw [merge_kvS]
    have nlp : lc ≠ p := fun z => by rw [z, upd_same] at nlc; cases nlc
    exact q p lc (ns.take 63) _ ⟨0, 0, 0, upd_same, by rw [upd_ne nlp]; exact hlc⟩ ((eH.trans e2).mut np) np
theorem sc_law_draw : FnScope ["_law_src", "_law_much", "_law_digit", "_law_nums", "_law_spot", "_law_num", "_law_mixed"] ["_law_src", "_law_much"] (defScope s_law_draw) := ⟨rfl, rfl, rfl, by decide +kernel, rfl, by decide +kernel, by decide +kernel⟩
def spDraw (K : PySem.W.Frag) : Sp := fun vs H Q _ => ∃ (src cl : Addr) (cells : List Int) (much : Nat), vs = [.ref src, .int (much : Nat)] ∧ 0 < much ∧ much < 1000000 ∧ SrcC H src cl cells ∧ ∀ (n : Nat) H', n < much → Mu [src] H H' → SrcC H' src cl cells → Q (.int (n : Nat)) H'
theorem cal_law_draw (T : Fr mg) (D : HasD K mg "_law_draw" s_law_draw [] []) : Cal P w K mg base 1 "_law_draw" ["_law_src", "_law_much"] [] (spDraw K) := by
  refine calS D sc_law_draw (fun vs H Q E ⟨_, _, _, _, e, _⟩ => by rw [e]; rfl) (fun _ _ _ _ _ _ us hl => match us, hl with | [_, _], _ => rfl) fun f cdv A outer s H vs Q E hr ⟨src, cl, cells, much, e, h0, h1, ⟨spot, rest, turn, so⟩, q⟩ => ?_
  subst e
  refine ⟨_, (pss_cons (ps_dput (hu_of hr) (pv 0) pe_str (pe_op op_add (pe_dget (hu_of hr) (pv 0) pe_str (fun _ _ => rfl)) pe_int) rfl)
      (pss_cons (ps_if (pt_cmpR op_gt (pe_dget (hu_of hr) (pv 0) pe_str (fun _ _ => rfl)) pe_int (nomark _)) (pss_cons (ps_set (i := 2) sc_law_draw.nd rfl (Or.inl rfl) (pe_op op_mod (pe_callTy call_int1 (by rfl) T.int (by decide +kernel) (pa_cons (pe_dget (hu_of hr) (pv 0) pe_str (fun _ _ => rfl)) pa_nil)) (pv 1)))
      (pss_cons (ps_dput (hu_of hr) (pv 0) pe_str (pe_op op_fdiv (pe_dget (hu_of hr) (pv 0) pe_str (fun _ _ => rfl)) (pv 1)) rfl)
      (pss_one (ps_ret (pv 2))))) pss_nil)
      (pss_cons (ps_par (i := 3) (j := 4) (by rfl) sc_law_draw.nd rfl rfl (by decide) rfl rfl (pa_cons (pe_dget (hu_of hr) (pv 0) pe_str (fun _ _ => rfl)) (pa_cons (pe_dget (hu_of hr) (pv 0) pe_str (fun _ _ => rfl)) pa_nil)) (by rfl))
      (pss_cons (ps_dput (hu_of hr) (pv 0) pe_str (pe_op op_add (pv 4) pe_int) rfl)
      (pss_cons (ps_set (i := 5) sc_law_draw.nd rfl (Or.inl rfl) (pe_ifExp (pt_cmpR (op_neD hr.units) (pv 3) (pe_lst pa_nil) (nomark _)) (pe_ix (ix_listK (K := K) rfl) (pv 3) (pe_op op_mod (pe_callTy call_int1 (by rfl) T.int (by decide +kernel) (pa_cons (pv 4) pa_nil)) (pe_callB (call_lenK (K := K) rfl) (by rfl) T.len (by decide +kernel) (pa_cons (pv 3) pa_nil))) (fun _ _ => rfl)) pe_int))
      (pss_cons (ps_if (PW.pt (pw_and (pt_cmpR op_ge (pv 5) (pe_op op_pow pe_int pe_int) (nomark _)) (pw_and1 (pt_cmpR op_lt (pv 4) (pe_callB (call_lenK (K := K) rfl) (by rfl) T.len (by decide +kernel) (pa_cons (pv 3) pa_nil)) (nomark _))))) (pss_cons (ps_dput (hu_of hr) (pv 0) pe_str (pe_op op_fdiv (pv 5) (pv 1)) rfl)
      (pss_one (ps_ret (pe_op op_mod (pe_callTy call_int1 (by rfl) T.int (by decide +kernel) (pa_cons (pv 5) pa_nil)) (pv 1))))) pss_nil)
      (pss_cons (ps_set (i := 6) sc_law_draw.nd rfl (Or.inl rfl) (pe_op op_mod (pe_callTy call_int1 (by rfl) T.int (by decide +kernel) (pa_cons (pe_op op_add (pe_op op_add (pe_op op_mod (pe_callTy call_int1 (by rfl) T.int (by decide +kernel) (pa_cons (pv 5) pa_nil)) pe_int) (pe_op op_mul pe_int (pe_dget (hu_of hr) (pv 0) pe_str (fun _ _ => rfl)))) pe_int) pa_nil)) pe_int))
      (pss_cons (ps_set (i := 6) sc_law_draw.nd rfl (Or.inl rfl) (pe_op op_mod (pe_callTy call_int1 (by rfl) T.int (by decide +kernel) (pa_cons (pe_op op_add (pe_op op_add (pe_op op_mul (pv 6) (pv 6)) (pe_op op_mul pe_int (pe_dget (hu_of hr) (pv 0) pe_str (fun _ _ => rfl)))) pe_int) pa_nil)) pe_int))
      (pss_one (ps_ret (pe_op op_mod (pe_callTy call_int1 (by rfl) T.int (by decide +kernel) (pa_cons (pe_op op_fdiv (pe_op op_mod (pe_callTy call_int1 (by rfl) T.int (by decide +kernel) (pa_cons (pe_op op_add (pe_op op_mul (pv 6) (pv 6)) (pe_op op_mul pe_int (pv 6))) pa_nil)) pe_int) pe_int) pa_nil)) (pv 1)))))))))))), ?_⟩
  have fin : ∀ {H' : Hp} {v : V} {x : Int} {a b c : Int}, Mu [src] H H' → SrcAt H' src cl cells a b c → Dt K H' v (.int (x % (much : Nat))) → Q v H' := fun {H' v x a b c} mu so dv => by
    have hp : (0 : Int) < (much : Nat) := by omega
    have e : x % (much : Nat) = ((x % (much : Nat)).toNat : Nat) := (Int.toNat_of_nonneg (Int.emod_nonneg _ (by omega))).symm
    rw [dv.int_of, e]
    refine q _ H' ?_ mu ⟨_, _, _, so⟩
    have := Int.emod_lt_of_pos x hp
    omega
  refine q_dput (K := K) rfl so.1 (by show 4 < 1000; decide) (dv_op (dv_getI rfl so.1 get_turn) dv_int) fun H1 e1 => ?_
  rw [put_turn]
  have so1 := (so.ex e1).put (s' := spot) (r' := rest) (t' := turn + 1)
  revert so1
  generalize hH2 : L2.upd H1 src (.dK (kvS cl spot rest (turn + 1))) = H2
  intro so2
  have mu2 : Mu [src] H H2 := by rw [← hH2]; exact (Mu.ex e1).trans (.upd List.mem_cons_self)
  refine qd_if (b := decide (rest > 0)) (et_of (dv_opB (dv_getI (K := K) rfl so2.1 get_rest) dv_int)) (fun hb H3 e3 => ?_) fun hb H3 e3 => ?_
  · refine qd_asg (dv_opC (dv_intI (dv_getI (K := K) rfl (so2.ex e3).1 get_rest)) (dv_var (j := 1) rfl (.int _)) (by show (0 : Int) < _; omega)) fun v H4 e4 dv => ?_
    refine q_dput (K := K) rfl (so2.ex (e3.trans e4)).1 (by show 4 < 1000; decide) (dv_opC (dv_getI rfl (so2.ex (e3.trans e4)).1 get_rest) (dv_var (j := 1) rfl (.int _)) ⟨by omega, by omega⟩) fun H5 e5 => ?_
    rw [put_rest]
    have so5 := (so2.ex (e3.trans (e4.trans e5))).put (s' := spot) (r' := rest / (much : Nat)) (t' := turn + 1)
    have mu5 := mu2.trans ((Mu.ex (e3.trans (e4.trans e5))).trans (.upd (S := [src]) (l := src) (o := .dK (kvS cl spot (rest / (much : Nat)) (turn + 1))) List.mem_cons_self))
    have kpu : Kp K H5 (L2.upd H5 src (.dK (kvS cl spot (rest / (much : Nat)) (turn + 1)))) := .upd (so2.ex (e3.trans (e4.trans e5))).1 trivial
    exact sd_ret (dv_var (j := 2) rfl ((dv.ex e5).mono kpu)) fun u H6 e6 du => fin (mu5.trans (.ex e6)) (so5.ex e6) du
  · have so3 := so2.ex e3
    have mu3 := mu2.trans (.ex e3)
    refine q_parR (P := fun v _ => v = .ref cl) (K := K) (d := .int spot) (fun Qq qq => rv_getL rfl so3.1 get_cells H3 (.refl _) Qq fun v H4 e4 ev => qq v H4 e4 ev) (fun H4 e4 => dv_getI rfl (so3.ex e4).1 get_spot) fun v u H4 H5 e4 ev e5 du => ?_
    subst ev
    have eu := du.int_of
    subst eu
    have so5 := so3.ex (e4.trans e5)
    refine q_dput (K := K) rfl so5.1 (by show 4 < 1000; decide) (dv_op (dv_var (j := 4) rfl (.int _)) dv_int) fun H6 e6 => ?_
    rw [put_spot]
    have so7 := (so5.ex e6).put (s' := spot + 1) (r' := rest) (t' := turn + 1)
    have mu7 : Mu [src] H (L2.upd H6 src (.dK (kvS cl (spot + 1) rest (turn + 1)))) := mu3.trans ((Mu.ex (e4.trans (e5.trans e6))).trans (.upd List.mem_cons_self))
    revert so7 mu7
    generalize L2.upd H6 src (.dK (kvS cl (spot + 1) rest (turn + 1))) = H7
    intro so7 mu7
    refine qr_asg (P := fun v _ => ∃ n : Int, v = .int n) (dv_if (b := !(cells.map PyData.int).isEmpty) (et_of (dl_ne0 (lw_var (K := K) (j := 3) rfl so7.2 (.ints cells)) (shaped_lst fun d hd => by obtain ⟨u, _, rfl⟩ := List.mem_map.mp hd; exact good_int _))) (fun hb => ?_) (fun _ => ?_)) fun v8 H8 e8 ⟨num, ev8⟩ => ?_
    · have hc : 0 < cells.length := by
        cases cells with
        | nil => cases hb
        | cons _ _ => exact Nat.succ_pos _
      have hm0 := Int.emod_nonneg spot (b := (cells.length : Int)) (by omega)
      have hm1 := Int.emod_lt_of_pos spot (b := (cells.length : Int)) (by omega)
      have hix : (spot % (cells.length : Int)).toNat < cells.length := by omega
      intro H8 e8 Q8 q8
      refine dv_ixL (K := K) (i := (spot % (cells.length : Int)).toNat) (d := .int cells[(spot % (cells.length : Int)).toNat]) (lw_var (j := 3) rfl so7.2 (.ints cells)) (dv_to (dv_opC (dv_intI (dv_var (j := 4) rfl (.int _))) (dv_to (dv_lenP (j := 3) rfl so7.2) (by rw [List.length_map])) (by show (0 : Int) < _; omega)) ?_) ?_ H8 e8 Q8 fun v H9 e9 dv => q8 v H9 e9 ⟨_, dv.int_of⟩
      · show PyData.int _ = PyData.int _
        rw [Int.toNat_of_nonneg hm0]
      · rw [List.getElem?_map, List.getElem?_eq_getElem hix]; rfl
    · exact fun H8 e8 Q8 q8 => dv_int (K := K) H8 e8 Q8 fun v H9 e9 dv => q8 v H9 e9 ⟨_, dv.int_of⟩
    subst ev8
    have so8 := so7.ex e8
    have mu8 := mu7.trans (.ex e8)
    refine qd_if (Evl.et_and (et_of (dv_opB (dv_var (K := K) (j := 5) rfl (.int _)) (dv_opC dv_int dv_int ⟨by decide, by decide, by decide⟩))) fun _ => et_of (dv_opB (dv_var (K := K) (j := 4) rfl (.int _)) (dv_lenP (j := 3) rfl so8.2))) (fun hb H9 e9 => ?_) fun hb H9 e9 => ?_
    · have so9 := so8.ex e9
      refine q_dput (K := K) rfl so9.1 (by show 4 < 1000; decide) (dv_opC (dv_var (j := 5) rfl (.int _)) (dv_var (j := 1) rfl (.int _)) ⟨by omega, by omega⟩) fun H10 e10 => ?_
      rw [put_rest]
      have so11 := (so9.ex e10).put (s' := spot + 1) (r' := num / (much : Nat)) (t' := turn + 1)
      have mu11 := mu8.trans ((Mu.ex (e9.trans e10)).trans (.upd (S := [src]) (l := src) (o := .dK (kvS cl (spot + 1) (num / (much : Nat)) (turn + 1))) List.mem_cons_self))
      exact sd_ret (dv_opC (dv_intI (dv_var (K := K) (j := 5) rfl (.int _))) (dv_var (j := 1) rfl (.int _)) (by show (0 : Int) < _; omega)) fun u H12 e12 du => fin (mu11.trans (.ex e12)) (so11.ex e12) du
    · have so9 := so8.ex e9
      have mu9 := mu8.trans (.ex e9)
      refine qd_asg (dv_opC (dv_intI (dv_op (dv_op (dv_opC (dv_intI (dv_var (K := K) (j := 5) rfl (.int _))) dv_int (by show (0 : Int) < _; decide)) (dv_opC dv_int (dv_getI rfl so9.1 get_turn) (.inl ⟨by decide, by decide⟩))) dv_int)) dv_int (by show (0 : Int) < _; decide)) fun v10 H10 e10 dv10 => ?_
      have ev10 := dv10.int_of
      have b0 := Int.emod_nonneg (num % 1000001383 + 92279 * (turn + 1) + 559) (b := 2147483195) (by decide)
      have b1 := Int.emod_lt_of_pos (num % 1000001383 + 92279 * (turn + 1) + 559) (b := 2147483195) (by decide)
      revert ev10
      generalize (num % 1000001383 + 92279 * (turn + 1) + 559) % 2147483195 = z1 at b0 b1 ⊢
      intro ev10
      subst ev10
      have so10 := so9.ex e10
      refine qd_asg (dv_opC (dv_intI (dv_op (dv_op (dv_opC (dv_var (K := K) (j := 6) rfl (.int _)) (dv_var (j := 6) rfl (.int _)) (.inl ⟨by omega, by omega⟩)) (dv_opC dv_int (dv_getI rfl so10.1 get_turn) (.inl ⟨by decide, by decide⟩))) dv_int)) dv_int (by show (0 : Int) < _; decide)) fun v11 H11 e11 dv11 => ?_
      have ev11 := dv11.int_of
      have c0 := Int.emod_nonneg (z1 * z1 + 5411377 * (turn + 1) + 1093) (b := 2147483125) (by decide)
      have c1 := Int.emod_lt_of_pos (z1 * z1 + 5411377 * (turn + 1) + 1093) (b := 2147483125) (by decide)
      revert ev11
      generalize (z1 * z1 + 5411377 * (turn + 1) + 1093) % 2147483125 = z2 at c0 c1 ⊢
      intro ev11
      subst ev11
      exact sd_ret (dv_opC (dv_intI (dv_opC (dv_opC (dv_intI (dv_op (dv_opC (dv_var (K := K) (j := 6) rfl (.int _)) (dv_var (j := 6) rfl (.int _)) (.inl ⟨by omega, by omega⟩)) (dv_opC dv_int (dv_var (j := 6) rfl (.int _)) (.inl ⟨by decide, by decide⟩)))) dv_int (by show (0 : Int) < _; decide)) dv_int ⟨by decide, by decide⟩)) (dv_var (j := 1) rfl (.int _)) (by show (0 : Int) < _; omega)) fun u H12 e12 du => fin (mu9.trans (.ex (e10.trans (e11.trans e12)))) (so10.ex (e11.trans e12)) du
end
end Wok
namespace Wok
open PySem PySem.Spec PyProof.Rows L2
open Evl (Ex EvT)
/-! ### t.index(n), t a tuple of whole numbers that was made by tuple(..): such a one has no dict of its own -/
def rTI (K : PySem.W.Frag) : V → List V → Hp → VK → Prop := fun x xs H Q => ∃ (a : Addr) (ns : List Int) (k : Int), x = .ref a ∧ xs = [.int k] ∧ SqT K H a (ns.map V.int) ∧ k ∈ ns ∧ Q (.int (ns.idxOf k : Nat)) H
def Fz (K : PySem.W.Frag) (H : Hp) (v : V) (ds : List PyData) : Prop := ∃ a o xs, v = .ref a ∧ H a = some (.frz o (.tup xs)) ∧ o.dict = none ∧ DtAll K H xs ds
section
variable {K : PySem.W.Frag} {H H' : Hp} {v : V} {ds : List PyData}
theorem Fz.dt (h : Fz K H v ds) : Dt K H v (.tuple ds) := by
  obtain ⟨a, o, xs, rfl, e, _, dl⟩ := h
  exact .tup (.inl (.inr ⟨o, e⟩)) dl
theorem Fz.ex (h : Fz K H v ds) (e : Ex H H') : Fz K H' v ds := by
  obtain ⟨a, o, xs, rfl, e1, e2, dl⟩ := h
  exact ⟨a, o, xs, rfl, e _ _ e1, e2, dl.ex e⟩
end
/-- tuple(x) of a list, the tuple told as it stands -/
def kTupF (K : PySem.W.Frag) (x : V) (H : Hp) (Q : VK) : Prop := ∃ p xs, x = .ref p ∧ SqL K H p xs ∧ ∀ q o, o.dict = none → H q = none → Q (.ref q) (L2.upd H q (.frz o (.tup xs)))
/-- o.index(e) -/
def tTix (K : PySem.W.Frag) (to : TE) (t : TA) : TE := fun σ H Q => to σ H fun x H1 => (∃ a o xs, x = .ref a ∧ H1 a = some (.frz o (.tup xs)) ∧ o.dict = none) ∧ t σ H1 fun vs H2 => rTI K x vs H2 Q
section
variable {X : Cx} {K : PySem.W.Frag}
theorem rl_tupleF (pins : List (Addr × Obj)) (s : Shared) (σ : L2.St) (H : Hp) (x : V) (v : Value) (Q : VK) (I : Inv X pins σ H s) (r : RelV x v) (h : kTupF X.K x H Q) :
    wpAny (model X.prog X.w) X.A (call (.type "tuple") [v]) (EP X pins σ Q) X.xe s := by
  obtain ⟨p, xs, rfl, hs, q⟩ := h
  obtain rfl : v = .ref p := r
  obtain ⟨its, rv, pl, hz⟩ := I.list hs
  refine call_tuple_list pl.isList (fun h' hk => ?_) (by rw [List.size_toArray, ← rv.length]; exact hz)
  have I1 : Inv X pins σ H { s with heap := h' } := I.kept (t' := s.toks) hk
  have I2 : Inv X pins σ (L2.upd H h'.objs.size (.frz { cls := .type "tuple", data := .seq its.toArray } (.tup xs))) { s with heap := h'.push { cls := .type "tuple", data := .seq its.toArray } } :=
    I1.laid (t' := s.toks) (fun b o e => Heap.get?_push_of_some _ e) (Nat.le_refl _) (show ObjOk X.prog X.w _ _ _ (.frz _ (.tup xs)) from ⟨Heap.get?_push_size _ rfl, hz, its, rv, IsTup.new _ _⟩)
  exact ⟨.ref h'.objs.size, _, I2, rfl, q _ _ rfl (I1.hok.fresh (Nat.le_refl _))⟩
theorem pe_tupleF {a : Expr} {ta : TE} {p pos : Pos} (h : X.K = K) (hg : Gl X "tuple") (hm : X.mg "tuple" = none) (ha : PE X a ta) (na : starEach [a] X.env = (false, eval a X.env) :: starEach [] X.env := by rfl) :
    PE X (.Call (.Name "tuple" p) [a] [] pos) (tThen ta (kTupF K)) := by
  subst h
  refine ⟨fun pins s σ H Q I h => ?_⟩
  exact Call_ (ld_blt I hg hm boot_tuple (PyProof.Rows.callWith_type1 (one_arg ha I h (fun v s2 x H2 I2 r q => rl_tupleF pins s2 σ H2 x v Q I2 r q) na) na))
theorem mt_tindex : MtR X "tuple.index" (rTI X.K) := by
  intro pins s σ H x xs v us Q I rx rxs h
  obtain ⟨a, ns, k, rfl, rfl, hs, hk, q⟩ := h
  cases rx
  cases rxs with
  | cons ry rt =>
    cases rt
    obtain ⟨t, rfl⟩ := ry
    obtain ⟨its, rv, tp, _⟩ := I.tuple hs
    exact SeqAt.tuple_index_ints tp (by simpa using ints_vals rv) hk ⟨.int (ns.idxOf k : Nat), H, I.tok _, ⟨_, rfl⟩, q⟩
theorem pe_tindex {o e : Expr} {to : TE} {t : TA} {apos cpos : Pos} (h : X.K = K) (ho : PE X o to) (ha : PA X [e] t)
    (hbase : attributeBase o "index" X.env (eval o X.env) = eval o X.env := by rfl)
    (hfew : ((backTo cpos (starEach [e] X.env)).all (fun x => !x.1) && (backToKw cpos (keywordEach [] X.env)).all (fun x => x.1.isSome)
      && decide (([e] : List Expr).length + ([] : List Keyword).length + (if ([] : List Keyword).isEmpty then 0 else 1) < 30)) = true := by rfl)
    (hline : (apos.endLine == cpos.line) = true := by rfl) (hs : starEach [e] X.env = (false, eval e X.env) :: starEach [] X.env := by rfl) (hplain : (backTo cpos (starEach [] X.env)).any (·.1) = false := by rfl) :
    PE X (.Call (.Attribute o "index" apos) [e] [] cpos) (tTix K to t) := by
  subst h
  refine ⟨fun pins s σ H Q I h => ?_⟩
  refine wpAny_Call_method_late hbase hfew hline rfl (thn (ho.run pins s σ H _ I h) fun v s1 ⟨x, H1, I1, r1, ⟨a, ob, xs, ex, hf, hdn⟩, q1⟩ => ?_)
  subst ex
  have rv1 := r1
  obtain rfl : v = .ref a := r1
  obtain ⟨hg, _, its, _, o', ho', hc', _⟩ := (show ObjOk X.prog X.w H1 s1.heap a (.frz ob (.tup xs)) from I1.hok a _ hf)
  rw [hg] at ho'
  cases ho'
  refine ⟨"tuple", "tuple.index", PySem.F.plainAttrs_tuple, PySem.F.slot_tuple_index, PySem.F.type_tuple_index, ⟨ob, hg, hc'⟩, fun b eb => by cases eb; exact ⟨ob, hg, hdn⟩, ?_⟩
  have hA := ha.run cpos pins s1 σ H1 _ I1 q1
  rw [hs] at hA ⊢
  refine Calls.callWith_builtin (by show (false || (backTo cpos (starEach [] X.env)).any (·.1)) = false; rw [hplain] <;> rfl) (Calls.evalArgs_plain ?_)
  exact thn hA fun us s2 ⟨vs, H2, I2, r2, q2⟩ => mt_tindex pins s2 σ H2 _ vs _ us Q I2 rv1 r2 q2
end
theorem idx_ints : ∀ (ns : List Nat) (k : Nat), (ns.map fun (n : Nat) => (n : Int)).idxOf (k : Int) = ns.idxOf k
  | [], _ => rfl
  | n :: ns, k => by
    have e1 : ((n : Int) == (k : Int)) = (n == k) := by
      by_cases c : n = k
      · subst c; simp
      · rw [beq_eq_false_iff_ne.mpr c, beq_eq_false_iff_ne.mpr (fun z => c (by omega))]
    rw [List.map_cons, List.idxOf_cons, List.idxOf_cons, idx_ints ns k, e1]
section
variable {K : PySem.W.Frag} {σ : St} {H : Hp} {tb : TE} {v : V}
theorem dv_tindex {ns : List Nat} {k j : Nat} (hj : σ[j]? = some (some v)) (hf : Fz K H v (ns.map eI)) (hb : Dv K tb σ H (eI k)) (hk : k ∈ ns) : Dv K (tTix K (tVar j) (tCons tb tNil)) σ H (eI (ns.idxOf k)) := fun H1 e1 Q q => by
  obtain ⟨a, o, xs, rfl, e, hd, dl⟩ := hf.ex e1
  have dl' := dl
  rw [eI_map] at dl'
  have ex := dl'.of_ints
  subst ex
  refine ⟨_, hj, ⟨a, o, _, rfl, e, hd⟩, hb H1 e1 _ fun u H3 e3 du => ⟨a, _, (k : Int), rfl, by rw [du.int_of], .inl (.inr ⟨o, e3 _ _ e⟩), List.mem_map_of_mem hk, ?_⟩⟩
  rw [idx_ints]
  exact q _ H3 e3 (.int _)
theorem dv_tupleF {te : TE} {ds : List PyData} (h : Lw K te σ H ds) : Rv (tThen te (kTupF K)) σ H (fun v H' => Fz K H' v ds) := fun H1 e Q q =>
  h H1 e _ fun p xs H2 e2 hp dl => ⟨p, xs, rfl, .inl (.inl hp), fun r o ho hr => q _ _ (e2.trans (.new hr)) ⟨r, o, xs, rfl, upd_same, ho, dl.ex (.new hr)⟩⟩
end
end Wok
namespace Wok
open PySem PySem.Spec PyProof.Rows L2
open Evl (Ex EvT)
section
variable {K : PySem.W.Frag} {σ : St} {H H' : Hp} {te t2 : TE} {src cl : Addr} {cells : List Int} {E : XK}
theorem Mu.mutN {S : List Addr} {H H' : Hp} {p : Addr} {o : HO} (h : Mu S H H') (n : H p = none) : Mu S H (L2.upd H' p o) := fun a u na e => by
  rw [upd_ne (ne_of_none e n)]; exact h a u na e
theorem do_ret {D : Ends} (h : te σ H D.rt) : tRet te D σ H := h
theorem do_then {k : V → Hp → VK → Prop} {Q : VK} (h : te σ H fun x H1 => k x H1 Q) : tThen te k σ H Q := h
theorem do_cons {t : TA} {Q : List V → Hp → Prop} (h : te σ H fun v H1 => t σ H1 fun vs H2 => Q (v :: vs) H2) : tCons te t σ H Q := h
theorem do_tup {t : TA} {Q : VK} (h : t σ H fun xs H1 => xs.length ≤ sizeLine ∧ ∀ p, H1 p = none → Q (.ref p) (L2.upd H1 p (.tup xs))) : tTup t σ H Q := h
theorem do_asg {D : Ends} {tz : TS} {j : Nat} (h : te σ H fun v H1 => tz D (σ.set j (some v)) H1) : tSeq (tAsg te (gName j)) tz D σ H := h
/-- one draw -/
theorem do_draw {j n : Nat} (hj : σ[j]? = some (some (.ref src))) (d2 : Dv K t2 σ H (.int (n : Nat))) (h0 : 0 < n) (h1 : n < 1000000) (so : SrcC H src cl cells) (Q : VK) (q : ∀ (k : Nat) H', k < n → Mu [src] H H' → SrcC H' src cl cells → Q (.int (k : Nat)) H') :
    tCall (spDraw K) [] E (tCons (tVar j) (tCons t2 tNil)) σ H Q :=
  ⟨_, hj, d2 H (.refl _) _ fun v H2 e2 dv => ⟨src, cl, cells, n, by rw [dv.int_of]; rfl, h0, h1, so.ex e2, fun k H' hk mu so' => q k H' hk ((Mu.ex e2).trans mu) so'⟩⟩
/-- [(draw(src, size), draw(src, most)) for x in range(wide)] -/
theorem row_lc {j jw js wide size most : Nat} {t1 : TE} (hw : σ[jw]? = some (some (.int (wide : Nat)))) (hwl : wide ≤ 1000) (hL : ∀ y, ((wipe σ [j]).set j (some y))[js]? = some (some (.ref src)) ∧ wipe ((wipe σ [j]).set j (some y)) [j] = wipe σ [j])
    (h1 : ∀ y H, Dv K t1 ((wipe σ [j]).set j (some y)) H (.int (size : Nat))) (h2 : ∀ y H, Dv K t2 ((wipe σ [j]).set j (some y)) H (.int (most : Nat))) (hs : 0 < size ∧ size < 1000000) (hm : 0 < most ∧ most < 1000000) (so : SrcC H src cl cells)
    (Q : VK) (q : ∀ p xs (r : List (Nat × Nat)) H', H p = none → Mu [src] H H' → SrcC H' src cl cells → H' p = some (.lst xs) → DtAll K H' xs (r.map eP) → r.length = wide → (∀ e ∈ r, e.1 < size ∧ e.2 < most) → Q (.ref p) H') :
    tLc (iRng1 (tCons (tVar jw) tNil)) (gName j) tYes (tTup (tCons (tCall (spDraw K) [] E (tCons (tVar js) (tCons t1 tNil))) (tCons (tCall (spDraw K) [] E (tCons (tVar js) (tCons t2 tNil))) tNil))) [j] σ H Q := by
  refine ⟨_, hw, wide, rfl, by omega, by omega, fun Dl nD => ?_⟩
  have nsrc := so.some.1.elim fun o h => ne_of_none h nD
  have ncl := so.some.2.elim fun o h => ne_of_none h nD
  refine lc_range (lo := 0) (n := ((wide : Nat) : Int).toNat) (fun i H' => Mu [src] H H' ∧ SrcC H' src cl cells ∧ ∃ xs r, H' Dl = some (.lst xs) ∧ DtAll K H' xs (r.map eP) ∧ r.length = i ∧ ∀ e ∈ r, e.1 < size ∧ e.2 < most) ⟨(Mu.refl _ _).mutN nD, so.upd nsrc.symm ncl.symm, [], [], upd_same, .nil, rfl, fun _ h => by cases h⟩ (fun i H' hi ⟨mu, so', xs, r, hx, dl, lr, hr⟩ => ?_) (fun H' ⟨mu, so', xs, r, hx, dl, lr, hr⟩ => ?_)
  · obtain ⟨l1, l2⟩ := hL (.int (0 + (i : Int)))
    refine ⟨l2, et_yes H' (.refl _) _ fun H0 e0 => ?_⟩
    have mu := mu.trans (.ex e0)
    have so' := so'.ex e0
    have hx := e0 _ _ hx
    have dl := dl.ex e0
    rw [if_pos rfl]
    refine do_draw l1 (h1 _ _) hs.1 hs.2 so' _ fun k1 H1 hk1 mu1 so1 => do_draw l1 (h2 _ _) hm.1 hm.2 so1 _ fun k2 H2 hk2 mu2 so2 => ?_
    refine ⟨by show 2 ≤ sizeLine; decide, fun p hp => ?_⟩
    have mu12 := mu1.trans mu2
    have hx2 := mu12 _ _ (by simpa using nsrc.symm) hx
    have kp : Kp K H0 H2 := mu12.kp so'.sok
    have hpD : p ≠ Dl := (ne_of_none hx2 hp).symm
    refine ⟨xs, by rw [upd_ne hpD.symm]; exact hx2, ?_, ((mu.trans mu12).trans (.ex (.new hp))).mutN nD, ?_, xs ++ [.ref p], r ++ [(k1, k2)], upd_same, ?_, by rw [List.length_append, lr]; rfl, fun e he => ?_⟩
    · rw [dl.length, List.length_map, lr, sizeLine_eq]
      have := Int.toNat_natCast wide
      omega
    · exact (so2.ex (.new hp)).upd nsrc.symm ncl.symm
    · have kpu : Kp K (L2.upd H2 p (.tup [.int (k1 : Nat), .int (k2 : Nat)])) (L2.upd (L2.upd H2 p (.tup [.int (k1 : Nat), .int (k2 : Nat)])) Dl (.lst (xs ++ [.ref p]))) := .upd (o := .lst xs) (by rw [upd_ne hpD.symm]; exact hx2) trivial
      rw [List.map_append]
      exact ((dl.mono (kp.trans (.new hp))).mono kpu).snoc ((Dt.tup (.inl (.inl upd_same)) (.cons (.int _) (.cons (.int _) .nil))).mono kpu)
    · rcases List.mem_append.mp he with z | z
      · exact hr e z
      · rw [List.mem_singleton.mp z]
        exact ⟨hk1, hk2⟩
  · exact q Dl xs r H' nD mu so' hx dl (by rw [lr, Int.toNat_natCast]) hr
end
section
variable {P : Program} {w : World} {K : PySem.W.Frag} {mg : Str → Option Value} {base : Heap}
theorem sc_law_more : FnScope ["_law_src", "_law_size", "_law_wide", "_law_x"] ["_law_src", "_law_size", "_law_wide"] (defScope s_law_more) := ⟨rfl, rfl, rfl, by decide +kernel, rfl, by decide +kernel, by decide +kernel⟩
def spMore (K : PySem.W.Frag) : Sp := fun vs H Q _ => ∃ (src cl : Addr) (cells : List Int) (size wide : Nat), vs = [.ref src, .int (size : Nat), .int (wide : Nat)] ∧ 0 < size ∧ size < 1000000 ∧ wide ≤ 1000 ∧ SrcC H src cl cells ∧
  ∀ r v H', r.length = wide → (∀ e ∈ r, e.1 < size ∧ e.2 < 2) → Mu [src] H H' → SrcC H' src cl cells → Dt K H' v (eR r) → Q v H'
theorem cal_law_more (T : Fr mg) (D : HasD K mg "_law_more" s_law_more [] []) (C_law_draw : Cal P w K mg base 1 "_law_draw" ["_law_src", "_law_much"] [] (spDraw K)) : Cal P w K mg base 2 "_law_more" ["_law_src", "_law_size", "_law_wide"] [] (spMore K) := by
  refine calS D sc_law_more (fun vs H Q E ⟨_, _, _, _, _, e, _⟩ => by rw [e]; rfl) (fun _ _ _ _ _ _ us hl => match us, hl with | [_, _, _], _ => rfl) fun f cdv A outer s H vs Q E hr ⟨src, cl, cells, size, wide, e, h0, h1, hw, so, q⟩ => ?_
  subst e
  refine ⟨_, (pss_one (ps_ret (pe_tupleOfK (K := K) rfl (by rfl) T.tuple (pe_lc (own := [("_law_x", 3)]) (g := gName 3) (by rfl) sc_law_more.nd (pi_range1 (by rfl) T.range (pa_cons (pv 2) pa_nil)) (blkOk_by (N := ["_law_src", "_law_size", "_law_wide", "_law_x"]) (sc := defScope s_law_more) (by decide +kernel)) (fun _ _ _ _ _ => (pg_name (i := 3) sc_law_more.nd rfl (Or.inl rfl))) (fun _ _ _ _ _ => pts_nil) (fun _ _ _ _ _ => (pe_tup (pa_cons (pe_cal C_law_draw hr (by decide) (pa_cons (pv 0) (pa_cons (pv 1) pa_nil))) (pa_cons (pe_cal C_law_draw hr (by decide) (pa_cons (pv 0) (pa_cons pe_int pa_nil))) pa_nil)))))))), ?_⟩
  refine do_ret (do_then ?_)
  refine row_lc (K := K) (E := E0) (j := 3) (jw := 2) (js := 0) (size := size) (most := 2) ?_ hw (fun y => ?_) (fun y H => ?_) (fun y H => dv_int) ⟨h0, h1⟩ (by decide) so _ fun p xs r H' np mu so' hp dl lr hr => ?_
  · exact rfl
  · exact ⟨rfl, rfl⟩
  · exact dv_var (j := 1) rfl (.int _)
  refine .inl ⟨p, xs, rfl, .inl (.inl hp), fun u nu => q r _ _ lr hr (mu.trans (.ex (.new nu))) (so'.ex (.new nu)) (.tup (.inl (.inl upd_same)) (dl.ex (.new nu)))⟩
theorem sc_law_machine : FnScope ["_law_src", "_law_size", "_law_wide", "_law_most", "_law_out", "_law_lap", "_law_x"] ["_law_src", "_law_size", "_law_wide", "_law_most"] (defScope s_law_machine) := ⟨rfl, rfl, rfl, by decide +kernel, rfl, by decide +kernel, by decide +kernel⟩
def spMach (K : PySem.W.Frag) : Sp := fun vs H Q _ => ∃ (src cl : Addr) (cells : List Int) (size wide most : Nat), vs = [.ref src, .int (size : Nat), .int (wide : Nat), .int (most : Nat)] ∧ 0 < size ∧ size ≤ 1000 ∧ 0 < wide ∧ wide ≤ 1000 ∧ 0 < most ∧ most < 1000000 ∧ SrcC H src cl cells ∧
  ∀ m v H', OkM m wide → m.length = size → (∀ r ∈ m, ∀ e ∈ r, e.2 < most) → Mu [src] H H' → SrcC H' src cl cells → Dt K H' v (eM m) → Q v H'
theorem cal_law_machine (T : Fr mg) (D : HasD K mg "_law_machine" s_law_machine [] []) (C_law_draw : Cal P w K mg base 1 "_law_draw" ["_law_src", "_law_much"] [] (spDraw K)) : Cal P w K mg base 2 "_law_machine" ["_law_src", "_law_size", "_law_wide", "_law_most"] [] (spMach K) := by
  refine calS D sc_law_machine (fun vs H Q E ⟨_, _, _, _, _, _, e, _⟩ => by rw [e]; rfl) (fun _ _ _ _ _ _ us hl => match us, hl with | [_, _, _, _], _ => rfl) fun f cdv A outer s H vs Q E hr ⟨src, cl, cells, size, wide, most, e, h0, h1, hw0, hw, hm0, hm, so, q⟩ => ?_
  subst e
  refine ⟨_, (pss_cons (ps_set (i := 4) sc_law_machine.nd rfl (Or.inl rfl) (pe_lst pa_nil))
      (pss_cons (ps_for PassesOwn.never rfl (pi_range1 (by rfl) T.range (pa_cons (pv 1) pa_nil)) (pg_name (i := 5) sc_law_machine.nd rfl (Or.inl rfl))
      (pss_one (ps_expr (pe_bm PySem.F.plainAttrs_list PySem.F.slot_list_append PySem.F.type_list_append mt_append (pv 4) (pa_cons (pe_tupleOfK (K := K) rfl (by rfl) T.tuple (pe_lc (own := [("_law_x", 6)]) (g := gName 6) (by rfl) sc_law_machine.nd (pi_range1 (by rfl) T.range (pa_cons (pv 2) pa_nil)) (blkOk_by (N := ["_law_src", "_law_size", "_law_wide", "_law_most", "_law_out", "_law_lap", "_law_x"]) (sc := defScope s_law_machine) (by decide +kernel)) (fun _ _ _ _ _ => (pg_name (i := 6) sc_law_machine.nd rfl (Or.inl rfl))) (fun _ _ _ _ _ => pts_nil) (fun _ _ _ _ _ => (pe_tup (pa_cons (pe_cal C_law_draw hr (by decide) (pa_cons (pv 0) (pa_cons (pv 1) pa_nil))) (pa_cons (pe_cal C_law_draw hr (by decide) (pa_cons (pv 0) (pa_cons (pv 3) pa_nil))) pa_nil)))))) pa_nil)))))
      (pss_one (ps_ret (pe_tupleOfK (K := K) rfl (by rfl) T.tuple (pv 4)))))), ?_⟩
  refine ql_asg (K := K) (ds := []) (lv_lst av_nil (by simp)) fun o xs H1 no e1 ho dz => ?_
  cases dz
  have so1 := so.ex e1
  have nos := so.some.1.elim fun ob h => ne_of_none h no
  have noc := so.some.2.elim fun ob h => ne_of_none h no
  have sok : Sok [src, o] H1 := let ⟨_, _, _, z⟩ := so1; .cons z.1 trivial (.cons ho trivial .nil)
  refine q_forD (S := [src, o]) (iv_rng (K := K) (n := (size : Nat)) (dv_var (j := 1) rfl (.int _)) (by omega) (by omega)) (fun i σ' H' => ∃ (m : Mach) (ys : List V) (y5 : Option V), σ' = [some (.ref src), some (.int (size : Nat)), some (.int (wide : Nat)), some (.int (most : Nat)), some (.ref o), y5, none] ∧ H' o = some (.lst ys) ∧ SrcC H' src cl cells ∧
      DtAll K H' ys (m.map eR) ∧ m.length = i ∧ (∀ r ∈ m, r.length = wide ∧ ∀ e ∈ r, e.1 < size ∧ e.2 < most))
    (fun H2 e2 => ⟨[], [], _, rfl, e2 _ _ ho, so1.ex e2, .nil, rfl, fun _ h => by cases h⟩) (fun i d y σ' H2 H3 hdd mu hP e3 dy => ?_) (fun σ' H2 mu hP => ?_)
  · obtain ⟨m, ys, y5, rfl, ho2, so2, dl2, lm, hmm⟩ := hP
    have hi : i < size := by
      have := (List.getElem?_eq_some_iff.mp hdd).1
      unfold rangeD at this
      simpa using this
    refine ⟨_, rfl, .inl ⟨rfl, _, .inl (.inl (e3 _ _ ho2))⟩, ?_⟩
    refine do_cons (do_then ?_)
    refine row_lc (K := K) (E := E0) (j := 6) (jw := 2) (js := 0) (size := size) (most := most) ?_ hw (fun y => ?_) (fun y H => ?_) (fun y H => ?_) ⟨h0, by omega⟩ ⟨hm0, hm⟩ (so2.ex e3) _ fun p xs r H' np mu3 so' hp dl lr hr => ?_
    · exact rfl
    · exact ⟨rfl, rfl⟩
    · exact dv_var (j := 1) rfl (.int _)
    · exact dv_var (j := 3) rfl (.int _)
    refine .inl ⟨p, xs, rfl, .inl (.inl hp), fun u nu => ?_⟩
    have ho' : H' o = some (.lst ys) := mu3 _ _ (by simpa using nos.symm) (e3 _ _ ho2)
    have hou : o ≠ u := ne_of_none ho' nu
    refine ⟨o, ys, .ref u, rfl, rfl, by rw [upd_ne hou]; exact ho', by rw [dl2.length, List.length_map, lm, sizeLine_eq]; omega, ?_⟩
    have kp : Kp K H2 H' := (Kp.ex e3).trans (mu3.kp (so2.ex e3).sok)
    have kpu : Kp K (L2.upd H' u (.tup xs)) (L2.upd (L2.upd H' u (.tup xs)) o (.lst (ys ++ [.ref u]))) := .upd (o := .lst ys) (by rw [upd_ne hou]; exact ho') trivial
    refine ⟨?_, m ++ [r], ys ++ [.ref u], _, rfl, upd_same, (so'.ex (.new nu)).upd nos.symm noc.symm, ?_, by rw [List.length_append, lm]; rfl, fun r' hr' => ?_⟩
    · exact ((Mu.ex e3).trans (mu3.weak (by simp))).trans ((Mu.ex (.new nu)).trans (.upd (by simp)))
    · rw [List.map_append]
      exact ((dl2.mono (kp.trans (.new nu))).mono kpu).snoc ((Dt.tup (.inl (.inl upd_same)) (dl.ex (.new nu))).mono kpu)
    · rcases List.mem_append.mp hr' with z | z
      · exact hmm r' z
      · rw [List.mem_singleton.mp z]
        exact ⟨lr, hr⟩
  · obtain ⟨m, ys, y5, rfl, ho2, so2, dl2, lm, hmm⟩ := hP
    have lsz : m.length = size := by rw [lm]; unfold rangeD; simp
    refine sd_ret (dv_tuple (lw_var (K := K) (j := 4) rfl ho2 dl2)) fun v H3 e3 dv => q m v H3 ⟨by omega, hw0, fun r hr => (hmm r hr).1, fun r hr p hp => by rw [lsz]; exact ((hmm r hr).2 p hp).1, by omega, by omega⟩ lsz (fun r hr e he => ((hmm r hr).2 e he).2) ?_ (so2.ex e3) dv
    refine fun a ob hna ha => e3 _ _ (mu _ _ (fun z => ?_) (e1 _ _ ha))
    rcases List.mem_cons.mp z with z | z
    · exact hna (by rw [z]; exact List.mem_cons_self)
    · rw [List.mem_singleton.mp z, no] at ha; cases ha
end
end Wok
namespace Wok
open PySem PySem.Spec PyProof.Rows L2
open Evl (Ex EvT)
/-! ### what can be reached, a part of a machine -/
def nextsL (m : Mach) (s : List Nat) : List Nat := s.flatMap fun t => (m.getD t []).map fun p => p.1
def PartOk (m : Mach) (s : List Nat) : Prop := 0 < s.length ∧ s.length ≤ m.length ∧ (∀ t ∈ s, t < m.length) ∧ ∀ t ∈ s, ∀ p ∈ m.getD t [], p.1 ∈ s
def partM (m : Mach) (s : List Nat) : Mach := s.map fun t => (m.getD t []).map fun p => (s.idxOf p.1, p.2)
theorem mem_getD {m : Mach} {t : Nat} (h : t < m.length) : m.getD t [] ∈ m := by
  rw [List.getD_eq_getElem?_getD, List.getElem?_eq_getElem h]
  exact List.getElem_mem h
theorem part_ok {m : Mach} {wd : Nat} {s : List Nat} (ok : OkM m wd) (h : PartOk m s) : OkM (partM m s) wd where
  ne := by unfold partM; rw [List.length_map]; exact h.1
  wd := ok.wd
  len := fun r hr => by
    obtain ⟨t, ht, rfl⟩ := List.mem_map.mp hr
    rw [List.length_map]
    exact ok.len _ (mem_getD (h.2.2.1 t ht))
  nx := fun r hr p hp => by
    obtain ⟨t, ht, rfl⟩ := List.mem_map.mp hr
    obtain ⟨p0, hp0, rfl⟩ := List.mem_map.mp hp
    unfold partM
    rw [List.length_map]
    exact List.idxOf_lt_length_of_mem (h.2.2.2 t ht p0 hp0)
  few := by
    unfold partM
    rw [List.length_map]
    exact Nat.le_trans h.2.1 ok.few
  fw := ok.fw
theorem part_ans {m : Mach} {s : List Nat} {c : Nat} (h : PartOk m s) (hc : ∀ r ∈ m, ∀ p ∈ r, p.2 < c) : ∀ r ∈ partM m s, ∀ p ∈ r, p.2 < c := fun r hr p hp => by
  obtain ⟨t, ht, rfl⟩ := List.mem_map.mp hr
  obtain ⟨p0, hp0, rfl⟩ := List.mem_map.mp hp
  exact hc _ (mem_getD (h.2.2.1 t ht)) p0 hp0
theorem nexts_lt {m : Mach} {wd : Nat} (ok : OkM m wd) {s : List Nat} (hs : ∀ t ∈ s, t < m.length) : ∀ i ∈ nextsL m s, i < m.length := fun i hi => by
  obtain ⟨t, ht, h⟩ := List.mem_flatMap.mp hi
  obtain ⟨p, hp, rfl⟩ := List.mem_map.mp h
  exact ok.nx _ (mem_getD (hs t ht)) p hp
/-- behind i laps -/
structure Lap (m : Mach) (i : Nat) (s : List Nat) : Prop where
  ne : 0 < s.length
  lt : ∀ t ∈ s, t < m.length
  nd : s.Nodup
  cl : (∀ j ∈ nextsL m s, j ∈ s) ∨ i + 1 ≤ s.length
theorem Lap.len {m : Mach} {i : Nat} {s : List Nat} (h : Lap m i s) : s.length ≤ m.length := by
  have z := nodup_le h.nd (m := List.range m.length) fun t ht => List.mem_range.mpr (h.lt t ht)
  rwa [List.length_range] at z
theorem sorted_nodup {s : List Nat} (h : s.Pairwise (· < ·)) : s.Nodup := h.imp fun q => Nat.ne_of_lt q
theorem Lap.next {m : Mach} {wd i : Nat} {s s' : List Nat} (ok : OkM m wd) (h : Lap m i s) (hs : s'.Pairwise (· < ·)) (hm : ∀ j, j ∈ s' ↔ j ∈ s ++ nextsL m s) : Lap m (i + 1) s' := by
  have sub : ∀ t ∈ s, t ∈ s' := fun t ht => (hm t).mpr (List.mem_append_left _ ht)
  have le := nodup_le h.nd sub
  refine ⟨by have := h.ne; omega, fun t ht => ?_, sorted_nodup hs, ?_⟩
  · rcases List.mem_append.mp ((hm t).mp ht) with z | z
    · exact h.lt t z
    · exact nexts_lt ok h.lt t z
  · by_cases c : ∀ j ∈ nextsL m s, j ∈ s
    · refine .inl fun j hj => ?_
      obtain ⟨t, ht, hp⟩ := List.mem_flatMap.mp hj
      have ht2 : t ∈ s := by
        rcases List.mem_append.mp ((hm t).mp ht) with z | z
        · exact z
        · exact c t z
      exact sub j (c j (List.mem_flatMap.mpr ⟨t, ht2, hp⟩))
    · refine .inr ?_
      obtain ⟨j, hj⟩ := Classical.not_forall.mp c
      obtain ⟨hj, hn⟩ := Classical.not_imp.mp hj
      have z := nodup_le (l := j :: s) (m := s') (List.nodup_cons.mpr ⟨hn, h.nd⟩) fun t ht => by
        rcases List.mem_cons.mp ht with y | y
        · rw [y]; exact (hm j).mpr (List.mem_append_right _ hj)
        · exact sub t y
      rw [List.length_cons] at z
      rcases h.cl with y | y
      · exact absurd (y j hj) hn
      · omega
theorem Lap.ok {m : Mach} {s : List Nat} (h : Lap m m.length s) : PartOk m s := by
  refine ⟨h.ne, h.len, h.lt, fun t ht p hp => ?_⟩
  rcases h.cl with z | z
  · exact z p.1 (List.mem_flatMap.mpr ⟨t, ht, List.mem_map.mpr ⟨p, hp, rfl⟩⟩)
  · have := h.len
    omega
section
variable {P : Program} {w : World} {K : PySem.W.Frag} {mg : Str → Option Value} {base : Heap}
theorem sc_law_reach : FnScope ["_law_mach", "_law_begin", "_law_found", "_law_lap", "_law_late", "_law_spot", "_law_nxt", "_law_ans"] ["_law_mach", "_law_begin"] (defScope s_law_reach) := ⟨rfl, rfl, rfl, by decide +kernel, rfl, by decide +kernel, by decide +kernel⟩
def spReach (K : PySem.W.Frag) : Sp := fun vs H Q _ => ∃ v1 v2 m wd b, vs = [v1, v2] ∧ Dt K H v1 (eM m) ∧ Dt K H v2 (eI b) ∧ OkM m wd ∧ b < m.length ∧ m.length ≤ 5 ∧ wd ≤ 2 ∧ ∀ v s H', PartOk m s → Ex H H' → Fz K H' v (s.map eI) → Q v H'
theorem cal_law_reach (T : Fr mg) (D : HasD K mg "_law_reach" s_law_reach [] []) : Cal P w K mg base 1 "_law_reach" ["_law_mach", "_law_begin"] [] (spReach K) := by
  refine calS D sc_law_reach (fun vs H Q E ⟨_, _, _, _, _, e, _⟩ => by rw [e]; rfl) (fun _ _ _ _ _ _ us hl => match us, hl with | [_, _], _ => rfl) fun f cdv A outer s H vs Q E hr ⟨x1, x2, m, wd, b, e, d1, d2, ok, hb, m5, w2, q⟩ => ?_
  subst e
  refine ⟨_, (pss_cons (ps_set (i := 2) sc_law_reach.nd rfl (Or.inl rfl) (pe_lst (pa_cons (pv 1) pa_nil)))
      (pss_cons (ps_for PassesOwn.never rfl (pi_range1 (by rfl) T.range (pa_cons (pe_callB (call_lenK (K := K) rfl) (by rfl) T.len (by decide +kernel) (pa_cons (pv 0) pa_nil)) pa_nil)) (pg_name (i := 3) sc_law_reach.nd rfl (Or.inl rfl))
      (pss_cons (ps_set (i := 4) sc_law_reach.nd rfl (Or.inl rfl) (pe_callTy call_list_of (by rfl) T.list (by decide +kernel) (pa_cons (pv 2) pa_nil)))
      (pss_cons (ps_for PassesOwn.never rfl (pi_listK (K := K) rfl (pv 2)) (pg_name (i := 5) sc_law_reach.nd rfl (Or.inl rfl))
      (pss_one (ps_set (i := 4) sc_law_reach.nd rfl (Or.inl rfl) (pe_op op_cat (pv 4) (pe_lc (own := [("_law_nxt", 6), ("_law_ans", 7)]) (g := gTup K 2 (gCons (gName 6) (gCons (gName 7) gNil))) (by rfl) sc_law_reach.nd (pi_tupK (K := K) rfl (pe_ix (ix_tupK (K := K) rfl) (pv 0) (pv 5) (fun _ _ => rfl))) (blkOk_by (N := ["_law_mach", "_law_begin", "_law_found", "_law_lap", "_law_late", "_law_spot", "_law_nxt", "_law_ans"]) (sc := defScope s_law_reach) (by decide +kernel)) (fun _ _ _ _ _ => (pg_tup (by rfl) (pgs_cons (pg_name (i := 6) sc_law_reach.nd rfl (Or.inl rfl)) (pgs_cons (pg_name (i := 7) sc_law_reach.nd rfl (Or.inl rfl)) pgs_nil)))) (fun _ _ _ _ _ => pts_nil) (fun _ _ _ _ _ => (pv 6)))))))
      (pss_one (ps_set (i := 2) sc_law_reach.nd rfl (Or.inl rfl) (pe_callB (L2.cr_sortedSet rfl) (by rfl) T.sorted (by decide +kernel) (pa_cons (pe_callTy (cr_setI rfl) (by rfl) T.set (by decide +kernel) (pa_cons (pv 4) pa_nil)) pa_nil)))))))
      (pss_one (ps_ret (pe_tupleF (K := K) rfl (by rfl) T.tuple (pv 2)))))), ?_⟩
  refine ql_asg (K := K) (lv_lst (av_cons (dv_var (j := 1) rfl d2) av_nil) (by simp)) fun p0 xs0 H1 np e1 hp0 dl0 => ?_
  refine q_forD (S := []) (iv_rng (K := K) (n := (m.length : Nat)) (dv_to (dv_len (dv_var (j := 0) rfl (d1.ex e1))) (by rw [eM_len])) (by omega) (by omega))
    (fun i σ' H' => ∃ (s : List Nat) (p : Addr) (ys : List V) (y3 y4 y5 : Option V), σ' = [some x1, some x2, some (.ref p), y3, y4, y5, none, none] ∧ H' p = some (.lst ys) ∧ DtAll K H' ys (s.map eI) ∧ Lap m i s)
    (fun H2 e2 => ⟨[b], p0, xs0, _, _, _, rfl, e2 _ _ hp0, dl0.ex e2, by simp, fun t ht => by rw [List.mem_singleton.mp ht]; exact hb, by simp, .inr (by simp)⟩) (fun i d y σ' H2 H3 hdd mu hP e3 dy => ?_) (fun σ' H2 mu hP => ?_)
  · obtain ⟨ss, p, ys, y3, y4, y5, rfl, hp, dl, lap⟩ := hP
    have dd1 := ((d1.ex e1).mono (K := K) (mu.kp .nil)).ex e3
    have s5 : ss.length ≤ 5 := Nat.le_trans lap.len m5
    refine ql_asg (lv_list (lw_var (j := 2) rfl (e3 _ _ hp) (dl.ex e3))) fun p4 zs H4 np4 e4 hp4 dl4 => ?_
    refine q_forD (S := []) (iv_var .nil (j := 2) rfl (e4 _ _ (e3 _ _ hp)) ((dl.ex e3).ex e4) (by simp))
      (fun j σ' H' => ∃ (p4 : Addr) (zs : List V) (y5 : Option V), σ' = [some x1, some x2, some (.ref p), some y, some (.ref p4), y5, none, none] ∧ H' p4 = some (.lst zs) ∧ DtAll K H' zs ((ss ++ nextsL m (ss.take j)).map eI))
      (fun H5 e5 => ⟨p4, zs, _, rfl, e5 _ _ hp4, by rw [show ss ++ nextsL m (ss.take 0) = ss by unfold nextsL; simp]; exact dl4.ex e5⟩) (fun j d y' σ' H5 H6 hd5 mu5 hP e6 dy' => ?_) (fun σ' H5 mu5 hP => ?_)
    · obtain ⟨p4, zs, y5, rfl, hp4, dl4⟩ := hP
      obtain ⟨t, ht, rfl⟩ := of_eS hd5
      have htm := List.mem_of_getElem? ht
      have htl := lap.lt t htm
      have hjl : j < ss.length := (List.getElem?_eq_some_iff.mp ht).1
      have lrow := ok.row (List.getElem?_eq_getElem htl)
      have dd1' := ((dd1.ex e4).mono (K := K) (mu5.kp .nil)).ex e6
      have eg : m.getD t [] = m[t] := by rw [List.getD_eq_getElem?_getD, List.getElem?_eq_getElem htl]; rfl
      have nl : (nextsL m (ss.take j)).length ≤ 5 * 2 := by
        unfold nextsL
        rw [flatMap_len (c := wd) _ fun u hu => by rw [List.length_map, ok.len _ (mem_getD (lap.lt u (List.mem_of_mem_take hu)))], List.length_take]
        exact Nat.mul_le_mul (by omega) w2
      refine sl_asg (lv_cat (es := ((m.getD t []).map fun p => p.1).map eI) (lw_var (j := 4) rfl (e6 _ _ hp4) (dl4.ex e6)) (lv_to (lv_map (iv_tup .nil (dv_ix (i := t) (dv_var (j := 0) rfl dd1') (dv_var (j := 5) rfl dy') (eM_get (List.getElem?_eq_getElem htl)))) (by rw [List.length_map, lrow]; omega) (fun e => match e with | .tuple [a, _] => a | _ => .none) fun j2 d y2 H7 hd7 e7 dy7 R k => ?_) ?_).w ?_) fun p5 zs5 H7 np5 e7 hp5 dl5 => ?_
      · obtain ⟨pp, hpp, rfl⟩ := of_eR hd7
        exact g_two dy7 fun v1 v2 dv1 dv2 => k _ rfl (dv_var (j := 6) rfl dv1)
      · rw [eg, List.map_map, List.map_map]; rfl
      · rw [eg, List.length_map, List.length_append, List.length_map, List.length_map, lrow]
        omega
      · refine ⟨.ex (e6.trans e7), p5, zs5, _, rfl, hp5, ?_⟩
        rw [List.take_add_one, ht]
        have e9 : nextsL m (ss.take j ++ (some t).toList) = nextsL m (ss.take j) ++ (m.getD t []).map fun p => p.1 := by unfold nextsL; rw [List.flatMap_append]; simp
        rw [e9, ← List.append_assoc, List.map_append]
        exact dl5
    · obtain ⟨p4, zs, y5, rfl, hp4, dl4⟩ := hP
      have tk : ss.take (ss.map eI).length = ss := by rw [List.length_map, List.take_length]
      rw [tk] at dl4
      have nl : (nextsL m ss).length ≤ 5 * 2 := by
        unfold nextsL
        rw [flatMap_len (c := wd) _ fun u hu => by rw [List.length_map, ok.len _ (mem_getD (lap.lt u hu))]]
        exact Nat.mul_le_mul s5 w2
      refine sl_asg (ds := (canon m.length (ss ++ nextsL m ss)).map eI) (lv_sortedI (ns := (ss ++ nextsL m ss).map fun (n : Nat) => (n : Int)) (lw_var (j := 4) rfl hp4 (by rw [← eI_map]; exact dl4)) (by rw [List.length_map, List.length_append]; omega) fun ms h1 h2 => ?_) fun p6 zs6 H7 np6 e7 hp6 dl6 => ?_
      · obtain ⟨rs, rfl, h3, h4⟩ := nat_sorted h1 h2
        rw [canon_of (n := m.length) h3 h4 fun i hi => ?_, ← eI_map]
        rcases List.mem_append.mp hi with z | z
        · exact lap.lt i z
        · exact nexts_lt ok lap.lt i z
      · refine ⟨.ex (e3.trans (e4.trans (mu5.to_ex.trans e7))), _, p6, zs6, _, _, _, rfl, hp6, dl6, lap.next ok (canon_sorted _ _) fun j => ?_⟩
        rw [canon_mem]
        refine ⟨fun z => z.2, fun z => ⟨?_, z⟩⟩
        rcases List.mem_append.mp z with y | y
        · exact lap.lt j y
        · exact nexts_lt ok lap.lt j y
  · obtain ⟨ss, p, ys, y3, y4, y5, rfl, hp, dl, lap⟩ := hP
    have el : (rangeD (m.length : Nat)).length = m.length := by unfold rangeD; simp
    rw [el] at lap
    exact sd_ret (dv_tupleF (lw_var (j := 2) rfl hp dl)) fun v H3 e3 fz => q v ss H3 lap.ok (e1.trans (mu.to_ex.trans e3)) fz
theorem sc_law_part : FnScope ["_law_mach", "_law_some", "_law_spot", "_law_nxt", "_law_ans"] ["_law_mach", "_law_some"] (defScope s_law_part) := ⟨rfl, rfl, rfl, by decide +kernel, rfl, by decide +kernel, by decide +kernel⟩
def spPart (K : PySem.W.Frag) : Sp := fun vs H Q _ => ∃ v1 v2 m wd s, vs = [v1, v2] ∧ Dt K H v1 (eM m) ∧ Fz K H v2 (s.map eI) ∧ OkM m wd ∧ PartOk m s ∧ ∀ v H', Ex H H' → Dt K H' v (eM (partM m s)) → Q v H'
theorem cal_law_part (T : Fr mg) (D : HasD K mg "_law_part" s_law_part [] []) : Cal P w K mg base 1 "_law_part" ["_law_mach", "_law_some"] [] (spPart K) := by
  refine calS D sc_law_part (fun vs H Q E ⟨_, _, _, _, _, e, _⟩ => by rw [e]; rfl) (fun _ _ _ _ _ _ us hl => match us, hl with | [_, _], _ => rfl) fun f cdv A outer s H vs Q E hr ⟨x1, x2, m, wd, ss, e, d1, fz, ok, po, q⟩ => ?_
  subst e
  refine ⟨_, (pss_one (ps_ret (pe_tupleOfK (K := K) rfl (by rfl) T.tuple (pe_lc (own := [("_law_spot", 2)]) (g := gName 2) (by rfl) sc_law_part.nd (pi_tupK (K := K) rfl (pv 1)) (blkOk_by (N := ["_law_mach", "_law_some", "_law_spot", "_law_nxt", "_law_ans"]) (sc := defScope s_law_part) (by decide +kernel)) (fun _ _ _ _ _ => (pg_name (i := 2) sc_law_part.nd rfl (Or.inl rfl))) (fun _ _ _ _ _ => pts_nil) (fun _ _ _ _ _ => (pe_tupleOfK (K := K) rfl (by rfl) T.tuple (pe_lc (own := [("_law_nxt", 3), ("_law_ans", 4)]) (g := gTup K 2 (gCons (gName 3) (gCons (gName 4) gNil))) (by rfl) sc_law_part.nd (pi_tupK (K := K) rfl (pe_ix (ix_tupK (K := K) rfl) (pv 0) (pv 2) (fun _ _ => rfl))) (blkOk_by (by rfl)) (fun _ _ _ _ _ => (pg_tup (by rfl) (pgs_cons (pg_name (i := 3) sc_law_part.nd rfl (Or.inl rfl)) (pgs_cons (pg_name (i := 4) sc_law_part.nd rfl (Or.inl rfl)) pgs_nil)))) (fun _ _ _ _ _ => pts_nil) (fun _ _ _ _ _ => (pe_tup (pa_cons (pe_tindex (K := K) rfl (pv 1) (pa_cons (pv 3) pa_nil)) (pa_cons (pv 4) pa_nil))))))))))), ?_⟩
  have few := ok.few
  have fw := ok.fw
  refine sd_ret (dv_tuple (lv_to (lv_map (ns := [2]) (iv_tup .nil (dv_var (j := 1) rfl fz.dt)) (by rw [List.length_map]; have := po.2.1; omega) (fun d => match d with | .int t => eR ((m.getD t.toNat []).map fun p => (ss.idxOf p.1, p.2)) | _ => .none) fun i d y H2 hdd e2 dy R k => ?_) (es := (partM m ss).map eR) ?_).w) fun v H1 e1 dv => q v H1 e1 dv
  · obtain ⟨t, ht, rfl⟩ := of_eS hdd
    have htm := List.mem_of_getElem? ht
    have htl := po.2.2.1 t htm
    have eg : m.getD t [] = m[t] := by rw [List.getD_eq_getElem?_getD, List.getElem?_eq_getElem htl]; rfl
    have lrow := ok.row (List.getElem?_eq_getElem htl)
    refine k _ rfl ?_
    show Dv K _ _ _ (eR ((m.getD ((t : Nat) : Int).toNat []).map fun p => (ss.idxOf p.1, p.2)))
    rw [Int.toNat_natCast]
    refine dv_tuple (lv_to (lv_map (ns := [3, 4]) (iv_tup .nil (dv_ix (i := t) (dv_var (j := 0) rfl (d1.ex e2)) (dv_var (j := 2) rfl dy) (eM_get (List.getElem?_eq_getElem htl)))) (by rw [List.length_map, lrow]; omega) (fun d => match d with | .tuple [.int a, c] => .tuple [eI (ss.idxOf a.toNat), c] | _ => .none) fun j2 d y2 H7 hd7 e7 dy7 R k => ?_) ?_).w
    · obtain ⟨pp, hpp, rfl⟩ := of_eR hd7
      have hin : pp.1 ∈ ss := po.2.2.2 t htm pp (by rw [eg]; exact List.mem_of_getElem? hpp)
      refine g_two dy7 fun v1 v2 dv1 dv2 => k _ rfl ?_
      refine dv_to (dv_tup (av_cons (dv_tindex (j := 1) rfl ((fz.ex e2).ex e7) (dv_var (j := 3) rfl dv1) hin) (av_cons (dv_var (j := 4) rfl dv2) av_nil)) (by simp)) ?_
      show _ = PyData.tuple [eI (ss.idxOf ((pp.1 : Nat) : Int).toNat), _]
      rw [Int.toNat_natCast]
    · rw [eg, List.map_map, List.map_map]
      refine List.map_congr_left fun p _ => ?_
      show PyData.tuple [eI (ss.idxOf ((p.1 : Nat) : Int).toNat), _] = _
      rw [Int.toNat_natCast]
      rfl
  · unfold partM
    rw [List.map_map, List.map_map]
    refine List.map_congr_left fun t _ => ?_
    show eR ((m.getD ((t : Nat) : Int).toNat []).map fun p => (ss.idxOf p.1, p.2)) = _
    rw [Int.toNat_natCast]
    rfl
end
end Wok
namespace Wok
open PySem PySem.Spec PyProof.Rows L2
open Evl (Ex EvT)
/-! ### a drawn pair of machines -/
structure GoodP (m1 m2 : Mach) (wd : Nat) : Prop where
  ok1 : OkM m1 wd
  ok2 : OkM m2 wd
  l1 : m1.length ≤ 5
  l2 : m2.length ≤ 5
  w2 : wd ≤ 2
  a1 : ∀ r ∈ m1, ∀ p ∈ r, p.2 < 4
  a2 : ∀ r ∈ m2, ∀ p ∈ r, p.2 < 4
def rowLt (c a : Nat) (r : List (Nat × Nat)) : Prop := ∀ p ∈ r, p.1 < c ∧ p.2 < a
theorem okM_of {m : Mach} {wd : Nat} (h0 : 0 < m.length) (h5 : m.length ≤ 5) (w0 : 0 < wd) (w2 : wd ≤ 2) (h : ∀ r ∈ m, r.length = wd ∧ ∀ p ∈ r, p.1 < m.length) : OkM m wd :=
  ⟨h0, w0, fun r hr => (h r hr).1, fun r hr => (h r hr).2, by omega, by omega⟩
theorem snoc_ok {m : Mach} {wd : Nat} {r : List (Nat × Nat)} (ok : OkM m wd) (h4 : m.length ≤ 4) (w2 : wd ≤ 2) (lr : r.length = wd) (hr : ∀ e ∈ r, e.1 < m.length ∧ e.2 < 2) : OkM (m ++ [r]) wd := by
  have el : (m ++ [r]).length = m.length + 1 := by rw [List.length_append]; rfl
  refine okM_of (by omega) (by omega) ok.wd w2 fun u hu => ?_
  rcases List.mem_append.mp hu with z | z
  · exact ⟨ok.len u z, fun p hp => by have := ok.nx u z p hp; omega⟩
  · rw [List.mem_singleton.mp z]
    exact ⟨lr, fun p hp => by have := (hr p hp).1; omega⟩
theorem snoc_ans {m : Mach} {r : List (Nat × Nat)} (h : ∀ u ∈ m, ∀ p ∈ u, p.2 < 2) (hr : ∀ e ∈ r, e.1 < m.length ∧ e.2 < 2) : ∀ u ∈ m ++ [r], ∀ p ∈ u, p.2 < 4 := fun u hu p hp => by
  rcases List.mem_append.mp hu with z | z
  · have := h u z p hp; omega
  · rw [List.mem_singleton.mp z] at hp
    have := (hr p hp).2; omega
def putAt {α : Type} (l : List α) (i : Nat) (x : α) : List α := l.take i ++ [x] ++ l.drop (i + 1)
theorem putAt_len {α : Type} {l : List α} {i : Nat} {x : α} (h : i < l.length) : (putAt l i x).length = l.length := by
  unfold putAt; simp; omega
theorem putAt_mem {α : Type} {l : List α} {i : Nat} {x y : α} (h : y ∈ putAt l i x) : y ∈ l ∨ y = x := by
  unfold putAt at h
  rcases List.mem_append.mp h with z | z
  · rcases List.mem_append.mp z with z | z
    · exact .inl (List.mem_of_mem_take z)
    · exact .inr (List.mem_singleton.mp z)
  · exact .inl (List.mem_of_mem_drop z)
theorem putAt_map {α β : Type} {l : List α} {i : Nat} {x : α} (f : α → β) : (putAt l i x).map f = (l.map f).take i ++ [f x] ++ (l.map f).drop (i + 1) := by
  unfold putAt; simp
section
variable {K : PySem.W.Frag} {σ : St} {H H' : Hp} {te t2 tb : TE} {t ta : TA} {E : XK} {d : PyData} {sp : Sp} {D : Ends} {tz : TS}
theorem do_dv (h : Dv K te σ H d) {Q : VK} (q : ∀ v H1, Ex H H1 → Dt K H1 v d → Q v H1) : te σ H Q := h H (.refl H) Q q
theorem do_var {j : Nat} {v : V} {Q : VK} (h : σ[j]? = some (some v)) (q : Q v H) : tVar j σ H Q := ⟨v, h, q⟩
theorem do_nil {Q : List V → Hp → Prop} (q : Q [] H) : tNil σ H Q := q
theorem do_call {Q : VK} (h : t σ H fun vs H1 => sp (vs ++ []) H1 Q E) : tCall sp [] E t σ H Q := h
theorem do_par {i j : Nat} (h : te σ H fun v H1 => t2 σ H1 fun w H2 => tz D ((σ.set i (some v)).set j (some w)) H2) : tSeq (tPar i j (tCons te (tCons t2 tNil))) tz D σ H := by
  show te σ H fun v H1 => t2 σ H1 fun w H2 => ∃ a b, [v, w] = [a, b] ∧ tz D ((σ.set i (some a)).set j (some b)) H2
  have e : (fun (v : V) (H1 : Hp) => t2 σ H1 fun w H2 => ∃ a b, [v, w] = [a, b] ∧ tz D ((σ.set i (some a)).set j (some b)) H2) = fun v H1 => t2 σ H1 fun w H2 => tz D ((σ.set i (some v)).set j (some w)) H2 := by
    funext v H1
    congr 1
    funext w H2
    refine propext ⟨fun ⟨a, b, e, z⟩ => ?_, fun z => ⟨v, w, rfl, z⟩⟩
    cases e
    exact z
  rw [e]
  exact h
theorem do_op {r : R2} {Q : VK} (h : te σ H fun x H1 => tb σ H1 fun y H2 => r x y H2 Q) : tOp r te tb σ H Q := h
theorem do_one {r : R2} {v : V} {Q : VK} (h : tb σ H fun y H2 => r v y H2 Q) : tOp r (tC v) tb σ H Q := h
theorem do_asgG {g : TG} (h : te σ H fun v H1 => g v σ H1 (tz D)) : tSeq (tAsg te g) tz D σ H := h
theorem one_add (k : Nat) : (1 : Int) + (k : Int) = ((1 + k : Nat) : Int) := by omega
theorem op_one {k : Nat} {Q : VK} (q : Q (.int ((1 + k : Nat) : Int)) H) : rI0 (fun a b => .int (a + b)) (.int 1) (.int (k : Nat)) H Q := ⟨1, (k : Int), rfl, rfl, by
  show Q (.int ((1 : Int) + (k : Int))) H
  rw [one_add]; exact q⟩
theorem dv_self {v : V} (h : Dt K H v d) : Dv K (tC v) σ H d := fun H1 e Q q => q v H1 (.refl _) (h.ex e)
theorem cat_fin {x y : V} {ds es : List PyData} {Q : VK} (dx : Dt K H x (.tuple ds)) (dy : Dt K H y (.tuple es)) (hl : ds.length + es.length ≤ 1000000) (q : ∀ v H1, Ex H H1 → Dt K H1 v (.tuple (ds ++ es)) → Q v H1) : rCatA K x y H Q :=
  dv_catA (σ := []) (dv_self dx) (dv_self dy) hl H (.refl _) Q q
theorem eo_none : Evl.EvO tNoPart σ H none := fun H1 _ _ q => q H1 (.refl H1)
theorem eo_some {i : Int} (h : Dv K te σ H (.int i)) : Evl.EvO (tPart te) σ H (some i) := fun H1 e _ q => h H1 e _ fun v H2 e2 dv => ⟨i, dv.int_of, q H2 e2⟩
theorem dv_head {ds : List PyData} {i : Nat} (h : Dv K te σ H (.tuple ds)) (hi : Dv K tb σ H (.int (i : Nat))) (hl : i ≤ ds.length) : Dv K (tSl (rSlA K) te tNoPart (tPart tb)) σ H (.tuple (ds.take i)) :=
  dv_cut h eo_none (eo_some hi) (by rw [HT.sIx_none, HT.sIx_nat, List.drop_zero, Nat.sub_zero, Nat.min_eq_left hl])
theorem dv_tail {ds : List PyData} {i : Nat} (h : Dv K te σ H (.tuple ds)) (hi : Dv K tb σ H (.int (i : Nat))) (hl : i ≤ ds.length) : Dv K (tSl (rSlA K) te (tPart tb) tNoPart) σ H (.tuple (ds.drop i)) :=
  dv_cut h (eo_some hi) eo_none (by rw [HT.sIx_none, HT.sIx_nat, Nat.min_eq_left hl]; exact List.take_of_length_le (by rw [List.length_drop]; exact Nat.le_refl _))
end
def rotL (s n : Nat) : List Nat := (List.range n).map fun k => (s + k) % n
theorem rot_ok {m : Mach} {wd s : Nat} (ok : OkM m wd) (hs : s < m.length) : PartOk m (rotL s m.length) := by
  have el : (rotL s m.length).length = m.length := by unfold rotL; simp
  refine ⟨by rw [el]; exact ok.ne, by rw [el]; exact Nat.le_refl _, fun t ht => ?_, fun t ht p hp => ?_⟩
  · obtain ⟨k, _, rfl⟩ := List.mem_map.mp ht
    exact Nat.mod_lt _ ok.ne
  · have htl : t < m.length := by
      obtain ⟨k, _, rfl⟩ := List.mem_map.mp ht
      exact Nat.mod_lt _ ok.ne
    have hp1 := ok.nx _ (mem_getD htl) p hp
    refine List.mem_map.mpr ?_
    by_cases c : s ≤ p.1
    · exact ⟨p.1 - s, List.mem_range.mpr (by omega), by rw [show s + (p.1 - s) = p.1 by omega]; exact Nat.mod_eq_of_lt hp1⟩
    · refine ⟨p.1 + m.length - s, List.mem_range.mpr (by omega), ?_⟩
      rw [show s + (p.1 + m.length - s) = p.1 + m.length by omega, Nat.add_mod_right]
      exact Nat.mod_eq_of_lt hp1
section
variable {P : Program} {w : World} {K : PySem.W.Frag} {mg : Str → Option Value} {base : Heap}
theorem sc_law_pair : FnScope ["_law_src", "_law_most", "_law_wide", "_law_way", "_law_apart", "_law_high", "_law_spot", "_law_size", "_law_x", "_law_row", "_law_bent", "_law_k"] ["_law_src", "_law_most"] (defScope s_law_pair) := ⟨rfl, rfl, rfl, by decide +kernel, rfl, by decide +kernel, by decide +kernel⟩
def spPair (K : PySem.W.Frag) : Sp := fun vs H Q _ => ∃ (src cl : Addr) (cells : List Int), vs = [.ref src, .int 4] ∧ SrcC H src cl cells ∧
  ∀ m1 m2 wd v H', GoodP m1 m2 wd → Mu [src] H H' → SrcC H' src cl cells → Dt K H' v (.tuple [eM m1, eM m2]) → Q v H'
theorem cal_law_pair (T : Fr mg) (D : HasD K mg "_law_pair" s_law_pair [] []) (C_law_draw : Cal P w K mg base 1 "_law_draw" ["_law_src", "_law_much"] [] (spDraw K)) (C_law_more : Cal P w K mg base 2 "_law_more" ["_law_src", "_law_size", "_law_wide"] [] (spMore K))
    (C_law_machine : Cal P w K mg base 2 "_law_machine" ["_law_src", "_law_size", "_law_wide", "_law_most"] [] (spMach K)) (C_law_reach : Cal P w K mg base 1 "_law_reach" ["_law_mach", "_law_begin"] [] (spReach K)) (C_law_part : Cal P w K mg base 1 "_law_part" ["_law_mach", "_law_some"] [] (spPart K)) :
    Cal P w K mg base 3 "_law_pair" ["_law_src", "_law_most"] [] (spPair K) := by
  refine calS D sc_law_pair (fun vs H Q E ⟨_, _, _, e, _⟩ => by rw [e]; rfl) (fun _ _ _ _ _ _ us hl => match us, hl with | [_, _], _ => rfl) fun f cdv A outer s H vs Q E hr ⟨src, cl, cells, e, so, q⟩ => ?_
  subst e
  refine ⟨_, (pss_cons (ps_par (i := 2) (j := 3) (by rfl) sc_law_pair.nd rfl rfl (by decide) rfl rfl (pa_cons (pe_op op_add pe_int (pe_cal C_law_draw hr (by decide) (pa_cons (pv 0) (pa_cons pe_int pa_nil)))) (pa_cons (pe_cal C_law_draw hr (by decide) (pa_cons (pv 0) (pa_cons pe_int pa_nil))) pa_nil)) (by rfl))
      (pss_cons (ps_if (pt_cmpR op_eq (pv 3) pe_int (nomark _)) (pss_cons (ps_set (i := 4) sc_law_pair.nd rfl (Or.inl rfl) (pe_tup (pa_cons (pe_tup (pa_cons (pe_tup (pa_cons pe_int (pa_cons pe_int pa_nil))) (pa_cons (pe_tup (pa_cons pe_int (pa_cons pe_int pa_nil))) pa_nil))) (pa_cons (pe_tup (pa_cons (pe_tup (pa_cons pe_int (pa_cons pe_int pa_nil))) (pa_cons (pe_tup (pa_cons pe_int (pa_cons pe_int pa_nil))) pa_nil))) (pa_cons (pe_tup (pa_cons (pe_tup (pa_cons pe_int (pa_cons pe_int pa_nil))) (pa_cons (pe_tup (pa_cons pe_int (pa_cons pe_int pa_nil))) pa_nil))) pa_nil)))))
      (pss_one (ps_ret (pe_tup (pa_cons (pv 4) (pa_cons (pe_tup (pa_cons (pe_tup (pa_cons (pe_tup (pa_cons pe_int (pa_cons pe_int pa_nil))) (pa_cons (pe_tup (pa_cons pe_int (pa_cons pe_int pa_nil))) pa_nil))) (pa_cons (pe_tup (pa_cons (pe_tup (pa_cons pe_int (pa_cons pe_int pa_nil))) (pa_cons (pe_tup (pa_cons pe_int (pa_cons pe_int pa_nil))) pa_nil))) (pa_cons (pe_tup (pa_cons (pe_tup (pa_cons pe_int (pa_cons pe_int pa_nil))) (pa_cons (pe_tup (pa_cons pe_int (pa_cons pe_int pa_nil))) pa_nil))) (pa_cons (pe_tup (pa_cons (pe_tup (pa_cons pe_int (pa_cons pe_int pa_nil))) (pa_cons (pe_tup (pa_cons pe_int (pa_cons pe_int pa_nil))) pa_nil))) pa_nil))))) pa_nil)))))) pss_nil)
      (pss_cons (ps_set (i := 5) sc_law_pair.nd rfl (Or.inl rfl) (pe_cal C_law_machine hr (by decide) (pa_cons (pv 0) (pa_cons (pe_op op_add pe_int (pe_cal C_law_draw hr (by decide) (pa_cons (pv 0) (pa_cons (pv 1) pa_nil)))) (pa_cons (pv 2) (pa_cons pe_int pa_nil))))))
      (pss_cons (ps_asg (pe_tup (pa_cons (pe_cal C_law_draw hr (by decide) (pa_cons (pv 0) (pa_cons (pe_callB (call_lenK (K := K) rfl) (by rfl) T.len (by decide +kernel) (pa_cons (pv 5) pa_nil)) pa_nil))) (pa_cons (pe_callB (call_lenK (K := K) rfl) (by rfl) T.len (by decide +kernel) (pa_cons (pv 5) pa_nil)) pa_nil))) (pg_tup (by rfl) (pgs_cons (pg_name (i := 6) sc_law_pair.nd rfl (Or.inr rfl)) (pgs_cons (pg_name (i := 7) sc_law_pair.nd rfl (Or.inr rfl)) pgs_nil))))
      (pss_cons (ps_if (pt_cmpR op_eq (pv 3) pe_int (nomark _)) (pss_one (ps_ret (pe_tup (pa_cons (pe_cal C_law_machine hr (by decide) (pa_cons (pv 0) (pa_cons (pe_op op_add pe_int (pe_cal C_law_draw hr (by decide) (pa_cons (pv 0) (pa_cons (pv 1) pa_nil)))) (pa_cons (pv 2) (pa_cons pe_int pa_nil))))) (pa_cons (pv 5) pa_nil))))) pss_nil)
      (pss_cons (ps_if (pt_cmpR op_eq (pv 3) pe_int (nomark _)) (pss_one (ps_ret (pe_tup (pa_cons (pe_cal C_law_part hr (by decide) (pa_cons (pv 5) (pa_cons (pe_cal C_law_reach hr (by decide) (pa_cons (pv 5) (pa_cons (pv 6) pa_nil))) pa_nil))) (pa_cons (pv 5) pa_nil))))) pss_nil)
      (pss_cons (ps_if (pt_cmpR op_eq (pv 3) pe_int (nomark _)) (pss_one (ps_ret (pe_tup (pa_cons (pe_cal C_law_part hr (by decide) (pa_cons (pv 5) (pa_cons (pe_tupleF (K := K) rfl (by rfl) T.tuple (pe_lc (own := [("_law_k", 11)]) (g := gName 11) (by rfl) sc_law_pair.nd (pi_range1 (by rfl) T.range (pa_cons (pv 7) pa_nil)) (blkOk_by (N := ["_law_src", "_law_most", "_law_wide", "_law_way", "_law_apart", "_law_high", "_law_spot", "_law_size", "_law_x", "_law_row", "_law_bent", "_law_k"]) (sc := defScope s_law_pair) (by decide +kernel)) (fun _ _ _ _ _ => (pg_name (i := 11) sc_law_pair.nd rfl (Or.inl rfl))) (fun _ _ _ _ _ => pts_nil) (fun _ _ _ _ _ => (pe_op op_mod (pe_callTy call_int1 (by rfl) T.int (by decide +kernel) (pa_cons (pe_op op_add (pv 6) (pv 11)) pa_nil)) (pv 7))))) pa_nil))) (pa_cons (pv 5) pa_nil))))) pss_nil)
      (pss_cons (ps_if (pt_cmpR op_eq (pv 3) pe_int (nomark _)) (pss_one (ps_ret (pe_tup (pa_cons (pe_op op_catA (pv 5) (pe_tup (pa_cons (pe_cal C_law_more hr (by decide) (pa_cons (pv 0) (pa_cons (pv 7) (pa_cons (pv 2) pa_nil)))) pa_nil))) (pa_cons (pv 5) pa_nil))))) pss_nil)
      (pss_cons (ps_if (pt_cmpR op_eq (pv 3) pe_int (nomark _)) (pss_one (ps_ret (pe_tup (pa_cons (pv 5) (pa_cons (pe_op op_catA (pv 5) (pe_tup (pa_cons (pe_cal C_law_more hr (by decide) (pa_cons (pv 0) (pa_cons (pv 7) (pa_cons (pv 2) pa_nil)))) pa_nil))) pa_nil))))) pss_nil)
      (pss_cons (ps_set (i := 8) sc_law_pair.nd rfl (Or.inl rfl) (pe_cal C_law_draw hr (by decide) (pa_cons (pv 0) (pa_cons (pv 2) pa_nil))))
      (pss_cons (ps_set (i := 9) sc_law_pair.nd rfl (Or.inl rfl) (pe_ix (ix_tupK (K := K) rfl) (pv 5) (pv 6) (fun _ _ => rfl)))
      (pss_cons (ps_set (i := 10) sc_law_pair.nd rfl (Or.inl rfl) (pe_op op_catA (pe_op op_catA (pe_slice sl_tupA (pv 9) po_none (po_some (pv 8))) (pe_tup (pa_cons (pe_tup (pa_cons (pe_ix (ix_tupK (K := K) rfl) (pe_ix (ix_tupK (K := K) rfl) (pv 9) (pv 8) (fun _ _ => rfl)) pe_int (fun _ _ => rfl)) (pa_cons (pe_op op_sub pe_int (pe_ix (ix_tupK (K := K) rfl) (pe_ix (ix_tupK (K := K) rfl) (pv 9) (pv 8) (fun _ _ => rfl)) pe_int (fun _ _ => rfl))) pa_nil))) pa_nil))) (pe_slice sl_tupA (pv 9) (po_some (pe_op op_add (pv 8) pe_int)) po_none)))
      (pss_one (ps_ret (pe_tup (pa_cons (pe_op op_catA (pe_op op_catA (pe_slice sl_tupA (pv 5) po_none (po_some (pv 6))) (pe_tup (pa_cons (pv 10) pa_nil))) (pe_slice sl_tupA (pv 5) (po_some (pe_op op_add (pv 6) pe_int)) po_none)) (pa_cons (pv 5) pa_nil))))))))))))))))), ?_⟩
  have fin : ∀ {m1 m2 : Mach} {wd : Nat} {v1 v2 : V} {H' : Hp}, GoodP m1 m2 wd → Mu [src] H H' → SrcC H' src cl cells → Dt K H' v1 (eM m1) → Dt K H' v2 (eM m2) → [v1, v2].length ≤ sizeLine ∧ ∀ p, H' p = none → Q (.ref p) (L2.upd H' p (.tup [v1, v2])) := fun {m1 m2 wd v1 v2 H'} g mu so' d1 d2 =>
    ⟨by show 2 ≤ sizeLine; decide, fun p np => q m1 m2 wd _ _ g (mu.trans (.ex (.new np))) (so'.ex (.new np)) (.tup (.inl (.inl upd_same)) (.cons (d1.ex (.new np)) (.cons (d2.ex (.new np)) .nil)))⟩
  refine do_par (do_one ?_)
  refine do_draw (j := 0) rfl dv_int (n := 2) (by decide) (by decide) so _ fun k1 H1 hk1 mu1 so1 => ?_
  refine op_one ?_
  refine do_draw (j := 0) rfl dv_int (n := 7) (by decide) (by decide) so1 _ fun way H2 hway mu2 so2 => ?_
  have mu2 := mu1.trans mu2
  have w0 : 0 < 1 + k1 := by omega
  have w2 : 1 + k1 ≤ 2 := by omega
  revert w0 w2
  generalize 1 + k1 = wd
  intro w0 w2
  refine qd_if (b := decide ((way : Int) = 0)) (et_of (dv_eqI (K := K) (dv_var (j := 3) rfl (.int _)) dv_int)) (fun hb H3 e3 => ?_) fun hb H3 e3 => ?_
  · refine qd_asg (K := K) (dv_tup (av_cons (dv_tup (av_cons (dv_tup (av_cons dv_int (av_cons dv_int av_nil)) (by decide)) (av_cons (dv_tup (av_cons dv_int (av_cons dv_int av_nil)) (by decide)) av_nil)) (by decide)) (av_cons (dv_tup (av_cons (dv_tup (av_cons dv_int (av_cons dv_int av_nil)) (by decide)) (av_cons (dv_tup (av_cons dv_int (av_cons dv_int av_nil)) (by decide)) av_nil)) (by decide)) (av_cons (dv_tup (av_cons (dv_tup (av_cons dv_int (av_cons dv_int av_nil)) (by decide)) (av_cons (dv_tup (av_cons dv_int (av_cons dv_int av_nil)) (by decide)) av_nil)) (by decide)) av_nil))) (by decide)) fun v4 H4 e4 d4 => ?_
    refine do_ret (do_tup (do_cons (do_var (j := 4) rfl (do_cons (do_dv (K := K) (dv_tup (av_cons (dv_tup (av_cons (dv_tup (av_cons dv_int (av_cons dv_int av_nil)) (by decide)) (av_cons (dv_tup (av_cons dv_int (av_cons dv_int av_nil)) (by decide)) av_nil)) (by decide)) (av_cons (dv_tup (av_cons (dv_tup (av_cons dv_int (av_cons dv_int av_nil)) (by decide)) (av_cons (dv_tup (av_cons dv_int (av_cons dv_int av_nil)) (by decide)) av_nil)) (by decide)) (av_cons (dv_tup (av_cons (dv_tup (av_cons dv_int (av_cons dv_int av_nil)) (by decide)) (av_cons (dv_tup (av_cons dv_int (av_cons dv_int av_nil)) (by decide)) av_nil)) (by decide)) (av_cons (dv_tup (av_cons (dv_tup (av_cons dv_int (av_cons dv_int av_nil)) (by decide)) (av_cons (dv_tup (av_cons dv_int (av_cons dv_int av_nil)) (by decide)) av_nil)) (by decide)) av_nil)))) (by decide)) fun v5 H5 e5 d5 => do_nil ?_)))))
    exact fin (m1 := [[(1, 0), (2, 0)], [(1, 2), (1, 2)], [(2, 3), (2, 3)]]) (m2 := [[(2, 0), (3, 1)], [(2, 1), (3, 0)], [(2, 2), (2, 2)], [(3, 3), (3, 3)]]) (wd := 2) ⟨okM_of (by decide) (by decide) (by decide) (by decide) (by decide), okM_of (by decide) (by decide) (by decide) (by decide) (by decide), by decide, by decide, by decide, by decide, by decide⟩
      (mu2.trans (.ex (e3.trans (e4.trans e5)))) (so2.ex (e3.trans (e4.trans e5))) (d4.ex e5) d5
  have mu3 := mu2.trans (.ex e3)
  have so3 := so2.ex e3
  refine do_asg (do_call (do_cons (do_var (j := 0) rfl (do_cons (do_one ?_)))))
  refine do_draw (j := 0) rfl (dv_var (j := 1) rfl (.int _)) (n := 4) (by decide) (by decide) so3 _ fun k2 H4 hk2 mu4 so4 => ?_
  refine op_one ?_
  refine do_cons (do_var (j := 2) rfl (do_cons (tC_in (do_nil ⟨src, cl, cells, 1 + k2, wd, 2, rfl, by omega, by omega, w0, by omega, by decide, by decide, so4, fun m vm H5 ok lm am mu5 so5 dm => ?_⟩))))
  have mu5 := mu3.trans (mu4.trans mu5)
  have lm4 : m.length ≤ 4 := by omega
  have lm0 := ok.ne
  have am4 : ∀ r ∈ m, ∀ p ∈ r, p.2 < 4 := fun r hr p hp => by have := am r hr p hp; omega
  refine do_asgG (do_tup (do_cons ?_))
  refine do_draw (j := 0) rfl (dv_to (dv_len (dv_var (j := 5) rfl dm)) (by rw [eM_len])) (n := m.length) lm0 (by omega) so5 _ fun sp H6 hsp mu6 so6 => ?_
  have dm6 := dm.mono (mu6.kp (K := K) so5.sok)
  refine do_cons (do_dv (K := K) (dv_to (dv_len (dv_var (j := 5) rfl dm6)) (by rw [eM_len])) fun v7 H7 e7 d7 => do_nil ⟨by show 2 ≤ sizeLine; decide, fun p np => ?_⟩)
  have e67 := e7.trans (Ex.new (o := .tup [.int (sp : Nat), v7]) np)
  refine g_two (K := K) (d1 := eI sp) (d2 := eI m.length) (.tup (.inl (.inl upd_same)) (.cons (.int _) (.cons (d7.ex (.new np)) .nil))) fun v6 v8 d6 d8 => ?_
  have ev6 := d6.int_of
  have ev8 := d8.int_of
  subst ev6 ev8
  have mu8 := mu5.trans (mu6.trans (.ex e67))
  have so8 := so6.ex e67
  have dm8 := dm6.ex e67
  revert mu8 so8 dm8
  generalize L2.upd H7 p (.tup [.int (sp : Nat), v7]) = H8
  intro mu8 so8 dm8
  refine qd_if (b := decide ((way : Int) = 1)) (et_of (dv_eqI (K := K) (dv_var (j := 3) rfl (.int _)) dv_int)) (fun hb H9 e9 => ?_) fun hb H9 e9 => ?_
  · -- way 1
    refine do_ret (do_tup (do_cons (do_call (do_cons (do_var (j := 0) rfl (do_cons (do_one ?_)))))))
    refine do_draw (j := 0) rfl (dv_var (j := 1) rfl (.int _)) (n := 4) (by decide) (by decide) (so8.ex e9) _ fun k3 H10 hk3 mu10 so10 => ?_
    refine op_one ?_
    refine do_cons (do_var (j := 2) rfl (do_cons (tC_in (do_nil ⟨src, cl, cells, 1 + k3, wd, 2, rfl, by omega, by omega, w0, by omega, by decide, by decide, so10, fun m1 v1 H11 ok1 lm1 am1 mu11 so11 dm1 => ?_⟩))))
    refine do_cons (do_var (j := 5) rfl (do_nil ?_))
    exact fin (wd := wd) ⟨ok1, ok, by omega, by omega, w2, fun r hr p hp => by have := am1 r hr p hp; omega, am4⟩ (mu8.trans ((Mu.ex e9).trans (mu10.trans mu11))) so11 dm1 ((dm8.ex e9).mono ((mu10.trans mu11).kp (K := K) (so8.ex e9).sok))
  have mu9 := mu8.trans (.ex e9)
  have so9 := so8.ex e9
  have dm9 := dm8.ex e9
  clear e9 mu8 so8 dm8
  refine qd_if (b := decide ((way : Int) = 2)) (et_of (dv_eqI (K := K) (dv_var (j := 3) rfl (.int _)) dv_int)) (fun hb H10 e10 => ?_) fun hb H10 e10 => ?_
  · -- way 2
    refine do_ret (do_tup (do_cons (do_call (do_cons (do_var (j := 5) rfl (do_cons (do_call (do_cons (do_var (j := 5) rfl (do_cons (do_var (j := 6) rfl (do_nil ⟨_, _, m, wd, sp, rfl, dm9.ex e10, .int _, ok, hsp, by omega, w2, fun v ss H11 po e11 fz => ?_⟩))))))))))))
    refine do_nil ⟨_, _, m, wd, ss, rfl, (dm9.ex e10).ex e11, fz, ok, po, fun v1 H12 e12 d1 => ?_⟩
    refine do_cons (do_var (j := 5) rfl (do_nil ?_))
    have e := e10.trans (e11.trans e12)
    have pl : (partM m ss).length ≤ 5 := by unfold partM; rw [List.length_map]; have := po.2.1; omega
    exact fin (wd := wd) ⟨part_ok ok po, ok, pl, by omega, w2, part_ans po am4, am4⟩ (mu9.trans (.ex e)) (so9.ex e) d1 (dm9.ex e)
  have mu9 := mu9.trans (.ex e10)
  have so9 := so9.ex e10
  have dm9 := dm9.ex e10
  clear e10
  refine qd_if (b := decide ((way : Int) = 3)) (et_of (dv_eqI (K := K) (dv_var (j := 3) rfl (.int _)) dv_int)) (fun hb H10 e10 => ?_) fun hb H10 e10 => ?_
  · -- way 3
    refine do_ret (do_tup (do_cons (do_call (do_cons (do_var (j := 5) rfl (do_cons ?_))))))
    refine dv_tupleF (K := K) (ds := (rotL sp m.length).map eI) (lv_to (lv_map (ns := [11]) (iv_rng (n := (m.length : Nat)) (dv_var (j := 7) rfl (.int _)) (by omega) (by omega)) (by unfold rangeD; simp; omega) (fun d => match d with | .int k => .int (((sp : Int) + k) % (m.length : Nat)) | _ => .none) fun i d y H2 hdd e2 dy R k => ?_) ?_).w H10 (.refl _) _ fun v11 H11 e11 fz => ?_
    · unfold rangeD at hdd
      rw [List.getElem?_map] at hdd
      obtain ⟨n, _, rfl⟩ := Option.map_eq_some_iff.mp hdd
      exact k _ rfl (dv_opC (dv_intI (dv_op (dv_var (j := 6) rfl (.int _)) (dv_var (j := 11) rfl dy))) (dv_var (j := 7) rfl (.int _)) (by show (0 : Int) < _; omega))
    · unfold rangeD rotL
      rw [List.map_map, List.map_map, Int.toNat_natCast]
      refine List.map_congr_left fun k _ => ?_
      show PyData.int (((sp : Int) + (k : Int)) % (m.length : Nat)) = PyData.int (((sp + k) % m.length : Nat) : Int)
      rw [Int.natCast_emod, Int.natCast_add]
    · have po := rot_ok ok hsp
      refine do_nil ⟨_, _, m, wd, rotL sp m.length, rfl, (dm9.ex e10).ex e11, fz, ok, po, fun v1 H12 e12 d1 => ?_⟩
      refine do_cons (do_var (j := 5) rfl (do_nil ?_))
      have e := e10.trans (e11.trans e12)
      have pl : (partM m (rotL sp m.length)).length ≤ 5 := by unfold partM; rw [List.length_map]; have := po.2.1; omega
      exact fin (wd := wd) ⟨part_ok ok po, ok, pl, by omega, w2, part_ans po am4, am4⟩ (mu9.trans (.ex e)) (so9.ex e) d1 (dm9.ex e)
  have mu9 := mu9.trans (.ex e10)
  have so9 := so9.ex e10
  have dm9 := dm9.ex e10
  clear e10
  refine qd_if (b := decide ((way : Int) = 4)) (et_of (dv_eqI (K := K) (dv_var (j := 3) rfl (.int _)) dv_int)) (fun hb H10 e10 => ?_) fun hb H10 e10 => ?_
  · -- way 4
    refine do_ret (do_tup (do_cons (do_op (do_var (j := 5) rfl (do_tup (do_cons (do_call (do_cons (do_var (j := 0) rfl (do_cons (do_var (j := 7) rfl (do_cons (do_var (j := 2) rfl (do_nil ⟨src, cl, cells, m.length, wd, rfl, lm0, by omega, by omega, so9.ex e10, fun r v11 H11 lr hr mu11 so11 dr => ?_⟩))))))))))))))
    refine do_nil ⟨by show 1 ≤ sizeLine; decide, fun p np => ?_⟩
    have dmz := ((dm9.ex e10).mono (mu11.kp (K := K) (so9.ex e10).sok)).ex (.new (o := .tup [v11]) np)
    refine cat_fin (K := K) (ds := m.map eR) (es := [eR r]) dmz (.tup (.inl (.inl upd_same)) (.cons (dr.ex (.new np)) .nil)) (by rw [List.length_map]; show _ + 1 ≤ _; omega) fun v1 H12 e12 d1 => ?_
    refine do_cons (do_var (j := 5) rfl (do_nil ?_))
    refine fin (m1 := m ++ [r]) (wd := wd) ⟨snoc_ok ok lm4 w2 lr hr, ok, by rw [List.length_append]; show _ + 1 ≤ _; omega, by omega, w2, snoc_ans am hr, am4⟩ (mu9.trans ((Mu.ex e10).trans (mu11.trans (.ex ((Ex.new np).trans e12))))) (so11.ex ((Ex.new np).trans e12)) ?_ (dmz.ex e12)
    unfold eM
    rw [List.map_append]
    exact d1
  have mu9 := mu9.trans (.ex e10)
  have so9 := so9.ex e10
  have dm9 := dm9.ex e10
  clear e10
  refine qd_if (b := decide ((way : Int) = 5)) (et_of (dv_eqI (K := K) (dv_var (j := 3) rfl (.int _)) dv_int)) (fun hb H10 e10 => ?_) fun hb H10 e10 => ?_
  · -- way 5
    refine do_ret (do_tup (do_cons (do_var (j := 5) rfl (do_cons (do_op (do_var (j := 5) rfl (do_tup (do_cons (do_call (do_cons (do_var (j := 0) rfl (do_cons (do_var (j := 7) rfl (do_cons (do_var (j := 2) rfl (do_nil ⟨src, cl, cells, m.length, wd, rfl, lm0, by omega, by omega, so9.ex e10, fun r v11 H11 lr hr mu11 so11 dr => ?_⟩))))))))))))))))
    refine do_nil ⟨by show 1 ≤ sizeLine; decide, fun p np => ?_⟩
    have dmz := ((dm9.ex e10).mono (mu11.kp (K := K) (so9.ex e10).sok)).ex (.new (o := .tup [v11]) np)
    refine cat_fin (K := K) (ds := m.map eR) (es := [eR r]) dmz (.tup (.inl (.inl upd_same)) (.cons (dr.ex (.new np)) .nil)) (by rw [List.length_map]; show _ + 1 ≤ _; omega) fun v1 H12 e12 d1 => ?_
    refine do_nil ?_
    refine fin (m2 := m ++ [r]) (wd := wd) ⟨ok, snoc_ok ok lm4 w2 lr hr, by omega, by rw [List.length_append]; show _ + 1 ≤ _; omega, w2, am4, snoc_ans am hr⟩ (mu9.trans ((Mu.ex e10).trans (mu11.trans (.ex ((Ex.new np).trans e12))))) (so11.ex ((Ex.new np).trans e12)) (dmz.ex e12) ?_
    unfold eM
    rw [List.map_append]
    exact d1
  have mu9 := mu9.trans (.ex e10)
  have so9 := so9.ex e10
  have dm9 := dm9.ex e10
  clear e10
  -- way 6
  refine do_asg (do_draw (j := 0) rfl (dv_var (j := 2) rfl (.int _)) (n := wd) w0 (by omega) so9 _ fun x H10 hx mu10 so10 => ?_)
  have dm10 := dm9.mono (mu10.kp (K := K) so9.sok)
  have mu10 := mu9.trans mu10
  have hrow := List.getElem?_eq_getElem hsp
  have lrow := ok.row hrow
  have mrow : m[sp] ∈ m := List.getElem_mem hsp
  refine qd_asg (dv_ix (i := sp) (dv_var (K := K) (j := 5) rfl dm10) (dv_var (j := 6) rfl (.int _)) (eM_get hrow)) fun v9 H11 e11 d9 => ?_
  revert lrow mrow d9
  generalize m[sp] = row
  intro lrow mrow d9
  have hxl : x < row.length := by omega
  have hp := List.getElem?_eq_getElem hxl
  have mp : row[x] ∈ row := List.getElem_mem hxl
  revert hp mp
  generalize row[x] = pp
  intro hp mp
  have a2 := am row mrow pp mp
  have n1 := ok.nx row mrow pp mp
  refine qd_asg (dv_to (dv_catA (dv_catA (dv_head (dv_var (K := K) (j := 9) rfl d9) (dv_var (j := 8) rfl (.int _)) (by rw [List.length_map]; omega)) (dv_tup (av_cons (dv_tup (av_cons (dv_ix (i := 0) (dv_ix (i := x) (dv_var (K := K) (j := 9) rfl d9) (dv_var (j := 8) rfl (.int _)) (eR_get hp)) dv_int rfl) (av_cons (dv_op dv_int (dv_ix (i := 1) (d := .int (pp.2 : Nat)) (dv_ix (i := x) (dv_var (K := K) (j := 9) rfl d9) (dv_var (j := 8) rfl (.int _)) (eR_get hp)) dv_int rfl)) av_nil)) (by simp)) av_nil) (by simp)) (by simp; omega)) (dv_tail (i := x + 1) (dv_var (K := K) (j := 9) rfl d9) (dv_to (d := .int ((x : Int) + 1)) (dv_op (dv_var (j := 8) rfl (.int _)) dv_int) (by rfl)) (by rw [List.length_map]; omega)) (by simp; omega)) (d' := eR (putAt row x (pp.1, 1 - pp.2))) ?_) fun v10 H12 e12 d10 => ?_
  · unfold eR
    rw [putAt_map]
    show PyData.tuple ((row.map eP).take x ++ [.tuple [eI pp.1, .int ((1 : Int) - (pp.2 : Int))]] ++ _) = PyData.tuple ((row.map eP).take x ++ [.tuple [eI pp.1, .int ((1 - pp.2 : Nat) : Int)]] ++ _)
    rw [show (1 : Int) - (pp.2 : Int) = ((1 - pp.2 : Nat) : Int) by omega]
  have dm12 := (dm10.ex e11).ex e12
  refine do_ret (do_tup (do_cons (do_dv (dv_to (dv_catA (dv_catA (dv_head (dv_var (K := K) (j := 5) rfl dm12) (dv_var (j := 6) rfl (.int _)) (by rw [List.length_map]; omega)) (dv_tup (av_cons (dv_var (j := 10) rfl d10) av_nil) (by simp)) (by simp; omega)) (dv_tail (i := sp + 1) (dv_var (K := K) (j := 5) rfl dm12) (dv_to (d := .int ((sp : Int) + 1)) (dv_op (dv_var (j := 6) rfl (.int _)) dv_int) (by rfl)) (by rw [List.length_map]; omega)) (by simp; omega)) (d' := eM (putAt m sp (putAt row x (pp.1, 1 - pp.2)))) (by unfold eM; rw [putAt_map])) fun v1 H13 e13 d1 => ?_)))
  refine do_cons (do_var (j := 5) rfl (do_nil ?_))
  have e := e11.trans (e12.trans e13)
  have lp : (putAt m sp (putAt row x (pp.1, 1 - pp.2))).length = m.length := putAt_len hsp
  have rowp : ∀ r ∈ putAt m sp (putAt row x (pp.1, 1 - pp.2)), r.length = wd ∧ ∀ p ∈ r, p.1 < m.length ∧ p.2 < 2 := fun r hr => by
    rcases putAt_mem hr with z | z
    · exact ⟨ok.len r z, fun p hp => ⟨ok.nx r z p hp, am r z p hp⟩⟩
    · subst z
      refine ⟨by rw [putAt_len hxl]; exact lrow, fun p hp => ?_⟩
      rcases putAt_mem hp with y | y
      · exact ⟨ok.nx row mrow p y, am row mrow p y⟩
      · subst y
        exact ⟨n1, by show 1 - pp.2 < 2; omega⟩
  exact fin (wd := wd) ⟨okM_of (by omega) (by omega) w0 w2 fun r hr => ⟨(rowp r hr).1, fun p hp => by rw [lp]; exact ((rowp r hr).2 p hp).1⟩, ok, by omega, by omega, w2, fun r hr p hp => by have := ((rowp r hr).2 p hp).2; omega, am4⟩
    (mu10.trans (.ex e)) (so10.ex e) d1 (dm12.ex e13)
end
end Wok
namespace Wok
open PySem
/-! ### two machines placed in the surrounding that feeds a word -/
theorem flat_get {α : Type} {s : Nat} : ∀ (L : List (List α)) (k t : Nat), (∀ r ∈ L, r.length = s) → t < s → L.flatten[k * s + t]? = (L[k]?).bind (·[t]?)
  | [], k, t, _, _ => by simp
  | r :: L, 0, t, h, ht => by
    rw [Nat.zero_mul, Nat.zero_add, List.flatten_cons, List.getElem?_append_left (by rw [h r List.mem_cons_self]; exact ht)]; rfl
  | r :: L, k + 1, t, h, ht => by
    have hr := h r List.mem_cons_self
    rw [List.flatten_cons, List.getElem?_append_right (by rw [hr, Nat.add_mul]; omega), hr, show (k + 1) * s + t - s = k * s + t by rw [Nat.add_mul]; omega, flat_get L k t (fun u hu => h u (List.mem_cons_of_mem _ hu)) ht, List.getElem?_cons_succ]
section
variable {l : List Nat} {c wd : Nat} {m m1 m2 : Mach}
theorem placed_len : (placedM l c m).length = l.length * m.length := by
  have z := take_flatten_len (n := l.length) (K := c) (m := m) (l := l) l.length (Nat.le_refl _)
  rwa [List.take_of_length_le (by rw [List.length_mapIdx]; exact Nat.le_refl _)] at z
theorem placed_get {k t x : Nat} {r : List (Nat × Nat)} (hk : l[k]? = some x) (ht : m[t]? = some r) : (placedM l c m)[k * m.length + t]? = some (rowP l.length c m.length k x r) := by
  unfold placedM
  rw [flat_get (s := m.length) _ k t (fun u hu => ?_) (List.getElem?_eq_some_iff.mp ht).1, List.getElem?_mapIdx, hk]
  · show (placeR l.length c m k x)[t]? = _
    unfold placeR
    rw [List.getElem?_map, ht]; rfl
  · obtain ⟨i, hi, rfl⟩ := List.mem_mapIdx.mp hu
    unfold placeR
    rw [List.length_map]
theorem gol_lt {n k : Nat} (h : 0 < n) : gol n k < n := by unfold gol; split <;> omega
theorem block_lt {n s k t : Nat} (hk : k < n) (ht : t < s) : k * s + t < n * s := by
  have : (k + 1) * s ≤ n * s := Nat.mul_le_mul_right s hk
  rw [Nat.add_mul] at this
  omega
theorem block_eq {s k k' a a' : Nat} (ha : a < s) (ha' : a' < s) (h : k * s + a = k' * s + a') : k = k' ∧ a = a' := by
  have e1 : (k * s + a) / s = k := by rw [Nat.mul_comm, Nat.mul_add_div (by omega), Nat.div_eq_of_lt ha]; rfl
  have e2 : (k' * s + a') / s = k' := by rw [Nat.mul_comm, Nat.mul_add_div (by omega), Nat.div_eq_of_lt ha']; rfl
  have e : k = k' := by rw [← e1, ← e2, h]
  subst e
  exact ⟨rfl, by omega⟩
theorem placed_step {k t x : Nat} {p : Nat × Nat} (hk : l[k]? = some x) (h : stepM m t x = some p) : stepM (placedM l c m) (k * m.length + t) 0 = some (gol l.length k * m.length + p.1, k * c + p.2) := by
  unfold stepM at h ⊢
  obtain ⟨r, hr, hp⟩ := Option.bind_eq_some_iff.mp h
  rw [placed_get hk hr]
  show (rowP l.length c m.length k x r)[0]? = _
  unfold rowP
  rw [List.getD_eq_getElem?_getD, hp]
  rfl
theorem placed_inv (ok : OkM m wd) (hx : ∀ x ∈ l, x < wd) {i x : Nat} {p : Nat × Nat} (h : stepM (placedM l c m) i x = some p) :
    ∃ k t y p0, l[k]? = some y ∧ k < l.length ∧ t < m.length ∧ i = k * m.length + t ∧ x = 0 ∧ stepM m t y = some p0 ∧ p = (gol l.length k * m.length + p0.1, k * c + p0.2) := by
  unfold stepM at h
  obtain ⟨r, hr, hp⟩ := Option.bind_eq_some_iff.mp h
  have hi := (List.getElem?_eq_some_iff.mp hr).1
  rw [placed_len] at hi
  have s0 := ok.ne
  have hk : i / m.length < l.length := (Nat.div_lt_iff_lt_mul s0).mpr hi
  have ht : i % m.length < m.length := Nat.mod_lt _ s0
  have ei : i = (i / m.length) * m.length + i % m.length := by rw [Nat.mul_comm]; exact (Nat.div_add_mod _ _).symm
  have hk' := List.getElem?_eq_getElem hk
  obtain ⟨p0, h0, _⟩ := ok.step ht (hx _ (List.getElem_mem hk))
  have z := placed_step (c := c) hk' h0
  rw [← ei] at z
  have ex : x = 0 := by
    have hr2 := placed_get (c := c) hk' (List.getElem?_eq_getElem ht)
    rw [← ei, hr] at hr2
    have e := Option.some.inj hr2
    rw [e] at hp
    have := (List.getElem?_eq_some_iff.mp hp).1
    unfold rowP at this
    simpa using this
  subst ex
  refine ⟨_, _, _, p0, hk', hk, ht, ei, rfl, h0, ?_⟩
  have e2 : stepM (placedM l c m) i 0 = some p := by unfold stepM; rw [hr]; exact hp
  rw [e2] at z
  exact Option.some.inj z
theorem step_ans {t x : Nat} {p : Nat × Nat} (ha : ∀ r ∈ m, ∀ p ∈ r, p.2 < c) (h : stepM m t x = some p) : p.2 < c := by
  unfold stepM at h
  obtain ⟨r, hr, hp⟩ := Option.bind_eq_some_iff.mp h
  exact ha r (List.mem_of_getElem? hr) p (List.mem_of_getElem? hp)
theorem placed_ok (ok : OkM m wd) (hx : ∀ x ∈ l, x < wd) (hl : 0 < l.length) (h1 : l.length ≤ 1000) (h2 : m.length ≤ 100) : OkM (placedM l c m) 1 := by
  have step : ∀ r ∈ placedM l c m, ∃ k t x r0, l[k]? = some x ∧ m[t]? = some r0 ∧ r = rowP l.length c m.length k x r0 := fun r hr => by
    unfold placedM at hr
    obtain ⟨u, hu, hr⟩ := List.mem_flatten.mp hr
    obtain ⟨k, hk, rfl⟩ := List.mem_mapIdx.mp hu
    obtain ⟨r0, h0, rfl⟩ := List.mem_map.mp hr
    obtain ⟨t, ht, e⟩ := List.getElem_of_mem h0
    exact ⟨k, t, _, r0, List.getElem?_eq_getElem hk, by rw [List.getElem?_eq_getElem ht, e], rfl⟩
  refine ⟨by rw [placed_len]; exact Nat.mul_pos hl ok.ne, by decide, fun r hr => ?_, fun r hr p hp => ?_, ?_, by decide⟩
  · obtain ⟨k, t, x, r0, _, _, rfl⟩ := step r hr
    rfl
  · obtain ⟨k, t, x, r0, hk, ht, rfl⟩ := step r hr
    rw [List.mem_singleton.mp hp, placed_len]
    have hxw := hx x (List.mem_of_getElem? hk)
    have hr0 := List.mem_of_getElem? ht
    have hxl : x < r0.length := by rw [ok.len r0 hr0]; exact hxw
    refine block_lt (gol_lt hl) ?_
    rw [List.getD_eq_getElem?_getD, List.getElem?_eq_getElem hxl]
    exact ok.nx r0 hr0 _ (List.getElem_mem hxl)
  · rw [placed_len]
    exact Nat.le_trans (Nat.mul_le_mul h1 h2) (by decide)
/-- what is left stands at one place -/
theorem mem_left_placed (ok : OkM m wd) (hx : ∀ x ∈ l, x < wd) (ha : ∀ r ∈ m, ∀ p ∈ r, p.2 < c) {ss : List Nat} {k a x i : Nat} (hk : l[k]? = some x) (hac : a < c) :
    i ∈ leftOf (placedM l c m) ss 0 (k * c + a) ↔ ∃ j n, k * m.length + j ∈ ss ∧ j < m.length ∧ stepM m j x = some (n, a) ∧ i = gol l.length k * m.length + n := by
  have hkl := (List.getElem?_eq_some_iff.mp hk).1
  unfold leftOf
  rw [canon_mem, mem_moves]
  constructor
  · rintro ⟨_, t, ht, h⟩
    obtain ⟨k', t', y, p0, hk', _, ht', et, _, h0, ep⟩ := placed_inv ok hx h
    have e1 := congrArg Prod.snd ep
    have e2 := congrArg Prod.fst ep
    obtain ⟨rfl, ea⟩ := block_eq hac (step_ans ha h0) e1
    rw [hk] at hk'
    cases hk'
    refine ⟨t', p0.1, by rw [← et]; exact ht, ht', ?_, e2⟩
    rw [h0, ea]
  · rintro ⟨j, n, hj, hjs, h, rfl⟩
    refine ⟨?_, _, hj, placed_step hk h⟩
    rw [placed_len]
    exact block_lt (gol_lt (by omega)) (ok.step_lt h)
end
/-! ### the finite world -/
def placedU (n s1 s2 : Nat) : List Sta := ((List.range (n * s1)).map fun i => (i, List.range (n * s2))) ++
  (List.range n).flatMap fun g => (List.range s1).flatMap fun t => (subs (List.range s2)).map fun ss => (g * s1 + t, ss.map (g * s2 + ·))
theorem placedU_len (n s1 s2 : Nat) : (placedU n s1 s2).length = n * s1 + n * (s1 * 2 ^ s2) := by
  unfold placedU
  rw [List.length_append, List.length_map, List.length_range, flatMap_len (c := s1 * 2 ^ s2) _ fun g _ => ?_, List.length_range]
  rw [flatMap_len (c := 2 ^ s2) _ fun t _ => by rw [List.length_map, subs_len, List.length_range], List.length_range]
theorem placedU_mem {n s1 s2 : Nat} {q : Sta} : q ∈ placedU n s1 s2 ↔ (q.1 < n * s1 ∧ q.2 = List.range (n * s2)) ∨ ∃ g t ss, g < n ∧ t < s1 ∧ ss ∈ subs (List.range s2) ∧ q = (g * s1 + t, ss.map (g * s2 + ·)) := by
  unfold placedU
  rw [List.mem_append]
  refine or_congr ⟨fun h => ?_, fun h => ?_⟩ ⟨fun h => ?_, fun h => ?_⟩
  · obtain ⟨i, hi, rfl⟩ := List.mem_map.mp h
    exact ⟨List.mem_range.mp hi, rfl⟩
  · exact List.mem_map.mpr ⟨q.1, List.mem_range.mpr h.1, by rw [← h.2]⟩
  · obtain ⟨g, hg, h⟩ := List.mem_flatMap.mp h
    obtain ⟨t, ht, h⟩ := List.mem_flatMap.mp h
    obtain ⟨ss, hs, rfl⟩ := List.mem_map.mp h
    exact ⟨g, t, ss, List.mem_range.mp hg, List.mem_range.mp ht, hs, rfl⟩
  · obtain ⟨g, t, ss, h1, h2, h3, rfl⟩ := h
    exact List.mem_flatMap.mpr ⟨g, List.mem_range.mpr h1, List.mem_flatMap.mpr ⟨t, List.mem_range.mpr h2, List.mem_map.mpr ⟨ss, h3, rfl⟩⟩⟩
section
variable {l : List Nat} {c wd : Nat} {m1 m2 : Mach}
theorem map_add_sorted {b : Nat} {s : List Nat} (h : s.Pairwise (· < ·)) : (s.map (b + ·)).Pairwise (· < ·) := by
  rw [List.pairwise_map]
  exact h.imp fun q => by omega
theorem placed_world (ok1 : OkM m1 wd) (ok2 : OkM m2 wd) (hx : ∀ x ∈ l, x < wd) (a1 : ∀ r ∈ m1, ∀ p ∈ r, p.2 < c) (a2 : ∀ r ∈ m2, ∀ p ∈ r, p.2 < c) (hl : 0 < l.length) (hl2 : l.length ≤ 160) (l1 : m1.length ≤ 5) (l2 : m2.length ≤ 5) :
    World1 (placedM l c m1) (placedM l c m2) (placedU l.length m1.length m2.length) where
  st := fun b hb => by
    rw [placed_len] at hb
    refine placedU_mem.mpr (.inl ⟨hb, ?_⟩)
    show List.range _ = _
    rw [placed_len]
  lt := fun q hq => by
    rw [placed_len]
    rcases placedU_mem.mp hq with h | ⟨g, t, ss, h1, h2, _, rfl⟩
    · exact h.1
    · exact block_lt h1 h2
  in2 := fun q hq i hi => by
    rw [placed_len]
    rcases placedU_mem.mp hq with h | ⟨g, t, ss, h1, h2, h3, rfl⟩
    · rw [h.2] at hi
      exact List.mem_range.mp hi
    · obtain ⟨j, hj, rfl⟩ := List.mem_map.mp hi
      exact block_lt h1 (List.mem_range.mp (subs_mem h3 j hj))
  len := fun q hq => by
    rcases placedU_mem.mp hq with h | ⟨g, t, ss, h1, h2, h3, rfl⟩
    · rw [h.2, List.length_range]
      exact Nat.le_trans (Nat.mul_le_mul hl2 l2) (by decide)
    · show (ss.map _).length ≤ _
      have := subs_slen h3
      rw [List.length_range] at this
      rw [List.length_map]
      omega
  few := fun q hq x p hp => by
    rcases placedU_mem.mp hq with h | ⟨g, t, ss, h1, h2, h3, rfl⟩
    · rw [h.2]
      obtain ⟨k, t, y, p0, hk, hkl, ht, _, rfl, h0, rfl⟩ := placed_inv ok1 hx hp
      have e : (movesM (placedM l c m2) (List.range (l.length * m2.length)) 0 (k * c + p0.2)).length = ((List.range (l.length * m2.length)).filter fun t => ((stepM (placedM l c m2) t 0).bind fun p => if p.2 = k * c + p0.2 then some p.1 else none).isSome).length := by
        unfold movesM
        rw [List.length_filterMap_eq_countP, List.countP_eq_length_filter]
      show (movesM _ _ _ (k * c + p0.2)).length < 64
      rw [e]
      have z := nodup_le (l := (List.range (l.length * m2.length)).filter fun t => ((stepM (placedM l c m2) t 0).bind fun p => if p.2 = k * c + p0.2 then some p.1 else none).isSome) (m := (List.range m2.length).map (k * m2.length + ·)) (List.Pairwise.filter _ List.nodup_range) fun i hi => by
        obtain ⟨_, hi⟩ := List.mem_filter.mp hi
        obtain ⟨v, hv⟩ := Option.isSome_iff_exists.mp hi
        obtain ⟨p2, hp2, hv⟩ := Option.bind_eq_some_iff.mp hv
        split at hv
        · rename_i e2
          obtain ⟨k', t', y', p3, _, _, ht', rfl, _, h3, rfl⟩ := placed_inv ok2 hx hp2
          obtain ⟨rfl, _⟩ := block_eq (step_ans a2 h3) (step_ans a1 h0) e2
          exact List.mem_map.mpr ⟨t', List.mem_range.mpr ht', rfl⟩
        · cases hv
      rw [List.length_map, List.length_range] at z
      omega
    · refine Nat.lt_of_le_of_lt (moves_len _ _ _ _) ?_
      show (ss.map _).length < 64
      have := subs_slen h3
      rw [List.length_range] at this
      rw [List.length_map]
      omega
  nxt := fun q hq x q' h => by
    obtain ⟨p, hp, rfl⟩ := stepS_some h
    obtain ⟨k, t, y, p0, hk, hkl, ht, _, rfl, h0, rfl⟩ := placed_inv ok1 hx hp
    refine placedU_mem.mpr (.inr ⟨gol l.length k, p0.1, (List.range m2.length).filter fun j => decide (gol l.length k * m2.length + j ∈ leftOf (placedM l c m2) q.2 0 (k * c + p0.2)), gol_lt hl, ok1.step_lt h0, filter_subs _ _, ?_⟩)
    refine Prod.ext rfl ?_
    show leftOf (placedM l c m2) q.2 0 (k * c + p0.2) = _
    refine sorted_uniq (canon_sorted _ _) (map_add_sorted (List.Pairwise.filter _ List.pairwise_lt_range)) fun i => ?_
    rw [List.mem_map]
    constructor
    · intro hi
      obtain ⟨j, n, _, _, h2, rfl⟩ := (mem_left_placed ok2 hx a2 hk (step_ans a1 h0)).mp hi
      exact ⟨n, List.mem_filter.mpr ⟨List.mem_range.mpr (ok2.step_lt h2), decide_eq_true hi⟩, rfl⟩
    · rintro ⟨j, hj, rfl⟩
      exact of_decide_eq_true (List.mem_filter.mp hj).2
  size := by
    rw [placedU_len]
    have h1 : l.length * m1.length ≤ 160 * 5 := Nat.mul_le_mul hl2 l1
    have h2 : 2 ^ m2.length ≤ 2 ^ 5 := Nat.pow_le_pow_right (by decide) l2
    have h3 : l.length * (m1.length * 2 ^ m2.length) ≤ 160 * (5 * 2 ^ 5) := Nat.mul_le_mul hl2 (Nat.mul_le_mul l1 h2)
    omega
/-! ### the word is fed -/
theorem placed_one (ok2 : OkM m2 wd) (hx : ∀ x ∈ l, x < wd) (a1 : ∀ r ∈ m1, ∀ p ∈ r, p.2 < c) (a2 : ∀ r ∈ m2, ∀ p ∈ r, p.2 < c) {k x : Nat} (hk : l[k]? = some x) {q q' Qs : Sta} (e1 : Qs.1 = k * m1.length + q.1) (e2 : ∀ j, j < m2.length → (k * m2.length + j ∈ Qs.2 ↔ j ∈ q.2)) (hq : ∀ j ∈ q.2, j < m2.length)
    (h : stepS m1 m2 q x = some q') : ∃ Q', stepS (placedM l c m1) (placedM l c m2) Qs 0 = some Q' ∧ Q'.1 = gol l.length k * m1.length + q'.1 ∧ (∀ j, j < m2.length → (gol l.length k * m2.length + j ∈ Q'.2 ↔ j ∈ q'.2)) ∧ ∀ i ∈ Q'.2, ∃ j ∈ q'.2, i = gol l.length k * m2.length + j := by
  obtain ⟨p, hp, rfl⟩ := stepS_some h
  have hs := placed_step (c := c) hk hp
  rw [← e1] at hs
  have mem : ∀ i, i ∈ leftOf (placedM l c m2) Qs.2 0 (k * c + p.2) ↔ ∃ n ∈ leftOf m2 q.2 x p.2, i = gol l.length k * m2.length + n := fun i => by
    rw [mem_left_placed ok2 hx a2 hk (step_ans a1 hp)]
    constructor
    · rintro ⟨j, n, hj, hjs, h2, rfl⟩
      refine ⟨n, ?_, rfl⟩
      unfold leftOf
      rw [canon_mem, mem_moves]
      exact ⟨ok2.step_lt h2, j, (e2 j hjs).mp hj, h2⟩
    · rintro ⟨n, hn, rfl⟩
      unfold leftOf at hn
      rw [canon_mem, mem_moves] at hn
      obtain ⟨_, j, hj, h2⟩ := hn
      exact ⟨j, n, (e2 j (hq j hj)).mpr hj, hq j hj, h2, rfl⟩
  refine ⟨_, by unfold stepS; rw [hs]; rfl, rfl, fun j hj => ?_, fun i hi => (mem i).mp hi⟩
  rw [mem]
  constructor
  · rintro ⟨n, hn, e⟩
    have : j = n := by omega
    rw [this]; exact hn
  · exact fun hn => ⟨j, hn, rfl⟩
theorem placed_run (ok1 : OkM m1 wd) (ok2 : OkM m2 wd) (hx : ∀ x ∈ l, x < wd) (a1 : ∀ r ∈ m1, ∀ p ∈ r, p.2 < c) (a2 : ∀ r ∈ m2, ∀ p ∈ r, p.2 < c) {qf : Sta} : ∀ (d k : Nat) (q Qs : Sta), k + d + 1 = l.length → Uni m1 m2 q → Qs.1 = k * m1.length + q.1 → (∀ j, j < m2.length → (k * m2.length + j ∈ Qs.2 ↔ j ∈ q.2)) →
    runW m1 m2 q (l.drop k) = some qf → ∃ Qf, runW (placedM l c m1) (placedM l c m2) Qs (List.replicate (d + 1) 0) = some Qf ∧ ∀ i ∈ Qf.2, ∃ j, j ∈ qf.2
  | d, k, q, Qs, hd, uq, e1, e2, h => by
    have hkl : k < l.length := by omega
    have hk := List.getElem?_eq_getElem hkl
    rw [List.drop_eq_getElem_cons hkl] at h
    obtain ⟨q', h1, h2⟩ := Option.bind_eq_some_iff.mp (show (stepS m1 m2 q l[k]).bind (fun q' => runW m1 m2 q' (l.drop (k + 1))) = some qf from h)
    obtain ⟨Q', s1, s2, s3, s4⟩ := placed_one ok2 hx a1 a2 hk e1 e2 uq.lt h1
    have run : ∀ n, runW (placedM l c m1) (placedM l c m2) Qs (List.replicate (n + 1) 0) = runW (placedM l c m1) (placedM l c m2) Q' (List.replicate n 0) := fun n => by
      show (stepS _ _ Qs 0).bind (fun q' => runW _ _ q' (List.replicate n 0)) = _
      rw [s1]; rfl
    rw [run]
    cases d with
    | zero =>
      rw [List.drop_eq_nil_of_le (by omega)] at h2
      cases h2
      exact ⟨Q', rfl, fun i hi => let ⟨j, hj, _⟩ := s4 i hi; ⟨j, hj⟩⟩
    | succ d =>
      have eg : gol l.length k = k + 1 := by unfold gol; rw [if_pos (by omega)]
      rw [eg] at s2 s3
      exact placed_run ok1 ok2 hx a1 a2 d (k + 1) q' Q' (by omega) (uni_step ok1 h1) s2 s3 h2
theorem placed_dead (ok1 : OkM m1 wd) (ok2 : OkM m2 wd) (hx : ∀ x ∈ l, x < wd) (a1 : ∀ r ∈ m1, ∀ p ∈ r, p.2 < c) (a2 : ∀ r ∈ m2, ∀ p ∈ r, p.2 < c) (hl : 0 < l.length) {b : Nat} {q : Sta} (hb : b < m1.length) (h : runW m1 m2 (st0 m2 b) l = some q) (hq : q.2 = []) :
    ∃ k Qf, RN (placedM l c m1) (placedM l c m2) k Qf ∧ Qf.2 = [] := by
  obtain ⟨Qf, h1, h2⟩ := placed_run (c := c) ok1 ok2 hx a1 a2 (l.length - 1) 0 (st0 m2 b) (st0 (placedM l c m2) b) (by omega) (uni_st0 hb) (by show b = 0 * _ + b; omega) (fun j hj => by
    show 0 * m2.length + j ∈ List.range _ ↔ j ∈ List.range _
    rw [List.mem_range, List.mem_range, placed_len, Nat.zero_mul, Nat.zero_add]
    refine ⟨fun _ => hj, fun _ => ?_⟩
    have := Nat.mul_le_mul_right m2.length hl
    omega) h
  refine ⟨_, Qf, ⟨b, _, ?_, rfl, h1⟩, ?_⟩
  · rw [placed_len]
    have := Nat.mul_le_mul_right m1.length hl
    omega
  · cases e : Qf.2 with
    | nil => rfl
    | cons i r =>
      obtain ⟨j, hj⟩ := h2 i (by rw [e]; exact List.mem_cons_self)
      rw [hq] at hj
      cases hj
end
end Wok
namespace Wok
open PySem PySem.Spec PyProof.Rows L2
open Evl (Ex EvT)
/-! ### data that can be shown -/
structure Sh (d : PyData) (c e : Nat) : Prop where
  s : d.showable = true
  h : d.hasDict = false
  l : d.leavesShort 13 = true
  w : d.weight ≤ c
  d : d.depth ≤ e
theorem Sh.intN {n : Nat} (h : n < 16) : Sh (eI n) 5 0 := by
  have z : ∀ n, n < 16 → (eI n).showable = true ∧ (eI n).hasDict = false ∧ (eI n).leavesShort 13 = true ∧ (eI n).weight ≤ 5 ∧ (eI n).depth ≤ 0 := by decide +kernel
  obtain ⟨h1, h2, h3, h4, h5⟩ := z n h
  exact ⟨h1, h2, h3, h4, h5⟩
section
variable {c e : Nat}
theorem sh_all : ∀ {ds : List PyData}, (∀ d ∈ ds, Sh d c e) → PyData.showableAll ds = true ∧ PyData.hasDictAll ds = false ∧ PyData.leavesShortAll 13 ds = true ∧ PyData.weightAll ds ≤ ds.length * (c + 1) ∧ PyData.depthAll ds ≤ e
  | [], _ => ⟨rfl, rfl, rfl, Nat.zero_le _, Nat.zero_le _⟩
  | d :: ds, h => by
    have a := h d List.mem_cons_self
    obtain ⟨b1, b2, b3, b4, b5⟩ := sh_all (ds := ds) fun x hx => h x (List.mem_cons_of_mem _ hx)
    refine ⟨?_, ?_, ?_, ?_, ?_⟩
    · show (d.showable && PyData.showableAll ds) = true
      rw [a.s, b1]; rfl
    · show (d.hasDict || PyData.hasDictAll ds) = false
      rw [a.h, b2]; rfl
    · show (d.leavesShort 13 && PyData.leavesShortAll 13 ds) = true
      rw [a.l, b3]; rfl
    · show d.weight + 1 + PyData.weightAll ds ≤ (ds.length + 1) * (c + 1)
      have := a.w
      rw [Nat.add_mul]
      omega
    · show max d.depth (PyData.depthAll ds) ≤ e
      exact Nat.max_le.mpr ⟨a.d, b5⟩
theorem Sh.tup {ds : List PyData} {n : Nat} (h : ∀ d ∈ ds, Sh d c e) (hn : ds.length ≤ n) : Sh (.tuple ds) (n * (c + 1)) (e + 1) := by
  obtain ⟨b1, b2, b3, b4, b5⟩ := sh_all h
  exact ⟨b1, b2, b3, Nat.le_trans b4 (Nat.mul_le_mul_right _ hn), Nat.succ_le_succ b5⟩
theorem Sh.lst {ds : List PyData} {n : Nat} (h : ∀ d ∈ ds, Sh d c e) (hn : ds.length ≤ n) : Sh (.list ds) (n * (c + 1)) (e + 1) := by
  obtain ⟨b1, b2, b3, b4, b5⟩ := sh_all h
  exact ⟨b1, b2, b3, Nat.le_trans b4 (Nat.mul_le_mul_right _ hn), Nat.succ_le_succ b5⟩
theorem Sh.len {d : PyData} (h : Sh d c e) (hc : c ≤ 1000000) : d.shown.length ≤ sizeLine := PyData.shown_fits (by decide) (by decide) h.l (Nat.le_trans h.w (Nat.le_trans hc (by decide)))
end
theorem sh_M {m : Mach} {wd : Nat} (ok : OkM m wd) (l5 : m.length ≤ 5) (w2 : wd ≤ 2) (ha : ∀ r ∈ m, ∀ p ∈ r, p.2 < 4) : Sh (eM m) (5 * (2 * (2 * (5 + 1) + 1) + 1)) 3 := by
  refine .tup (fun d hd => ?_) (by rw [List.length_map]; exact l5)
  obtain ⟨r, hr, rfl⟩ := List.mem_map.mp hd
  refine .tup (fun d hd => ?_) (by rw [List.length_map, ok.len r hr]; exact w2)
  obtain ⟨p, hp, rfl⟩ := List.mem_map.mp hd
  have h1 := ok.nx r hr p hp
  have h2 := ha r hr p hp
  refine .tup (n := 2) (fun d hd => ?_) (Nat.le_refl _)
  rcases List.mem_cons.mp hd with z | z
  · rw [z]; exact .intN (by omega)
  · rw [List.mem_singleton.mp z]; exact .intN (by omega)
theorem sh_told : Sh (.tuple [.str "told", eI 1]) 30 1 := ⟨by decide +kernel, by decide +kernel, by decide +kernel, by decide +kernel, by decide +kernel⟩
section
variable {K : PySem.W.Frag} {σ : St} {H : Hp} {te ta tb : TE} {ds : List PyData} {c e : Nat} {v : V}
theorem Dt.str_of {x : Str} (h : Dt K H v (.str x)) : v = .str x := by cases h; rfl
theorem dv_repr (h : Dv K te σ H (.tuple ds)) (sh : Sh (.tuple ds) c e) (hc : c ≤ 1000000) (he : e ≤ 40) : Dv K (tCB (rRepr K) (tCons te tNil)) σ H (.str (PyData.tuple ds).shown) := fun H1 ee Q q =>
  h H1 ee _ fun v H2 e2 dv => by
    obtain ⟨a, xs, rfl, _, _⟩ := dv.tup_of
    exact ⟨a, _, rfl, dv.dp, sh.s, sh.h, Nat.le_trans sh.d he, sh.len hc, q _ H2 e2 (.str _)⟩
theorem dv_reprL (h : Lw K te σ H ds) (sh : Sh (.list ds) c e) (hc : c ≤ 1000000) (he : e ≤ 40) : Dv K (tCB (rRepr K) (tCons te tNil)) σ H (.str (PyData.list ds).shown) := fun H1 ee Q q =>
  h H1 ee _ fun p xs H2 e2 hp dl => ⟨p, _, rfl, .lst (.inl (.inl hp)) dl.dp, sh.s, sh.h, Nat.le_trans sh.d he, sh.len hc, q _ H2 e2 (.str _)⟩
/-- two texts that are the same -/
theorem dv_neS {x : Str} (ha : Dv K ta σ H (.str x)) (hb : Dv K tb σ H (.str x)) : Dv K (tOp rNe ta tb) σ H (.bool false) := fun H1 e Q q =>
  ha H1 e _ fun v H2 e2 dx => hb H2 (e.trans e2) _ fun w H3 e3 dy => by
    have ex := dx.str_of
    have ey := dy.str_of
    subst ex ey
    refine ⟨rfl, ?_⟩
    have z : (!decide (V.str x = V.str x)) = false := by simp
    rw [z]
    exact q _ H3 (e2.trans e3) (.bl _)
end
/-! ### a call by the parameters' names alone -/
def tKw2 (sp : Sp) (tk : TA) : TE := fun σ H Q => tk σ H fun zs H2 => ∃ a b, zs = [a, b] ∧ sp [b, a] H2 Q E0
section
variable {X : Cx} {j k : Nat} {x p1 p2 : Str} {sp : Sp} {p pos : Pos} {kws : List Keyword} {tk : TA} {e : Expr} {es : List Expr} {t : TA} {ps : List Str}
theorem pe_calK0 (C : CalK X.prog X.w X.K X.mg X.base k x p1 p2 sp) (hr : Room j X.A) (hj : k ≤ j) (hkw : PK X kws tk) (hg : Gl X x := by rfl)
    (hall : (backToKw pos (keywordEach kws X.env)).all (·.1.isSome) = true := by rfl) (hks : (backToKw pos (keywordEach kws X.env)).filterMap (·.1) = [p2, p1] := by rfl) (hdb : (x == ("__debug__" : Str)) = false := by decide)
    (hpl : ((backTo pos (starEach [] X.env)).any (·.1) || (backToKw pos (keywordEach kws X.env)).any (·.1.isNone)) = false := by rfl) :
    PE X (.Call (.Name x p) [] kws pos) (tKw2 sp tk) := by
  obtain ⟨f, fd, F, hm, hk, _, hb⟩ := C.ex
  refine ⟨fun pins s σ H Q I h => ?_⟩
  refine wpAny_Call_Name_kw (ld_glob I hg hm ?_ hdb)
  refine PySem.W.callWith_KW0 (h₀ := X.base) I.ok.mod.kin hk hall ?_ hpl
  refine thn (hkw.run pos pins s σ H _ I h) fun ws s2 ⟨zs, H2, I2, rz, a, b, ez, q2⟩ => ⟨I2.kIn, ?_⟩
  rw [hks]
  subst ez
  obtain ⟨a', b', rfl, ra, rb⟩ : ∃ a' b', ws = [a', b'] ∧ RelV a a' ∧ RelV b b' := by
    cases rz with
    | cons r1 t =>
      cases t with
      | cons r2 t2 => cases t2; exact ⟨_, _, rfl, r1, r2⟩
  refine wpAny_call (codeAny_mono (F.run X.A X.stack s2 H2 ⟨[], [(p2, a'), (p1, b')]⟩ [b', a'] [b, a] Q E0 (hr.mono hj) I2.env0 (hb s2 a' b') (.cons rb (.cons ra .nil)) q2) fun r s' hq => ?_)
  cases r with
  | error e => exact pass0 pins σ H2 s2 e s' I2 hq
  | ok fl =>
    cases fl with
    | ret u => exact I2.after hq
    | next => exact False.elim hq
    | brk => exact False.elim hq
    | cont => exact False.elim hq
end
section
variable {K : PySem.W.Frag} {σ : St} {H : Hp} {ta tb : TE} {d1 d2 : PyData} {dom : List PyData → Prop} {R : List PyData → PyData → Prop}
theorem dv_callK0 (ha : Dv K ta σ H d2) (hb : Dv K tb σ H d1) (hd : dom [d1, d2]) : Rv (tKw2 (SpR K dom R) (tCons ta (tCons tb tNil))) σ H (fun v H' => ∃ d, R [d1, d2] d ∧ Dt K H' v d) := fun H1 e Q q =>
  ha H1 e _ fun v H2 e2 dv => hb H2 (e.trans e2) _ fun w H3 e3 dw => ⟨v, w, rfl, [d1, d2], .cons dw (.cons (dv.ex e3) .nil), hd, fun d u H' r e4 du => q u H' (e2.trans (e3.trans e4)) ⟨d, r, du⟩⟩
end
/-! ### defs called where nothing is being shown -/
structure CalG (P : Program) (w : World) (K : PySem.W.Frag) (mg : Str → Option Value) (base : Heap) (k : Nat) (x : Str) (ps : List Str) (sp : Sp) : Prop where
  ex : ∃ f fd, FnOkG P w K mg base k f fd ps sp ∧ mg x = some (.ref f) ∧ PySem.W.keepIn K (.ref f) = true ∧ Binds K fd ps []
theorem FnOkG.mono {P : Program} {w : World} {K : PySem.W.Frag} {mg : Str → Option Value} {base : Heap} {j k : Nat} {f : Addr} {fd : FuncData} {ps : List Str} {sp : Sp} (F : FnOkG P w K mg base j f fd ps sp) (h : j ≤ k) : FnOkG P w K mg base k f fd ps sp :=
  ⟨F.len, fun A outer s H args us vs Q E hr => F.run A outer s H args us vs Q E (hr.mono h)⟩
section
variable {X : Cx} {j k : Nat} {x : Str} {sp : Sp} {p pos : Pos} {e : Expr} {es : List Expr} {t : TA} {ps : List Str}
theorem pe_calG (C : CalG X.prog X.w X.K X.mg X.base k x ps sp) (hr : Room j X.A) (hj : k ≤ j) (hG : X.A.guards = some []) (ha : PA X (e :: es) t) (hg : Gl X x := by rfl)
    (hdb : (x == ("__debug__" : Str)) = false := by decide) (he : starEach (e :: es) X.env = (false, eval e X.env) :: starEach es X.env := by rfl) (hpl : (backTo pos (starEach es X.env)).any (·.1) = false := by rfl) :
    PE X (.Call (.Name x p) (e :: es) [] pos) (tCall sp [] E0 t) := by
  obtain ⟨f, fd, F, hm, hk, hb⟩ := C.ex
  exact pe_callG F (hr.mono hj) hG hg hm hk hb ha hdb he hpl
end
section
variable {P : Program} {w : World} {K : PySem.W.Frag} {mg : Str → Option Value} {base : Heap} {x : Str} {st : Stmt} {N ps : List Str} {k : Nat} {sp : Sp} {kws : List (Str × V)}
theorem calG (D : HasD K mg x st [] kws) (S : FnScope N ps (defScope st)) (len : ∀ vs H Q E, sp vs H Q E → vs.length = ps.length)
    (hb : ∀ (kV doc pm : Value) (an : Option Addr) (cdv ct : Value) (us : List Value), us.length = ps.length → bindArgs (PySem.W.fnOf x x (defArgs st) (defBody st) (defScope st) .none kV doc pm an cdv ct) ⟨us, []⟩ = pure (ps.zip us))
    (hbody : ∀ (f : Addr) (cdv : Value) (A : Around) (outer : List Env) (s : Shared) (H : Hp) (vs : List V) (Q : VK) (E : XK), Room k (A.deeper (envOfC x (defScope st) s.heap.objs.size f cdv)) → A.guards = some [] → sp vs H Q E →
      ∃ t, PSs (cxOf CX0 P w K mg base N x (defScope st) f cdv A outer s H E).nox (defBody st) t ∧ t { nx := fun _ H' => Q .non H', rt := Q } (start N vs) H) : CalG P w K mg base (k + 1) x ps sp := by
  obtain ⟨f, fd, F, hm⟩ := D.ex
  exact ⟨f, fd, fnG_of F S len fun cdv A outer s H vs Q E hr hG h => (hbody f cdv A outer s H vs Q E hr hG h).imp fun t z => ⟨PSs.nox z.1, z.2⟩, hm, F.kp, F.bindsN hb⟩
end
theorem feed_inj {l l' : List Nat} {c c' : Nat} (hl : 0 < l.length) (h : feedD l c = feedD l' c') : l = l' ∧ c = c' := by
  unfold feedD at h
  injection h with h
  have ll : l.length = l'.length := by have := congrArg List.length h; simpa using this
  have at_ : ∀ i, (l[i]?).map (placeD l.length c i) = (l'[i]?).map (placeD l'.length c' i) := fun i => by
    have z := congrArg (·[i]?) h
    simpa only [List.getElem?_mapIdx] using z
  have pl : ∀ {n n' k x x' : Nat}, placeD n c k x = placeD n' c' k x' → x = x' ∧ moveD n c k = moveD n' c' k := fun {n n' k x x'} z => by
    unfold placeD at z
    injection z with z
    injection z with z _
    injection z with z
    injection z with z1 z
    injection z with z2 _
    exact ⟨eI_inj z1, z2⟩
  refine ⟨List.ext_getElem? fun i => ?_, ?_⟩
  · have z := at_ i
    cases h1 : l[i]? with
    | none =>
      cases h2 : l'[i]? with
      | none => rfl
      | some y => rw [h1, h2] at z; cases z
    | some x =>
      cases h2 : l'[i]? with
      | none => rw [h1, h2] at z; cases z
      | some y =>
        rw [h1, h2] at z
        rw [(pl (Option.some.inj z)).1]
  · have z := at_ 0
    rw [List.getElem?_eq_getElem hl, List.getElem?_eq_getElem (show 0 < l'.length by omega)] at z
    have z2 := (pl (Option.some.inj z)).2
    unfold moveD at z2
    injection z2 with z2
    have := congrArg List.length z2
    simpa using this
section
variable {P : Program} {w : World} {K : PySem.W.Frag} {mg : Str → Option Value} {base : Heap}
def rightDom (ds : List PyData) : Prop := ∃ m1 m2 wd, ds = [eM m1, eM m2] ∧ GoodP m1 m2 wd
theorem gA_lt {m : Mach} {c : Nat} (h : gA m < c) : ∀ r ∈ m, ∀ p ∈ r, p.2 < c := fun r hr p hp =>
  Nat.lt_of_le_of_lt ((gA_le (ansL m) 0).2 p.2 (List.mem_flatMap.mpr ⟨r, hr, List.mem_map.mpr ⟨p, hp, rfl⟩⟩)) h
theorem gA_small {m : Mach} (h : ∀ r ∈ m, ∀ p ∈ r, p.2 < 4) : gA m ≤ 3 := by
  rcases gA_mem (ansL m) 0 with z | z
  · unfold gA; omega
  · obtain ⟨r, hr, hz⟩ := List.mem_flatMap.mp z
    obtain ⟨p, hp, e⟩ := List.mem_map.mp hz
    have := h r hr p hp
    unfold gA
    omega
theorem sc_law_is_right : FnScope ["_law_low", "_law_high", "_law_seen", "_law_told", "_law_size", "_law_kinds_here", "_law_mine", "_law_theirs"] ["_law_low", "_law_high"] (defScope s_law_is_right) := ⟨rfl, rfl, rfl, by decide +kernel, rfl, by decide +kernel, by decide +kernel⟩
theorem cal_law_is_right (T : Fr mg) (D : HasD K mg "_law_is_right" s_law_is_right [] []) (CK_parting_surrounding : CalK P w K mg base 10 "parting_surrounding" "one" "other" (SpR K partDom partRes))
    (C_law_short : Cal P w K mg base 1 "_law_short" ["_law_low", "_law_high"] [] (SpR K shoDom shoRes)) (C_law_kinds : Cal P w K mg base 1 "_law_kinds" ["_law_low", "_law_high"] [] (SpR K kinDom kinRes))
    (C_law_around_judged : Cal P w K mg base 3 "_law_around_judged" ["_law_wide", "_law_kinds_here", "_law_what"] [] (SpR K judDom judRes)) (C_law_placed : Cal P w K mg base 1 "_law_placed" ["_law_around", "_law_mach"] [] (SpR K plaDom plaRes))
    (C_law_may : Cal P w K mg base 1 "_law_may" ["_law_low", "_law_high", "_law_begins"] [] (spMay K)) (C_law_every : Cal P w K mg base 1 "_law_every" ["_law_mach"] [] (SpL K machD everyR)) :
    CalG P w K mg base 11 "_law_is_right" ["_law_low", "_law_high"] (SpR K rightDom yes) := by
  have C_parting_surrounding := CK_parting_surrounding.cal
  refine calG D sc_law_is_right (fun vs H Q E ⟨ds, h1, ⟨_, _, _, e, _⟩, _⟩ => by rw [e] at h1; exact h1.length) (fun _ _ _ _ _ _ us hl => match us, hl with | [_, _], _ => rfl) fun f cdv A outer s H vs Q E hr hG ⟨ds, hd, ⟨m1, m2, wd, e, g⟩, q⟩ => ?_
  subst e
  obtain ⟨x1, x2, rfl, d1, d2⟩ := hd.two
  refine ⟨_, (pss_cons (ps_set (i := 2) sc_law_is_right.nd rfl (Or.inl rfl) (pe_callB (cr_repr hG hr.units) (by rfl) T.repr (by decide +kernel) (pa_cons (pe_lst (pa_cons (pv 0) (pa_cons (pv 1) pa_nil))) pa_nil)))
      (pss_cons (ps_set (i := 3) sc_law_is_right.nd rfl (Or.inl rfl) (pe_cal C_parting_surrounding hr (by decide) (pa_cons (pv 0) (pa_cons (pv 1) pa_nil))))
      (pss_cons (ps_if (pt_cmpR op_ne (pe_callB (cr_repr hG hr.units) (by rfl) T.repr (by decide +kernel) (pa_cons (pe_lst (pa_cons (pv 0) (pa_cons (pv 1) pa_nil))) pa_nil)) (pv 2) (nomark _)) (pss_one (ps_ret pe_bl)) pss_nil)
      (pss_cons (ps_set (i := 4) sc_law_is_right.nd rfl (Or.inl rfl) (pe_cal C_law_short hr (by decide) (pa_cons (pv 0) (pa_cons (pv 1) pa_nil))))
      (pss_cons (ps_if (pt_cmpR op_isN (pv 4) pe_non (nomark _)) (pss_one (ps_ret (pe_and (pe_cmpR op_isN (pv 3) pe_non (nomark _)) (pe_one (pe_cmpR op_isN (pe_calK0 CK_parting_surrounding hr (by decide) (pk_cons (pv 1) (pk_cons (pv 0) pk_nil))) pe_non (nomark _)))))) pss_nil)
      (pss_cons (ps_set (i := 5) sc_law_is_right.nd rfl (Or.inl rfl) (pe_cal C_law_kinds hr (by decide) (pa_cons (pv 0) (pa_cons (pv 1) pa_nil))))
      (pss_cons (ps_if (PW.pt (pw_or (pt_cmpR op_ne (pe_callB (cr_repr hG hr.units) (by rfl) T.repr (by decide +kernel) (pa_cons (pe_cal C_law_around_judged hr (by decide) (pa_cons (pe_callB (call_lenK (K := K) rfl) (by rfl) T.len (by decide +kernel) (pa_cons (pe_ix (ix_tupK (K := K) rfl) (pv 0) pe_int (fun _ _ => rfl)) pa_nil)) (pa_cons (pv 5) (pa_cons (pv 3) pa_nil)))) pa_nil)) (pe_callB (cr_repr hG hr.units) (by rfl) T.repr (by decide +kernel) (pa_cons (pe_tup (pa_cons pe_str (pa_cons pe_int pa_nil))) pa_nil)) (nomark _)) (pw_or1 (pt_cmpR op_gt (pe_callB (call_lenK (K := K) rfl) (by rfl) T.len (by decide +kernel) (pa_cons (pv 3) pa_nil)) (pe_op op_add (pv 4) pe_int) (nomark _))))) (pss_one (ps_ret pe_bl)) pss_nil)
      (pss_cons (ps_par (i := 6) (j := 7) (by rfl) sc_law_is_right.nd rfl rfl (by decide) rfl rfl (pa_cons (pe_cal C_law_placed hr (by decide) (pa_cons (pv 3) (pa_cons (pv 0) pa_nil))) (pa_cons (pe_cal C_law_placed hr (by decide) (pa_cons (pv 3) (pa_cons (pv 1) pa_nil))) pa_nil)) (by rfl))
      (pss_one (ps_ret (pe_not (pe_cal C_law_may hr (by decide) (pa_cons (pv 6) (pa_cons (pv 7) (pa_cons (pe_cal C_law_every hr (by decide) (pa_cons (pv 6) pa_nil)) pa_nil))))))))))))))), ?_⟩
  have ok1 := g.ok1
  have ok2 := g.ok2
  have sm : Small m1 m2 wd := ⟨ok1, ok2, g.l1, g.l2, g.w2⟩
  have g1 := gA_small g.a1
  have g2 := gA_small g.a2
  have an1 : ∀ r ∈ m1, ∀ p ∈ r, p.2 < ansK m1 m2 := gA_lt (by unfold ansK; omega)
  have an2 : ∀ r ∈ m2, ∀ p ∈ r, p.2 < ansK m1 m2 := gA_lt (by unfold ansK; omega)
  have k5 : ansK m1 m2 ≤ 5 := by unfold ansK; omega
  have shL : Sh (.list [eM m1, eM m2]) (2 * (5 * (2 * (2 * (5 + 1) + 1) + 1) + 1)) 4 := .lst (fun d hd => by
    rcases List.mem_cons.mp hd with z | z
    · rw [z]; exact sh_M ok1 g.l1 g.w2 g.a1
    · rw [List.mem_singleton.mp z]; exact sh_M ok2 g.l2 g.w2 g.a2) (Nat.le_refl _)
  have pd : partDom [eM m1, eM m2] := ⟨m1, m2, wd, rfl, sm, by omega, by omega⟩
  have pres : ∀ {d}, partRes [eM m1, eM m2] d → PartR m1 m2 d := fun {d} ⟨a, b, h1, h⟩ => by
    injection h1 with h11 h1
    injection h1 with h12 _
    rw [eM_inj h11, eM_inj h12]
    exact h
  refine qd_asg (dv_reprL (lv_lst (av_cons (dv_var (K := K) (j := 0) rfl d1) (av_cons (dv_var (j := 1) rfl d2) av_nil)) (by simp)).w shL (by decide) (by decide)) fun v2 H1 e1 dv2 => ?_
  refine qr_asg (P := fun v H' => ∃ d, PartR m1 m2 d ∧ Dt K H' v d) (fun HH eHH Qq qq => dv_call (E := E0) (dom := partDom) (R := partRes) (av_cons (dv_var (K := K) (j := 0) rfl (d1.ex e1)) (av_cons (dv_var (j := 1) rfl (d2.ex e1)) av_nil)) pd HH eHH Qq fun v H2 e2 ⟨d, h, dv⟩ => qq v H2 e2 ⟨d, pres h, dv⟩) fun v3 H2 e2 ⟨dT, hT, dv3⟩ => ?_
  have e12 := e1.trans e2
  refine qd_no (et_of (dv_neS (dv_reprL (lv_lst (av_cons (dv_var (K := K) (j := 0) rfl (d1.ex e12)) (av_cons (dv_var (j := 1) rfl (d2.ex e12)) av_nil)) (by simp)).w shL (by decide) (by decide)) (dv_var (j := 2) rfl (dv2.ex e2)))) fun H3 e3 => ?_
  have e13 := e12.trans e3
  refine qr_asg (P := fun v H' => ∃ d, ShoR m1 m2 d ∧ Dt K H' v d) (fun HH eHH Qq qq => dv_call (E := E0) (dom := shoDom) (R := shoRes) (av_cons (dv_var (K := K) (j := 0) rfl (d1.ex e13)) (av_cons (dv_var (j := 1) rfl (d2.ex e13)) av_nil)) ⟨m1, m2, wd, rfl, sm⟩ HH eHH Qq fun v H2 e2 ⟨d, ⟨a, b, h1, h⟩, dv⟩ => qq v H2 e2 ⟨d, ?_, dv⟩) fun v4 H4 e4 ⟨dS, hS, dv4⟩ => ?_
  · injection h1 with h11 h1
    injection h1 with h12 _
    rw [eM_inj h11, eM_inj h12]
    exact h
  have e14 := e13.trans e4
  rcases hS with ⟨rfl, hn⟩ | ⟨n, rfl, ⟨qn, rn, qdead⟩, hmin⟩
  · have none_of : ∀ {d}, PartR m1 m2 d → d = .none := fun {d} h => by
      rcases h with ⟨e, _⟩ | ⟨b, l, qq, _, hb, hrun, hq, _⟩
      · exact e
      · exact absurd hq (hn l.length qq ⟨b, l, hb, rfl, hrun⟩)
    have eT := none_of hT
    subst eT
    refine qd_if (b := true) (et_of (dv_isD (dv_var (K := K) (j := 4) rfl dv4))) (fun _ H5 e5 => ?_) fun z => (nomatch z)
    have e15 := e14.trans e5
    refine sd_ret (dv_and (dv_isD (dv_var (K := K) (j := 3) rfl (((dv3.ex e3).ex e4).ex e5))) fun _ => dv_isD (d := .none) (rv_dv (dv_callK0 (dom := partDom) (R := partRes) (dv_var (K := K) (j := 1) rfl (d2.ex e15)) (dv_var (j := 0) rfl (d1.ex e15)) pd) fun v H' ⟨d, h, dv⟩ => by rw [← none_of (pres h)]; exact dv)) fun v H6 e6 dv => q _ v H6 rfl (e15.trans e6) dv
  · rcases hT with ⟨_, hn⟩ | ⟨b, l, qq, rfl, hb, hrun, hq, hl0, hl, hsh⟩
    · exact absurd qdead (hn n qn rn)
    have eln : l.length = n := by
      rcases Nat.lt_trichotomy l.length n with c | c | c
      · exact absurd hq (hmin l.length c qq ⟨b, l, hb, rfl, hrun⟩)
      · exact c
      · exact absurd qdead (hsh n c qn rn)
    have hx : ∀ x ∈ l, x < wd := run_letters ok1 l _ hrun
    refine qd_no (et_of (dv_isD (dv_var (K := K) (j := 4) rfl dv4))) fun H5 e5 => ?_
    have e15 := e14.trans e5
    refine qd_asg (d := eI (ansK m1 m2)) (dv_call1 (E := E0) (dom := kinDom) (R := kinRes) (av_cons (dv_var (K := K) (j := 0) rfl (d1.ex e15)) (av_cons (dv_var (j := 1) rfl (d2.ex e15)) av_nil)) ⟨m1, m2, wd, rfl, sm⟩ fun d ⟨a, b, h1, h⟩ => ?_) fun v5 H6 e6 dv5 => ?_
    · injection h1 with h11 h1
      injection h1 with h12 _
      rw [h, eM_inj h11, eM_inj h12]
    have e16 := e15.trans e6
    have e26 := e3.trans (e4.trans (e5.trans e6))
    have lrow := ok1.row (List.getElem?_eq_getElem ok1.ne)
    have lF : (l.mapIdx (placeD l.length (ansK m1 m2))).length = l.length := List.length_mapIdx ..
    refine qd_no (et_to (Evl.et_or (b := false) (et_of (dv_neS (dv_repr (dv_call1 (E := E0) (dom := judDom) (R := judRes) (d := .tuple [.str "told", eI 1]) (av_cons (d := eI wd) (dv_to (dv_len (dv_ix (i := 0) (dv_var (K := K) (j := 0) rfl (d1.ex e16)) dv_int (eM_get (List.getElem?_eq_getElem ok1.ne)))) (by rw [List.length_map, lrow]; rfl)) (av_cons (dv_var (j := 5) rfl dv5) (av_cons (dv_var (j := 3) rfl (dv3.ex e26)) av_nil))) ⟨wd, _, l, rfl, hl0, hx⟩ fun d h => h) sh_told (by decide) (by decide))
      (dv_repr (dv_tup (av_cons dv_str (av_cons (d := eI 1) dv_int av_nil)) (by simp)) sh_told (by decide) (by decide)))) fun _ => et_to (b' := false) (et_of (dv_opB (g := fun i j => decide (j < i)) (dv_len (dv_var (K := K) (j := 3) rfl (dv3.ex e26))) (dv_op (g := fun i j => i + j) (dv_var (j := 4) rfl ((dv4.ex e5).ex e6)) dv_int))) ?_) rfl) fun H7 e7 => ?_
    · rw [lF, eln]
      exact decide_eq_false (by omega)
    have e17 := e16.trans e7
    have e27 := e26.trans e7
    have place : ∀ {t : TA} {σ : St} {H : Hp} {m : Mach}, OkM m wd → m.length ≤ 5 → (∀ r ∈ m, ∀ p ∈ r, p.2 < ansK m1 m2) → Av K t σ H [feedD l (ansK m1 m2), eM m] → Dv K (tCall (SpR K plaDom plaRes) [] E0 t) σ H (eM (placedM l (ansK m1 m2) m)) := fun {t σ H m} ok l5 an ht => dv_call1 ht ⟨l, _, m, wd, rfl, ok, by omega, by omega, by omega, hx, an⟩ fun d ⟨l', c', m', h1, h⟩ => by
      injection h1 with h11 h1
      injection h1 with h12 _
      obtain ⟨rfl, rfl⟩ := feed_inj hl0 h11
      rw [h, eM_inj h12]
    refine qd_par (d1 := eM (placedM l (ansK m1 m2) m1)) (d2 := eM (placedM l (ansK m1 m2) m2)) (av_cons (place ok1 g.l1 an1 (av_cons (dv_var (K := K) (j := 3) rfl (dv3.ex e27)) (av_cons (dv_var (j := 0) rfl (d1.ex e17)) av_nil))) (av_cons (place ok2 g.l2 an2 (av_cons (dv_var (K := K) (j := 3) rfl (dv3.ex e27)) (av_cons (dv_var (j := 1) rfl (d2.ex e17)) av_nil))) av_nil)) fun v6 v7 H8 e8 dv6 dv7 => ?_
    have okA := placed_ok (c := ansK m1 m2) ok1 hx hl0 (by omega) (by have := g.l1; omega)
    have okB := placed_ok (c := ansK m1 m2) ok2 hx hl0 (by omega) (by have := g.l2; omega)
    have wo := placed_world ok1 ok2 hx an1 an2 hl0 hl g.l1 g.l2
    have lA : (placedM l (ansK m1 m2) m1).length ≤ 10000 := by rw [placed_len]; exact Nat.le_trans (Nat.mul_le_mul hl g.l1) (by decide)
    have lB : (placedM l (ansK m1 m2) m2).length ≤ 10000 := by rw [placed_len]; exact Nat.le_trans (Nat.mul_le_mul hl g.l2) (by decide)
    obtain ⟨kd, Qf, rnd, dead⟩ := placed_dead ok1 ok2 hx an1 an2 hl0 hb hrun hq
    refine sd_ret (dv_not (b := false) (K := K) (fun HH eHH Qq qq => ⟨v6, rfl, v7, rfl, ?_⟩)) fun v H9 e9 dv => q _ v H9 rfl (e17.trans (e8.trans e9)) dv
    refine lv_call (E := E0) (K := K) (dom := machD) (RL := everyR) (es := rangeD ((placedM l (ansK m1 m2) m1).length : Nat)) (av_cons (dv_var (j := 6) rfl dv6) av_nil) ⟨_, 1, rfl, okA⟩ (fun es' ⟨m', h1, h2⟩ => ?_) HH eHH _ fun p xs H9 np e9 hp dl => ?_
    · injection h1 with h11 _
      rw [h2, eM_inj h11]
    · refine ⟨v6, v7, p, xs, _, _, 1, _, rfl, dv6.ex (eHH.trans e9), dv7.ex (eHH.trans e9), hp, dl, okA, okB, lA, lB, wo, fun bb H10 hbb e10 => ?_⟩
      have ebb : bb = false := by
        cases bb with
        | false => rfl
        | true => exact absurd dead (hbb rfl kd Qf rnd)
      rw [ebb]
      exact qq _ H10 (e9.trans e10) (.bl _)
end
end Wok
namespace Wok
open PySem PySem.Spec PyProof.Rows L2
open Evl (Ex EvT)
section
variable {P : Program} {w : World} {K : PySem.W.Frag} {mg : Str → Option Value} {base : Heap}
theorem fnG_by {x : Str} {st : Stmt} {N ps : List Str} {k : Nat} {sp : Sp} {kws : List (Str × V)} {f : Addr} {fd : FuncData} (F : FunD K x x (defArgs st) (defBody st) (defScope st) [] kws f fd) (S : FnScope N ps (defScope st)) (len : ∀ vs H Q E, sp vs H Q E → vs.length = ps.length)
    (hbody : ∀ (cdv : Value) (A : Around) (outer : List Env) (s : Shared) (H : Hp) (vs : List V) (Q : VK) (E : XK), Room k (A.deeper (envOfC x (defScope st) s.heap.objs.size f cdv)) → A.guards = some [] → sp vs H Q E →
      ∃ t, PSs (cxOf CX0 P w K mg base N x (defScope st) f cdv A outer s H E).nox (defBody st) t ∧ t { nx := fun _ H' => Q .non H', rt := Q } (start N vs) H) : FnOkG P w K mg base (k + 1) f fd ps sp :=
  fnG_of F S len fun cdv A outer s H vs Q E hr hG h => (hbody cdv A outer s H vs Q E hr hG h).imp fun t z => ⟨PSs.nox z.1, z.2⟩
theorem GoodP.symm {m1 m2 : Mach} {wd : Nat} (g : GoodP m1 m2 wd) : GoodP m2 m1 wd := ⟨g.ok2, g.ok1, g.l2, g.l1, g.w2, g.a2, g.a1⟩
def mFlip : Mach := [[(1, 0)], [(0, 1)]]
def mHold : Mach := [[(0, 0)]]
def mHigh : Mach := [[(0, 3)]]
theorem good_fh : GoodP mFlip mHold 1 := ⟨okM_of (by decide) (by decide) (by decide) (by decide) (by decide), okM_of (by decide) (by decide) (by decide) (by decide) (by decide), by decide, by decide, by decide, by decide, by decide⟩
theorem good_hh : GoodP mHigh mHold 1 := ⟨okM_of (by decide) (by decide) (by decide) (by decide) (by decide), okM_of (by decide) (by decide) (by decide) (by decide) (by decide), by decide, by decide, by decide, by decide, by decide⟩
theorem sc_law : FnScope ["_law_script", "_law_src", "_law_flip", "_law_hold", "_law_lap", "_law_low", "_law_high"] ["_law_script"] (defScope s_law) := ⟨rfl, rfl, rfl, by decide +kernel, rfl, by decide +kernel, by decide +kernel⟩
def spLaw (K : PySem.W.Frag) : Sp := fun vs H Q _ => ∃ (a : Addr) (ns : List Int), vs = [.ref a] ∧ SqL K H a (ns.map V.int) ∧ ns.length ≤ 1000 ∧ ∀ H', Q (.bl true) H'
theorem law_fn (T : Fr mg) {f : Addr} {fd : FuncData} (F : FunD K "law" "law" (defArgs s_law) (defBody s_law) (defScope s_law) [] [] f fd) (C_law_feed : Cal P w K mg base 1 "_law_feed" ["_law_script"] [] (spFeed K)) (C_law_pair : Cal P w K mg base 3 "_law_pair" ["_law_src", "_law_most"] [] (spPair K))
    (C_law_is_right : CalG P w K mg base 11 "_law_is_right" ["_law_low", "_law_high"] (SpR K rightDom yes)) : FnOkG P w K mg base 12 f fd ["_law_script"] (spLaw K) := by
  refine fnG_by F sc_law (fun vs H Q E ⟨_, _, e, _⟩ => by rw [e]; rfl) fun cdv A outer s H vs Q E hr hG ⟨a, ns, e, hs, hn, q⟩ => ?_
  subst e
  refine ⟨_, (pss_cons (ps_set (i := 1) sc_law.nd rfl (Or.inl rfl) (pe_cal C_law_feed hr (by decide) (pa_cons (pv 0) pa_nil)))
      (pss_cons (ps_asg (pe_tup (pa_cons (pe_tup (pa_cons (pe_tup (pa_cons (pe_tup (pa_cons pe_int (pa_cons pe_int pa_nil))) pa_nil)) (pa_cons (pe_tup (pa_cons (pe_tup (pa_cons pe_int (pa_cons pe_int pa_nil))) pa_nil)) pa_nil))) (pa_cons (pe_tup (pa_cons (pe_tup (pa_cons (pe_tup (pa_cons pe_int (pa_cons pe_int pa_nil))) pa_nil)) pa_nil)) pa_nil))) (pg_tup (by rfl) (pgs_cons (pg_name (i := 2) sc_law.nd rfl (Or.inl rfl)) (pgs_cons (pg_name (i := 3) sc_law.nd rfl (Or.inl rfl)) pgs_nil))))
      (pss_cons (ps_if (PW.pt (pw_or (pt_not (pt_val (pe_calG C_law_is_right hr (by decide) hG (pa_cons (pv 2) (pa_cons (pv 3) pa_nil))))) (pw_or (pt_not (pt_val (pe_calG C_law_is_right hr (by decide) hG (pa_cons (pv 3) (pa_cons (pv 2) pa_nil))))) (pw_or1 (pt_not (pt_val (pe_calG C_law_is_right hr (by decide) hG (pa_cons (pe_tup (pa_cons (pe_tup (pa_cons (pe_tup (pa_cons pe_int (pa_cons pe_int pa_nil))) pa_nil)) pa_nil)) (pa_cons (pv 3) pa_nil))))))))) (pss_one (ps_ret pe_bl)) pss_nil)
      (pss_cons (ps_for PassesOwn.never rfl (pi_range1 (by rfl) T.range (pa_cons pe_int pa_nil)) (pg_name (i := 4) sc_law.nd rfl (Or.inl rfl))
      (pss_cons (ps_asg (pe_cal C_law_pair hr (by decide) (pa_cons (pv 1) (pa_cons pe_int pa_nil))) (pg_tup (by rfl) (pgs_cons (pg_name (i := 5) sc_law.nd rfl (Or.inl rfl)) (pgs_cons (pg_name (i := 6) sc_law.nd rfl (Or.inl rfl)) pgs_nil))))
      (pss_one (ps_if (PW.pt (pw_or (pt_not (pt_val (pe_calG C_law_is_right hr (by decide) hG (pa_cons (pv 5) (pa_cons (pv 6) pa_nil))))) (pw_or1 (pt_not (pt_val (pe_calG C_law_is_right hr (by decide) hG (pa_cons (pv 6) (pa_cons (pv 5) pa_nil)))))))) (pss_one (ps_ret pe_bl)) pss_nil))))
      (pss_one (ps_ret pe_bl)))))), ?_⟩
  have right : ∀ {σ : St} {H : Hp} {t : TA} {m1 m2 : Mach} {wd : Nat}, GoodP m1 m2 wd → Av K t σ H [eM m1, eM m2] → EvT (tNot (tB (tCall (SpR K rightDom yes) [] E0 t))) σ H false := fun g ht => Evl.et_not (et_val (dv_yes ht ⟨_, _, _, rfl, g⟩))
  refine do_asg (do_call (do_cons (do_var (j := 0) rfl (do_nil ⟨a, ns, rfl, hs, hn, fun src cl cells H1 so e1 _ => ?_⟩))))
  refine qd_asgG (K := K) (d := .tuple [eM mFlip, eM mHold]) (dv_tup (av_cons (dv_tup (av_cons (dv_tup (av_cons (dv_tup (av_cons dv_int (av_cons dv_int av_nil)) (by decide)) av_nil) (by decide)) (av_cons (dv_tup (av_cons (dv_tup (av_cons dv_int (av_cons dv_int av_nil)) (by decide)) av_nil) (by decide)) av_nil)) (by decide)) (av_cons (dv_tup (av_cons (dv_tup (av_cons (dv_tup (av_cons dv_int (av_cons dv_int av_nil)) (by decide)) av_nil) (by decide)) av_nil) (by decide)) av_nil)) (by decide)) fun v1 H2 e2 d1 => ?_
  refine g_two d1 fun v2 v3 d2 d3 => ?_
  refine qd_no (et_to (Evl.et_or (right good_fh (av_cons (dv_var (j := 2) rfl d2) (av_cons (dv_var (j := 3) rfl d3) av_nil))) fun _ => Evl.et_or (right good_fh.symm (av_cons (dv_var (j := 3) rfl d3) (av_cons (dv_var (j := 2) rfl d2) av_nil))) fun _ => right good_hh (av_cons (d := eM mHigh) (dv_tup (av_cons (dv_tup (av_cons (dv_tup (av_cons dv_int (av_cons dv_int av_nil)) (by decide)) av_nil) (by decide)) av_nil) (by decide)) (av_cons (dv_var (j := 3) rfl d3) av_nil))) rfl) fun H3 e3 => ?_
  refine q_forD (S := [src]) (iv_rng (K := K) (n := 6) dv_int (by decide) (by decide)) (fun i σ' H' => (∃ y4 y5 y6, σ' = [some (.ref a), some (.ref src), some v2, some v3, y4, y5, y6]) ∧ SrcC H' src cl cells) (fun H4 e4 => ⟨⟨_, _, _, rfl⟩, so.ex (e2.trans (e3.trans e4))⟩) (fun i d y σ' H4 H5 hdd mu hP e5 dy => ?_) (fun σ' H4 mu hP => ?_)
  · obtain ⟨⟨y4, y5, y6, rfl⟩, so4⟩ := hP
    refine do_asgG (do_call (do_cons (do_var (j := 1) rfl (do_cons (tC_in (do_nil ⟨src, cl, cells, rfl, so4.ex e5, fun m1 m2 wd v H6 g mu6 so6 dv => ?_⟩))))))
    refine g_two dv fun v5 v6 d5 d6 => ?_
    exact sd_no (et_to (Evl.et_or (right g (av_cons (dv_var (j := 5) rfl d5) (av_cons (dv_var (j := 6) rfl d6) av_nil))) fun _ => right g.symm (av_cons (dv_var (j := 6) rfl d6) (av_cons (dv_var (j := 5) rfl d5) av_nil))) rfl) fun H7 e7 => ⟨(Mu.ex e5).trans (mu6.trans (.ex e7)), ⟨_, _, _, rfl⟩, so6.ex e7⟩
  · obtain ⟨⟨y4, y5, y6, rfl⟩, so4⟩ := hP
    exact sd_ret (dv_bl (K := K)) fun v H5 e5 dv => by rw [dv.bl_of]; exact q _
end
end Wok
namespace Wok
open PySem PySem.Spec PyProof.Rows L2
/-! ### all together -/
theorem hasD_of {K : PySem.W.Frag} {h : Heap} {mg : Str → Option Value} (X : K.In h) (G : h.Ns mainGlobals mg) (c : He.SaysD facts defs K) (i : Nat) (x : Str) (st : Stmt) (dl : List He.Dv) (kw : List (Str × He.Dv)) (h1 : defs[i]? = some ⟨(x, none), x, x, defArgs st, defBody st, defScope st, dl, kw⟩) (h2 : facts[i]? = some (.glo x)) :
    HasD K mg x st (dl.map (He.Dv.v K)) (kw.map fun q => (q.1, q.2.v K)) := by
  obtain ⟨fd, F⟩ := c.def_ i h1
  exact ⟨_, fd, F, He.glo_ok X G (c.fact i h2)⟩
theorem law_ok {P : Program} {w : World} {K : PySem.W.Frag} {h : Heap} {mg : Str → Option Value} {f : Addr} (X : K.In h) (G : h.Ns mainGlobals mg) (hfa : mg ("law" : Str) = some (.ref f)) (c : He.SaysD facts defs K) :
    ∃ fd : FuncData, (∀ (s : Shared) (v : Value), BindsTo s fd ⟨[v], []⟩ [("_law_script", v)]) ∧ ∀ base : Heap, K.In base → base.Ns mainGlobals mg → FnOkG P w K mg base 12 f fd ["_law_script"] (spLaw K) := by
  have T : Fr mg := ⟨He.free_ok X G (c.fact 41 (f := .free "isinstance") rfl), He.free_ok X G (c.fact 42 (f := .free "int") rfl), He.free_ok X G (c.fact 43 (f := .free "bool") rfl), He.free_ok X G (c.fact 44 (f := .free "tuple") rfl), He.free_ok X G (c.fact 45 (f := .free "len") rfl), He.free_ok X G (c.fact 46 (f := .free "all") rfl), He.free_ok X G (c.fact 47 (f := .free "enumerate") rfl), He.free_ok X G (c.fact 48 (f := .free "sorted") rfl), He.free_ok X G (c.fact 49 (f := .free "set") rfl), He.free_ok X G (c.fact 50 (f := .free "range") rfl), He.free_ok X G (c.fact 51 (f := .free "min") rfl), He.free_ok X G (c.fact 52 (f := .free "max") rfl), He.free_ok X G (c.fact 53 (f := .free "repr") rfl), He.free_ok X G (c.fact 54 (f := .free "list") rfl)⟩
  have D_is_integer : HasD K mg "is_integer" s_is_integer [] [] := hasD_of X G c 0 "is_integer" s_is_integer [] [] rfl rfl
  have D_is_number : HasD K mg "is_number" s_is_number [] [] := hasD_of X G c 1 "is_number" s_is_number [] [] rfl rfl
  have D_is_pair : HasD K mg "is_pair" s_is_pair [] [] := hasD_of X G c 2 "is_pair" s_is_pair [] [] rfl rfl
  have D_is_by_form : HasD K mg "is_by_form" s_is_by_form [] [] := hasD_of X G c 3 "is_by_form" s_is_by_form [] [] rfl rfl
  have D_machine_fault : HasD K mg "machine_fault" s_machine_fault [] [] := hasD_of X G c 4 "machine_fault" s_machine_fault [] [] rfl rfl
  have D_is_machine : HasD K mg "is_machine" s_is_machine [] [] := hasD_of X G c 5 "is_machine" s_is_machine [] [] rfl rfl
  have D_want : HasD K mg "want" s_want [.int (-1)] [] := hasD_of X G c 6 "want" s_want [.int (-1)] [] rfl rfl
  have D_want_machine : HasD K mg "want_machine" s_want_machine [.str "machine"] [] := hasD_of X G c 7 "want_machine" s_want_machine [.str "machine"] [] rfl rfl
  have D_want_both : HasD K mg "want_both" s_want_both [] [] := hasD_of X G c 8 "want_both" s_want_both [] [] rfl rfl
  have D_want_case : HasD K mg "want_case" s_want_case [] [] := hasD_of X G c 9 "want_case" s_want_case [] [] rfl rfl
  have D_as_set : HasD K mg "as_set" s_as_set [] [] := hasD_of X G c 10 "as_set" s_as_set [] [] rfl rfl
  have D_all_standings : HasD K mg "all_standings" s_all_standings [] [] := hasD_of X G c 11 "all_standings" s_all_standings [] [] rfl rfl
  have D_left_by : HasD K mg "left_by" s_left_by [] [] := hasD_of X G c 12 "left_by" s_left_by [] [] rfl rfl
  have D_after_by : HasD K mg "after_by" s_after_by [] [] := hasD_of X G c 13 "after_by" s_after_by [] [] rfl rfl
  have D_goal_by : HasD K mg "goal_by" s_goal_by [] [] := hasD_of X G c 14 "goal_by" s_goal_by [] [] rfl rfl
  have D_states_behind : HasD K mg "states_behind" s_states_behind [] [] := hasD_of X G c 15 "states_behind" s_states_behind [] [] rfl rfl
  have D_states_begun : HasD K mg "states_begun" s_states_begun [] [] := hasD_of X G c 16 "states_begun" s_states_begun [] [] rfl rfl
  have D_failing_from : HasD K mg "failing_from" s_failing_from [] [] := hasD_of X G c 17 "failing_from" s_failing_from [] [] rfl rfl
  have D_failing_by : HasD K mg "failing_by" s_failing_by [] [] := hasD_of X G c 18 "failing_by" s_failing_by [] [] rfl rfl
  have D_failing : HasD K mg "failing" s_failing [] [("beats", .int 0), ("guard", .non)] := hasD_of X G c 19 "failing" s_failing [] [("beats", .int 0), ("guard", .non)] rfl rfl
  have D_feeding : HasD K mg "feeding" s_feeding [] [] := hasD_of X G c 20 "feeding" s_feeding [] [] rfl rfl
  have D_greatest_answer : HasD K mg "greatest_answer" s_greatest_answer [] [] := hasD_of X G c 21 "greatest_answer" s_greatest_answer [] [] rfl rfl
  have D_parting_surrounding : HasD K mg "parting_surrounding" s_parting_surrounding [] [] := hasD_of X G c 22 "parting_surrounding" s_parting_surrounding [] [] rfl rfl
  have D_law_feed : HasD K mg "_law_feed" s_law_feed [] [] := hasD_of X G c 23 "_law_feed" s_law_feed [] [] rfl rfl
  have D_law_draw : HasD K mg "_law_draw" s_law_draw [] [] := hasD_of X G c 24 "_law_draw" s_law_draw [] [] rfl rfl
  have D_law_machine : HasD K mg "_law_machine" s_law_machine [] [] := hasD_of X G c 25 "_law_machine" s_law_machine [] [] rfl rfl
  have D_law_more : HasD K mg "_law_more" s_law_more [] [] := hasD_of X G c 26 "_law_more" s_law_more [] [] rfl rfl
  have D_law_reach : HasD K mg "_law_reach" s_law_reach [] [] := hasD_of X G c 27 "_law_reach" s_law_reach [] [] rfl rfl
  have D_law_part : HasD K mg "_law_part" s_law_part [] [] := hasD_of X G c 28 "_law_part" s_law_part [] [] rfl rfl
  have D_law_pair : HasD K mg "_law_pair" s_law_pair [] [] := hasD_of X G c 29 "_law_pair" s_law_pair [] [] rfl rfl
  have D_law_may : HasD K mg "_law_may" s_law_may [] [] := hasD_of X G c 30 "_law_may" s_law_may [] [] rfl rfl
  have D_law_every : HasD K mg "_law_every" s_law_every [] [] := hasD_of X G c 31 "_law_every" s_law_every [] [] rfl rfl
  have D_law_kinds : HasD K mg "_law_kinds" s_law_kinds [] [] := hasD_of X G c 32 "_law_kinds" s_law_kinds [] [] rfl rfl
  have D_law_placed : HasD K mg "_law_placed" s_law_placed [] [] := hasD_of X G c 33 "_law_placed" s_law_placed [] [] rfl rfl
  have D_law_is_number : HasD K mg "_law_is_number" s_law_is_number [] [] := hasD_of X G c 34 "_law_is_number" s_law_is_number [] [] rfl rfl
  have D_law_is_pair : HasD K mg "_law_is_pair" s_law_is_pair [] [] := hasD_of X G c 35 "_law_is_pair" s_law_is_pair [] [] rfl rfl
  have D_law_move_fault : HasD K mg "_law_move_fault" s_law_move_fault [] [] := hasD_of X G c 36 "_law_move_fault" s_law_move_fault [] [] rfl rfl
  have D_law_around_judged : HasD K mg "_law_around_judged" s_law_around_judged [] [] := hasD_of X G c 37 "_law_around_judged" s_law_around_judged [] [] rfl rfl
  have D_law_short : HasD K mg "_law_short" s_law_short [] [] := hasD_of X G c 38 "_law_short" s_law_short [] [] rfl rfl
  have D_law_is_right : HasD K mg "_law_is_right" s_law_is_right [] [] := hasD_of X G c 39 "_law_is_right" s_law_is_right [] [] rfl rfl
  obtain ⟨fd, F⟩ := c.def_ 40 (d := d_law) rfl
  have e := hfa.symm.trans (He.glo_ok X G (c.fact 40 (f := .glo "law") rfl))
  cases e
  have b := FunD.bindsA (ps := ["_law_script"]) F fun _ _ _ _ _ _ us hl => match us, hl with | [_], _ => rfl
  refine ⟨fd, fun s v => b s [v] rfl, fun base _ _ => ?_⟩
  have C_is_integer := cal_is_integer (P := P) (w := w) (base := base) T D_is_integer
  have C_is_number := cal_is_number (P := P) (w := w) (base := base) T D_is_number C_is_integer
  have C_is_pair := cal_is_pair (P := P) (w := w) (base := base) T D_is_pair
  have C_is_by_form := cal_is_by_form (P := P) (w := w) (base := base) T D_is_by_form C_is_pair C_is_number
  have C_machine_fault := cal_machine_fault (P := P) (w := w) (base := base) T D_machine_fault C_is_by_form
  have C_is_machine := cal_is_machine (P := P) (w := w) (base := base) T D_is_machine C_machine_fault
  have C_want := cal_want (P := P) (w := w) (base := base) T D_want
  have C_want_machine := cal_want_machine (P := P) (w := w) (base := base) T D_want_machine C_want C_is_machine
  have C_want_both := cal_want_both (P := P) (w := w) (base := base) T D_want_both C_want C_is_machine C_want_machine
  have C_want_case := cal_want_case (P := P) (w := w) (base := base) T D_want_case C_want C_is_number C_want_both
  have C_as_setI := cal_as_setI (P := P) (w := w) (base := base) T D_as_set
  have C_as_setK := cal_as_setK (P := P) (w := w) (base := base) T D_as_set
  have C_all_standings := cal_all_standings (P := P) (w := w) (base := base) T D_all_standings
  have C_goal_by := cal_goal_by (P := P) (w := w) (base := base) T D_goal_by
  have C_left_by := cal_left_by (P := P) (w := w) (base := base) T D_left_by C_as_setI
  have C_after_by := cal_after_by (P := P) (w := w) (base := base) T D_after_by C_all_standings
  have C_states_begun := cal_states_begun (P := P) (w := w) (base := base) T D_states_begun C_all_standings C_after_by
  have C_states_behind := cal_states_behind (P := P) (w := w) (base := base) T D_states_behind C_goal_by C_left_by
  have C_failing_from := cal_failing_from (P := P) (w := w) (base := base) T D_failing_from C_as_setK C_states_behind
  have C_failing_by := cal_failing_by (P := P) (w := w) (base := base) T D_failing_by C_failing_from C_states_begun
  have C_failing := cal_failing (P := P) (w := w) (base := base) T D_failing C_want_case C_failing_by
  have C_feeding := cal_feeding (P := P) (w := w) (base := base) T D_feeding
  have C_greatest_answer := cal_greatest_answer (P := P) (w := w) (base := base) T D_greatest_answer
  have C_parting := cal_parting (P := P) (w := w) (base := base) T D_parting_surrounding C_want C_want_machine C_failing C_feeding C_greatest_answer
  have C_law_every := cal_law_every (P := P) (w := w) (base := base) T D_law_every
  have C_law_is_number := cal_law_is_number (P := P) (w := w) (base := base) T D_law_is_number
  have C_law_is_pair := cal_law_is_pair (P := P) (w := w) (base := base) T D_law_is_pair
  have C_law_move_fault := cal_law_move_fault (P := P) (w := w) (base := base) T D_law_move_fault C_law_is_pair C_law_is_number
  have C_law_around_judged := cal_law_around_judged (P := P) (w := w) (base := base) T D_law_around_judged C_law_is_pair C_law_is_number C_law_move_fault
  have C_law_kinds := cal_law_kinds (P := P) (w := w) (base := base) T D_law_kinds
  have C_law_placed := cal_law_placed (P := P) (w := w) (base := base) T D_law_placed
  have C_law_short := cal_law_short (P := P) (w := w) (base := base) T D_law_short
  have C_law_may := cal_law_may (P := P) (w := w) (base := base) T D_law_may
  have C_law_feed := cal_law_feed (P := P) (w := w) (base := base) T D_law_feed
  have C_law_draw := cal_law_draw (P := P) (w := w) (base := base) T D_law_draw
  have C_law_more := cal_law_more (P := P) (w := w) (base := base) T D_law_more C_law_draw
  have C_law_machine := cal_law_machine (P := P) (w := w) (base := base) T D_law_machine C_law_draw
  have C_law_reach := cal_law_reach (P := P) (w := w) (base := base) T D_law_reach
  have C_law_part := cal_law_part (P := P) (w := w) (base := base) T D_law_part
  have C_law_pair := cal_law_pair (P := P) (w := w) (base := base) T D_law_pair C_law_draw C_law_more C_law_machine C_law_reach C_law_part
  have C_law_is_right := cal_law_is_right (P := P) (w := w) (base := base) T D_law_is_right C_parting C_law_short C_law_kinds C_law_around_judged C_law_placed C_law_may C_law_every
  exact law_fn T F C_law_feed C_law_pair C_law_is_right
end Wok
open PySem PySem.W PySem.Calls PyProof.Rows
theorem PySem.Challenge.cw_wokeas_k51_whole_parting_surroundings_holds : PySem.Challenge.rw_wokeas_k51_whole_parting_surroundings.Holds := by
  w_on; o_law
  refine HandSHeadRun.head_any (r := OpenLaw.row PySem.Challenge.rw_wokeas_k51_whole_parting_surroundings) (q := view (OpenLaw.row PySem.Challenge.rw_wokeas_k51_whole_parting_surroundings).prog [61]) (H := Wok.hk) (ob := Wok.ob) (M := 4000) (loose := Wok.loose) (d := HandSHeadRun.topDef (OpenLaw.row PySem.Challenge.rw_wokeas_k51_whole_parting_surroundings).prog 61) (kwd := []) Wok.ob_eq
    (by kernel_rfl) (fun s => by kernel_rfl) Wok.run (by kernel_rfl) (by kernel_rfl) (by kernel_rfl) (by rfl) (by first | assumption | decide +kernel) (by decide +kernel) ⟨rfl, rfl, rfl, rfl, rfl, by decide +kernel⟩ ?hw ?hc
  case hw => w_witness2
  case hc =>
    refine Wok.walk_ofG (l := PySem.Challenge.rw_wokeas_k51_whole_parting_surroundings) (n := 63) (k := 12) (x := "_law_script") rfl (by decide) (by kernel_rfl) ⟨rfl, by decide, by decide⟩ ?F
    intro w mg fa h Y G hmg0
    obtain ⟨K, KX, c⟩ := Y
    have hmg : mg ("law" : PySem.Str) = some (.ref fa) := by
      have e : (HandSHeadRun.topDef (OpenLaw.row PySem.Challenge.rw_wokeas_k51_whole_parting_surroundings).prog 61).name = ("law" : PySem.Str) := by kernel_rfl
      rw [← e]
      exact hmg0
    obtain ⟨fd, hb, hF⟩ := Wok.law_ok (P := (PySem.Challenge.rw_wokeas_k51_whole_parting_surroundings).prog) (w := w) KX G hmg c
    exact ⟨K, fd, Wok.spLaw K, KX, hb, fun H a ns hl hS => ⟨a, ns, rfl, hS, by omega, fun _ => rfl⟩, hF⟩
